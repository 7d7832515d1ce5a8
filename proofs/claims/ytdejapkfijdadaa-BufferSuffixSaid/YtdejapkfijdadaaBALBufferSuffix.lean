/- The law BufferSuffix: its function's walk, the pure law, the row. Conditions: none. -/
import Derived.Test.YtdejapkfijdadaaRows
import Derived.WalkKit
import Derived.ProofKit
import Derived.OpenShut
import Derived.ShutString
import Derived.ChangeOld
import Derived.Below
import Derived.SizedLaws
import Derived.Carry
import Derived.Test.YtdejapkfijdadaaBA5
set_option linter.unusedVariables false
set_option linter.unusedSimpArgs false
section
namespace Go.Proofs.Ytdejapkfijdadaa
open Go.Ab Go.RowKit 
set_option maxRecDepth 100000
set_option maxHeartbeats 40000000
noncomputable def w5_c : Code := (Try.f5.body).getD .skip
theorem w5_h : Try.f5.body = some w5_c := by kernel_rfl
theorem w5 (a0 : List V) (a1 : Int) (r : Bool) (h : d5 a0 a1 = some r) : Ab.Fn Try.prog TT 5 [.sl 33 a0, .i .i64 a1] (.b r) [] := by
  refine fn_pure tok (fun r => match r with | 14 => [[],[],[],[1,2],[1,2,3],[0,1,2,3,4],[0,1,2,3,4,5],[0,1,2,3,4,5,6],[0,1,2,3,4,5,6],[0,1,2,3,4,5,6],[],[0,1,2,3,4,5,6,7,10],[0,1,2,3,4,5,6,7,8,10,11],[0,1,2,3,4,5,6,7,8,9,10,11,12]] | _ => []) Try.func5 (by kernel_rfl) w5_h (by kernel_rfl) ?_
  intro ar un cv mn mx pl mi cmp nt beq an scmp cat slen sbyte ssub ofB toB len gi gb gs gl sub put app ovl rep ne0 ge0 inb bnd room sroom need br call callb loop cut nl E R K hK
  have D := E.D
  clear E
  unfold d5 at h
  cbv
  refine R.callD h (fun x1 hx1 h2 => ?_)
  clear h; have h := h2; clear h2
  refine R.call' (w14 _ hx1) (by (first | (simp only [D.har, D.hbeq, D.hbnd, D.hcmp, D.hgi, D.hgl, D.hinb, D.hlen, D.hmx, D.hnt, D.hsub]; done) | rfl | (simp only [D.har, D.hbeq, D.hbnd, D.hcmp, D.hgi, D.hgl, D.hinb, D.hlen, D.hmx, D.hnt, D.hsub]; rfl))) ?_
  clear hx1; cbv
  refine R.callD h (fun x2 hx2 h2 => ?_)
  clear h; have h := h2; clear h2
  refine R.call' (w15s _ _ _ hx2) (by (first | (simp only [D.har, D.hbeq, D.hbnd, D.hcmp, D.hgi, D.hgl, D.hinb, D.hlen, D.hmx, D.hnt, D.hsub]; done) | rfl | (simp only [D.har, D.hbeq, D.hbnd, D.hcmp, D.hgi, D.hgl, D.hinb, D.hlen, D.hmx, D.hnt, D.hsub]; rfl))) ?_
  clear hx2; cbv
  refine R.cut' (by kernel_rfl) (by kernel_rfl) ?_
  cbv
  refine R.brD h (by (first | (simp only [D.har, D.hbeq, D.hbnd, D.hcmp, D.hgi, D.hgl, D.hinb, D.hlen, D.hmx, D.hnt, D.hsub]; done) | rfl | (simp only [D.har, D.hbeq, D.hbnd, D.hcmp, D.hgi, D.hgl, D.hinb, D.hlen, D.hmx, D.hnt, D.hsub]; rfl))) ?_ ?_ <;> clear h <;> intro h <;> cbv
  · have e := ret_some h; clear h
    refine hK _ _ ?_
    cbv
    try (subst e; simp only [D.har, D.hbeq, D.hbnd, D.hcmp, D.hgi, D.hgl, D.hinb, D.hlen, D.hmx, D.hnt, D.hsub, and_self, and_true, true_and] <;> (repeat' apply And.intro) <;> rfl)
  · as_aux_lemma =>
    refine R.callD h (fun x3 hx3 h2 => ?_)
    clear h; have h := h2; clear h2
    refine R.call' (w19s _ _ _ hx3) (by (first | (simp only [D.har, D.hbeq, D.hbnd, D.hcmp, D.hgi, D.hgl, D.hinb, D.hlen, D.hmx, D.hnt, D.hsub]; done) | rfl | (simp only [D.har, D.hbeq, D.hbnd, D.hcmp, D.hgi, D.hgl, D.hinb, D.hlen, D.hmx, D.hnt, D.hsub]; rfl))) ?_
    clear hx3; cbv
    refine R.cutB (fun p => p) (fun _ _ e => e) h [] (fun p10 => [(10, .i .i64 p10)]) (fun p10 => []) (by kernel_rfl) (by kernel_rfl) (fun y6 hy hFy6 L hLy6 => ?_) (fun p10 h2 => ?_)
    · clear h; have h := hy; clear hy; cbv
      refine R.loopD h (fun s0 y8 e0 hi hFs7 => ?_)
      clear h
      refine R.loopI hi [] (fun s7 => [(10, .i .i64 s7.1), (11, .i .i64 s7.2)]) (fun s7 => []) ⟨by kernel_rfl, ?_, ?_, by kernel_rfl, by kernel_rfl⟩ (by kernel_rfl) ?_
      · cbv; try (subst e0; simp only [D.har, D.hbeq, D.hbnd, D.hcmp, D.hgi, D.hgl, D.hinb, D.hlen, D.hmx, D.hnt, D.hsub, and_self, and_true, true_and] <;> (repeat' apply And.intro) <;> rfl)
      · cbv; try (subst e0; simp only [D.har, D.hbeq, D.hbnd, D.hcmp, D.hgi, D.hgl, D.hinb, D.hlen, D.hmx, D.hnt, D.hsub, and_self, and_true, true_and] <;> (repeat' apply And.intro) <;> rfl)
      clear hi e0
      intro s7 m y' hy hins7 houts7 L hLs7
      have h := hy; clear hy; unfold d5_b1 at h
      cbv
      refine R.cut' (by kernel_rfl) (by kernel_rfl) ?_
      cbv
      refine R.brD h (by (first | (simp only [D.har, D.hbeq, D.hbnd, D.hcmp, D.hgi, D.hgl, D.hinb, D.hlen, D.hmx, D.hnt, D.hsub]; done) | rfl | (simp only [D.har, D.hbeq, D.hbnd, D.hcmp, D.hgi, D.hgl, D.hinb, D.hlen, D.hmx, D.hnt, D.hsub]; rfl))) ?_ ?_ <;> clear h <;> intro h <;> cbv
      · refine R.cut' (by kernel_rfl) (by kernel_rfl) ?_
        cbv
        refine R.needD h (by (first | (simp only [D.har, D.hbeq, D.hbnd, D.hcmp, D.hgi, D.hgl, D.hinb, D.hlen, D.hmx, D.hnt, D.hsub]; done) | rfl | (simp only [D.har, D.hbeq, D.hbnd, D.hcmp, D.hgi, D.hgl, D.hinb, D.hlen, D.hmx, D.hnt, D.hsub]; rfl))) ?_
        clear h; intro h; cbv
        obtain ⟨s', e, hi⟩ := inl_some h hins7
        refine hLs7 s' _ _ hi ⟨by kernel_rfl, ?_, ?_, by kernel_rfl, by kernel_rfl⟩ <;> cbv <;> (try (subst e; simp only [D.har, D.hbeq, D.hbnd, D.hcmp, D.hgi, D.hgl, D.hinb, D.hlen, D.hmx, D.hnt, D.hsub, and_self, and_true, true_and] <;> (repeat' apply And.intro) <;> rfl))
      · have e := inr_some h houts7; clear h
        have h := hFs7; rw [e] at h; clear e; try dsimp only at h
        cbv
        obtain ⟨s', e, hi⟩ := jn_some (fun p => p) h
        refine hLy6 s' _ _ hi ⟨by kernel_rfl, ?_, ?_, by kernel_rfl, by kernel_rfl⟩ <;> cbv <;> (try (subst e; simp only [D.har, D.hbeq, D.hbnd, D.hcmp, D.hgi, D.hgl, D.hinb, D.hlen, D.hmx, D.hnt, D.hsub, and_self, and_true, true_and] <;> (repeat' apply And.intro) <;> rfl))
    · as_aux_lemma =>
      clear h; have h := h2; clear h2; try dsimp only at h
      cbv
      refine R.cutB Sum.inl (fun _ _ e => Sum.inl.inj e) h [] (fun p133 => []) (fun p133 => [(96, .cells 26 [.i .i64 p133.1, .sl 5 p133.2.1, .i .i64 p133.2.2.1, .i .i64 p133.2.2.2.1, .i .i64 p133.2.2.2.2.1, .i .i64 p133.2.2.2.2.2.1, .sl 5 p133.2.2.2.2.2.2.1, .i .i64 p133.2.2.2.2.2.2.2.1, .b p133.2.2.2.2.2.2.2.2])]) (by kernel_rfl) (by kernel_rfl) (fun y55 hy hFy55 L hLy55 => ?_) (fun p133 h2 => ?_)
      · as_aux_lemma =>
        clear h; have h := hy; clear hy; cbv
        refine R.loopD h (fun s0 y99 e0 hi hFs84 => ?_)
        clear h
        refine R.loopI hi [] (fun s84 => [(12, .i .i64 s84.1)]) (fun s84 => [(96, .cells 26 [.i .i64 s84.2.1, .sl 5 s84.2.2.1, .i .i64 s84.2.2.2.1, .i .i64 s84.2.2.2.2.1, .i .i64 s84.2.2.2.2.2.1, .i .i64 s84.2.2.2.2.2.2.1, .sl 5 s84.2.2.2.2.2.2.2.1, .i .i64 s84.2.2.2.2.2.2.2.2.1, .b s84.2.2.2.2.2.2.2.2.2])]) ⟨by kernel_rfl, ?_, ?_, by kernel_rfl, by kernel_rfl⟩ (by kernel_rfl) ?_
        · cbv; try (subst e0; simp only [D.har, D.hbeq, D.hbnd, D.hcmp, D.hgi, D.hgl, D.hinb, D.hlen, D.hmx, D.hnt, D.hsub, and_self, and_true, true_and] <;> (repeat' apply And.intro) <;> rfl)
        · cbv; try (subst e0; simp only [D.har, D.hbeq, D.hbnd, D.hcmp, D.hgi, D.hgl, D.hinb, D.hlen, D.hmx, D.hnt, D.hsub, and_self, and_true, true_and] <;> (repeat' apply And.intro) <;> rfl)
        clear hi e0
        intro s84 m y' hy hins84 houts84 L hLs84
        have h := hy; clear hy; unfold d5_b2 at h
        cbv
        refine R.cut' (by kernel_rfl) (by kernel_rfl) ?_
        cbv
        refine R.brD h (by (first | (simp only [D.har, D.hbeq, D.hbnd, D.hcmp, D.hgi, D.hgl, D.hinb, D.hlen, D.hmx, D.hnt, D.hsub]; done) | rfl | (simp only [D.har, D.hbeq, D.hbnd, D.hcmp, D.hgi, D.hgl, D.hinb, D.hlen, D.hmx, D.hnt, D.hsub]; rfl))) ?_ ?_ <;> clear h <;> intro h <;> cbv
        · as_aux_lemma =>
          refine R.cutB Sum.inl (fun _ _ e => Sum.inl.inj e) h [] (fun p129 => []) (fun p129 => [(96, .cells 26 [.i .i64 p129.1, .sl 5 p129.2.1, .i .i64 p129.2.2.1, .i .i64 p129.2.2.2.1, .i .i64 p129.2.2.2.2.1, .i .i64 p129.2.2.2.2.2.1, .sl 5 p129.2.2.2.2.2.2.1, .i .i64 p129.2.2.2.2.2.2.2.1, .b p129.2.2.2.2.2.2.2.2])]) (by kernel_rfl) (by kernel_rfl) (fun y112 hy hFy112 L hLy112 => ?_) (fun p129 h2 => ?_)
          · as_aux_lemma =>
            clear h; have h := hy; clear hy; cbv
            refine R.needD h (by (first | (simp only [D.har, D.hbeq, D.hbnd, D.hcmp, D.hgi, D.hgl, D.hinb, D.hlen, D.hmx, D.hnt, D.hsub]; done) | rfl | (simp only [D.har, D.hbeq, D.hbnd, D.hcmp, D.hgi, D.hgl, D.hinb, D.hlen, D.hmx, D.hnt, D.hsub]; rfl))) ?_
            clear h; intro h; cbv
            refine R.callD h (fun x113 hx113 h2 => ?_)
            clear h; have h := h2; clear h2
            refine R.call' (w16s _ _ _ _ _ _ _ _ _ _ _ _ _ hx113) (by (first | (simp only [D.har, D.hbeq, D.hbnd, D.hcmp, D.hgi, D.hgl, D.hinb, D.hlen, D.hmx, D.hnt, D.hsub]; done) | rfl | (simp only [D.har, D.hbeq, D.hbnd, D.hcmp, D.hgi, D.hgl, D.hinb, D.hlen, D.hmx, D.hnt, D.hsub]; rfl))) ?_
            clear hx113; cbv
            refine R.cut' (by kernel_rfl) (by kernel_rfl) ?_
            cbv
            refine R.cut' (by kernel_rfl) (by kernel_rfl) ?_
            cbv
            refine R.brD h (by (first | (simp only [D.har, D.hbeq, D.hbnd, D.hcmp, D.hgi, D.hgl, D.hinb, D.hlen, D.hmx, D.hnt, D.hsub]; done) | rfl | (simp only [D.har, D.hbeq, D.hbnd, D.hcmp, D.hgi, D.hgl, D.hinb, D.hlen, D.hmx, D.hnt, D.hsub]; rfl))) ?_ ?_ <;> clear h <;> intro h <;> cbv
            · have e := ret_some h; clear h
              have h := hFy112; rw [e] at h; clear e; try dsimp only at h
              cbv
              have e := inr_some h houts84; clear h
              have h := hFs84; rw [e] at h; clear e; try dsimp only at h
              cbv
              have e := ret_some h; clear h
              have h := hFy55; rw [e] at h; clear e; try dsimp only at h
              cbv
              have e := ret_some h; clear h
              refine hK _ _ ?_
              cbv
              try (subst e; simp only [D.har, D.hbeq, D.hbnd, D.hcmp, D.hgi, D.hgl, D.hinb, D.hlen, D.hmx, D.hnt, D.hsub, and_self, and_true, true_and] <;> (repeat' apply And.intro) <;> rfl)
            · as_aux_lemma =>
              refine R.needD h (by (first | (simp only [D.har, D.hbeq, D.hbnd, D.hcmp, D.hgi, D.hgl, D.hinb, D.hlen, D.hmx, D.hnt, D.hsub]; done) | rfl | (simp only [D.har, D.hbeq, D.hbnd, D.hcmp, D.hgi, D.hgl, D.hinb, D.hlen, D.hmx, D.hnt, D.hsub]; rfl))) ?_
              clear h; intro h; cbv
              refine R.brD h (by (first | (simp only [D.har, D.hbeq, D.hbnd, D.hcmp, D.hgi, D.hgl, D.hinb, D.hlen, D.hmx, D.hnt, D.hsub]; done) | rfl | (simp only [D.har, D.hbeq, D.hbnd, D.hcmp, D.hgi, D.hgl, D.hinb, D.hlen, D.hmx, D.hnt, D.hsub]; rfl))) ?_ ?_ <;> clear h <;> intro h <;> cbv
              · have e := ret_some h; clear h
                have h := hFy112; rw [e] at h; clear e; try dsimp only at h
                cbv
                have e := inr_some h houts84; clear h
                have h := hFs84; rw [e] at h; clear e; try dsimp only at h
                cbv
                have e := ret_some h; clear h
                have h := hFy55; rw [e] at h; clear e; try dsimp only at h
                cbv
                have e := ret_some h; clear h
                refine hK _ _ ?_
                cbv
                try (subst e; simp only [D.har, D.hbeq, D.hbnd, D.hcmp, D.hgi, D.hgl, D.hinb, D.hlen, D.hmx, D.hnt, D.hsub, and_self, and_true, true_and] <;> (repeat' apply And.intro) <;> rfl)
              · as_aux_lemma =>
                refine R.callD h (fun x114 hx114 h2 => ?_)
                clear h; have h := h2; clear h2
                refine R.call' (w17s _ _ _ _ _ _ _ _ _ _ hx114) (by (first | (simp only [D.har, D.hbeq, D.hbnd, D.hcmp, D.hgi, D.hgl, D.hinb, D.hlen, D.hmx, D.hnt, D.hsub]; done) | rfl | (simp only [D.har, D.hbeq, D.hbnd, D.hcmp, D.hgi, D.hgl, D.hinb, D.hlen, D.hmx, D.hnt, D.hsub]; rfl))) ?_
                clear hx114; cbv
                refine R.cut' (by kernel_rfl) (by kernel_rfl) ?_
                cbv
                refine R.cutB (fun p => p) (fun _ _ e => e) h [] (fun p121 => [(121, .b p121)]) (fun p121 => []) (by kernel_rfl) (by kernel_rfl) (fun y119 hy hFy119 L hLy119 => ?_) (fun p121 h2 => ?_)
                · clear h; have h := hy; clear hy; cbv
                  refine R.brD h (by (first | (simp only [D.har, D.hbeq, D.hbnd, D.hcmp, D.hgi, D.hgl, D.hinb, D.hlen, D.hmx, D.hnt, D.hsub]; done) | rfl | (simp only [D.har, D.hbeq, D.hbnd, D.hcmp, D.hgi, D.hgl, D.hinb, D.hlen, D.hmx, D.hnt, D.hsub]; rfl))) ?_ ?_ <;> clear h <;> intro h <;> cbv
                  · obtain ⟨s', e, hi⟩ := jn_some (fun p => p) h
                    refine hLy119 s' _ _ hi ⟨by kernel_rfl, ?_, ?_, by kernel_rfl, by kernel_rfl⟩ <;> cbv <;> (try (subst e; simp only [D.har, D.hbeq, D.hbnd, D.hcmp, D.hgi, D.hgl, D.hinb, D.hlen, D.hmx, D.hnt, D.hsub, and_self, and_true, true_and] <;> (repeat' apply And.intro) <;> rfl))
                  · refine R.brD h (by (first | (simp only [D.har, D.hbeq, D.hbnd, D.hcmp, D.hgi, D.hgl, D.hinb, D.hlen, D.hmx, D.hnt, D.hsub]; done) | rfl | (simp only [D.har, D.hbeq, D.hbnd, D.hcmp, D.hgi, D.hgl, D.hinb, D.hlen, D.hmx, D.hnt, D.hsub]; rfl))) ?_ ?_ <;> clear h <;> intro h <;> cbv
                    · obtain ⟨s', e, hi⟩ := jn_some (fun p => p) h
                      refine hLy119 s' _ _ hi ⟨by kernel_rfl, ?_, ?_, by kernel_rfl, by kernel_rfl⟩ <;> cbv <;> (try (subst e; simp only [D.har, D.hbeq, D.hbnd, D.hcmp, D.hgi, D.hgl, D.hinb, D.hlen, D.hmx, D.hnt, D.hsub, and_self, and_true, true_and] <;> (repeat' apply And.intro) <;> rfl))
                    · refine R.brD h (by (first | (simp only [D.har, D.hbeq, D.hbnd, D.hcmp, D.hgi, D.hgl, D.hinb, D.hlen, D.hmx, D.hnt, D.hsub]; done) | rfl | (simp only [D.har, D.hbeq, D.hbnd, D.hcmp, D.hgi, D.hgl, D.hinb, D.hlen, D.hmx, D.hnt, D.hsub]; rfl))) ?_ ?_ <;> clear h <;> intro h <;> cbv
                      · obtain ⟨s', e, hi⟩ := jn_some (fun p => p) h
                        refine hLy119 s' _ _ hi ⟨by kernel_rfl, ?_, ?_, by kernel_rfl, by kernel_rfl⟩ <;> cbv <;> (try (subst e; simp only [D.har, D.hbeq, D.hbnd, D.hcmp, D.hgi, D.hgl, D.hinb, D.hlen, D.hmx, D.hnt, D.hsub, and_self, and_true, true_and] <;> (repeat' apply And.intro) <;> rfl))
                      · refine R.needD h (by (first | (simp only [D.har, D.hbeq, D.hbnd, D.hcmp, D.hgi, D.hgl, D.hinb, D.hlen, D.hmx, D.hnt, D.hsub]; done) | rfl | (simp only [D.har, D.hbeq, D.hbnd, D.hcmp, D.hgi, D.hgl, D.hinb, D.hlen, D.hmx, D.hnt, D.hsub]; rfl))) ?_
                        clear h; intro h; cbv
                        refine R.callD h (fun x120 hx120 h2 => ?_)
                        clear h; have h := h2; clear h2
                        refine R.call' (w18 _ _ _ hx120) (by (first | (simp only [D.har, D.hbeq, D.hbnd, D.hcmp, D.hgi, D.hgl, D.hinb, D.hlen, D.hmx, D.hnt, D.hsub]; done) | rfl | (simp only [D.har, D.hbeq, D.hbnd, D.hcmp, D.hgi, D.hgl, D.hinb, D.hlen, D.hmx, D.hnt, D.hsub]; rfl))) ?_
                        clear hx120; cbv
                        refine R.brD h (by (first | (simp only [D.har, D.hbeq, D.hbnd, D.hcmp, D.hgi, D.hgl, D.hinb, D.hlen, D.hmx, D.hnt, D.hsub]; done) | rfl | (simp only [D.har, D.hbeq, D.hbnd, D.hcmp, D.hgi, D.hgl, D.hinb, D.hlen, D.hmx, D.hnt, D.hsub]; rfl))) ?_ ?_ <;> clear h <;> intro h <;> cbv
                        · obtain ⟨s', e, hi⟩ := jn_some (fun p => p) h
                          refine hLy119 s' _ _ hi ⟨by kernel_rfl, ?_, ?_, by kernel_rfl, by kernel_rfl⟩ <;> cbv <;> (try (subst e; simp only [D.har, D.hbeq, D.hbnd, D.hcmp, D.hgi, D.hgl, D.hinb, D.hlen, D.hmx, D.hnt, D.hsub, and_self, and_true, true_and] <;> (repeat' apply And.intro) <;> rfl))
                        · refine R.brD h (by (first | (simp only [D.har, D.hbeq, D.hbnd, D.hcmp, D.hgi, D.hgl, D.hinb, D.hlen, D.hmx, D.hnt, D.hsub]; done) | rfl | (simp only [D.har, D.hbeq, D.hbnd, D.hcmp, D.hgi, D.hgl, D.hinb, D.hlen, D.hmx, D.hnt, D.hsub]; rfl))) ?_ ?_ <;> clear h <;> intro h <;> cbv
                          · obtain ⟨s', e, hi⟩ := jn_some (fun p => p) h
                            refine hLy119 s' _ _ hi ⟨by kernel_rfl, ?_, ?_, by kernel_rfl, by kernel_rfl⟩ <;> cbv <;> (try (subst e; simp only [D.har, D.hbeq, D.hbnd, D.hcmp, D.hgi, D.hgl, D.hinb, D.hlen, D.hmx, D.hnt, D.hsub, and_self, and_true, true_and] <;> (repeat' apply And.intro) <;> rfl))
                          · obtain ⟨s', e, hi⟩ := jn_some (fun p => p) h
                            refine hLy119 s' _ _ hi ⟨by kernel_rfl, ?_, ?_, by kernel_rfl, by kernel_rfl⟩ <;> cbv <;> (try (subst e; simp only [D.har, D.hbeq, D.hbnd, D.hcmp, D.hgi, D.hgl, D.hinb, D.hlen, D.hmx, D.hnt, D.hsub, and_self, and_true, true_and] <;> (repeat' apply And.intro) <;> rfl))
                · as_aux_lemma =>
                  clear h; have h := h2; clear h2; try dsimp only at h
                  cbv
                  refine R.brD h (by (first | (simp only [D.har, D.hbeq, D.hbnd, D.hcmp, D.hgi, D.hgl, D.hinb, D.hlen, D.hmx, D.hnt, D.hsub]; done) | rfl | (simp only [D.har, D.hbeq, D.hbnd, D.hcmp, D.hgi, D.hgl, D.hinb, D.hlen, D.hmx, D.hnt, D.hsub]; rfl))) ?_ ?_ <;> clear h <;> intro h <;> cbv
                  · have e := ret_some h; clear h
                    have h := hFy112; rw [e] at h; clear e; try dsimp only at h
                    cbv
                    have e := inr_some h houts84; clear h
                    have h := hFs84; rw [e] at h; clear e; try dsimp only at h
                    cbv
                    have e := ret_some h; clear h
                    have h := hFy55; rw [e] at h; clear e; try dsimp only at h
                    cbv
                    have e := ret_some h; clear h
                    refine hK _ _ ?_
                    cbv
                    try (subst e; simp only [D.har, D.hbeq, D.hbnd, D.hcmp, D.hgi, D.hgl, D.hinb, D.hlen, D.hmx, D.hnt, D.hsub, and_self, and_true, true_and] <;> (repeat' apply And.intro) <;> rfl)
                  · as_aux_lemma =>
                    refine R.needD h (by (first | (simp only [D.har, D.hbeq, D.hbnd, D.hcmp, D.hgi, D.hgl, D.hinb, D.hlen, D.hmx, D.hnt, D.hsub]; done) | rfl | (simp only [D.har, D.hbeq, D.hbnd, D.hcmp, D.hgi, D.hgl, D.hinb, D.hlen, D.hmx, D.hnt, D.hsub]; rfl))) ?_
                    clear h; intro h; cbv
                    refine R.cutB (fun p => p) (fun _ _ e => e) h [] (fun p128 => [(18, .i .i64 p128.1), (19, .i .i64 p128.2)]) (fun p128 => []) (by kernel_rfl) (by kernel_rfl) (fun y124 hy hFy124 L hLy124 => ?_) (fun p128 h2 => ?_)
                    · clear h; have h := hy; clear hy; cbv
                      refine R.loopD h (fun s0 y126 e0 hi hFs125 => ?_)
                      clear h
                      refine R.loopI hi [] (fun s125 => [(18, .i .i64 s125.1), (19, .i .i64 s125.2.1), (20, .i .i64 s125.2.2)]) (fun s125 => []) ⟨by kernel_rfl, ?_, ?_, by kernel_rfl, by kernel_rfl⟩ (by kernel_rfl) ?_
                      · cbv; try (subst e0; simp only [D.har, D.hbeq, D.hbnd, D.hcmp, D.hgi, D.hgl, D.hinb, D.hlen, D.hmx, D.hnt, D.hsub, and_self, and_true, true_and] <;> (repeat' apply And.intro) <;> rfl)
                      · cbv; try (subst e0; simp only [D.har, D.hbeq, D.hbnd, D.hcmp, D.hgi, D.hgl, D.hinb, D.hlen, D.hmx, D.hnt, D.hsub, and_self, and_true, true_and] <;> (repeat' apply And.intro) <;> rfl)
                      clear hi e0
                      intro s125 m y' hy hins125 houts125 L hLs125
                      have h := hy; clear hy; unfold d5_b3 at h
                      cbv
                      refine R.cut' (by kernel_rfl) (by kernel_rfl) ?_
                      cbv
                      refine R.cut' (by kernel_rfl) (by kernel_rfl) ?_
                      cbv
                      refine R.brD h (by (first | (simp only [D.har, D.hbeq, D.hbnd, D.hcmp, D.hgi, D.hgl, D.hinb, D.hlen, D.hmx, D.hnt, D.hsub]; done) | rfl | (simp only [D.har, D.hbeq, D.hbnd, D.hcmp, D.hgi, D.hgl, D.hinb, D.hlen, D.hmx, D.hnt, D.hsub]; rfl))) ?_ ?_ <;> clear h <;> intro h <;> cbv
                      · refine R.needD h (by (first | (simp only [D.har, D.hbeq, D.hbnd, D.hcmp, D.hgi, D.hgl, D.hinb, D.hlen, D.hmx, D.hnt, D.hsub]; done) | rfl | (simp only [D.har, D.hbeq, D.hbnd, D.hcmp, D.hgi, D.hgl, D.hinb, D.hlen, D.hmx, D.hnt, D.hsub]; rfl))) ?_
                        clear h; intro h; cbv
                        refine R.brD h (by (first | (simp only [D.har, D.hbeq, D.hbnd, D.hcmp, D.hgi, D.hgl, D.hinb, D.hlen, D.hmx, D.hnt, D.hsub]; done) | rfl | (simp only [D.har, D.hbeq, D.hbnd, D.hcmp, D.hgi, D.hgl, D.hinb, D.hlen, D.hmx, D.hnt, D.hsub]; rfl))) ?_ ?_ <;> clear h <;> intro h <;> cbv
                        · refine R.cut' (by kernel_rfl) (by kernel_rfl) ?_
                          cbv
                          refine R.needD h (by (first | (simp only [D.har, D.hbeq, D.hbnd, D.hcmp, D.hgi, D.hgl, D.hinb, D.hlen, D.hmx, D.hnt, D.hsub]; done) | rfl | (simp only [D.har, D.hbeq, D.hbnd, D.hcmp, D.hgi, D.hgl, D.hinb, D.hlen, D.hmx, D.hnt, D.hsub]; rfl))) ?_
                          clear h; intro h; cbv
                          obtain ⟨s', e, hi⟩ := inl_some h hins125
                          refine hLs125 s' _ _ hi ⟨by kernel_rfl, ?_, ?_, by kernel_rfl, by kernel_rfl⟩ <;> cbv <;> (try (subst e; simp only [D.har, D.hbeq, D.hbnd, D.hcmp, D.hgi, D.hgl, D.hinb, D.hlen, D.hmx, D.hnt, D.hsub, and_self, and_true, true_and] <;> (repeat' apply And.intro) <;> rfl))
                        · have e := inr_some h houts125; clear h
                          have h := hFs125; rw [e] at h; clear e; try dsimp only at h
                          cbv
                          obtain ⟨s', e, hi⟩ := jn_some (fun p => p) h
                          refine hLy124 s' _ _ hi ⟨by kernel_rfl, ?_, ?_, by kernel_rfl, by kernel_rfl⟩ <;> cbv <;> (try (subst e; simp only [D.har, D.hbeq, D.hbnd, D.hcmp, D.hgi, D.hgl, D.hinb, D.hlen, D.hmx, D.hnt, D.hsub, and_self, and_true, true_and] <;> (repeat' apply And.intro) <;> rfl))
                      · have e := inr_some h houts125; clear h
                        have h := hFs125; rw [e] at h; clear e; try dsimp only at h
                        cbv
                        obtain ⟨s', e, hi⟩ := jn_some (fun p => p) h
                        refine hLy124 s' _ _ hi ⟨by kernel_rfl, ?_, ?_, by kernel_rfl, by kernel_rfl⟩ <;> cbv <;> (try (subst e; simp only [D.har, D.hbeq, D.hbnd, D.hcmp, D.hgi, D.hgl, D.hinb, D.hlen, D.hmx, D.hnt, D.hsub, and_self, and_true, true_and] <;> (repeat' apply And.intro) <;> rfl))
                    · clear h; have h := h2; clear h2; try dsimp only at h
                      cbv
                      refine R.cut' (by kernel_rfl) (by kernel_rfl) ?_
                      cbv
                      refine R.brD h (by (first | (simp only [D.har, D.hbeq, D.hbnd, D.hcmp, D.hgi, D.hgl, D.hinb, D.hlen, D.hmx, D.hnt, D.hsub]; done) | rfl | (simp only [D.har, D.hbeq, D.hbnd, D.hcmp, D.hgi, D.hgl, D.hinb, D.hlen, D.hmx, D.hnt, D.hsub]; rfl))) ?_ ?_ <;> clear h <;> intro h <;> cbv
                      · refine R.brD h (by (first | (simp only [D.har, D.hbeq, D.hbnd, D.hcmp, D.hgi, D.hgl, D.hinb, D.hlen, D.hmx, D.hnt, D.hsub]; done) | rfl | (simp only [D.har, D.hbeq, D.hbnd, D.hcmp, D.hgi, D.hgl, D.hinb, D.hlen, D.hmx, D.hnt, D.hsub]; rfl))) ?_ ?_ <;> clear h <;> intro h <;> cbv
                        · refine R.brD h (by (first | (simp only [D.har, D.hbeq, D.hbnd, D.hcmp, D.hgi, D.hgl, D.hinb, D.hlen, D.hmx, D.hnt, D.hsub]; done) | rfl | (simp only [D.har, D.hbeq, D.hbnd, D.hcmp, D.hgi, D.hgl, D.hinb, D.hlen, D.hmx, D.hnt, D.hsub]; rfl))) ?_ ?_ <;> clear h <;> intro h <;> cbv
                          · have e := ret_some h; clear h
                            have h := hFy112; rw [e] at h; clear e; try dsimp only at h
                            cbv
                            have e := inr_some h houts84; clear h
                            have h := hFs84; rw [e] at h; clear e; try dsimp only at h
                            cbv
                            have e := ret_some h; clear h
                            have h := hFy55; rw [e] at h; clear e; try dsimp only at h
                            cbv
                            have e := ret_some h; clear h
                            refine hK _ _ ?_
                            cbv
                            try (subst e; simp only [D.har, D.hbeq, D.hbnd, D.hcmp, D.hgi, D.hgl, D.hinb, D.hlen, D.hmx, D.hnt, D.hsub, and_self, and_true, true_and] <;> (repeat' apply And.intro) <;> rfl)
                          · obtain ⟨s', e, hi⟩ := jn_some Sum.inl h
                            refine hLy112 s' _ _ hi ⟨by kernel_rfl, ?_, ?_, by kernel_rfl, by kernel_rfl⟩ <;> cbv <;> (try (subst e; simp only [D.har, D.hbeq, D.hbnd, D.hcmp, D.hgi, D.hgl, D.hinb, D.hlen, D.hmx, D.hnt, D.hsub, and_self, and_true, true_and] <;> (repeat' apply And.intro) <;> rfl))
                        · obtain ⟨s', e, hi⟩ := jn_some Sum.inl h
                          refine hLy112 s' _ _ hi ⟨by kernel_rfl, ?_, ?_, by kernel_rfl, by kernel_rfl⟩ <;> cbv <;> (try (subst e; simp only [D.har, D.hbeq, D.hbnd, D.hcmp, D.hgi, D.hgl, D.hinb, D.hlen, D.hmx, D.hnt, D.hsub, and_self, and_true, true_and] <;> (repeat' apply And.intro) <;> rfl))
                      · obtain ⟨s', e, hi⟩ := jn_some Sum.inl h
                        refine hLy112 s' _ _ hi ⟨by kernel_rfl, ?_, ?_, by kernel_rfl, by kernel_rfl⟩ <;> cbv <;> (try (subst e; simp only [D.har, D.hbeq, D.hbnd, D.hcmp, D.hgi, D.hgl, D.hinb, D.hlen, D.hmx, D.hnt, D.hsub, and_self, and_true, true_and] <;> (repeat' apply And.intro) <;> rfl))
          · clear h; have h := h2; clear h2; try dsimp only at h
            cbv
            obtain ⟨s', e, hi⟩ := inl_some h hins84
            refine hLs84 s' _ _ hi ⟨by kernel_rfl, ?_, ?_, by kernel_rfl, by kernel_rfl⟩ <;> cbv <;> (try (subst e; simp only [D.har, D.hbeq, D.hbnd, D.hcmp, D.hgi, D.hgl, D.hinb, D.hlen, D.hmx, D.hnt, D.hsub, and_self, and_true, true_and] <;> (repeat' apply And.intro) <;> rfl))
        · have e := inr_some h houts84; clear h
          have h := hFs84; rw [e] at h; clear e; try dsimp only at h
          cbv
          obtain ⟨s', e, hi⟩ := jn_some Sum.inl h
          refine hLy55 s' _ _ hi ⟨by kernel_rfl, ?_, ?_, by kernel_rfl, by kernel_rfl⟩ <;> cbv <;> (try (subst e; simp only [D.har, D.hbeq, D.hbnd, D.hcmp, D.hgi, D.hgl, D.hinb, D.hlen, D.hmx, D.hnt, D.hsub, and_self, and_true, true_and] <;> (repeat' apply And.intro) <;> rfl))
      · clear h; have h := h2; clear h2; try dsimp only at h
        cbv
        have e := ret_some h; clear h
        refine hK _ _ ?_
        cbv
        try (subst e; simp only [D.har, D.hbeq, D.hbnd, D.hcmp, D.hgi, D.hgl, D.hinb, D.hlen, D.hmx, D.hnt, D.hsub, and_self, and_true, true_and] <;> (repeat' apply And.intro) <;> rfl)

end Go.Proofs.Ytdejapkfijdadaa

end
section
/- The one statement over its function that the law BufferSuffix comes to. Conditions: none. -/
-- Told by a program of this seat's session. Not trusted: Lean checks it.

namespace Go.Proofs.Ytdejapkfijdadaa
open Go.Ab Go.RowKit
def BufferSuffix.Claim : Prop := ∀ (x0 : (List (Int × (Int × (List Int))))) (x1 : Int), (fun l : List (Int × (Int × (List Int))) => l.length ≤ maxLen ∧ ∀ x ∈ l, (fun x : (Int × (Int × (List Int))) => (fun n : Int => (Lit.int .i64 n).wf = true) x.1 ∧ (fun x : (Int × (List Int)) => (fun n : Int => (Lit.int .i64 n).wf = true) x.1 ∧ (fun l : List Int => l.length ≤ maxLen ∧ ∀ x ∈ l, (fun n : Int => (Lit.int .u8 n).wf = true) x) x.2) x.2) x) x0 → (fun n : Int => (Lit.int .i64 n).wf = true) x1 → Ab.Fn Try.prog TT 5 [.sl 33 (x0.map (fun x : (Int × (Int × (List Int))) => .agg [.i .i64 x.1, .i .i64 x.2.1, .sl 5 (x.2.2.map (fun x : Int => .i .u8 x))])), .i .i64 x1] (.b true) []
end Go.Proofs.Ytdejapkfijdadaa
end
section
/- The law BufferSuffix by the calculus. Conditions: none. -/

namespace Go.Proofs.Ytdejapkfijdadaa
open Go.Ab Go.RowKit
theorem BufferSuffix.pure : BufferSuffix.Claim := by
  intro x0 x1 h0 h1
  rw [map_r]
  exact w5 _ _ true (pl5 _ (ok_r (fun x hx => ((h0.2 x hx).2.2).2)) x1)
end Go.Proofs.Ytdejapkfijdadaa
end
section
/- BufferSuffix: the law's call returns true for every input, and its arguments read afterwards as_ before. Conditions: none. -/
-- Told by a program of this seat's session. Not trusted: Lean checks it.

namespace Go.Proofs.Ytdejapkfijdadaa.bufferSuffix
open Go.ChangeShapes Go.WideShapes Go.ChangeAt Go.RowKit Go.Ab Go.Proofs.Ytdejapkfijdadaa
open Go.ChangeMaps (open_string shut_string)
theorem own : ownKnob Try.prog.godebug = none := by kernel_rfl
theorem laidOut : laidOutB Try.prog = true := by kernel_rfl
set_option maxRecDepth 100000 in
set_option maxHeartbeats 8000000 in
theorem lifted (os : Os) (started : os.Started) (H : Type) (enc : TypeId × Value → H) :
    ReturnsInHanded {} Try.checked os 5 .any (Rows.bufferSuffixSpec.pre6 enc Try.prog Try.f5 Rows.bufferSuffixRow.domain false) (Rows.bufferSuffixSpec.post enc Try.prog Try.f5 false true false false) := by
  refine returnsInHanded_of_change_sized (C := Try.checked) own started (by kernel_rfl) Try.func5
    (ChangeSpec.witness6 (enc := enc) (C := Try.checked) false ⟨#[], #[.slice none 0 0, .int .i64 0], []⟩ 8 (by kernel_rfl) (by kernel_rfl) (by kernel_rfl) (by kernel_rfl)) ?_
  intro W base args ds gs before hval0 hW hcnd hsz0 _
  have hval : ∀ (j : Nat) t v, Try.f5.params[j]? = some t → args[j]? = some v → Value.okWide Try.prog W .any base t v := hval0
  have hW' := hW
  obtain ⟨p, q, hA0, hV, rfl, hfz, hnd⟩ := hW
  have hA : DataW.TrodAll enc Try.prog W 0 (fun _ => true) true Try.f5.params.toList args.toList ds p := hA0
  rw [Try.params5] at hA hval
  obtain ⟨v0, vs0, d0, ds0, p0, q0, hargs, rfl, rfl, h0, r0⟩ := trodAll_cons hA
  obtain ⟨v1, vs1, d1, ds1, p1, q1, rfl, rfl, rfl, h1, r1⟩ := trodAll_cons r0
  obtain ⟨rfl, rfl, rfl⟩ := trodAll_nil r1
  obtain rfl : args = #[v0, v1] := by cases args; simp_all
  obtain ⟨rfl, rfl⟩ := trodVars_none hV
  have k0 := h0
  have lt0 : ∀ x ∈ p0, x.block < W.heap.size := by obtain ⟨m, hm⟩ := k0; exact DataW.trod_lt m _ _ _ hm
  obtain ⟨aa0, ll0, cc0, rfl⟩ := okWide_slice Try.underlying22 (hval 0 22 v0 rfl rfl)
  obtain ⟨x0, ra0, rb0, _, ok0⟩ := h0.elim fun fuel hf => ((OpV.slice tok (fun x : (Int × (Int × (List Int))) => .agg [.i .i64 x.1, .i .i64 x.2.1, .sl 5 (x.2.2.map (fun x : Int => .i .u8 x))]) (te := te22) (eu := te33) (by kernel_rfl) rfl (by kernel_rfl) (by decide) (by kernel_rfl) (.inl ⟨by kernel_rfl, by kernel_rfl, fun _ => rfl⟩) (OpV.struct tok (te := te33) (by kernel_rfl) rfl (by kernel_rfl) (OpAt.cons rfl (by kernel_rfl) (OpV.int tok (e := te3) (by kernel_rfl) rfl) (OpAt.cons rfl (by kernel_rfl) (OpV.int tok (e := te2) (by kernel_rfl) rfl) (OpAt.last rfl (by kernel_rfl) (OpV.slice tok (fun x : Int => .i .u8 x) (te := te24) (eu := te5) (by kernel_rfl) rfl (by kernel_rfl) (by decide) (by kernel_rfl) (.inr ⟨by kernel_rfl, rfl, fun _ => rfl⟩) (OpV.int tok (e := te5) (by kernel_rfl) rfl))))))) : OpV TT enc Try.prog W 22 _ _ _) _ _ _ hf
  obtain ⟨x1, rfl, rfl, rfl, u1⟩ := open_int Try.underlying3 (hval 1 3 v1 rfl rfl) h1
  clear hA0 hval0 hsz0
  refine (law_calls (w := W) ⟨_, _, Try.func5, by kernel_rfl, w5_h⟩ (BufferSuffix.pure x0 x1 ok0 u1) (gok W) (args_one ra0 (args_i x1 args_nil))).mono fun e W' ⟨he, bel⟩ => ?_
  subst he
  exact ⟨_, rfl, _, _, _, [], _, [], hW', trodAll_mk1 (shut_bool Try.underlying4 _), (trodAll_cons_mk (Below.trod laidOut (by kernel_rfl) (of_decide_eq_true (by kernel_rfl)) k0 bel lt0) (trodAll_cons_mk (shut_int Try.underlying3 u1) trodAll_mk0)), rfl, bel.frame _, fun h => by cases h⟩
theorem over : Rows.bufferSuffixRow.holds Try.pinned (OpenSpec.ofChange Rows.bufferSuffixSpec) :=
  OpenClaim.holds_of_wide 5 Try.f5 rfl rfl rfl rfl rfl rfl rfl ⟨rfl, rfl, rfl, rfl, rfl⟩ rfl rfl rfl rfl rfl (by kernel_rfl) Try.func5 (by kernel_rfl)
    (of_decide_eq_true (by kernel_rfl)) (by unfold Func.isWrapper; first | (rw [if_pos (by decide +kernel)]; kernel_rfl) | (rw [if_neg (by decide +kernel)]; exact ⟨rfl, rfl⟩))
    (fun os started H enc _ => lifted os started H enc)
theorem proved : Rows.BufferSuffixSaid := over
end Go.Proofs.Ytdejapkfijdadaa.bufferSuffix
namespace Go.Proofs.Ytdejapkfijdadaa
theorem bufferSuffix_holds : Rows.BufferSuffixSaid := bufferSuffix.proved
end Go.Proofs.Ytdejapkfijdadaa
end
