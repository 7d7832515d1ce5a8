/- The law BufferDelivered: its function's walk, the pure law, the row. Conditions: none. -/
import Derived.Test.YtdejapkfijdadaaRows
import Derived.WalkKit
import Derived.ProofKit
import Derived.OpenShut
import Derived.ShutString
import Derived.ChangeOld
import Derived.Below
import Derived.SizedLaws
import Derived.Carry
import Derived.Test.YtdejapkfijdadaaBA5
set_option linter.unusedVariables false
set_option linter.unusedSimpArgs false
section
namespace Go.Proofs.Ytdejapkfijdadaa
open Go.Ab Go.RowKit 
set_option maxRecDepth 100000
set_option maxHeartbeats 40000000
noncomputable def w8_c : Code := (Try.f8.body).getD .skip
theorem w8_h : Try.f8.body = some w8_c := by kernel_rfl
theorem w8 (a0 : List V) (a1 : Int) (r : Bool) (h : d8 a0 a1 = some r) : Ab.Fn Try.prog TT 8 [.sl 58 a0, .i .i64 a1] (.b r) [] := by
  refine fn_pure tok (fun r => match r with | 16 => [[],[],[],[1,2],[1,2,3],[1,2,3,4],[0,1,2,3,4,5],[0,1,2,3,4,5,6],[0,1,2,3,4,5,6,7],[0,1,2,3,4,5,6,7],[0,1,2,3,4,5,6,7],[],[0,1,2,3,4,5,6,7,8,11],[0,1,2,3,4,5,6,7,8,9,11,12],[0,1,2,3,4,5,6,7,8,9,10,11,12,13]] | 34 => [[],[],[0,1],[],[3],[0,1,2,3,4],[0,1,2,3,4,5],[0,1,2,3,4,5,6],[0,1,2,3,4,5,6],[0,1,2,3,4,5,6,7,8],[0,1,2,3,4,5,6,7,8,9],[0,1,2,3,4,5,6,7,8,9,10],[0,1,2,3,4,5,6],[0,1,2,3,4,5,6],[0,1,2,3,4,5,6],[0,1,2,3,4,5,6],[0,1,2,3,4,5,6,14,15],[0,1,2,3,4,5,6,12,13,14,15,16],[0,1,2,3,4,5,6,7,8,9,10,11,12,13,14,15,16,17],[0,1,2,3,4,5,6,7,8,9,10,11,12,13,14,15,16,17,18],[0,1,2,3,4,5,6,7,8,9,10,11,12,13,14,15,16,17,18,19]] | _ => []) Try.func8 (by kernel_rfl) w8_h (by kernel_rfl) ?_
  intro ar un cv mn mx pl mi cmp nt beq an scmp cat slen sbyte ssub ofB toB len gi gb gs gl sub put app ovl rep ne0 ge0 inb bnd room sroom need br call callb loop cut nl E R K hK
  have D := E.D
  clear E
  unfold d8 at h
  cbv
  refine R.callD h (fun x1 hx1 h2 => ?_)
  clear h; have h := h2; clear h2
  refine R.call' (w14 _ hx1) (by (first | (simp only [D.happ, D.har, D.hbnd, D.hcmp, D.hgi, D.hgl, D.hinb, D.hlen, D.hmi, D.hnt, D.hpl, D.hroom, D.hsub]; done) | rfl | (simp only [D.happ, D.har, D.hbnd, D.hcmp, D.hgi, D.hgl, D.hinb, D.hlen, D.hmi, D.hnt, D.hpl, D.hroom, D.hsub]; rfl))) ?_
  clear hx1; cbv
  refine R.callD h (fun x2 hx2 h2 => ?_)
  clear h; have h := h2; clear h2
  refine R.call' (w15s _ _ _ hx2) (by (first | (simp only [D.happ, D.har, D.hbnd, D.hcmp, D.hgi, D.hgl, D.hinb, D.hlen, D.hmi, D.hnt, D.hpl, D.hroom, D.hsub]; done) | rfl | (simp only [D.happ, D.har, D.hbnd, D.hcmp, D.hgi, D.hgl, D.hinb, D.hlen, D.hmi, D.hnt, D.hpl, D.hroom, D.hsub]; rfl))) ?_
  clear hx2; cbv
  refine R.cut' (by kernel_rfl) (by kernel_rfl) ?_
  cbv
  refine R.brD h (by (first | (simp only [D.happ, D.har, D.hbnd, D.hcmp, D.hgi, D.hgl, D.hinb, D.hlen, D.hmi, D.hnt, D.hpl, D.hroom, D.hsub]; done) | rfl | (simp only [D.happ, D.har, D.hbnd, D.hcmp, D.hgi, D.hgl, D.hinb, D.hlen, D.hmi, D.hnt, D.hpl, D.hroom, D.hsub]; rfl))) ?_ ?_ <;> clear h <;> intro h <;> cbv
  · have e := ret_some h; clear h
    refine hK _ _ ?_
    cbv
    try (subst e; simp only [D.happ, D.har, D.hbnd, D.hcmp, D.hgi, D.hgl, D.hinb, D.hlen, D.hmi, D.hnt, D.hpl, D.hroom, D.hsub, and_self, and_true, true_and] <;> (repeat' apply And.intro) <;> rfl)
  · as_aux_lemma =>
    refine R.cutB (fun p => p) (fun _ _ e => e) h [] (fun p49 => [(8, .row 143), (9, .row 159)]) (fun p49 => [(96, .cells 26 [.i .i64 p49.1, .sl 5 p49.2.1, .i .i64 p49.2.2.1, .i .i64 p49.2.2.2.1, .i .i64 p49.2.2.2.2.1, .i .i64 p49.2.2.2.2.2.1, .sl 5 p49.2.2.2.2.2.2.1, .i .i64 p49.2.2.2.2.2.2.2.1, .b p49.2.2.2.2.2.2.2.2.1]), (143, .row 33 p49.2.2.2.2.2.2.2.2.2.1), (159, .row 63 p49.2.2.2.2.2.2.2.2.2.2)]) (by kernel_rfl) (by kernel_rfl) (fun y21 hy hFy21 L hLy21 => ?_) (fun p49 h2 => ?_)
    · as_aux_lemma =>
      clear h; have h := hy; clear hy; cbv
      refine R.loopD h (fun s0 y39 e0 hi hFs33 => ?_)
      clear h
      refine R.born' (e := te33) 8 143 33 rfl rfl (by kernel_rfl) (by decide) ?_
      refine R.born' (e := te63) 9 159 63 rfl rfl (by kernel_rfl) (by decide) ?_
      refine R.loopI hi [] (fun s33 => [(8, .row 143), (9, .row 159), (10, .i .i64 s33.1)]) (fun s33 => [(143, .row 33 s33.2.1), (96, .cells 26 [.i .i64 s33.2.2.1, .sl 5 s33.2.2.2.1, .i .i64 s33.2.2.2.2.1, .i .i64 s33.2.2.2.2.2.1, .i .i64 s33.2.2.2.2.2.2.1, .i .i64 s33.2.2.2.2.2.2.2.1, .sl 5 s33.2.2.2.2.2.2.2.2.1, .i .i64 s33.2.2.2.2.2.2.2.2.2.1, .b s33.2.2.2.2.2.2.2.2.2.2.1]), (159, .row 63 s33.2.2.2.2.2.2.2.2.2.2.2)]) ⟨by kernel_rfl, ?_, ?_, by kernel_rfl, by kernel_rfl⟩ (by kernel_rfl) ?_
      · cbv; try (subst e0; simp only [D.happ, D.har, D.hbnd, D.hcmp, D.hgi, D.hgl, D.hinb, D.hlen, D.hmi, D.hnt, D.hpl, D.hroom, D.hsub, and_self, and_true, true_and] <;> (repeat' apply And.intro) <;> rfl)
      · cbv; try (subst e0; simp only [D.happ, D.har, D.hbnd, D.hcmp, D.hgi, D.hgl, D.hinb, D.hlen, D.hmi, D.hnt, D.hpl, D.hroom, D.hsub, and_self, and_true, true_and] <;> (repeat' apply And.intro) <;> rfl)
      clear hi e0
      intro s33 m y' hy hins33 houts33 L hLs33
      have h := hy; clear hy; unfold d8_b1 at h
      cbv
      refine R.cut' (by kernel_rfl) (by kernel_rfl) ?_
      cbv
      refine R.cut' (by kernel_rfl) (by kernel_rfl) ?_
      cbv
      refine R.brD h (by (first | (simp only [D.happ, D.har, D.hbnd, D.hcmp, D.hgi, D.hgl, D.hinb, D.hlen, D.hmi, D.hnt, D.hpl, D.hroom, D.hsub]; done) | rfl | (simp only [D.happ, D.har, D.hbnd, D.hcmp, D.hgi, D.hgl, D.hinb, D.hlen, D.hmi, D.hnt, D.hpl, D.hroom, D.hsub]; rfl))) ?_ ?_ <;> clear h <;> intro h <;> cbv
      · as_aux_lemma =>
        refine R.brD h (by (first | (simp only [D.happ, D.har, D.hbnd, D.hcmp, D.hgi, D.hgl, D.hinb, D.hlen, D.hmi, D.hnt, D.hpl, D.hroom, D.hsub]; done) | rfl | (simp only [D.happ, D.har, D.hbnd, D.hcmp, D.hgi, D.hgl, D.hinb, D.hlen, D.hmi, D.hnt, D.hpl, D.hroom, D.hsub]; rfl))) ?_ ?_ <;> clear h <;> intro h <;> cbv
        · as_aux_lemma =>
          refine R.cutB (fun p => p) (fun _ _ e => e) h [] (fun p47 => [(8, .row 143), (9, .row 159)]) (fun p47 => [(143, .row 33 p47.1), (96, .cells 26 [.i .i64 p47.2.1, .sl 5 p47.2.2.1, .i .i64 p47.2.2.2.1, .i .i64 p47.2.2.2.2.1, .i .i64 p47.2.2.2.2.2.1, .i .i64 p47.2.2.2.2.2.2.1, .sl 5 p47.2.2.2.2.2.2.2.1, .i .i64 p47.2.2.2.2.2.2.2.2.1, .b p47.2.2.2.2.2.2.2.2.2.1]), (159, .row 63 p47.2.2.2.2.2.2.2.2.2.2)]) (by kernel_rfl) (by kernel_rfl) (fun y43 hy hFy43 L hLy43 => ?_) (fun p47 h2 => ?_)
          · clear h; have h := hy; clear hy; cbv
            refine R.needD h (by (first | (simp only [D.happ, D.har, D.hbnd, D.hcmp, D.hgi, D.hgl, D.hinb, D.hlen, D.hmi, D.hnt, D.hpl, D.hroom, D.hsub]; done) | rfl | (simp only [D.happ, D.har, D.hbnd, D.hcmp, D.hgi, D.hgl, D.hinb, D.hlen, D.hmi, D.hnt, D.hpl, D.hroom, D.hsub]; rfl))) ?_
            clear h; intro h; cbv
            refine R.brD h (by (first | (simp only [D.happ, D.har, D.hbnd, D.hcmp, D.hgi, D.hgl, D.hinb, D.hlen, D.hmi, D.hnt, D.hpl, D.hroom, D.hsub]; done) | rfl | (simp only [D.happ, D.har, D.hbnd, D.hcmp, D.hgi, D.hgl, D.hinb, D.hlen, D.hmi, D.hnt, D.hpl, D.hroom, D.hsub]; rfl))) ?_ ?_ <;> clear h <;> intro h <;> cbv
            · refine R.needD h (by (first | (simp only [D.happ, D.har, D.hbnd, D.hcmp, D.hgi, D.hgl, D.hinb, D.hlen, D.hmi, D.hnt, D.hpl, D.hroom, D.hsub]; done) | rfl | (simp only [D.happ, D.har, D.hbnd, D.hcmp, D.hgi, D.hgl, D.hinb, D.hlen, D.hmi, D.hnt, D.hpl, D.hroom, D.hsub]; rfl))) ?_
              clear h; intro h; cbv
              refine R.callD h (fun x44 hx44 h2 => ?_)
              clear h; have h := h2; clear h2
              refine R.call' (w16s _ _ _ _ _ _ _ _ _ _ _ _ _ hx44) (by (first | (simp only [D.happ, D.har, D.hbnd, D.hcmp, D.hgi, D.hgl, D.hinb, D.hlen, D.hmi, D.hnt, D.hpl, D.hroom, D.hsub]; done) | rfl | (simp only [D.happ, D.har, D.hbnd, D.hcmp, D.hgi, D.hgl, D.hinb, D.hlen, D.hmi, D.hnt, D.hpl, D.hroom, D.hsub]; rfl))) ?_
              clear hx44; cbv
              refine R.brD h (by (first | (simp only [D.happ, D.har, D.hbnd, D.hcmp, D.hgi, D.hgl, D.hinb, D.hlen, D.hmi, D.hnt, D.hpl, D.hroom, D.hsub]; done) | rfl | (simp only [D.happ, D.har, D.hbnd, D.hcmp, D.hgi, D.hgl, D.hinb, D.hlen, D.hmi, D.hnt, D.hpl, D.hroom, D.hsub]; rfl))) ?_ ?_ <;> clear h <;> intro h <;> cbv
              · refine R.needD h (by (first | (simp only [D.happ, D.har, D.hbnd, D.hcmp, D.hgi, D.hgl, D.hinb, D.hlen, D.hmi, D.hnt, D.hpl, D.hroom, D.hsub]; done) | rfl | (simp only [D.happ, D.har, D.hbnd, D.hcmp, D.hgi, D.hgl, D.hinb, D.hlen, D.hmi, D.hnt, D.hpl, D.hroom, D.hsub]; rfl))) ?_
                clear h; intro h; cbv
                refine R.needD h (by (first | (simp only [D.happ, D.har, D.hbnd, D.hcmp, D.hgi, D.hgl, D.hinb, D.hlen, D.hmi, D.hnt, D.hpl, D.hroom, D.hsub]; done) | rfl | (simp only [D.happ, D.har, D.hbnd, D.hcmp, D.hgi, D.hgl, D.hinb, D.hlen, D.hmi, D.hnt, D.hpl, D.hroom, D.hsub]; rfl))) ?_
                clear h; intro h; cbv
                obtain ⟨s', e, hi⟩ := jn_some (fun p => p) h
                refine hLy43 s' _ _ hi ⟨by kernel_rfl, ?_, ?_, by kernel_rfl, by kernel_rfl⟩ <;> cbv <;> (try (subst e; simp only [D.happ, D.har, D.hbnd, D.hcmp, D.hgi, D.hgl, D.hinb, D.hlen, D.hmi, D.hnt, D.hpl, D.hroom, D.hsub, and_self, and_true, true_and] <;> (repeat' apply And.intro) <;> rfl))
              · obtain ⟨s', e, hi⟩ := jn_some (fun p => p) h
                refine hLy43 s' _ _ hi ⟨by kernel_rfl, ?_, ?_, by kernel_rfl, by kernel_rfl⟩ <;> cbv <;> (try (subst e; simp only [D.happ, D.har, D.hbnd, D.hcmp, D.hgi, D.hgl, D.hinb, D.hlen, D.hmi, D.hnt, D.hpl, D.hroom, D.hsub, and_self, and_true, true_and] <;> (repeat' apply And.intro) <;> rfl))
            · refine R.brD h (by (first | (simp only [D.happ, D.har, D.hbnd, D.hcmp, D.hgi, D.hgl, D.hinb, D.hlen, D.hmi, D.hnt, D.hpl, D.hroom, D.hsub]; done) | rfl | (simp only [D.happ, D.har, D.hbnd, D.hcmp, D.hgi, D.hgl, D.hinb, D.hlen, D.hmi, D.hnt, D.hpl, D.hroom, D.hsub]; rfl))) ?_ ?_ <;> clear h <;> intro h <;> cbv
              · refine R.callD h (fun x45 hx45 h2 => ?_)
                clear h; have h := h2; clear h2
                refine R.call' (w25s _ _ _ _ _ _ _ _ _ _ hx45) (by (first | (simp only [D.happ, D.har, D.hbnd, D.hcmp, D.hgi, D.hgl, D.hinb, D.hlen, D.hmi, D.hnt, D.hpl, D.hroom, D.hsub]; done) | rfl | (simp only [D.happ, D.har, D.hbnd, D.hcmp, D.hgi, D.hgl, D.hinb, D.hlen, D.hmi, D.hnt, D.hpl, D.hroom, D.hsub]; rfl))) ?_
                clear hx45; cbv
                refine R.brD h (by (first | (simp only [D.happ, D.har, D.hbnd, D.hcmp, D.hgi, D.hgl, D.hinb, D.hlen, D.hmi, D.hnt, D.hpl, D.hroom, D.hsub]; done) | rfl | (simp only [D.happ, D.har, D.hbnd, D.hcmp, D.hgi, D.hgl, D.hinb, D.hlen, D.hmi, D.hnt, D.hpl, D.hroom, D.hsub]; rfl))) ?_ ?_ <;> clear h <;> intro h <;> cbv
                · obtain ⟨s', e, hi⟩ := jn_some (fun p => p) h
                  refine hLy43 s' _ _ hi ⟨by kernel_rfl, ?_, ?_, by kernel_rfl, by kernel_rfl⟩ <;> cbv <;> (try (subst e; simp only [D.happ, D.har, D.hbnd, D.hcmp, D.hgi, D.hgl, D.hinb, D.hlen, D.hmi, D.hnt, D.hpl, D.hroom, D.hsub, and_self, and_true, true_and] <;> (repeat' apply And.intro) <;> rfl))
                · obtain ⟨s', e, hi⟩ := jn_some (fun p => p) h
                  refine hLy43 s' _ _ hi ⟨by kernel_rfl, ?_, ?_, by kernel_rfl, by kernel_rfl⟩ <;> cbv <;> (try (subst e; simp only [D.happ, D.har, D.hbnd, D.hcmp, D.hgi, D.hgl, D.hinb, D.hlen, D.hmi, D.hnt, D.hpl, D.hroom, D.hsub, and_self, and_true, true_and] <;> (repeat' apply And.intro) <;> rfl))
              · refine R.callD h (fun x46 hx46 h2 => ?_)
                clear h; have h := h2; clear h2
                refine R.call' (w26s _ _ _ _ _ _ _ _ _ _ hx46) (by (first | (simp only [D.happ, D.har, D.hbnd, D.hcmp, D.hgi, D.hgl, D.hinb, D.hlen, D.hmi, D.hnt, D.hpl, D.hroom, D.hsub]; done) | rfl | (simp only [D.happ, D.har, D.hbnd, D.hcmp, D.hgi, D.hgl, D.hinb, D.hlen, D.hmi, D.hnt, D.hpl, D.hroom, D.hsub]; rfl))) ?_
                clear hx46; cbv
                refine R.brD h (by (first | (simp only [D.happ, D.har, D.hbnd, D.hcmp, D.hgi, D.hgl, D.hinb, D.hlen, D.hmi, D.hnt, D.hpl, D.hroom, D.hsub]; done) | rfl | (simp only [D.happ, D.har, D.hbnd, D.hcmp, D.hgi, D.hgl, D.hinb, D.hlen, D.hmi, D.hnt, D.hpl, D.hroom, D.hsub]; rfl))) ?_ ?_ <;> clear h <;> intro h <;> cbv
                · refine R.needD h (by (first | (simp only [D.happ, D.har, D.hbnd, D.hcmp, D.hgi, D.hgl, D.hinb, D.hlen, D.hmi, D.hnt, D.hpl, D.hroom, D.hsub]; done) | rfl | (simp only [D.happ, D.har, D.hbnd, D.hcmp, D.hgi, D.hgl, D.hinb, D.hlen, D.hmi, D.hnt, D.hpl, D.hroom, D.hsub]; rfl))) ?_
                  clear h; intro h; cbv
                  obtain ⟨s', e, hi⟩ := jn_some (fun p => p) h
                  refine hLy43 s' _ _ hi ⟨by kernel_rfl, ?_, ?_, by kernel_rfl, by kernel_rfl⟩ <;> cbv <;> (try (subst e; simp only [D.happ, D.har, D.hbnd, D.hcmp, D.hgi, D.hgl, D.hinb, D.hlen, D.hmi, D.hnt, D.hpl, D.hroom, D.hsub, and_self, and_true, true_and] <;> (repeat' apply And.intro) <;> rfl))
                · obtain ⟨s', e, hi⟩ := jn_some (fun p => p) h
                  refine hLy43 s' _ _ hi ⟨by kernel_rfl, ?_, ?_, by kernel_rfl, by kernel_rfl⟩ <;> cbv <;> (try (subst e; simp only [D.happ, D.har, D.hbnd, D.hcmp, D.hgi, D.hgl, D.hinb, D.hlen, D.hmi, D.hnt, D.hpl, D.hroom, D.hsub, and_self, and_true, true_and] <;> (repeat' apply And.intro) <;> rfl))
          · clear h; have h := h2; clear h2; try dsimp only at h
            cbv
            obtain ⟨s', e, hi⟩ := inl_some h hins33
            refine hLs33 s' _ _ hi ⟨by kernel_rfl, ?_, ?_, by kernel_rfl, by kernel_rfl⟩ <;> cbv <;> (try (subst e; simp only [D.happ, D.har, D.hbnd, D.hcmp, D.hgi, D.hgl, D.hinb, D.hlen, D.hmi, D.hnt, D.hpl, D.hroom, D.hsub, and_self, and_true, true_and] <;> (repeat' apply And.intro) <;> rfl))
        · have e := inr_some h houts33; clear h
          have h := hFs33; rw [e] at h; clear e; try dsimp only at h
          cbv
          obtain ⟨s', e, hi⟩ := jn_some (fun p => p) h
          refine hLy21 s' _ _ hi ⟨by kernel_rfl, ?_, ?_, by kernel_rfl, by kernel_rfl⟩ <;> cbv <;> (try (subst e; simp only [D.happ, D.har, D.hbnd, D.hcmp, D.hgi, D.hgl, D.hinb, D.hlen, D.hmi, D.hnt, D.hpl, D.hroom, D.hsub, and_self, and_true, true_and] <;> (repeat' apply And.intro) <;> rfl))
      · have e := inr_some h houts33; clear h
        have h := hFs33; rw [e] at h; clear e; try dsimp only at h
        cbv
        obtain ⟨s', e, hi⟩ := jn_some (fun p => p) h
        refine hLy21 s' _ _ hi ⟨by kernel_rfl, ?_, ?_, by kernel_rfl, by kernel_rfl⟩ <;> cbv <;> (try (subst e; simp only [D.happ, D.har, D.hbnd, D.hcmp, D.hgi, D.hgl, D.hinb, D.hlen, D.hmi, D.hnt, D.hpl, D.hroom, D.hsub, and_self, and_true, true_and] <;> (repeat' apply And.intro) <;> rfl))
    · as_aux_lemma =>
      clear h; have h := h2; clear h2; try dsimp only at h
      cbv
      refine R.callD h (fun x50 hx50 h2 => ?_)
      clear h; have h := h2; clear h2
      refine R.call' (w27s _ _ _ _ _ _ _ _ _ _ hx50) (by (first | (simp only [D.happ, D.har, D.hbnd, D.hcmp, D.hgi, D.hgl, D.hinb, D.hlen, D.hmi, D.hnt, D.hpl, D.hroom, D.hsub]; done) | rfl | (simp only [D.happ, D.har, D.hbnd, D.hcmp, D.hgi, D.hgl, D.hinb, D.hlen, D.hmi, D.hnt, D.hpl, D.hroom, D.hsub]; rfl))) ?_
      clear hx50; cbv
      refine R.callD h (fun x51 hx51 h2 => ?_)
      clear h; have h := h2; clear h2
      refine R.call' (w17s _ _ _ _ _ _ _ _ _ _ hx51) (by (first | (simp only [D.happ, D.har, D.hbnd, D.hcmp, D.hgi, D.hgl, D.hinb, D.hlen, D.hmi, D.hnt, D.hpl, D.hroom, D.hsub]; done) | rfl | (simp only [D.happ, D.har, D.hbnd, D.hcmp, D.hgi, D.hgl, D.hinb, D.hlen, D.hmi, D.hnt, D.hpl, D.hroom, D.hsub]; rfl))) ?_
      clear hx51; cbv
      refine R.cut' (by kernel_rfl) (by kernel_rfl) ?_
      cbv
      refine R.cut' (by kernel_rfl) (by kernel_rfl) ?_
      cbv
      refine R.brD h (by (first | (simp only [D.happ, D.har, D.hbnd, D.hcmp, D.hgi, D.hgl, D.hinb, D.hlen, D.hmi, D.hnt, D.hpl, D.hroom, D.hsub]; done) | rfl | (simp only [D.happ, D.har, D.hbnd, D.hcmp, D.hgi, D.hgl, D.hinb, D.hlen, D.hmi, D.hnt, D.hpl, D.hroom, D.hsub]; rfl))) ?_ ?_ <;> clear h <;> intro h <;> cbv
      · have e := ret_some h; clear h
        refine hK _ _ ?_
        cbv
        try (subst e; simp only [D.happ, D.har, D.hbnd, D.hcmp, D.hgi, D.hgl, D.hinb, D.hlen, D.hmi, D.hnt, D.hpl, D.hroom, D.hsub, and_self, and_true, true_and] <;> (repeat' apply And.intro) <;> rfl)
      · as_aux_lemma =>
        refine R.brD h (by (first | (simp only [D.happ, D.har, D.hbnd, D.hcmp, D.hgi, D.hgl, D.hinb, D.hlen, D.hmi, D.hnt, D.hpl, D.hroom, D.hsub]; done) | rfl | (simp only [D.happ, D.har, D.hbnd, D.hcmp, D.hgi, D.hgl, D.hinb, D.hlen, D.hmi, D.hnt, D.hpl, D.hroom, D.hsub]; rfl))) ?_ ?_ <;> clear h <;> intro h <;> cbv
        · have e := ret_some h; clear h
          refine hK _ _ ?_
          cbv
          try (subst e; simp only [D.happ, D.har, D.hbnd, D.hcmp, D.hgi, D.hgl, D.hinb, D.hlen, D.hmi, D.hnt, D.hpl, D.hroom, D.hsub, and_self, and_true, true_and] <;> (repeat' apply And.intro) <;> rfl)
        · as_aux_lemma =>
          refine R.needD h (by (first | (simp only [D.happ, D.har, D.hbnd, D.hcmp, D.hgi, D.hgl, D.hinb, D.hlen, D.hmi, D.hnt, D.hpl, D.hroom, D.hsub]; done) | rfl | (simp only [D.happ, D.har, D.hbnd, D.hcmp, D.hgi, D.hgl, D.hinb, D.hlen, D.hmi, D.hnt, D.hpl, D.hroom, D.hsub]; rfl))) ?_
          clear h; intro h; cbv
          refine R.cutB Sum.inl (fun _ _ e => Sum.inl.inj e) h [159] (fun p99 => [(25, .i .i64 p99)]) (fun p99 => []) (by kernel_rfl) (by kernel_rfl) (fun y70 hy hFy70 L hLy70 => ?_) (fun p99 h2 => ?_)
          · clear h; have h := hy; clear hy; cbv
            refine R.loopD h (fun s0 y88 e0 hi hFs79 => ?_)
            clear h
            refine R.loopI hi [159] (fun s79 => [(25, .i .i64 s79.1), (26, .i .i64 s79.2)]) (fun s79 => []) ⟨by kernel_rfl, ?_, ?_, by kernel_rfl, by kernel_rfl⟩ (by kernel_rfl) ?_
            · cbv; try (subst e0; simp only [D.happ, D.har, D.hbnd, D.hcmp, D.hgi, D.hgl, D.hinb, D.hlen, D.hmi, D.hnt, D.hpl, D.hroom, D.hsub, and_self, and_true, true_and] <;> (repeat' apply And.intro) <;> rfl)
            · cbv; try (subst e0; simp only [D.happ, D.har, D.hbnd, D.hcmp, D.hgi, D.hgl, D.hinb, D.hlen, D.hmi, D.hnt, D.hpl, D.hroom, D.hsub, and_self, and_true, true_and] <;> (repeat' apply And.intro) <;> rfl)
            clear hi e0
            intro s79 m y' hy hins79 houts79 L hLs79
            have h := hy; clear hy; unfold d8_b2 at h
            cbv
            refine R.cut' (by kernel_rfl) (by kernel_rfl) ?_
            cbv
            refine R.brD h (by (first | (simp only [D.happ, D.har, D.hbnd, D.hcmp, D.hgi, D.hgl, D.hinb, D.hlen, D.hmi, D.hnt, D.hpl, D.hroom, D.hsub]; done) | rfl | (simp only [D.happ, D.har, D.hbnd, D.hcmp, D.hgi, D.hgl, D.hinb, D.hlen, D.hmi, D.hnt, D.hpl, D.hroom, D.hsub]; rfl))) ?_ ?_ <;> clear h <;> intro h <;> cbv
            · refine R.cut' (by kernel_rfl) (by kernel_rfl) ?_
              cbv
              refine R.needD h (by (first | (simp only [D.happ, D.har, D.hbnd, D.hcmp, D.hgi, D.hgl, D.hinb, D.hlen, D.hmi, D.hnt, D.hpl, D.hroom, D.hsub]; done) | rfl | (simp only [D.happ, D.har, D.hbnd, D.hcmp, D.hgi, D.hgl, D.hinb, D.hlen, D.hmi, D.hnt, D.hpl, D.hroom, D.hsub]; rfl))) ?_
              clear h; intro h; cbv
              refine R.cut' (by kernel_rfl) (by kernel_rfl) ?_
              cbv
              refine R.cut' (by kernel_rfl) (by kernel_rfl) ?_
              cbv
              refine R.brD h (by (first | (simp only [D.happ, D.har, D.hbnd, D.hcmp, D.hgi, D.hgl, D.hinb, D.hlen, D.hmi, D.hnt, D.hpl, D.hroom, D.hsub]; done) | rfl | (simp only [D.happ, D.har, D.hbnd, D.hcmp, D.hgi, D.hgl, D.hinb, D.hlen, D.hmi, D.hnt, D.hpl, D.hroom, D.hsub]; rfl))) ?_ ?_ <;> clear h <;> intro h <;> cbv
              · have e := inr_some h houts79; clear h
                have h := hFs79; rw [e] at h; clear e; try dsimp only at h
                cbv
                have e := ret_some h; clear h
                have h := hFy70; rw [e] at h; clear e; try dsimp only at h
                cbv
                have e := ret_some h; clear h
                refine hK _ _ ?_
                cbv
                try (subst e; simp only [D.happ, D.har, D.hbnd, D.hcmp, D.hgi, D.hgl, D.hinb, D.hlen, D.hmi, D.hnt, D.hpl, D.hroom, D.hsub, and_self, and_true, true_and] <;> (repeat' apply And.intro) <;> rfl)
              · refine R.needD h (by (first | (simp only [D.happ, D.har, D.hbnd, D.hcmp, D.hgi, D.hgl, D.hinb, D.hlen, D.hmi, D.hnt, D.hpl, D.hroom, D.hsub]; done) | rfl | (simp only [D.happ, D.har, D.hbnd, D.hcmp, D.hgi, D.hgl, D.hinb, D.hlen, D.hmi, D.hnt, D.hpl, D.hroom, D.hsub]; rfl))) ?_
                clear h; intro h; cbv
                refine R.needD h (by (first | (simp only [D.happ, D.har, D.hbnd, D.hcmp, D.hgi, D.hgl, D.hinb, D.hlen, D.hmi, D.hnt, D.hpl, D.hroom, D.hsub]; done) | rfl | (simp only [D.happ, D.har, D.hbnd, D.hcmp, D.hgi, D.hgl, D.hinb, D.hlen, D.hmi, D.hnt, D.hpl, D.hroom, D.hsub]; rfl))) ?_
                clear h; intro h; cbv
                refine R.callD h (fun x96 hx96 h2 => ?_)
                clear h; have h := h2; clear h2
                refine R.call' (w18 _ _ _ hx96) (by (first | (simp only [D.happ, D.har, D.hbnd, D.hcmp, D.hgi, D.hgl, D.hinb, D.hlen, D.hmi, D.hnt, D.hpl, D.hroom, D.hsub]; done) | rfl | (simp only [D.happ, D.har, D.hbnd, D.hcmp, D.hgi, D.hgl, D.hinb, D.hlen, D.hmi, D.hnt, D.hpl, D.hroom, D.hsub]; rfl))) ?_
                clear hx96; cbv
                refine R.brD h (by (first | (simp only [D.happ, D.har, D.hbnd, D.hcmp, D.hgi, D.hgl, D.hinb, D.hlen, D.hmi, D.hnt, D.hpl, D.hroom, D.hsub]; done) | rfl | (simp only [D.happ, D.har, D.hbnd, D.hcmp, D.hgi, D.hgl, D.hinb, D.hlen, D.hmi, D.hnt, D.hpl, D.hroom, D.hsub]; rfl))) ?_ ?_ <;> clear h <;> intro h <;> cbv
                · have e := inr_some h houts79; clear h
                  have h := hFs79; rw [e] at h; clear e; try dsimp only at h
                  cbv
                  have e := ret_some h; clear h
                  have h := hFy70; rw [e] at h; clear e; try dsimp only at h
                  cbv
                  have e := ret_some h; clear h
                  refine hK _ _ ?_
                  cbv
                  try (subst e; simp only [D.happ, D.har, D.hbnd, D.hcmp, D.hgi, D.hgl, D.hinb, D.hlen, D.hmi, D.hnt, D.hpl, D.hroom, D.hsub, and_self, and_true, true_and] <;> (repeat' apply And.intro) <;> rfl)
                · refine R.needD h (by (first | (simp only [D.happ, D.har, D.hbnd, D.hcmp, D.hgi, D.hgl, D.hinb, D.hlen, D.hmi, D.hnt, D.hpl, D.hroom, D.hsub]; done) | rfl | (simp only [D.happ, D.har, D.hbnd, D.hcmp, D.hgi, D.hgl, D.hinb, D.hlen, D.hmi, D.hnt, D.hpl, D.hroom, D.hsub]; rfl))) ?_
                  clear h; intro h; cbv
                  obtain ⟨s', e, hi⟩ := inl_some h hins79
                  refine hLs79 s' _ _ hi ⟨by kernel_rfl, ?_, ?_, by kernel_rfl, by kernel_rfl⟩ <;> cbv <;> (try (subst e; simp only [D.happ, D.har, D.hbnd, D.hcmp, D.hgi, D.hgl, D.hinb, D.hlen, D.hmi, D.hnt, D.hpl, D.hroom, D.hsub, and_self, and_true, true_and] <;> (repeat' apply And.intro) <;> rfl))
            · have e := inr_some h houts79; clear h
              have h := hFs79; rw [e] at h; clear e; try dsimp only at h
              cbv
              obtain ⟨s', e, hi⟩ := jn_some Sum.inl h
              refine hLy70 s' _ _ hi ⟨by kernel_rfl, ?_, ?_, by kernel_rfl, by kernel_rfl⟩ <;> cbv <;> (try (subst e; simp only [D.happ, D.har, D.hbnd, D.hcmp, D.hgi, D.hgl, D.hinb, D.hlen, D.hmi, D.hnt, D.hpl, D.hroom, D.hsub, and_self, and_true, true_and] <;> (repeat' apply And.intro) <;> rfl))
          · clear h; have h := h2; clear h2; try dsimp only at h
            cbv
            refine R.cut' (by kernel_rfl) (by kernel_rfl) ?_
            cbv
            refine R.brD h (by (first | (simp only [D.happ, D.har, D.hbnd, D.hcmp, D.hgi, D.hgl, D.hinb, D.hlen, D.hmi, D.hnt, D.hpl, D.hroom, D.hsub]; done) | rfl | (simp only [D.happ, D.har, D.hbnd, D.hcmp, D.hgi, D.hgl, D.hinb, D.hlen, D.hmi, D.hnt, D.hpl, D.hroom, D.hsub]; rfl))) ?_ ?_ <;> clear h <;> intro h <;> cbv
            · have e := ret_some h; clear h
              refine hK _ _ ?_
              cbv
              try (subst e; simp only [D.happ, D.har, D.hbnd, D.hcmp, D.hgi, D.hgl, D.hinb, D.hlen, D.hmi, D.hnt, D.hpl, D.hroom, D.hsub, and_self, and_true, true_and] <;> (repeat' apply And.intro) <;> rfl)
            · have e := ret_some h; clear h
              refine hK _ _ ?_
              cbv
              try (subst e; simp only [D.happ, D.har, D.hbnd, D.hcmp, D.hgi, D.hgl, D.hinb, D.hlen, D.hmi, D.hnt, D.hpl, D.hroom, D.hsub, and_self, and_true, true_and] <;> (repeat' apply And.intro) <;> rfl)
end Go.Proofs.Ytdejapkfijdadaa

end
section
/- The one statement over its function that the law BufferDelivered comes to. Conditions: none. -/
-- Told by a program of this seat's session. Not trusted: Lean checks it.

namespace Go.Proofs.Ytdejapkfijdadaa
open Go.Ab Go.RowKit
def BufferDelivered.Claim : Prop := ∀ (x0 : (List (Int × (Int × (Int × (List Int)))))) (x1 : Int), (fun l : List (Int × (Int × (Int × (List Int)))) => l.length ≤ maxLen ∧ ∀ x ∈ l, (fun x : (Int × (Int × (Int × (List Int)))) => (fun n : Int => (Lit.int .i64 n).wf = true) x.1 ∧ (fun x : (Int × (Int × (List Int))) => (fun n : Int => (Lit.int .i64 n).wf = true) x.1 ∧ (fun x : (Int × (List Int)) => (fun n : Int => (Lit.int .i64 n).wf = true) x.1 ∧ (fun l : List Int => l.length ≤ maxLen ∧ ∀ x ∈ l, (fun n : Int => (Lit.int .u8 n).wf = true) x) x.2) x.2) x.2) x) x0 → (fun n : Int => (Lit.int .i64 n).wf = true) x1 → Ab.Fn Try.prog TT 8 [.sl 58 (x0.map (fun x : (Int × (Int × (Int × (List Int)))) => .agg [.i .i64 x.1, .i .i64 x.2.1, .i .i64 x.2.2.1, .sl 5 (x.2.2.2.map (fun x : Int => .i .u8 x))])), .i .i64 x1] (.b true) []
end Go.Proofs.Ytdejapkfijdadaa
end
section
/- The law BufferDelivered by the calculus. Conditions: none. -/

namespace Go.Proofs.Ytdejapkfijdadaa
open Go.Ab Go.RowKit
theorem BufferDelivered.pure : BufferDelivered.Claim := by
  intro x0 x1 h0 h1
  rw [map_a]
  exact w8 _ _ true (pl8 _ (ok_a (fun x hx => ((h0.2 x hx).2.2.2).2)) x1)
end Go.Proofs.Ytdejapkfijdadaa
end
section
/- BufferDelivered: the law's call returns true for every input, and its arguments read afterwards as_ before. Conditions: none. -/
-- Told by a program of this seat's session. Not trusted: Lean checks it.

namespace Go.Proofs.Ytdejapkfijdadaa.bufferDelivered
open Go.ChangeShapes Go.WideShapes Go.ChangeAt Go.RowKit Go.Ab Go.Proofs.Ytdejapkfijdadaa
open Go.ChangeMaps (open_string shut_string)
theorem own : ownKnob Try.prog.godebug = none := by kernel_rfl
theorem laidOut : laidOutB Try.prog = true := by kernel_rfl
set_option maxRecDepth 100000 in
set_option maxHeartbeats 8000000 in
theorem lifted (os : Os) (started : os.Started) (H : Type) (enc : TypeId × Value → H) :
    ReturnsInHanded {} Try.checked os 8 .any (Rows.bufferDeliveredSpec.pre6 enc Try.prog Try.f8 Rows.bufferDeliveredRow.domain false) (Rows.bufferDeliveredSpec.post enc Try.prog Try.f8 false true false false) := by
  refine returnsInHanded_of_change_sized (C := Try.checked) own started (by kernel_rfl) Try.func8
    (ChangeSpec.witness6 (enc := enc) (C := Try.checked) false ⟨#[], #[.slice none 0 0, .int .i64 0], []⟩ 8 (by kernel_rfl) (by kernel_rfl) (by kernel_rfl) (by kernel_rfl)) ?_
  intro W base args ds gs before hval0 hW hcnd hsz0 _
  have hval : ∀ (j : Nat) t v, Try.f8.params[j]? = some t → args[j]? = some v → Value.okWide Try.prog W .any base t v := hval0
  have hW' := hW
  obtain ⟨p, q, hA0, hV, rfl, hfz, hnd⟩ := hW
  have hA : DataW.TrodAll enc Try.prog W 0 (fun _ => true) true Try.f8.params.toList args.toList ds p := hA0
  rw [Try.params8] at hA hval
  obtain ⟨v0, vs0, d0, ds0, p0, q0, hargs, rfl, rfl, h0, r0⟩ := trodAll_cons hA
  obtain ⟨v1, vs1, d1, ds1, p1, q1, rfl, rfl, rfl, h1, r1⟩ := trodAll_cons r0
  obtain ⟨rfl, rfl, rfl⟩ := trodAll_nil r1
  obtain rfl : args = #[v0, v1] := by cases args; simp_all
  obtain ⟨rfl, rfl⟩ := trodVars_none hV
  have k0 := h0
  have lt0 : ∀ x ∈ p0, x.block < W.heap.size := by obtain ⟨m, hm⟩ := k0; exact DataW.trod_lt m _ _ _ hm
  obtain ⟨aa0, ll0, cc0, rfl⟩ := okWide_slice Try.underlying55 (hval 0 55 v0 rfl rfl)
  obtain ⟨x0, ra0, rb0, _, ok0⟩ := h0.elim fun fuel hf => ((OpV.slice tok (fun x : (Int × (Int × (Int × (List Int)))) => .agg [.i .i64 x.1, .i .i64 x.2.1, .i .i64 x.2.2.1, .sl 5 (x.2.2.2.map (fun x : Int => .i .u8 x))]) (te := te55) (eu := te58) (by kernel_rfl) rfl (by kernel_rfl) (by decide) (by kernel_rfl) (.inl ⟨by kernel_rfl, by kernel_rfl, fun _ => rfl⟩) (OpV.struct tok (te := te58) (by kernel_rfl) rfl (by kernel_rfl) (OpAt.cons rfl (by kernel_rfl) (OpV.int tok (e := te3) (by kernel_rfl) rfl) (OpAt.last rfl (by kernel_rfl) (OpV.struct tok (te := te33) (by kernel_rfl) rfl (by kernel_rfl) (OpAt.cons rfl (by kernel_rfl) (OpV.int tok (e := te3) (by kernel_rfl) rfl) (OpAt.cons rfl (by kernel_rfl) (OpV.int tok (e := te2) (by kernel_rfl) rfl) (OpAt.last rfl (by kernel_rfl) (OpV.slice tok (fun x : Int => .i .u8 x) (te := te24) (eu := te5) (by kernel_rfl) rfl (by kernel_rfl) (by decide) (by kernel_rfl) (.inr ⟨by kernel_rfl, rfl, fun _ => rfl⟩) (OpV.int tok (e := te5) (by kernel_rfl) rfl)))))))))) : OpV TT enc Try.prog W 55 _ _ _) _ _ _ hf
  obtain ⟨x1, rfl, rfl, rfl, u1⟩ := open_int Try.underlying3 (hval 1 3 v1 rfl rfl) h1
  clear hA0 hval0 hsz0
  refine (law_calls (w := W) ⟨_, _, Try.func8, by kernel_rfl, w8_h⟩ (BufferDelivered.pure x0 x1 ok0 u1) (gok W) (args_one ra0 (args_i x1 args_nil))).mono fun e W' ⟨he, bel⟩ => ?_
  subst he
  exact ⟨_, rfl, _, _, _, [], _, [], hW', trodAll_mk1 (shut_bool Try.underlying4 _), (trodAll_cons_mk (Below.trod laidOut (by kernel_rfl) (of_decide_eq_true (by kernel_rfl)) k0 bel lt0) (trodAll_cons_mk (shut_int Try.underlying3 u1) trodAll_mk0)), rfl, bel.frame _, fun h => by cases h⟩
theorem over : Rows.bufferDeliveredRow.holds Try.pinned (OpenSpec.ofChange Rows.bufferDeliveredSpec) :=
  OpenClaim.holds_of_wide 8 Try.f8 rfl rfl rfl rfl rfl rfl rfl ⟨rfl, rfl, rfl, rfl, rfl⟩ rfl rfl rfl rfl rfl (by kernel_rfl) Try.func8 (by kernel_rfl)
    (of_decide_eq_true (by kernel_rfl)) (by unfold Func.isWrapper; first | (rw [if_pos (by decide +kernel)]; kernel_rfl) | (rw [if_neg (by decide +kernel)]; exact ⟨rfl, rfl⟩))
    (fun os started H enc _ => lifted os started H enc)
theorem proved : Rows.BufferDeliveredSaid := over
end Go.Proofs.Ytdejapkfijdadaa.bufferDelivered
namespace Go.Proofs.Ytdejapkfijdadaa
theorem bufferDelivered_holds : Rows.BufferDeliveredSaid := bufferDelivered.proved
end Go.Proofs.Ytdejapkfijdadaa
end
