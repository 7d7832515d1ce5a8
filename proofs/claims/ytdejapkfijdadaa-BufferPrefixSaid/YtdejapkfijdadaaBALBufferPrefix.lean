/- The law BufferPrefix: its function's walk, the pure law, the row. Conditions: none. -/
import Derived.Test.YtdejapkfijdadaaRows
import Derived.WalkKit
import Derived.ProofKit
import Derived.OpenShut
import Derived.ShutString
import Derived.ChangeOld
import Derived.Below
import Derived.SizedLaws
import Derived.Carry
import Derived.Test.YtdejapkfijdadaaBA5
set_option linter.unusedVariables false
set_option linter.unusedSimpArgs false
section
namespace Go.Proofs.Ytdejapkfijdadaa
open Go.Ab Go.RowKit 
set_option maxRecDepth 100000
set_option maxHeartbeats 40000000
noncomputable def w4_c : Code := (Try.f4.body).getD .skip
theorem w4_h : Try.f4.body = some w4_c := by kernel_rfl
theorem w4 (a0 : List V) (a1 : Int) (a2 : Bool) (r : Bool) (h : d4 a0 a1 a2 = some r) : Ab.Fn Try.prog TT 4 [.sl 33 a0, .i .i64 a1, .b a2] (.b r) [] := by
  refine fn_pure tok (fun r => match r with | 14 => [[],[],[],[1,2],[1,2,3],[0,1,2,3,4],[0,1,2,3,4,5],[0,1,2,3,4,5,6],[0,1,2,3,4,5,6],[0,1,2,3,4,5,6],[],[0,1,2,3,4,5,6,7,10],[0,1,2,3,4,5,6,7,8,10,11],[0,1,2,3,4,5,6,7,8,9,10,11,12]] | _ => []) Try.func4 (by kernel_rfl) w4_h (by kernel_rfl) ?_
  intro ar un cv mn mx pl mi cmp nt beq an scmp cat slen sbyte ssub ofB toB len gi gb gs gl sub put app ovl rep ne0 ge0 inb bnd room sroom need br call callb loop cut nl E R K hK
  have D := E.D
  clear E
  unfold d4 at h
  cbv
  refine R.callD h (fun x1 hx1 h2 => ?_)
  clear h; have h := h2; clear h2
  refine R.call' (w14 _ hx1) (by (first | (simp only [D.har, D.hbeq, D.hbnd, D.hcmp, D.hgi, D.hgl, D.hinb, D.hlen, D.hnt, D.hsub]; done) | rfl | (simp only [D.har, D.hbeq, D.hbnd, D.hcmp, D.hgi, D.hgl, D.hinb, D.hlen, D.hnt, D.hsub]; rfl))) ?_
  clear hx1; cbv
  refine R.cutB (fun p => p) (fun _ _ e => e) h [] (fun p3 => [(8, .i .i64 p3)]) (fun p3 => []) (by kernel_rfl) (by kernel_rfl) (fun y2 hy hFy2 L hLy2 => ?_) (fun p3 h2 => ?_)
  · clear h; have h := hy; clear hy; cbv
    refine R.brD h (by (first | (simp only [D.har, D.hbeq, D.hbnd, D.hcmp, D.hgi, D.hgl, D.hinb, D.hlen, D.hnt, D.hsub]; done) | rfl | (simp only [D.har, D.hbeq, D.hbnd, D.hcmp, D.hgi, D.hgl, D.hinb, D.hlen, D.hnt, D.hsub]; rfl))) ?_ ?_ <;> clear h <;> intro h <;> cbv
    · obtain ⟨s', e, hi⟩ := jn_some (fun p => p) h
      refine hLy2 s' _ _ hi ⟨by kernel_rfl, ?_, ?_, by kernel_rfl, by kernel_rfl⟩ <;> cbv <;> (try (subst e; simp only [D.har, D.hbeq, D.hbnd, D.hcmp, D.hgi, D.hgl, D.hinb, D.hlen, D.hnt, D.hsub, and_self, and_true, true_and] <;> (repeat' apply And.intro) <;> rfl))
    · obtain ⟨s', e, hi⟩ := jn_some (fun p => p) h
      refine hLy2 s' _ _ hi ⟨by kernel_rfl, ?_, ?_, by kernel_rfl, by kernel_rfl⟩ <;> cbv <;> (try (subst e; simp only [D.har, D.hbeq, D.hbnd, D.hcmp, D.hgi, D.hgl, D.hinb, D.hlen, D.hnt, D.hsub, and_self, and_true, true_and] <;> (repeat' apply And.intro) <;> rfl))
  · as_aux_lemma =>
    clear h; have h := h2; clear h2; try dsimp only at h
    cbv
    refine R.callD h (fun x4 hx4 h2 => ?_)
    clear h; have h := h2; clear h2
    refine R.call' (w15s _ _ _ hx4) (by (first | (simp only [D.har, D.hbeq, D.hbnd, D.hcmp, D.hgi, D.hgl, D.hinb, D.hlen, D.hnt, D.hsub]; done) | rfl | (simp only [D.har, D.hbeq, D.hbnd, D.hcmp, D.hgi, D.hgl, D.hinb, D.hlen, D.hnt, D.hsub]; rfl))) ?_
    clear hx4; cbv
    refine R.cut' (by kernel_rfl) (by kernel_rfl) ?_
    cbv
    refine R.brD h (by (first | (simp only [D.har, D.hbeq, D.hbnd, D.hcmp, D.hgi, D.hgl, D.hinb, D.hlen, D.hnt, D.hsub]; done) | rfl | (simp only [D.har, D.hbeq, D.hbnd, D.hcmp, D.hgi, D.hgl, D.hinb, D.hlen, D.hnt, D.hsub]; rfl))) ?_ ?_ <;> clear h <;> intro h <;> cbv
    · have e := ret_some h; clear h
      refine hK _ _ ?_
      cbv
      try (subst e; simp only [D.har, D.hbeq, D.hbnd, D.hcmp, D.hgi, D.hgl, D.hinb, D.hlen, D.hnt, D.hsub, and_self, and_true, true_and] <;> (repeat' apply And.intro) <;> rfl)
    · as_aux_lemma =>
      refine R.callD h (fun x5 hx5 h2 => ?_)
      clear h; have h := h2; clear h2
      refine R.call' (w19s _ _ _ hx5) (by (first | (simp only [D.har, D.hbeq, D.hbnd, D.hcmp, D.hgi, D.hgl, D.hinb, D.hlen, D.hnt, D.hsub]; done) | rfl | (simp only [D.har, D.hbeq, D.hbnd, D.hcmp, D.hgi, D.hgl, D.hinb, D.hlen, D.hnt, D.hsub]; rfl))) ?_
      clear hx5; cbv
      refine R.cutB Sum.inl (fun _ _ e => Sum.inl.inj e) h [] (fun p83 => [(13, .i .i64 p83.1)]) (fun p83 => [(144, .cells 26 [.i .i64 p83.2.1, .sl 5 p83.2.2.1, .i .i64 p83.2.2.2.1, .i .i64 p83.2.2.2.2.1, .i .i64 p83.2.2.2.2.2.1, .i .i64 p83.2.2.2.2.2.2.1, .sl 5 p83.2.2.2.2.2.2.2.1, .i .i64 p83.2.2.2.2.2.2.2.2.1, .b p83.2.2.2.2.2.2.2.2.2])]) (by kernel_rfl) (by kernel_rfl) (fun y38 hy hFy38 L hLy38 => ?_) (fun p83 h2 => ?_)
      · as_aux_lemma =>
        clear h; have h := hy; clear hy; cbv
        refine R.loopD h (fun s0 y70 e0 hi hFs59 => ?_)
        clear h
        refine R.loopI hi [] (fun s59 => [(13, .i .i64 s59.1), (14, .i .i64 s59.2.1), (15, .i .i64 s59.2.2.1)]) (fun s59 => [(144, .cells 26 [.i .i64 s59.2.2.2.1, .sl 5 s59.2.2.2.2.1, .i .i64 s59.2.2.2.2.2.1, .i .i64 s59.2.2.2.2.2.2.1, .i .i64 s59.2.2.2.2.2.2.2.1, .i .i64 s59.2.2.2.2.2.2.2.2.1, .sl 5 s59.2.2.2.2.2.2.2.2.2.1, .i .i64 s59.2.2.2.2.2.2.2.2.2.2.1, .b s59.2.2.2.2.2.2.2.2.2.2.2])]) ⟨by kernel_rfl, ?_, ?_, by kernel_rfl, by kernel_rfl⟩ (by kernel_rfl) ?_
        · cbv; try (subst e0; simp only [D.har, D.hbeq, D.hbnd, D.hcmp, D.hgi, D.hgl, D.hinb, D.hlen, D.hnt, D.hsub, and_self, and_true, true_and] <;> (repeat' apply And.intro) <;> rfl)
        · cbv; try (subst e0; simp only [D.har, D.hbeq, D.hbnd, D.hcmp, D.hgi, D.hgl, D.hinb, D.hlen, D.hnt, D.hsub, and_self, and_true, true_and] <;> (repeat' apply And.intro) <;> rfl)
        clear hi e0
        intro s59 m y' hy hins59 houts59 L hLs59
        have h := hy; clear hy; unfold d4_b1 at h
        cbv
        refine R.cut' (by kernel_rfl) (by kernel_rfl) ?_
        cbv
        refine R.brD h (by (first | (simp only [D.har, D.hbeq, D.hbnd, D.hcmp, D.hgi, D.hgl, D.hinb, D.hlen, D.hnt, D.hsub]; done) | rfl | (simp only [D.har, D.hbeq, D.hbnd, D.hcmp, D.hgi, D.hgl, D.hinb, D.hlen, D.hnt, D.hsub]; rfl))) ?_ ?_ <;> clear h <;> intro h <;> cbv
        · as_aux_lemma =>
          refine R.cut' (by kernel_rfl) (by kernel_rfl) ?_
          cbv
          refine R.needD h (by (first | (simp only [D.har, D.hbeq, D.hbnd, D.hcmp, D.hgi, D.hgl, D.hinb, D.hlen, D.hnt, D.hsub]; done) | rfl | (simp only [D.har, D.hbeq, D.hbnd, D.hcmp, D.hgi, D.hgl, D.hinb, D.hlen, D.hnt, D.hsub]; rfl))) ?_
          clear h; intro h; cbv
          refine R.callD h (fun x76 hx76 h2 => ?_)
          clear h; have h := h2; clear h2
          refine R.call' (w16s _ _ _ _ _ _ _ _ _ _ _ _ _ hx76) (by (first | (simp only [D.har, D.hbeq, D.hbnd, D.hcmp, D.hgi, D.hgl, D.hinb, D.hlen, D.hnt, D.hsub]; done) | rfl | (simp only [D.har, D.hbeq, D.hbnd, D.hcmp, D.hgi, D.hgl, D.hinb, D.hlen, D.hnt, D.hsub]; rfl))) ?_
          clear hx76; cbv
          refine R.cut' (by kernel_rfl) (by kernel_rfl) ?_
          cbv
          refine R.brD h (by (first | (simp only [D.har, D.hbeq, D.hbnd, D.hcmp, D.hgi, D.hgl, D.hinb, D.hlen, D.hnt, D.hsub]; done) | rfl | (simp only [D.har, D.hbeq, D.hbnd, D.hcmp, D.hgi, D.hgl, D.hinb, D.hlen, D.hnt, D.hsub]; rfl))) ?_ ?_ <;> clear h <;> intro h <;> cbv
          · have e := inr_some h houts59; clear h
            have h := hFs59; rw [e] at h; clear e; try dsimp only at h
            cbv
            have e := ret_some h; clear h
            have h := hFy38; rw [e] at h; clear e; try dsimp only at h
            cbv
            have e := ret_some h; clear h
            refine hK _ _ ?_
            cbv
            try (subst e; simp only [D.har, D.hbeq, D.hbnd, D.hcmp, D.hgi, D.hgl, D.hinb, D.hlen, D.hnt, D.hsub, and_self, and_true, true_and] <;> (repeat' apply And.intro) <;> rfl)
          · refine R.cut' (by kernel_rfl) (by kernel_rfl) ?_
            cbv
            refine R.cutB (fun p => p) (fun _ _ e => e) h [] (fun p80 => [(68, .b p80)]) (fun p80 => []) (by kernel_rfl) (by kernel_rfl) (fun y79 hy hFy79 L hLy79 => ?_) (fun p80 h2 => ?_)
            · clear h; have h := hy; clear hy; cbv
              refine R.brD h (by (first | (simp only [D.har, D.hbeq, D.hbnd, D.hcmp, D.hgi, D.hgl, D.hinb, D.hlen, D.hnt, D.hsub]; done) | rfl | (simp only [D.har, D.hbeq, D.hbnd, D.hcmp, D.hgi, D.hgl, D.hinb, D.hlen, D.hnt, D.hsub]; rfl))) ?_ ?_ <;> clear h <;> intro h <;> cbv
              · refine R.needD h (by (first | (simp only [D.har, D.hbeq, D.hbnd, D.hcmp, D.hgi, D.hgl, D.hinb, D.hlen, D.hnt, D.hsub]; done) | rfl | (simp only [D.har, D.hbeq, D.hbnd, D.hcmp, D.hgi, D.hgl, D.hinb, D.hlen, D.hnt, D.hsub]; rfl))) ?_
                clear h; intro h; cbv
                obtain ⟨s', e, hi⟩ := jn_some (fun p => p) h
                refine hLy79 s' _ _ hi ⟨by kernel_rfl, ?_, ?_, by kernel_rfl, by kernel_rfl⟩ <;> cbv <;> (try (subst e; simp only [D.har, D.hbeq, D.hbnd, D.hcmp, D.hgi, D.hgl, D.hinb, D.hlen, D.hnt, D.hsub, and_self, and_true, true_and] <;> (repeat' apply And.intro) <;> rfl))
              · obtain ⟨s', e, hi⟩ := jn_some (fun p => p) h
                refine hLy79 s' _ _ hi ⟨by kernel_rfl, ?_, ?_, by kernel_rfl, by kernel_rfl⟩ <;> cbv <;> (try (subst e; simp only [D.har, D.hbeq, D.hbnd, D.hcmp, D.hgi, D.hgl, D.hinb, D.hlen, D.hnt, D.hsub, and_self, and_true, true_and] <;> (repeat' apply And.intro) <;> rfl))
            · clear h; have h := h2; clear h2; try dsimp only at h
              cbv
              refine R.brD h (by (first | (simp only [D.har, D.hbeq, D.hbnd, D.hcmp, D.hgi, D.hgl, D.hinb, D.hlen, D.hnt, D.hsub]; done) | rfl | (simp only [D.har, D.hbeq, D.hbnd, D.hcmp, D.hgi, D.hgl, D.hinb, D.hlen, D.hnt, D.hsub]; rfl))) ?_ ?_ <;> clear h <;> intro h <;> cbv
              · refine R.needD h (by (first | (simp only [D.har, D.hbeq, D.hbnd, D.hcmp, D.hgi, D.hgl, D.hinb, D.hlen, D.hnt, D.hsub]; done) | rfl | (simp only [D.har, D.hbeq, D.hbnd, D.hcmp, D.hgi, D.hgl, D.hinb, D.hlen, D.hnt, D.hsub]; rfl))) ?_
                clear h; intro h; cbv
                refine R.brD h (by (first | (simp only [D.har, D.hbeq, D.hbnd, D.hcmp, D.hgi, D.hgl, D.hinb, D.hlen, D.hnt, D.hsub]; done) | rfl | (simp only [D.har, D.hbeq, D.hbnd, D.hcmp, D.hgi, D.hgl, D.hinb, D.hlen, D.hnt, D.hsub]; rfl))) ?_ ?_ <;> clear h <;> intro h <;> cbv
                · have e := inr_some h houts59; clear h
                  have h := hFs59; rw [e] at h; clear e; try dsimp only at h
                  cbv
                  have e := ret_some h; clear h
                  have h := hFy38; rw [e] at h; clear e; try dsimp only at h
                  cbv
                  have e := ret_some h; clear h
                  refine hK _ _ ?_
                  cbv
                  try (subst e; simp only [D.har, D.hbeq, D.hbnd, D.hcmp, D.hgi, D.hgl, D.hinb, D.hlen, D.hnt, D.hsub, and_self, and_true, true_and] <;> (repeat' apply And.intro) <;> rfl)
                · obtain ⟨s', e, hi⟩ := inl_some h hins59
                  refine hLs59 s' _ _ hi ⟨by kernel_rfl, ?_, ?_, by kernel_rfl, by kernel_rfl⟩ <;> cbv <;> (try (subst e; simp only [D.har, D.hbeq, D.hbnd, D.hcmp, D.hgi, D.hgl, D.hinb, D.hlen, D.hnt, D.hsub, and_self, and_true, true_and] <;> (repeat' apply And.intro) <;> rfl))
              · refine R.brD h (by (first | (simp only [D.har, D.hbeq, D.hbnd, D.hcmp, D.hgi, D.hgl, D.hinb, D.hlen, D.hnt, D.hsub]; done) | rfl | (simp only [D.har, D.hbeq, D.hbnd, D.hcmp, D.hgi, D.hgl, D.hinb, D.hlen, D.hnt, D.hsub]; rfl))) ?_ ?_ <;> clear h <;> intro h <;> cbv
                · have e := inr_some h houts59; clear h
                  have h := hFs59; rw [e] at h; clear e; try dsimp only at h
                  cbv
                  have e := ret_some h; clear h
                  have h := hFy38; rw [e] at h; clear e; try dsimp only at h
                  cbv
                  have e := ret_some h; clear h
                  refine hK _ _ ?_
                  cbv
                  try (subst e; simp only [D.har, D.hbeq, D.hbnd, D.hcmp, D.hgi, D.hgl, D.hinb, D.hlen, D.hnt, D.hsub, and_self, and_true, true_and] <;> (repeat' apply And.intro) <;> rfl)
                · obtain ⟨s', e, hi⟩ := inl_some h hins59
                  refine hLs59 s' _ _ hi ⟨by kernel_rfl, ?_, ?_, by kernel_rfl, by kernel_rfl⟩ <;> cbv <;> (try (subst e; simp only [D.har, D.hbeq, D.hbnd, D.hcmp, D.hgi, D.hgl, D.hinb, D.hlen, D.hnt, D.hsub, and_self, and_true, true_and] <;> (repeat' apply And.intro) <;> rfl))
        · have e := inr_some h houts59; clear h
          have h := hFs59; rw [e] at h; clear e; try dsimp only at h
          cbv
          obtain ⟨s', e, hi⟩ := jn_some Sum.inl h
          refine hLy38 s' _ _ hi ⟨by kernel_rfl, ?_, ?_, by kernel_rfl, by kernel_rfl⟩ <;> cbv <;> (try (subst e; simp only [D.har, D.hbeq, D.hbnd, D.hcmp, D.hgi, D.hgl, D.hinb, D.hlen, D.hnt, D.hsub, and_self, and_true, true_and] <;> (repeat' apply And.intro) <;> rfl))
      · clear h; have h := h2; clear h2; try dsimp only at h
        cbv
        refine R.callD h (fun x84 hx84 h2 => ?_)
        clear h; have h := h2; clear h2
        refine R.call' (w17s _ _ _ _ _ _ _ _ _ _ hx84) (by (first | (simp only [D.har, D.hbeq, D.hbnd, D.hcmp, D.hgi, D.hgl, D.hinb, D.hlen, D.hnt, D.hsub]; done) | rfl | (simp only [D.har, D.hbeq, D.hbnd, D.hcmp, D.hgi, D.hgl, D.hinb, D.hlen, D.hnt, D.hsub]; rfl))) ?_
        clear hx84; cbv
        refine R.cut' (by kernel_rfl) (by kernel_rfl) ?_
        cbv
        refine R.brD h (by (first | (simp only [D.har, D.hbeq, D.hbnd, D.hcmp, D.hgi, D.hgl, D.hinb, D.hlen, D.hnt, D.hsub]; done) | rfl | (simp only [D.har, D.hbeq, D.hbnd, D.hcmp, D.hgi, D.hgl, D.hinb, D.hlen, D.hnt, D.hsub]; rfl))) ?_ ?_ <;> clear h <;> intro h <;> cbv
        · refine R.brD h (by (first | (simp only [D.har, D.hbeq, D.hbnd, D.hcmp, D.hgi, D.hgl, D.hinb, D.hlen, D.hnt, D.hsub]; done) | rfl | (simp only [D.har, D.hbeq, D.hbnd, D.hcmp, D.hgi, D.hgl, D.hinb, D.hlen, D.hnt, D.hsub]; rfl))) ?_ ?_ <;> clear h <;> intro h <;> cbv
          · refine R.needD h (by (first | (simp only [D.har, D.hbeq, D.hbnd, D.hcmp, D.hgi, D.hgl, D.hinb, D.hlen, D.hnt, D.hsub]; done) | rfl | (simp only [D.har, D.hbeq, D.hbnd, D.hcmp, D.hgi, D.hgl, D.hinb, D.hlen, D.hnt, D.hsub]; rfl))) ?_
            clear h; intro h; cbv
            refine R.callD h (fun x86 hx86 h2 => ?_)
            clear h; have h := h2; clear h2
            refine R.call' (w18 _ _ _ hx86) (by (first | (simp only [D.har, D.hbeq, D.hbnd, D.hcmp, D.hgi, D.hgl, D.hinb, D.hlen, D.hnt, D.hsub]; done) | rfl | (simp only [D.har, D.hbeq, D.hbnd, D.hcmp, D.hgi, D.hgl, D.hinb, D.hlen, D.hnt, D.hsub]; rfl))) ?_
            clear hx86; cbv
            refine R.brD h (by (first | (simp only [D.har, D.hbeq, D.hbnd, D.hcmp, D.hgi, D.hgl, D.hinb, D.hlen, D.hnt, D.hsub]; done) | rfl | (simp only [D.har, D.hbeq, D.hbnd, D.hcmp, D.hgi, D.hgl, D.hinb, D.hlen, D.hnt, D.hsub]; rfl))) ?_ ?_ <;> clear h <;> intro h <;> cbv
            · have e := ret_some h; clear h
              refine hK _ _ ?_
              cbv
              try (subst e; simp only [D.har, D.hbeq, D.hbnd, D.hcmp, D.hgi, D.hgl, D.hinb, D.hlen, D.hnt, D.hsub, and_self, and_true, true_and] <;> (repeat' apply And.intro) <;> rfl)
            · have e := ret_some h; clear h
              refine hK _ _ ?_
              cbv
              try (subst e; simp only [D.har, D.hbeq, D.hbnd, D.hcmp, D.hgi, D.hgl, D.hinb, D.hlen, D.hnt, D.hsub, and_self, and_true, true_and] <;> (repeat' apply And.intro) <;> rfl)
          · have e := ret_some h; clear h
            refine hK _ _ ?_
            cbv
            try (subst e; simp only [D.har, D.hbeq, D.hbnd, D.hcmp, D.hgi, D.hgl, D.hinb, D.hlen, D.hnt, D.hsub, and_self, and_true, true_and] <;> (repeat' apply And.intro) <;> rfl)
        · have e := ret_some h; clear h
          refine hK _ _ ?_
          cbv
          try (subst e; simp only [D.har, D.hbeq, D.hbnd, D.hcmp, D.hgi, D.hgl, D.hinb, D.hlen, D.hnt, D.hsub, and_self, and_true, true_and] <;> (repeat' apply And.intro) <;> rfl)
end Go.Proofs.Ytdejapkfijdadaa

end
section
/- The one statement over its function that the law BufferPrefix comes to. Conditions: none. -/
-- Told by a program of this seat's session. Not trusted: Lean checks it.

namespace Go.Proofs.Ytdejapkfijdadaa
open Go.Ab Go.RowKit
def BufferPrefix.Claim : Prop := ∀ (x0 : (List (Int × (Int × (List Int))))) (x1 : Int) (x2 : Bool), (fun l : List (Int × (Int × (List Int))) => l.length ≤ maxLen ∧ ∀ x ∈ l, (fun x : (Int × (Int × (List Int))) => (fun n : Int => (Lit.int .i64 n).wf = true) x.1 ∧ (fun x : (Int × (List Int)) => (fun n : Int => (Lit.int .i64 n).wf = true) x.1 ∧ (fun l : List Int => l.length ≤ maxLen ∧ ∀ x ∈ l, (fun n : Int => (Lit.int .u8 n).wf = true) x) x.2) x.2) x) x0 → (fun n : Int => (Lit.int .i64 n).wf = true) x1 → (fun _ : Bool => True) x2 → Ab.Fn Try.prog TT 4 [.sl 33 (x0.map (fun x : (Int × (Int × (List Int))) => .agg [.i .i64 x.1, .i .i64 x.2.1, .sl 5 (x.2.2.map (fun x : Int => .i .u8 x))])), .i .i64 x1, .b x2] (.b true) []
end Go.Proofs.Ytdejapkfijdadaa
end
section
/- The law BufferPrefix by the calculus. Conditions: none. -/

namespace Go.Proofs.Ytdejapkfijdadaa
open Go.Ab Go.RowKit
theorem BufferPrefix.pure : BufferPrefix.Claim := by
  intro x0 x1 x2 h0 h1 h2
  rw [map_r]
  exact w4 _ _ _ true (pl4 _ (ok_r (fun x hx => ((h0.2 x hx).2.2).2)) x1 x2)
end Go.Proofs.Ytdejapkfijdadaa
end
section
/- BufferPrefix: the law's call returns true for every input, and its arguments read afterwards as_ before. Conditions: none. -/
-- Told by a program of this seat's session. Not trusted: Lean checks it.

namespace Go.Proofs.Ytdejapkfijdadaa.bufferPrefix
open Go.ChangeShapes Go.WideShapes Go.ChangeAt Go.RowKit Go.Ab Go.Proofs.Ytdejapkfijdadaa
open Go.ChangeMaps (open_string shut_string)
theorem own : ownKnob Try.prog.godebug = none := by kernel_rfl
theorem laidOut : laidOutB Try.prog = true := by kernel_rfl
set_option maxRecDepth 100000 in
set_option maxHeartbeats 8000000 in
theorem lifted (os : Os) (started : os.Started) (H : Type) (enc : TypeId × Value → H) :
    ReturnsInHanded {} Try.checked os 4 .any (Rows.bufferPrefixSpec.pre6 enc Try.prog Try.f4 Rows.bufferPrefixRow.domain false) (Rows.bufferPrefixSpec.post enc Try.prog Try.f4 false true false false) := by
  refine returnsInHanded_of_change_sized (C := Try.checked) own started (by kernel_rfl) Try.func4
    (ChangeSpec.witness6 (enc := enc) (C := Try.checked) false ⟨#[], #[.slice none 0 0, .int .i64 0, .bool false], []⟩ 8 (by kernel_rfl) (by kernel_rfl) (by kernel_rfl) (by kernel_rfl)) ?_
  intro W base args ds gs before hval0 hW hcnd hsz0 _
  have hval : ∀ (j : Nat) t v, Try.f4.params[j]? = some t → args[j]? = some v → Value.okWide Try.prog W .any base t v := hval0
  have hW' := hW
  obtain ⟨p, q, hA0, hV, rfl, hfz, hnd⟩ := hW
  have hA : DataW.TrodAll enc Try.prog W 0 (fun _ => true) true Try.f4.params.toList args.toList ds p := hA0
  rw [Try.params4] at hA hval
  obtain ⟨v0, vs0, d0, ds0, p0, q0, hargs, rfl, rfl, h0, r0⟩ := trodAll_cons hA
  obtain ⟨v1, vs1, d1, ds1, p1, q1, rfl, rfl, rfl, h1, r1⟩ := trodAll_cons r0
  obtain ⟨v2, vs2, d2, ds2, p2, q2, rfl, rfl, rfl, h2, r2⟩ := trodAll_cons r1
  obtain ⟨rfl, rfl, rfl⟩ := trodAll_nil r2
  obtain rfl : args = #[v0, v1, v2] := by cases args; simp_all
  obtain ⟨rfl, rfl⟩ := trodVars_none hV
  have k0 := h0
  have lt0 : ∀ x ∈ p0, x.block < W.heap.size := by obtain ⟨m, hm⟩ := k0; exact DataW.trod_lt m _ _ _ hm
  obtain ⟨aa0, ll0, cc0, rfl⟩ := okWide_slice Try.underlying22 (hval 0 22 v0 rfl rfl)
  obtain ⟨x0, ra0, rb0, _, ok0⟩ := h0.elim fun fuel hf => ((OpV.slice tok (fun x : (Int × (Int × (List Int))) => .agg [.i .i64 x.1, .i .i64 x.2.1, .sl 5 (x.2.2.map (fun x : Int => .i .u8 x))]) (te := te22) (eu := te33) (by kernel_rfl) rfl (by kernel_rfl) (by decide) (by kernel_rfl) (.inl ⟨by kernel_rfl, by kernel_rfl, fun _ => rfl⟩) (OpV.struct tok (te := te33) (by kernel_rfl) rfl (by kernel_rfl) (OpAt.cons rfl (by kernel_rfl) (OpV.int tok (e := te3) (by kernel_rfl) rfl) (OpAt.cons rfl (by kernel_rfl) (OpV.int tok (e := te2) (by kernel_rfl) rfl) (OpAt.last rfl (by kernel_rfl) (OpV.slice tok (fun x : Int => .i .u8 x) (te := te24) (eu := te5) (by kernel_rfl) rfl (by kernel_rfl) (by decide) (by kernel_rfl) (.inr ⟨by kernel_rfl, rfl, fun _ => rfl⟩) (OpV.int tok (e := te5) (by kernel_rfl) rfl))))))) : OpV TT enc Try.prog W 22 _ _ _) _ _ _ hf
  obtain ⟨x1, rfl, rfl, rfl, u1⟩ := open_int Try.underlying3 (hval 1 3 v1 rfl rfl) h1
  obtain ⟨x2, rfl, rfl, rfl⟩ := open_bool Try.underlying4 (hval 2 4 v2 rfl rfl) h2
  clear hA0 hval0 hsz0
  refine (law_calls (w := W) ⟨_, _, Try.func4, by kernel_rfl, w4_h⟩ (BufferPrefix.pure x0 x1 x2 ok0 u1 trivial) (gok W) (args_one ra0 (args_i x1 (args_b x2 args_nil)))).mono fun e W' ⟨he, bel⟩ => ?_
  subst he
  exact ⟨_, rfl, _, _, _, [], _, [], hW', trodAll_mk1 (shut_bool Try.underlying4 _), (trodAll_cons_mk (Below.trod laidOut (by kernel_rfl) (of_decide_eq_true (by kernel_rfl)) k0 bel lt0) (trodAll_cons_mk (shut_int Try.underlying3 u1) (trodAll_cons_mk (shut_bool Try.underlying4 _) trodAll_mk0))), rfl, bel.frame _, fun h => by cases h⟩
theorem over : Rows.bufferPrefixRow.holds Try.pinned (OpenSpec.ofChange Rows.bufferPrefixSpec) :=
  OpenClaim.holds_of_wide 4 Try.f4 rfl rfl rfl rfl rfl rfl rfl ⟨rfl, rfl, rfl, rfl, rfl⟩ rfl rfl rfl rfl rfl (by kernel_rfl) Try.func4 (by kernel_rfl)
    (of_decide_eq_true (by kernel_rfl)) (by unfold Func.isWrapper; first | (rw [if_pos (by decide +kernel)]; kernel_rfl) | (rw [if_neg (by decide +kernel)]; exact ⟨rfl, rfl⟩))
    (fun os started H enc _ => lifted os started H enc)
theorem proved : Rows.BufferPrefixSaid := over
end Go.Proofs.Ytdejapkfijdadaa.bufferPrefix
namespace Go.Proofs.Ytdejapkfijdadaa
theorem bufferPrefix_holds : Rows.BufferPrefixSaid := bufferPrefix.proved
end Go.Proofs.Ytdejapkfijdadaa
end
