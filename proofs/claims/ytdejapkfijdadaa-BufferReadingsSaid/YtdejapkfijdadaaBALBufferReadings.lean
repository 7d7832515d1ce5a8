/- The law BufferReadings: its function's walk, the pure law, the row. Conditions: none. -/
import Derived.Test.YtdejapkfijdadaaRows
import Derived.WalkKit
import Derived.ProofKit
import Derived.OpenShut
import Derived.ShutString
import Derived.ChangeOld
import Derived.Below
import Derived.SizedLaws
import Derived.Carry
import Derived.Test.YtdejapkfijdadaaBA5
set_option linter.unusedVariables false
set_option linter.unusedSimpArgs false
section
namespace Go.Proofs.Ytdejapkfijdadaa
open Go.Ab Go.RowKit 
set_option maxRecDepth 100000
set_option maxHeartbeats 40000000
noncomputable def w10_c : Code := (Try.f10.body).getD .skip
theorem w10_h : Try.f10.body = some w10_c := by kernel_rfl
theorem w10 (a0_0 : Int) (a0_1 : List V) (a0_2 : Int) (a0_3 : Int) (a0_4 : Int) (a0_5 : Int) (a0_6 : List V) (a0_7 : Int) (a0_8 : Bool) (r : Bool) (h : d10 a0_0 a0_1 a0_2 a0_3 a0_4 a0_5 a0_6 a0_7 a0_8 = some r) : Ab.Fn Try.prog TT 10 [.agg [.i .i64 a0_0, .sl 5 a0_1, .i .i64 a0_2, .i .i64 a0_3, .i .i64 a0_4, .i .i64 a0_5, .sl 5 a0_6, .i .i64 a0_7, .b a0_8]] (.b r) [] := by
  refine fn_pure tok W0 Try.func10 (by kernel_rfl) w10_h (by kernel_rfl) ?_
  intro ar un cv mn mx pl mi cmp nt beq an scmp cat slen sbyte ssub ofB toB len gi gb gs gl sub put app ovl rep ne0 ge0 inb bnd room sroom need br call callb loop cut nl E R K hK
  have D := E.D
  clear E
  unfold d10 at h
  cbv
  refine R.callD h (fun x1 hx1 h2 => ?_)
  clear h; have h := h2; clear h2
  refine R.call' (w14 _ hx1) (by (first | (simp only [D.hcmp, D.hlen, D.hnt]; done) | rfl | (simp only [D.hcmp, D.hlen, D.hnt]; rfl))) ?_
  clear hx1; cbv
  refine R.callD h (fun x2 hx2 h2 => ?_)
  clear h; have h := h2; clear h2
  refine R.call' (w17s _ _ _ _ _ _ _ _ _ _ hx2) (by (first | (simp only [D.hcmp, D.hlen, D.hnt]; done) | rfl | (simp only [D.hcmp, D.hlen, D.hnt]; rfl))) ?_
  clear hx2; cbv
  refine R.cut' (by kernel_rfl) (by kernel_rfl) ?_
  cbv
  refine R.brD h (by (first | (simp only [D.hcmp, D.hlen, D.hnt]; done) | rfl | (simp only [D.hcmp, D.hlen, D.hnt]; rfl))) ?_ ?_ <;> clear h <;> intro h <;> cbv
  · refine R.cut' (by kernel_rfl) (by kernel_rfl) ?_
    cbv
    refine R.brD h (by (first | (simp only [D.hcmp, D.hlen, D.hnt]; done) | rfl | (simp only [D.hcmp, D.hlen, D.hnt]; rfl))) ?_ ?_ <;> clear h <;> intro h <;> cbv
    · refine R.callD h (fun x6 hx6 h2 => ?_)
      clear h; have h := h2; clear h2
      refine R.call' (w29 _ _ _ _ _ _ _ _ _ _ hx6) (by (first | (simp only [D.hcmp, D.hlen, D.hnt]; done) | rfl | (simp only [D.hcmp, D.hlen, D.hnt]; rfl))) ?_
      clear hx6; cbv
      have e := ret_some h; clear h
      refine hK _ _ ?_
      cbv
      try (subst e; simp only [D.hcmp, D.hlen, D.hnt, and_self, and_true, true_and] <;> (repeat' apply And.intro) <;> rfl)
    · have e := ret_some h; clear h
      refine hK _ _ ?_
      cbv
      try (subst e; simp only [D.hcmp, D.hlen, D.hnt, and_self, and_true, true_and] <;> (repeat' apply And.intro) <;> rfl)
  · as_aux_lemma =>
    refine R.callD h (fun x7 hx7 h2 => ?_)
    clear h; have h := h2; clear h2
    refine R.call' (w27s _ _ _ _ _ _ _ _ _ _ hx7) (by (first | (simp only [D.hcmp, D.hlen, D.hnt]; done) | rfl | (simp only [D.hcmp, D.hlen, D.hnt]; rfl))) ?_
    clear hx7; cbv
    refine R.callD h (fun x8 hx8 h2 => ?_)
    clear h; have h := h2; clear h2
    refine R.call' (w28s _ _ _ _ _ _ _ _ _ _ hx8) (by (first | (simp only [D.hcmp, D.hlen, D.hnt]; done) | rfl | (simp only [D.hcmp, D.hlen, D.hnt]; rfl))) ?_
    clear hx8; cbv
    refine R.callD h (fun x9 hx9 h2 => ?_)
    clear h; have h := h2; clear h2
    refine R.call' (w17s _ _ _ _ _ _ _ _ _ _ hx9) (by (first | (simp only [D.hcmp, D.hlen, D.hnt]; done) | rfl | (simp only [D.hcmp, D.hlen, D.hnt]; rfl))) ?_
    clear hx9; cbv
    refine R.callD h (fun x10 hx10 h2 => ?_)
    clear h; have h := h2; clear h2
    refine R.call' (w27s _ _ _ _ _ _ _ _ _ _ hx10) (by (first | (simp only [D.hcmp, D.hlen, D.hnt]; done) | rfl | (simp only [D.hcmp, D.hlen, D.hnt]; rfl))) ?_
    clear hx10; cbv
    refine R.cut' (by kernel_rfl) (by kernel_rfl) ?_
    cbv
    refine R.cutB (fun p => p) (fun _ _ e => e) h [] (fun p20 => [(99, .b p20)]) (fun p20 => []) (by kernel_rfl) (by kernel_rfl) (fun y17 hy hFy17 L hLy17 => ?_) (fun p20 h2 => ?_)
    · clear h; have h := hy; clear hy; cbv
      refine R.brD h (by (first | (simp only [D.hcmp, D.hlen, D.hnt]; done) | rfl | (simp only [D.hcmp, D.hlen, D.hnt]; rfl))) ?_ ?_ <;> clear h <;> intro h <;> cbv
      · obtain ⟨s', e, hi⟩ := jn_some (fun p => p) h
        refine hLy17 s' _ _ hi ⟨by kernel_rfl, ?_, ?_, by kernel_rfl, by kernel_rfl⟩ <;> cbv <;> (try (subst e; simp only [D.hcmp, D.hlen, D.hnt, and_self, and_true, true_and] <;> (repeat' apply And.intro) <;> rfl))
      · refine R.callD h (fun x18 hx18 h2 => ?_)
        clear h; have h := h2; clear h2
        refine R.call' (w18 _ _ _ hx18) (by (first | (simp only [D.hcmp, D.hlen, D.hnt]; done) | rfl | (simp only [D.hcmp, D.hlen, D.hnt]; rfl))) ?_
        clear hx18; cbv
        refine R.brD h (by (first | (simp only [D.hcmp, D.hlen, D.hnt]; done) | rfl | (simp only [D.hcmp, D.hlen, D.hnt]; rfl))) ?_ ?_ <;> clear h <;> intro h <;> cbv
        · obtain ⟨s', e, hi⟩ := jn_some (fun p => p) h
          refine hLy17 s' _ _ hi ⟨by kernel_rfl, ?_, ?_, by kernel_rfl, by kernel_rfl⟩ <;> cbv <;> (try (subst e; simp only [D.hcmp, D.hlen, D.hnt, and_self, and_true, true_and] <;> (repeat' apply And.intro) <;> rfl))
        · refine R.brD h (by (first | (simp only [D.hcmp, D.hlen, D.hnt]; done) | rfl | (simp only [D.hcmp, D.hlen, D.hnt]; rfl))) ?_ ?_ <;> clear h <;> intro h <;> cbv
          · obtain ⟨s', e, hi⟩ := jn_some (fun p => p) h
            refine hLy17 s' _ _ hi ⟨by kernel_rfl, ?_, ?_, by kernel_rfl, by kernel_rfl⟩ <;> cbv <;> (try (subst e; simp only [D.hcmp, D.hlen, D.hnt, and_self, and_true, true_and] <;> (repeat' apply And.intro) <;> rfl))
          · refine R.brD h (by (first | (simp only [D.hcmp, D.hlen, D.hnt]; done) | rfl | (simp only [D.hcmp, D.hlen, D.hnt]; rfl))) ?_ ?_ <;> clear h <;> intro h <;> cbv
            · obtain ⟨s', e, hi⟩ := jn_some (fun p => p) h
              refine hLy17 s' _ _ hi ⟨by kernel_rfl, ?_, ?_, by kernel_rfl, by kernel_rfl⟩ <;> cbv <;> (try (subst e; simp only [D.hcmp, D.hlen, D.hnt, and_self, and_true, true_and] <;> (repeat' apply And.intro) <;> rfl))
            · refine R.brD h (by (first | (simp only [D.hcmp, D.hlen, D.hnt]; done) | rfl | (simp only [D.hcmp, D.hlen, D.hnt]; rfl))) ?_ ?_ <;> clear h <;> intro h <;> cbv
              · obtain ⟨s', e, hi⟩ := jn_some (fun p => p) h
                refine hLy17 s' _ _ hi ⟨by kernel_rfl, ?_, ?_, by kernel_rfl, by kernel_rfl⟩ <;> cbv <;> (try (subst e; simp only [D.hcmp, D.hlen, D.hnt, and_self, and_true, true_and] <;> (repeat' apply And.intro) <;> rfl))
              · refine R.callD h (fun x19 hx19 h2 => ?_)
                clear h; have h := h2; clear h2
                refine R.call' (w18 _ _ _ hx19) (by (first | (simp only [D.hcmp, D.hlen, D.hnt]; done) | rfl | (simp only [D.hcmp, D.hlen, D.hnt]; rfl))) ?_
                clear hx19; cbv
                refine R.brD h (by (first | (simp only [D.hcmp, D.hlen, D.hnt]; done) | rfl | (simp only [D.hcmp, D.hlen, D.hnt]; rfl))) ?_ ?_ <;> clear h <;> intro h <;> cbv
                · obtain ⟨s', e, hi⟩ := jn_some (fun p => p) h
                  refine hLy17 s' _ _ hi ⟨by kernel_rfl, ?_, ?_, by kernel_rfl, by kernel_rfl⟩ <;> cbv <;> (try (subst e; simp only [D.hcmp, D.hlen, D.hnt, and_self, and_true, true_and] <;> (repeat' apply And.intro) <;> rfl))
                · obtain ⟨s', e, hi⟩ := jn_some (fun p => p) h
                  refine hLy17 s' _ _ hi ⟨by kernel_rfl, ?_, ?_, by kernel_rfl, by kernel_rfl⟩ <;> cbv <;> (try (subst e; simp only [D.hcmp, D.hlen, D.hnt, and_self, and_true, true_and] <;> (repeat' apply And.intro) <;> rfl))
    · as_aux_lemma =>
      clear h; have h := h2; clear h2; try dsimp only at h
      cbv
      refine R.brD h (by (first | (simp only [D.hcmp, D.hlen, D.hnt]; done) | rfl | (simp only [D.hcmp, D.hlen, D.hnt]; rfl))) ?_ ?_ <;> clear h <;> intro h <;> cbv
      · have e := ret_some h; clear h
        refine hK _ _ ?_
        cbv
        try (subst e; simp only [D.hcmp, D.hlen, D.hnt, and_self, and_true, true_and] <;> (repeat' apply And.intro) <;> rfl)
      · as_aux_lemma =>
        refine R.callD h (fun x21 hx21 h2 => ?_)
        clear h; have h := h2; clear h2
        refine R.call' (w26s _ _ _ _ _ _ _ _ _ _ hx21) (by (first | (simp only [D.hcmp, D.hlen, D.hnt]; done) | rfl | (simp only [D.hcmp, D.hlen, D.hnt]; rfl))) ?_
        clear hx21; cbv
        refine R.cutB Sum.inl (fun _ _ e => Sum.inl.inj e) h [] (fun p37 => []) (fun p37 => []) (by kernel_rfl) (by kernel_rfl) (fun y28 hy hFy28 L hLy28 => ?_) (fun p37 h2 => ?_)
        · as_aux_lemma =>
          clear h; have h := hy; clear hy; cbv
          refine R.brD h (by (first | (simp only [D.hcmp, D.hlen, D.hnt]; done) | rfl | (simp only [D.hcmp, D.hlen, D.hnt]; rfl))) ?_ ?_ <;> clear h <;> intro h <;> cbv
          · as_aux_lemma =>
            refine R.callD h (fun x29 hx29 h2 => ?_)
            clear h; have h := h2; clear h2
            refine R.call' (w17s _ _ _ _ _ _ _ _ _ _ hx29) (by (first | (simp only [D.hcmp, D.hlen, D.hnt]; done) | rfl | (simp only [D.hcmp, D.hlen, D.hnt]; rfl))) ?_
            clear hx29; cbv
            refine R.callD h (fun x30 hx30 h2 => ?_)
            clear h; have h := h2; clear h2
            refine R.call' (w27s _ _ _ _ _ _ _ _ _ _ hx30) (by (first | (simp only [D.hcmp, D.hlen, D.hnt]; done) | rfl | (simp only [D.hcmp, D.hlen, D.hnt]; rfl))) ?_
            clear hx30; cbv
            refine R.cutB (fun p => p) (fun _ _ e => e) h [] (fun p36 => [(150, .b p36)]) (fun p36 => []) (by kernel_rfl) (by kernel_rfl) (fun y33 hy hFy33 L hLy33 => ?_) (fun p36 h2 => ?_)
            · clear h; have h := hy; clear hy; cbv
              refine R.callD h (fun x34 hx34 h2 => ?_)
              clear h; have h := h2; clear h2
              refine R.call' (w18 _ _ _ hx34) (by (first | (simp only [D.hcmp, D.hlen, D.hnt]; done) | rfl | (simp only [D.hcmp, D.hlen, D.hnt]; rfl))) ?_
              clear hx34; cbv
              refine R.brD h (by (first | (simp only [D.hcmp, D.hlen, D.hnt]; done) | rfl | (simp only [D.hcmp, D.hlen, D.hnt]; rfl))) ?_ ?_ <;> clear h <;> intro h <;> cbv
              · obtain ⟨s', e, hi⟩ := jn_some (fun p => p) h
                refine hLy33 s' _ _ hi ⟨by kernel_rfl, ?_, ?_, by kernel_rfl, by kernel_rfl⟩ <;> cbv <;> (try (subst e; simp only [D.hcmp, D.hlen, D.hnt, and_self, and_true, true_and] <;> (repeat' apply And.intro) <;> rfl))
              · refine R.brD h (by (first | (simp only [D.hcmp, D.hlen, D.hnt]; done) | rfl | (simp only [D.hcmp, D.hlen, D.hnt]; rfl))) ?_ ?_ <;> clear h <;> intro h <;> cbv
                · obtain ⟨s', e, hi⟩ := jn_some (fun p => p) h
                  refine hLy33 s' _ _ hi ⟨by kernel_rfl, ?_, ?_, by kernel_rfl, by kernel_rfl⟩ <;> cbv <;> (try (subst e; simp only [D.hcmp, D.hlen, D.hnt, and_self, and_true, true_and] <;> (repeat' apply And.intro) <;> rfl))
                · refine R.brD h (by (first | (simp only [D.hcmp, D.hlen, D.hnt]; done) | rfl | (simp only [D.hcmp, D.hlen, D.hnt]; rfl))) ?_ ?_ <;> clear h <;> intro h <;> cbv
                  · obtain ⟨s', e, hi⟩ := jn_some (fun p => p) h
                    refine hLy33 s' _ _ hi ⟨by kernel_rfl, ?_, ?_, by kernel_rfl, by kernel_rfl⟩ <;> cbv <;> (try (subst e; simp only [D.hcmp, D.hlen, D.hnt, and_self, and_true, true_and] <;> (repeat' apply And.intro) <;> rfl))
                  · refine R.brD h (by (first | (simp only [D.hcmp, D.hlen, D.hnt]; done) | rfl | (simp only [D.hcmp, D.hlen, D.hnt]; rfl))) ?_ ?_ <;> clear h <;> intro h <;> cbv
                    · obtain ⟨s', e, hi⟩ := jn_some (fun p => p) h
                      refine hLy33 s' _ _ hi ⟨by kernel_rfl, ?_, ?_, by kernel_rfl, by kernel_rfl⟩ <;> cbv <;> (try (subst e; simp only [D.hcmp, D.hlen, D.hnt, and_self, and_true, true_and] <;> (repeat' apply And.intro) <;> rfl))
                    · refine R.callD h (fun x35 hx35 h2 => ?_)
                      clear h; have h := h2; clear h2
                      refine R.call' (w18 _ _ _ hx35) (by (first | (simp only [D.hcmp, D.hlen, D.hnt]; done) | rfl | (simp only [D.hcmp, D.hlen, D.hnt]; rfl))) ?_
                      clear hx35; cbv
                      refine R.brD h (by (first | (simp only [D.hcmp, D.hlen, D.hnt]; done) | rfl | (simp only [D.hcmp, D.hlen, D.hnt]; rfl))) ?_ ?_ <;> clear h <;> intro h <;> cbv
                      · obtain ⟨s', e, hi⟩ := jn_some (fun p => p) h
                        refine hLy33 s' _ _ hi ⟨by kernel_rfl, ?_, ?_, by kernel_rfl, by kernel_rfl⟩ <;> cbv <;> (try (subst e; simp only [D.hcmp, D.hlen, D.hnt, and_self, and_true, true_and] <;> (repeat' apply And.intro) <;> rfl))
                      · obtain ⟨s', e, hi⟩ := jn_some (fun p => p) h
                        refine hLy33 s' _ _ hi ⟨by kernel_rfl, ?_, ?_, by kernel_rfl, by kernel_rfl⟩ <;> cbv <;> (try (subst e; simp only [D.hcmp, D.hlen, D.hnt, and_self, and_true, true_and] <;> (repeat' apply And.intro) <;> rfl))
            · clear h; have h := h2; clear h2; try dsimp only at h
              cbv
              refine R.brD h (by (first | (simp only [D.hcmp, D.hlen, D.hnt]; done) | rfl | (simp only [D.hcmp, D.hlen, D.hnt]; rfl))) ?_ ?_ <;> clear h <;> intro h <;> cbv
              · have e := ret_some h; clear h
                have h := hFy28; rw [e] at h; clear e; try dsimp only at h
                cbv
                have e := ret_some h; clear h
                refine hK _ _ ?_
                cbv
                try (subst e; simp only [D.hcmp, D.hlen, D.hnt, and_self, and_true, true_and] <;> (repeat' apply And.intro) <;> rfl)
              · obtain ⟨s', e, hi⟩ := jn_some Sum.inl h
                refine hLy28 s' _ _ hi ⟨by kernel_rfl, ?_, ?_, by kernel_rfl, by kernel_rfl⟩ <;> cbv <;> (try (subst e; simp only [D.hcmp, D.hlen, D.hnt, and_self, and_true, true_and] <;> (repeat' apply And.intro) <;> rfl))
          · obtain ⟨s', e, hi⟩ := jn_some Sum.inl h
            refine hLy28 s' _ _ hi ⟨by kernel_rfl, ?_, ?_, by kernel_rfl, by kernel_rfl⟩ <;> cbv <;> (try (subst e; simp only [D.hcmp, D.hlen, D.hnt, and_self, and_true, true_and] <;> (repeat' apply And.intro) <;> rfl))
        · clear h; have h := h2; clear h2; try dsimp only at h
          cbv
          refine R.callD h (fun x38 hx38 h2 => ?_)
          clear h; have h := h2; clear h2
          refine R.call' (w25s _ _ _ _ _ _ _ _ _ _ hx38) (by (first | (simp only [D.hcmp, D.hlen, D.hnt]; done) | rfl | (simp only [D.hcmp, D.hlen, D.hnt]; rfl))) ?_
          clear hx38; cbv
          refine R.cut' (by kernel_rfl) (by kernel_rfl) ?_
          cbv
          refine R.brD h (by (first | (simp only [D.hcmp, D.hlen, D.hnt]; done) | rfl | (simp only [D.hcmp, D.hlen, D.hnt]; rfl))) ?_ ?_ <;> clear h <;> intro h <;> cbv
          · have e := ret_some h; clear h
            refine hK _ _ ?_
            cbv
            try (subst e; simp only [D.hcmp, D.hlen, D.hnt, and_self, and_true, true_and] <;> (repeat' apply And.intro) <;> rfl)
          · refine R.callD h (fun x39 hx39 h2 => ?_)
            clear h; have h := h2; clear h2
            refine R.call' (w27s _ _ _ _ _ _ _ _ _ _ hx39) (by (first | (simp only [D.hcmp, D.hlen, D.hnt]; done) | rfl | (simp only [D.hcmp, D.hlen, D.hnt]; rfl))) ?_
            clear hx39; cbv
            refine R.callD h (fun x40 hx40 h2 => ?_)
            clear h; have h := h2; clear h2
            refine R.call' (w17s _ _ _ _ _ _ _ _ _ _ hx40) (by (first | (simp only [D.hcmp, D.hlen, D.hnt]; done) | rfl | (simp only [D.hcmp, D.hlen, D.hnt]; rfl))) ?_
            clear hx40; cbv
            refine R.cut' (by kernel_rfl) (by kernel_rfl) ?_
            cbv
            refine R.brD h (by (first | (simp only [D.hcmp, D.hlen, D.hnt]; done) | rfl | (simp only [D.hcmp, D.hlen, D.hnt]; rfl))) ?_ ?_ <;> clear h <;> intro h <;> cbv
            · refine R.callD h (fun x42 hx42 h2 => ?_)
              clear h; have h := h2; clear h2
              refine R.call' (w18 _ _ _ hx42) (by (first | (simp only [D.hcmp, D.hlen, D.hnt]; done) | rfl | (simp only [D.hcmp, D.hlen, D.hnt]; rfl))) ?_
              clear hx42; cbv
              refine R.brD h (by (first | (simp only [D.hcmp, D.hlen, D.hnt]; done) | rfl | (simp only [D.hcmp, D.hlen, D.hnt]; rfl))) ?_ ?_ <;> clear h <;> intro h <;> cbv
              · refine R.brD h (by (first | (simp only [D.hcmp, D.hlen, D.hnt]; done) | rfl | (simp only [D.hcmp, D.hlen, D.hnt]; rfl))) ?_ ?_ <;> clear h <;> intro h <;> cbv
                · refine R.brD h (by (first | (simp only [D.hcmp, D.hlen, D.hnt]; done) | rfl | (simp only [D.hcmp, D.hlen, D.hnt]; rfl))) ?_ ?_ <;> clear h <;> intro h <;> cbv
                  · refine R.brD h (by (first | (simp only [D.hcmp, D.hlen, D.hnt]; done) | rfl | (simp only [D.hcmp, D.hlen, D.hnt]; rfl))) ?_ ?_ <;> clear h <;> intro h <;> cbv
                    · refine R.brD h (by (first | (simp only [D.hcmp, D.hlen, D.hnt]; done) | rfl | (simp only [D.hcmp, D.hlen, D.hnt]; rfl))) ?_ ?_ <;> clear h <;> intro h <;> cbv
                      · have e := ret_some h; clear h
                        refine hK _ _ ?_
                        cbv
                        try (subst e; simp only [D.hcmp, D.hlen, D.hnt, and_self, and_true, true_and] <;> (repeat' apply And.intro) <;> rfl)
                      · have e := ret_some h; clear h
                        refine hK _ _ ?_
                        cbv
                        try (subst e; simp only [D.hcmp, D.hlen, D.hnt, and_self, and_true, true_and] <;> (repeat' apply And.intro) <;> rfl)
                    · have e := ret_some h; clear h
                      refine hK _ _ ?_
                      cbv
                      try (subst e; simp only [D.hcmp, D.hlen, D.hnt, and_self, and_true, true_and] <;> (repeat' apply And.intro) <;> rfl)
                  · have e := ret_some h; clear h
                    refine hK _ _ ?_
                    cbv
                    try (subst e; simp only [D.hcmp, D.hlen, D.hnt, and_self, and_true, true_and] <;> (repeat' apply And.intro) <;> rfl)
                · have e := ret_some h; clear h
                  refine hK _ _ ?_
                  cbv
                  try (subst e; simp only [D.hcmp, D.hlen, D.hnt, and_self, and_true, true_and] <;> (repeat' apply And.intro) <;> rfl)
              · have e := ret_some h; clear h
                refine hK _ _ ?_
                cbv
                try (subst e; simp only [D.hcmp, D.hlen, D.hnt, and_self, and_true, true_and] <;> (repeat' apply And.intro) <;> rfl)
            · have e := ret_some h; clear h
              refine hK _ _ ?_
              cbv
              try (subst e; simp only [D.hcmp, D.hlen, D.hnt, and_self, and_true, true_and] <;> (repeat' apply And.intro) <;> rfl)

end Go.Proofs.Ytdejapkfijdadaa

end
section
/- The one statement over its function that the law BufferReadings comes to. Conditions: none. -/
-- Told by a program of this seat's session. Not trusted: Lean checks it.

namespace Go.Proofs.Ytdejapkfijdadaa
open Go.Ab Go.RowKit
def BufferReadings.Claim : Prop := ∀ (x0 : (Int × ((List Int) × (Int × (Int × (Int × (Int × ((List Int) × (Int × Bool))))))))), (fun x : (Int × ((List Int) × (Int × (Int × (Int × (Int × ((List Int) × (Int × Bool)))))))) => (fun n : Int => (Lit.int .i64 n).wf = true) x.1 ∧ (fun x : ((List Int) × (Int × (Int × (Int × (Int × ((List Int) × (Int × Bool))))))) => (fun l : List Int => l.length ≤ maxLen ∧ ∀ x ∈ l, (fun n : Int => (Lit.int .u8 n).wf = true) x) x.1 ∧ (fun x : (Int × (Int × (Int × (Int × ((List Int) × (Int × Bool)))))) => (fun n : Int => (Lit.int .i64 n).wf = true) x.1 ∧ (fun x : (Int × (Int × (Int × ((List Int) × (Int × Bool))))) => (fun n : Int => (Lit.int .i64 n).wf = true) x.1 ∧ (fun x : (Int × (Int × ((List Int) × (Int × Bool)))) => (fun n : Int => (Lit.int .i64 n).wf = true) x.1 ∧ (fun x : (Int × ((List Int) × (Int × Bool))) => (fun n : Int => (Lit.int .i64 n).wf = true) x.1 ∧ (fun x : ((List Int) × (Int × Bool)) => (fun l : List Int => l.length ≤ maxLen ∧ ∀ x ∈ l, (fun n : Int => (Lit.int .u8 n).wf = true) x) x.1 ∧ (fun x : (Int × Bool) => (fun n : Int => (Lit.int .i64 n).wf = true) x.1 ∧ (fun _ : Bool => True) x.2) x.2) x.2) x.2) x.2) x.2) x.2) x.2) x0 → Ab.Fn Try.prog TT 10 [.agg [.i .i64 x0.1, .sl 5 (x0.2.1.map (fun x : Int => .i .u8 x)), .i .i64 x0.2.2.1, .i .i64 x0.2.2.2.1, .i .i64 x0.2.2.2.2.1, .i .i64 x0.2.2.2.2.2.1, .sl 5 (x0.2.2.2.2.2.2.1.map (fun x : Int => .i .u8 x)), .i .i64 x0.2.2.2.2.2.2.2.1, .b x0.2.2.2.2.2.2.2.2]] (.b true) []
end Go.Proofs.Ytdejapkfijdadaa
end
section
/- The law BufferReadings by the calculus. Conditions: none. -/

namespace Go.Proofs.Ytdejapkfijdadaa
open Go.Ab Go.RowKit
theorem BufferReadings.pure : BufferReadings.Claim := by
  intro x0 h0
  exact w10 _ _ _ _ _ _ _ _ _ true (p10 x0.1 _ x0.2.2.1 x0.2.2.2.1 x0.2.2.2.2.1 x0.2.2.2.2.2.1 _ x0.2.2.2.2.2.2.2.1 x0.2.2.2.2.2.2.2.2 (u8_map h0.2.1.2) (u8_map h0.2.2.2.2.2.2.1.2))
end Go.Proofs.Ytdejapkfijdadaa
end
section
/- BufferReadings: the law's call returns true for every input, and its arguments read afterwards as_ before. Conditions: none. -/
-- Told by a program of this seat's session. Not trusted: Lean checks it.

namespace Go.Proofs.Ytdejapkfijdadaa.bufferReadings
open Go.ChangeShapes Go.WideShapes Go.ChangeAt Go.RowKit Go.Ab Go.Proofs.Ytdejapkfijdadaa
open Go.ChangeMaps (open_string shut_string)
theorem own : ownKnob Try.prog.godebug = none := by kernel_rfl
theorem laidOut : laidOutB Try.prog = true := by kernel_rfl
set_option maxRecDepth 100000 in
set_option maxHeartbeats 8000000 in
theorem lifted (os : Os) (started : os.Started) (H : Type) (enc : TypeId × Value → H) :
    ReturnsInHanded {} Try.checked os 10 .any (Rows.bufferReadingsSpec.pre6 enc Try.prog Try.f10 Rows.bufferReadingsRow.domain false) (Rows.bufferReadingsSpec.post enc Try.prog Try.f10 false true false false) := by
  refine returnsInHanded_of_change_sized (C := Try.checked) own started (by kernel_rfl) Try.func10
    (ChangeSpec.witness6 (enc := enc) (C := Try.checked) false ⟨#[], #[.agg #[.int .i64 0, .slice none 0 0, .int .i64 0, .int .i64 0, .int .i64 0, .int .i64 0, .slice none 0 0, .int .i64 0, .bool false]], []⟩ 8 (by kernel_rfl) (by kernel_rfl) (by kernel_rfl) (by kernel_rfl)) ?_
  intro W base args ds gs before hval0 hW hcnd hsz0 _
  have hval : ∀ (j : Nat) t v, Try.f10.params[j]? = some t → args[j]? = some v → Value.okWide Try.prog W .any base t v := hval0
  have hW' := hW
  obtain ⟨p, q, hA0, hV, rfl, hfz, hnd⟩ := hW
  have hA : DataW.TrodAll enc Try.prog W 0 (fun _ => true) true Try.f10.params.toList args.toList ds p := hA0
  rw [Try.params10] at hA hval
  obtain ⟨v0, vs0, d0, ds0, p0, q0, hargs, rfl, rfl, h0, r0⟩ := trodAll_cons hA
  obtain ⟨rfl, rfl, rfl⟩ := trodAll_nil r0
  obtain rfl : args = #[v0] := by cases args; simp_all
  obtain ⟨rfl, rfl⟩ := trodVars_none hV
  have k0 := h0
  have lt0 : ∀ x ∈ p0, x.block < W.heap.size := by obtain ⟨m, hm⟩ := k0; exact DataW.trod_lt m _ _ _ hm
  obtain ⟨cs0, rfl, sz0⟩ := okWide_struct Try.underlying26 (hval 0 26 v0 rfl rfl)
  obtain ⟨x0, ra0, rb0, _, ok0⟩ := h0.elim fun fuel hf => ((OpV.struct tok (te := te26) (by kernel_rfl) rfl (by kernel_rfl) (OpAt.cons rfl (by kernel_rfl) (OpV.int tok (e := te3) (by kernel_rfl) rfl) (OpAt.cons rfl (by kernel_rfl) (OpV.slice tok (fun x : Int => .i .u8 x) (te := te24) (eu := te5) (by kernel_rfl) rfl (by kernel_rfl) (by decide) (by kernel_rfl) (.inr ⟨by kernel_rfl, rfl, fun _ => rfl⟩) (OpV.int tok (e := te5) (by kernel_rfl) rfl)) (OpAt.cons rfl (by kernel_rfl) (OpV.int tok (e := te3) (by kernel_rfl) rfl) (OpAt.cons rfl (by kernel_rfl) (OpV.int tok (e := te3) (by kernel_rfl) rfl) (OpAt.cons rfl (by kernel_rfl) (OpV.int tok (e := te3) (by kernel_rfl) rfl) (OpAt.cons rfl (by kernel_rfl) (OpV.int tok (e := te3) (by kernel_rfl) rfl) (OpAt.cons rfl (by kernel_rfl) (OpV.slice tok (fun x : Int => .i .u8 x) (te := te24) (eu := te5) (by kernel_rfl) rfl (by kernel_rfl) (by decide) (by kernel_rfl) (.inr ⟨by kernel_rfl, rfl, fun _ => rfl⟩) (OpV.int tok (e := te5) (by kernel_rfl) rfl)) (OpAt.cons rfl (by kernel_rfl) (OpV.int tok (e := te3) (by kernel_rfl) rfl) (OpAt.last rfl (by kernel_rfl) (OpV.bool tok (e := te4) (by kernel_rfl) rfl))))))))))) : OpV TT enc Try.prog W 26 _ _ _) _ _ _ hf
  clear hA0 hval0 hsz0
  refine (law_calls (w := W) ⟨_, _, Try.func10, by kernel_rfl, w10_h⟩ (BufferReadings.pure x0 ok0) (gok W) (args_agg ra0 rb0 args_nil)).mono fun e W' ⟨he, bel⟩ => ?_
  subst he
  exact ⟨_, rfl, _, _, _, [], _, [], hW', trodAll_mk1 (shut_bool Try.underlying4 _), (trodAll_cons_mk (Below.trod laidOut (by kernel_rfl) (of_decide_eq_true (by kernel_rfl)) k0 bel lt0) trodAll_mk0), rfl, bel.frame _, fun h => by cases h⟩
theorem over : Rows.bufferReadingsRow.holds Try.pinned (OpenSpec.ofChange Rows.bufferReadingsSpec) :=
  OpenClaim.holds_of_wide 10 Try.f10 rfl rfl rfl rfl rfl rfl rfl ⟨rfl, rfl, rfl, rfl, rfl⟩ rfl rfl rfl rfl rfl (by kernel_rfl) Try.func10 (by kernel_rfl)
    (of_decide_eq_true (by kernel_rfl)) (by unfold Func.isWrapper; first | (rw [if_pos (by decide +kernel)]; kernel_rfl) | (rw [if_neg (by decide +kernel)]; exact ⟨rfl, rfl⟩))
    (fun os started H enc _ => lifted os started H enc)
theorem proved : Rows.BufferReadingsSaid := over
end Go.Proofs.Ytdejapkfijdadaa.bufferReadings
namespace Go.Proofs.Ytdejapkfijdadaa
theorem bufferReadings_holds : Rows.BufferReadingsSaid := bufferReadings.proved
end Go.Proofs.Ytdejapkfijdadaa
end
