/- The law BufferReads: its function's walk, the pure law, the row. Conditions: none. -/
import Derived.Test.YtdejapkfijdadaaRows
import Derived.WalkKit
import Derived.ProofKit
import Derived.OpenShut
import Derived.ShutString
import Derived.ChangeOld
import Derived.Below
import Derived.SizedLaws
import Derived.Carry
import Derived.Test.YtdejapkfijdadaaBB6
set_option linter.unusedVariables false
set_option linter.unusedSimpArgs false
section
namespace Go.Proofs.Ytdejapkfijdadaa
open Go.Ab Go.RowKit 
set_option maxRecDepth 100000
set_option maxHeartbeats 40000000
noncomputable def w13_c : Code := (Try.f13.body).getD .skip
theorem w13_h : Try.f13.body = some w13_c := by kernel_rfl
theorem w13 (a0_0 : Int) (a0_1 : List V) (a0_2 : Int) (a0_3 : Int) (a0_4 : Int) (a0_5 : Int) (a0_6 : List V) (a0_7 : Int) (a0_8 : Bool) (a1_0 : Int) (a1_1 : List V) (a1_2 : Int) (a1_3 : Int) (a1_4 : Int) (a1_5 : Int) (a1_6 : List V) (a1_7 : Int) (a1_8 : Bool) (r : Bool) (h : d13 a0_0 a0_1 a0_2 a0_3 a0_4 a0_5 a0_6 a0_7 a0_8 a1_0 a1_1 a1_2 a1_3 a1_4 a1_5 a1_6 a1_7 a1_8 = some r) : Ab.Fn Try.prog TT 13 [.agg [.i .i64 a0_0, .sl 5 a0_1, .i .i64 a0_2, .i .i64 a0_3, .i .i64 a0_4, .i .i64 a0_5, .sl 5 a0_6, .i .i64 a0_7, .b a0_8], .agg [.i .i64 a1_0, .sl 5 a1_1, .i .i64 a1_2, .i .i64 a1_3, .i .i64 a1_4, .i .i64 a1_5, .sl 5 a1_6, .i .i64 a1_7, .b a1_8]] (.b r) [] := by
  refine fn_pure tok (fun r => match r with | 16 => [[],[],[1],[0,1,2],[0,1,2,3],[0,1,2,3,4],[0,1,2,3,4],[0,1,2,3,4,6],[0,1,2,3,4,5,6,7],[0,1,2,3,4,5,6,7,8],[0,1,2,3,4,5,6,7,8,9],[0,1,2,3,4,5,6,7,8,9,10],[0,1,2,3,4,5,6,7,8,9,10],[0,1,2,3,4,5,6,7,8,9,10,12],[0,1,2,3,4,5,6,7,8,9,10,11,12,13],[0,1,2,3,4,5,6,7,8,9,10,11,12,13,14],[0,1,2,3,4,5,6,7,8,9,10,11,12,13,14,15],[0,1,2,3,4,5,6,7,8,9,10,11,12,13,14,15,16],[0,1,2,3,4,5,6,7,8,9,10,11,12,13,14,15,16],[0,1,2,3,4,5,6,7,8,9,10,11,12,13,14,15,16,17,18],[0,1,2,3,4,5,6,7,8,9,10,11,12,13,14,15,16],[0,1,2,3,4,5,6,7,8,9,10,11,12,13,14,15,16],[0,1,2,3,4,5,6,7,8,9,10,11,12,13,14,15,16,17,18,19,20,21],[0,1,2,3,4,5,6,7,8,9,10,11,12,13,14,15,16,17,18,19,20,21,22],[0,1,2,3,4,5,6,7,8,9,10,11,12,13,14,15,16,17,18,19,20,21,22,23],[0,1,2,3,4,5,6,7,8,9,10,11,12,13,14,15,16,17,18,19,20,21,22,23,24],[0,1,2,3,4,5,6,7,8,9,10,11,12,13,14,15,16,17,18,19,20,21,22,23,24,25],[0,1,2,3,4,5,6,7,8,9,10,11,12,13,14,15,16,17,18,19,20,21,22,23,24,25],[0,1,2,3,4,5,6,7,8,9,10,11,12,13,14,15,16,17,18,19,20,21,22,23,24,25,26,27],[0,1,2,3,4,5,6,7,8,9,10,11,12,13,14,15,16,17,18,19,20,21,22,23,24,25,26,27,28],[0,1,2,3,4,5,6,7,8,9,10,11,12,13,14,15,16,17,18,19,20,21,22,23,24,25,26,27,28,29]] | _ => []) Try.func13 (by kernel_rfl) w13_h (by kernel_rfl) ?_
  intro ar un cv mn mx pl mi cmp nt beq an scmp cat slen sbyte ssub ofB toB len gi gb gs gl sub put app ovl rep ne0 ge0 inb bnd room sroom need br call callb loop cut nl E R K hK
  have D := E.D
  clear E
  unfold d13 at h
  cbv
  refine R.callD h (fun x1 hx1 h2 => ?_)
  clear h; have h := h2; clear h2
  refine R.call' (w14 _ hx1) (by (first | (simp only [D.hbeq, D.hcmp, D.hnt]; done) | rfl | (simp only [D.hbeq, D.hcmp, D.hnt]; rfl))) ?_
  clear hx1; cbv
  refine R.callD h (fun x2 hx2 h2 => ?_)
  clear h; have h := h2; clear h2
  refine R.call' (w25s _ _ _ _ _ _ _ _ _ _ hx2) (by (first | (simp only [D.hbeq, D.hcmp, D.hnt]; done) | rfl | (simp only [D.hbeq, D.hcmp, D.hnt]; rfl))) ?_
  clear hx2; cbv
  refine R.callD h (fun x3 hx3 h2 => ?_)
  clear h; have h := h2; clear h2
  refine R.call' (w26s _ _ _ _ _ _ _ _ _ _ hx3) (by (first | (simp only [D.hbeq, D.hcmp, D.hnt]; done) | rfl | (simp only [D.hbeq, D.hcmp, D.hnt]; rfl))) ?_
  clear hx3; cbv
  refine R.callD h (fun x4 hx4 h2 => ?_)
  clear h; have h := h2; clear h2
  refine R.call' (w28s _ _ _ _ _ _ _ _ _ _ hx4) (by (first | (simp only [D.hbeq, D.hcmp, D.hnt]; done) | rfl | (simp only [D.hbeq, D.hcmp, D.hnt]; rfl))) ?_
  clear hx4; cbv
  refine R.callD h (fun x5 hx5 h2 => ?_)
  clear h; have h := h2; clear h2
  refine R.call' (w17s _ _ _ _ _ _ _ _ _ _ hx5) (by (first | (simp only [D.hbeq, D.hcmp, D.hnt]; done) | rfl | (simp only [D.hbeq, D.hcmp, D.hnt]; rfl))) ?_
  clear hx5; cbv
  refine R.callD h (fun x6 hx6 h2 => ?_)
  clear h; have h := h2; clear h2
  refine R.call' (w27s _ _ _ _ _ _ _ _ _ _ hx6) (by (first | (simp only [D.hbeq, D.hcmp, D.hnt]; done) | rfl | (simp only [D.hbeq, D.hcmp, D.hnt]; rfl))) ?_
  clear hx6; cbv
  refine R.callD h (fun x7 hx7 h2 => ?_)
  clear h; have h := h2; clear h2
  refine R.call' (w38 _ _ _ _ _ _ _ _ _ _ hx7) (by (first | (simp only [D.hbeq, D.hcmp, D.hnt]; done) | rfl | (simp only [D.hbeq, D.hcmp, D.hnt]; rfl))) ?_
  clear hx7; cbv
  refine R.callD h (fun x8 hx8 h2 => ?_)
  clear h; have h := h2; clear h2
  refine R.call' (w39 _ _ _ _ _ _ _ _ _ _ hx8) (by (first | (simp only [D.hbeq, D.hcmp, D.hnt]; done) | rfl | (simp only [D.hbeq, D.hcmp, D.hnt]; rfl))) ?_
  clear hx8; cbv
  refine R.callD h (fun x9 hx9 h2 => ?_)
  clear h; have h := h2; clear h2
  refine R.call' (w40 _ _ _ _ _ _ _ _ _ _ hx9) (by (first | (simp only [D.hbeq, D.hcmp, D.hnt]; done) | rfl | (simp only [D.hbeq, D.hcmp, D.hnt]; rfl))) ?_
  clear hx9; cbv
  refine R.callD h (fun x10 hx10 h2 => ?_)
  clear h; have h := h2; clear h2
  refine R.call' (w41 _ _ _ _ _ _ _ _ _ _ hx10) (by (first | (simp only [D.hbeq, D.hcmp, D.hnt]; done) | rfl | (simp only [D.hbeq, D.hcmp, D.hnt]; rfl))) ?_
  clear hx10; cbv
  refine R.callD h (fun x11 hx11 h2 => ?_)
  clear h; have h := h2; clear h2
  refine R.call' (w42 _ _ _ _ _ _ _ _ _ _ hx11) (by (first | (simp only [D.hbeq, D.hcmp, D.hnt]; done) | rfl | (simp only [D.hbeq, D.hcmp, D.hnt]; rfl))) ?_
  clear hx11; cbv
  refine R.cut' (by kernel_rfl) (by kernel_rfl) ?_
  cbv
  refine R.cutB (fun p => p) (fun _ _ e => e) h [] (fun p24 => [(107, .b p24)]) (fun p24 => []) (by kernel_rfl) (by kernel_rfl) (fun y20 hy hFy20 L hLy20 => ?_) (fun p24 h2 => ?_)
  · clear h; have h := hy; clear hy; cbv
    refine R.brD h (by (first | (simp only [D.hbeq, D.hcmp, D.hnt]; done) | rfl | (simp only [D.hbeq, D.hcmp, D.hnt]; rfl))) ?_ ?_ <;> clear h <;> intro h <;> cbv
    · obtain ⟨s', e, hi⟩ := jn_some (fun p => p) h
      refine hLy20 s' _ _ hi ⟨by kernel_rfl, ?_, ?_, by kernel_rfl, by kernel_rfl⟩ <;> cbv <;> (try (subst e; simp only [D.hbeq, D.hcmp, D.hnt, and_self, and_true, true_and] <;> (repeat' apply And.intro) <;> rfl))
    · refine R.callD h (fun x21 hx21 h2 => ?_)
      clear h; have h := h2; clear h2
      refine R.call' (w23 _ _ _ _ _ _ _ _ _ _ _ _ _ _ _ _ _ _ _ hx21) (by (first | (simp only [D.hbeq, D.hcmp, D.hnt]; done) | rfl | (simp only [D.hbeq, D.hcmp, D.hnt]; rfl))) ?_
      clear hx21; cbv
      refine R.brD h (by (first | (simp only [D.hbeq, D.hcmp, D.hnt]; done) | rfl | (simp only [D.hbeq, D.hcmp, D.hnt]; rfl))) ?_ ?_ <;> clear h <;> intro h <;> cbv
      · obtain ⟨s', e, hi⟩ := jn_some (fun p => p) h
        refine hLy20 s' _ _ hi ⟨by kernel_rfl, ?_, ?_, by kernel_rfl, by kernel_rfl⟩ <;> cbv <;> (try (subst e; simp only [D.hbeq, D.hcmp, D.hnt, and_self, and_true, true_and] <;> (repeat' apply And.intro) <;> rfl))
      · refine R.brD h (by (first | (simp only [D.hbeq, D.hcmp, D.hnt]; done) | rfl | (simp only [D.hbeq, D.hcmp, D.hnt]; rfl))) ?_ ?_ <;> clear h <;> intro h <;> cbv
        · obtain ⟨s', e, hi⟩ := jn_some (fun p => p) h
          refine hLy20 s' _ _ hi ⟨by kernel_rfl, ?_, ?_, by kernel_rfl, by kernel_rfl⟩ <;> cbv <;> (try (subst e; simp only [D.hbeq, D.hcmp, D.hnt, and_self, and_true, true_and] <;> (repeat' apply And.intro) <;> rfl))
        · refine R.callD h (fun x22 hx22 h2 => ?_)
          clear h; have h := h2; clear h2
          refine R.call' (w23 _ _ _ _ _ _ _ _ _ _ _ _ _ _ _ _ _ _ _ hx22) (by (first | (simp only [D.hbeq, D.hcmp, D.hnt]; done) | rfl | (simp only [D.hbeq, D.hcmp, D.hnt]; rfl))) ?_
          clear hx22; cbv
          refine R.brD h (by (first | (simp only [D.hbeq, D.hcmp, D.hnt]; done) | rfl | (simp only [D.hbeq, D.hcmp, D.hnt]; rfl))) ?_ ?_ <;> clear h <;> intro h <;> cbv
          · obtain ⟨s', e, hi⟩ := jn_some (fun p => p) h
            refine hLy20 s' _ _ hi ⟨by kernel_rfl, ?_, ?_, by kernel_rfl, by kernel_rfl⟩ <;> cbv <;> (try (subst e; simp only [D.hbeq, D.hcmp, D.hnt, and_self, and_true, true_and] <;> (repeat' apply And.intro) <;> rfl))
          · refine R.callD h (fun x23 hx23 h2 => ?_)
            clear h; have h := h2; clear h2
            refine R.call' (w18 _ _ _ hx23) (by (first | (simp only [D.hbeq, D.hcmp, D.hnt]; done) | rfl | (simp only [D.hbeq, D.hcmp, D.hnt]; rfl))) ?_
            clear hx23; cbv
            refine R.brD h (by (first | (simp only [D.hbeq, D.hcmp, D.hnt]; done) | rfl | (simp only [D.hbeq, D.hcmp, D.hnt]; rfl))) ?_ ?_ <;> clear h <;> intro h <;> cbv
            · obtain ⟨s', e, hi⟩ := jn_some (fun p => p) h
              refine hLy20 s' _ _ hi ⟨by kernel_rfl, ?_, ?_, by kernel_rfl, by kernel_rfl⟩ <;> cbv <;> (try (subst e; simp only [D.hbeq, D.hcmp, D.hnt, and_self, and_true, true_and] <;> (repeat' apply And.intro) <;> rfl))
            · refine R.brD h (by (first | (simp only [D.hbeq, D.hcmp, D.hnt]; done) | rfl | (simp only [D.hbeq, D.hcmp, D.hnt]; rfl))) ?_ ?_ <;> clear h <;> intro h <;> cbv
              · obtain ⟨s', e, hi⟩ := jn_some (fun p => p) h
                refine hLy20 s' _ _ hi ⟨by kernel_rfl, ?_, ?_, by kernel_rfl, by kernel_rfl⟩ <;> cbv <;> (try (subst e; simp only [D.hbeq, D.hcmp, D.hnt, and_self, and_true, true_and] <;> (repeat' apply And.intro) <;> rfl))
              · obtain ⟨s', e, hi⟩ := jn_some (fun p => p) h
                refine hLy20 s' _ _ hi ⟨by kernel_rfl, ?_, ?_, by kernel_rfl, by kernel_rfl⟩ <;> cbv <;> (try (subst e; simp only [D.hbeq, D.hcmp, D.hnt, and_self, and_true, true_and] <;> (repeat' apply And.intro) <;> rfl))
  · as_aux_lemma =>
    clear h; have h := h2; clear h2; try dsimp only at h
    cbv
    refine R.brD h (by (first | (simp only [D.hbeq, D.hcmp, D.hnt]; done) | rfl | (simp only [D.hbeq, D.hcmp, D.hnt]; rfl))) ?_ ?_ <;> clear h <;> intro h <;> cbv
    · have e := ret_some h; clear h
      refine hK _ _ ?_
      cbv
      try (subst e; simp only [D.hbeq, D.hcmp, D.hnt, and_self, and_true, true_and] <;> (repeat' apply And.intro) <;> rfl)
    · as_aux_lemma =>
      refine R.cut' (by kernel_rfl) (by kernel_rfl) ?_
      cbv
      refine R.cutB (fun p => p) (fun _ _ e => e) h [] (fun p37 => [(144, .b p37)]) (fun p37 => []) (by kernel_rfl) (by kernel_rfl) (fun y33 hy hFy33 L hLy33 => ?_) (fun p37 h2 => ?_)
      · clear h; have h := hy; clear hy; cbv
        refine R.callD h (fun x34 hx34 h2 => ?_)
        clear h; have h := h2; clear h2
        refine R.call' (w23 _ _ _ _ _ _ _ _ _ _ _ _ _ _ _ _ _ _ _ hx34) (by (first | (simp only [D.hbeq, D.hcmp, D.hnt]; done) | rfl | (simp only [D.hbeq, D.hcmp, D.hnt]; rfl))) ?_
        clear hx34; cbv
        refine R.brD h (by (first | (simp only [D.hbeq, D.hcmp, D.hnt]; done) | rfl | (simp only [D.hbeq, D.hcmp, D.hnt]; rfl))) ?_ ?_ <;> clear h <;> intro h <;> cbv
        · obtain ⟨s', e, hi⟩ := jn_some (fun p => p) h
          refine hLy33 s' _ _ hi ⟨by kernel_rfl, ?_, ?_, by kernel_rfl, by kernel_rfl⟩ <;> cbv <;> (try (subst e; simp only [D.hbeq, D.hcmp, D.hnt, and_self, and_true, true_and] <;> (repeat' apply And.intro) <;> rfl))
        · refine R.callD h (fun x35 hx35 h2 => ?_)
          clear h; have h := h2; clear h2
          refine R.call' (w18 _ _ _ hx35) (by (first | (simp only [D.hbeq, D.hcmp, D.hnt]; done) | rfl | (simp only [D.hbeq, D.hcmp, D.hnt]; rfl))) ?_
          clear hx35; cbv
          refine R.brD h (by (first | (simp only [D.hbeq, D.hcmp, D.hnt]; done) | rfl | (simp only [D.hbeq, D.hcmp, D.hnt]; rfl))) ?_ ?_ <;> clear h <;> intro h <;> cbv
          · obtain ⟨s', e, hi⟩ := jn_some (fun p => p) h
            refine hLy33 s' _ _ hi ⟨by kernel_rfl, ?_, ?_, by kernel_rfl, by kernel_rfl⟩ <;> cbv <;> (try (subst e; simp only [D.hbeq, D.hcmp, D.hnt, and_self, and_true, true_and] <;> (repeat' apply And.intro) <;> rfl))
          · refine R.brD h (by (first | (simp only [D.hbeq, D.hcmp, D.hnt]; done) | rfl | (simp only [D.hbeq, D.hcmp, D.hnt]; rfl))) ?_ ?_ <;> clear h <;> intro h <;> cbv
            · obtain ⟨s', e, hi⟩ := jn_some (fun p => p) h
              refine hLy33 s' _ _ hi ⟨by kernel_rfl, ?_, ?_, by kernel_rfl, by kernel_rfl⟩ <;> cbv <;> (try (subst e; simp only [D.hbeq, D.hcmp, D.hnt, and_self, and_true, true_and] <;> (repeat' apply And.intro) <;> rfl))
            · refine R.brD h (by (first | (simp only [D.hbeq, D.hcmp, D.hnt]; done) | rfl | (simp only [D.hbeq, D.hcmp, D.hnt]; rfl))) ?_ ?_ <;> clear h <;> intro h <;> cbv
              · obtain ⟨s', e, hi⟩ := jn_some (fun p => p) h
                refine hLy33 s' _ _ hi ⟨by kernel_rfl, ?_, ?_, by kernel_rfl, by kernel_rfl⟩ <;> cbv <;> (try (subst e; simp only [D.hbeq, D.hcmp, D.hnt, and_self, and_true, true_and] <;> (repeat' apply And.intro) <;> rfl))
              · refine R.callD h (fun x36 hx36 h2 => ?_)
                clear h; have h := h2; clear h2
                refine R.call' (w18 _ _ _ hx36) (by (first | (simp only [D.hbeq, D.hcmp, D.hnt]; done) | rfl | (simp only [D.hbeq, D.hcmp, D.hnt]; rfl))) ?_
                clear hx36; cbv
                refine R.brD h (by (first | (simp only [D.hbeq, D.hcmp, D.hnt]; done) | rfl | (simp only [D.hbeq, D.hcmp, D.hnt]; rfl))) ?_ ?_ <;> clear h <;> intro h <;> cbv
                · obtain ⟨s', e, hi⟩ := jn_some (fun p => p) h
                  refine hLy33 s' _ _ hi ⟨by kernel_rfl, ?_, ?_, by kernel_rfl, by kernel_rfl⟩ <;> cbv <;> (try (subst e; simp only [D.hbeq, D.hcmp, D.hnt, and_self, and_true, true_and] <;> (repeat' apply And.intro) <;> rfl))
                · obtain ⟨s', e, hi⟩ := jn_some (fun p => p) h
                  refine hLy33 s' _ _ hi ⟨by kernel_rfl, ?_, ?_, by kernel_rfl, by kernel_rfl⟩ <;> cbv <;> (try (subst e; simp only [D.hbeq, D.hcmp, D.hnt, and_self, and_true, true_and] <;> (repeat' apply And.intro) <;> rfl))
      · clear h; have h := h2; clear h2; try dsimp only at h
        cbv
        refine R.brD h (by (first | (simp only [D.hbeq, D.hcmp, D.hnt]; done) | rfl | (simp only [D.hbeq, D.hcmp, D.hnt]; rfl))) ?_ ?_ <;> clear h <;> intro h <;> cbv
        · have e := ret_some h; clear h
          refine hK _ _ ?_
          cbv
          try (subst e; simp only [D.hbeq, D.hcmp, D.hnt, and_self, and_true, true_and] <;> (repeat' apply And.intro) <;> rfl)
        · refine R.cut' (by kernel_rfl) (by kernel_rfl) ?_
          cbv
          refine R.callD h (fun x42 hx42 h2 => ?_)
          clear h; have h := h2; clear h2
          refine R.call' (w18 _ _ _ hx42) (by (first | (simp only [D.hbeq, D.hcmp, D.hnt]; done) | rfl | (simp only [D.hbeq, D.hcmp, D.hnt]; rfl))) ?_
          clear hx42; cbv
          refine R.brD h (by (first | (simp only [D.hbeq, D.hcmp, D.hnt]; done) | rfl | (simp only [D.hbeq, D.hcmp, D.hnt]; rfl))) ?_ ?_ <;> clear h <;> intro h <;> cbv
          · refine R.brD h (by (first | (simp only [D.hbeq, D.hcmp, D.hnt]; done) | rfl | (simp only [D.hbeq, D.hcmp, D.hnt]; rfl))) ?_ ?_ <;> clear h <;> intro h <;> cbv
            · refine R.brD h (by (first | (simp only [D.hbeq, D.hcmp, D.hnt]; done) | rfl | (simp only [D.hbeq, D.hcmp, D.hnt]; rfl))) ?_ ?_ <;> clear h <;> intro h <;> cbv
              · refine R.callD h (fun x43 hx43 h2 => ?_)
                clear h; have h := h2; clear h2
                refine R.call' (w43 _ _ _ _ _ _ _ _ _ _ _ _ _ _ _ _ _ _ _ hx43) (by (first | (simp only [D.hbeq, D.hcmp, D.hnt]; done) | rfl | (simp only [D.hbeq, D.hcmp, D.hnt]; rfl))) ?_
                clear hx43; cbv
                refine R.callD h (fun x44 hx44 h2 => ?_)
                clear h; have h := h2; clear h2
                refine R.call' (w23 _ _ _ _ _ _ _ _ _ _ _ _ _ _ _ _ _ _ _ hx44) (by (first | (simp only [D.hbeq, D.hcmp, D.hnt]; done) | rfl | (simp only [D.hbeq, D.hcmp, D.hnt]; rfl))) ?_
                clear hx44; cbv
                refine R.brD h (by (first | (simp only [D.hbeq, D.hcmp, D.hnt]; done) | rfl | (simp only [D.hbeq, D.hcmp, D.hnt]; rfl))) ?_ ?_ <;> clear h <;> intro h <;> cbv
                · refine R.callD h (fun x45 hx45 h2 => ?_)
                  clear h; have h := h2; clear h2
                  refine R.call' (w43 _ _ _ _ _ _ _ _ _ _ _ _ _ _ _ _ _ _ _ hx45) (by (first | (simp only [D.hbeq, D.hcmp, D.hnt]; done) | rfl | (simp only [D.hbeq, D.hcmp, D.hnt]; rfl))) ?_
                  clear hx45; cbv
                  have e := ret_some h; clear h
                  refine hK _ _ ?_
                  cbv
                  try (subst e; simp only [D.hbeq, D.hcmp, D.hnt, and_self, and_true, true_and] <;> (repeat' apply And.intro) <;> rfl)
                · have e := ret_some h; clear h
                  refine hK _ _ ?_
                  cbv
                  try (subst e; simp only [D.hbeq, D.hcmp, D.hnt, and_self, and_true, true_and] <;> (repeat' apply And.intro) <;> rfl)
              · have e := ret_some h; clear h
                refine hK _ _ ?_
                cbv
                try (subst e; simp only [D.hbeq, D.hcmp, D.hnt, and_self, and_true, true_and] <;> (repeat' apply And.intro) <;> rfl)
            · have e := ret_some h; clear h
              refine hK _ _ ?_
              cbv
              try (subst e; simp only [D.hbeq, D.hcmp, D.hnt, and_self, and_true, true_and] <;> (repeat' apply And.intro) <;> rfl)
          · have e := ret_some h; clear h
            refine hK _ _ ?_
            cbv
            try (subst e; simp only [D.hbeq, D.hcmp, D.hnt, and_self, and_true, true_and] <;> (repeat' apply And.intro) <;> rfl)
end Go.Proofs.Ytdejapkfijdadaa

end
section
/- The one statement over its function that the law BufferReads comes to. Conditions: none. -/
-- Told by a program of this seat's session. Not trusted: Lean checks it.

namespace Go.Proofs.Ytdejapkfijdadaa
open Go.Ab Go.RowKit
def BufferReads.Claim : Prop := ∀ (x0 : (Int × ((List Int) × (Int × (Int × (Int × (Int × ((List Int) × (Int × Bool))))))))) (x1 : (Int × ((List Int) × (Int × (Int × (Int × (Int × ((List Int) × (Int × Bool))))))))), (fun x : (Int × ((List Int) × (Int × (Int × (Int × (Int × ((List Int) × (Int × Bool)))))))) => (fun n : Int => (Lit.int .i64 n).wf = true) x.1 ∧ (fun x : ((List Int) × (Int × (Int × (Int × (Int × ((List Int) × (Int × Bool))))))) => (fun l : List Int => l.length ≤ maxLen ∧ ∀ x ∈ l, (fun n : Int => (Lit.int .u8 n).wf = true) x) x.1 ∧ (fun x : (Int × (Int × (Int × (Int × ((List Int) × (Int × Bool)))))) => (fun n : Int => (Lit.int .i64 n).wf = true) x.1 ∧ (fun x : (Int × (Int × (Int × ((List Int) × (Int × Bool))))) => (fun n : Int => (Lit.int .i64 n).wf = true) x.1 ∧ (fun x : (Int × (Int × ((List Int) × (Int × Bool)))) => (fun n : Int => (Lit.int .i64 n).wf = true) x.1 ∧ (fun x : (Int × ((List Int) × (Int × Bool))) => (fun n : Int => (Lit.int .i64 n).wf = true) x.1 ∧ (fun x : ((List Int) × (Int × Bool)) => (fun l : List Int => l.length ≤ maxLen ∧ ∀ x ∈ l, (fun n : Int => (Lit.int .u8 n).wf = true) x) x.1 ∧ (fun x : (Int × Bool) => (fun n : Int => (Lit.int .i64 n).wf = true) x.1 ∧ (fun _ : Bool => True) x.2) x.2) x.2) x.2) x.2) x.2) x.2) x.2) x0 → (fun x : (Int × ((List Int) × (Int × (Int × (Int × (Int × ((List Int) × (Int × Bool)))))))) => (fun n : Int => (Lit.int .i64 n).wf = true) x.1 ∧ (fun x : ((List Int) × (Int × (Int × (Int × (Int × ((List Int) × (Int × Bool))))))) => (fun l : List Int => l.length ≤ maxLen ∧ ∀ x ∈ l, (fun n : Int => (Lit.int .u8 n).wf = true) x) x.1 ∧ (fun x : (Int × (Int × (Int × (Int × ((List Int) × (Int × Bool)))))) => (fun n : Int => (Lit.int .i64 n).wf = true) x.1 ∧ (fun x : (Int × (Int × (Int × ((List Int) × (Int × Bool))))) => (fun n : Int => (Lit.int .i64 n).wf = true) x.1 ∧ (fun x : (Int × (Int × ((List Int) × (Int × Bool)))) => (fun n : Int => (Lit.int .i64 n).wf = true) x.1 ∧ (fun x : (Int × ((List Int) × (Int × Bool))) => (fun n : Int => (Lit.int .i64 n).wf = true) x.1 ∧ (fun x : ((List Int) × (Int × Bool)) => (fun l : List Int => l.length ≤ maxLen ∧ ∀ x ∈ l, (fun n : Int => (Lit.int .u8 n).wf = true) x) x.1 ∧ (fun x : (Int × Bool) => (fun n : Int => (Lit.int .i64 n).wf = true) x.1 ∧ (fun _ : Bool => True) x.2) x.2) x.2) x.2) x.2) x.2) x.2) x.2) x1 → Ab.Fn Try.prog TT 13 [.agg [.i .i64 x0.1, .sl 5 (x0.2.1.map (fun x : Int => .i .u8 x)), .i .i64 x0.2.2.1, .i .i64 x0.2.2.2.1, .i .i64 x0.2.2.2.2.1, .i .i64 x0.2.2.2.2.2.1, .sl 5 (x0.2.2.2.2.2.2.1.map (fun x : Int => .i .u8 x)), .i .i64 x0.2.2.2.2.2.2.2.1, .b x0.2.2.2.2.2.2.2.2], .agg [.i .i64 x1.1, .sl 5 (x1.2.1.map (fun x : Int => .i .u8 x)), .i .i64 x1.2.2.1, .i .i64 x1.2.2.2.1, .i .i64 x1.2.2.2.2.1, .i .i64 x1.2.2.2.2.2.1, .sl 5 (x1.2.2.2.2.2.2.1.map (fun x : Int => .i .u8 x)), .i .i64 x1.2.2.2.2.2.2.2.1, .b x1.2.2.2.2.2.2.2.2]] (.b true) []
end Go.Proofs.Ytdejapkfijdadaa
end
section
/- The law BufferReads by the calculus. Conditions: none. -/

namespace Go.Proofs.Ytdejapkfijdadaa
open Go.Ab Go.RowKit
theorem BufferReads.pure : BufferReads.Claim := by
  intro x0 x1 h0 h1
  have l1 := h0.2.1.1
  have l2 := h0.2.2.2.2.2.2.1.1
  exact w13 _ _ _ _ _ _ _ _ _ _ _ _ _ _ _ _ _ _ true (pl13 x0.1 _ x0.2.2.1 x0.2.2.2.1 x0.2.2.2.2.1 x0.2.2.2.2.2.1 _ x0.2.2.2.2.2.2.2.1 x0.2.2.2.2.2.2.2.2 x1.1 _ x1.2.2.1 x1.2.2.2.1 x1.2.2.2.2.1 x1.2.2.2.2.2.1 _ x1.2.2.2.2.2.2.2.1 x1.2.2.2.2.2.2.2.2 (u8_map h0.2.1.2) (u8_map h0.2.2.2.2.2.2.1.2) (u8_map h1.2.1.2) (u8_map h1.2.2.2.2.2.2.1.2) (by rw [List.length_map]; exact l1) (by rw [List.length_map]; exact l2))
end Go.Proofs.Ytdejapkfijdadaa
end
section
/- BufferReads: the law's call returns true for every input, and its arguments read afterwards as_ before. Conditions: none. -/
-- Told by a program of this seat's session. Not trusted: Lean checks it.

namespace Go.Proofs.Ytdejapkfijdadaa.bufferReads
open Go.ChangeShapes Go.WideShapes Go.ChangeAt Go.RowKit Go.Ab Go.Proofs.Ytdejapkfijdadaa
open Go.ChangeMaps (open_string shut_string)
theorem own : ownKnob Try.prog.godebug = none := by kernel_rfl
theorem laidOut : laidOutB Try.prog = true := by kernel_rfl
set_option maxRecDepth 100000 in
set_option maxHeartbeats 8000000 in
theorem lifted (os : Os) (started : os.Started) (H : Type) (enc : TypeId × Value → H) :
    ReturnsInHanded {} Try.checked os 13 .any (Rows.bufferReadsSpec.pre6 enc Try.prog Try.f13 Rows.bufferReadsRow.domain false) (Rows.bufferReadsSpec.post enc Try.prog Try.f13 false true false false) := by
  refine returnsInHanded_of_change_sized (C := Try.checked) own started (by kernel_rfl) Try.func13
    (ChangeSpec.witness6 (enc := enc) (C := Try.checked) false ⟨#[], #[.agg #[.int .i64 0, .slice none 0 0, .int .i64 0, .int .i64 0, .int .i64 0, .int .i64 0, .slice none 0 0, .int .i64 0, .bool false], .agg #[.int .i64 0, .slice none 0 0, .int .i64 0, .int .i64 0, .int .i64 0, .int .i64 0, .slice none 0 0, .int .i64 0, .bool false]], []⟩ 8 (by kernel_rfl) (by kernel_rfl) (by kernel_rfl) (by kernel_rfl)) ?_
  intro W base args ds gs before hval0 hW hcnd hsz0 _
  have hval : ∀ (j : Nat) t v, Try.f13.params[j]? = some t → args[j]? = some v → Value.okWide Try.prog W .any base t v := hval0
  have hW' := hW
  obtain ⟨p, q, hA0, hV, rfl, hfz, hnd⟩ := hW
  have hA : DataW.TrodAll enc Try.prog W 0 (fun _ => true) true Try.f13.params.toList args.toList ds p := hA0
  rw [Try.params13] at hA hval
  obtain ⟨v0, vs0, d0, ds0, p0, q0, hargs, rfl, rfl, h0, r0⟩ := trodAll_cons hA
  obtain ⟨v1, vs1, d1, ds1, p1, q1, rfl, rfl, rfl, h1, r1⟩ := trodAll_cons r0
  obtain ⟨rfl, rfl, rfl⟩ := trodAll_nil r1
  obtain rfl : args = #[v0, v1] := by cases args; simp_all
  obtain ⟨rfl, rfl⟩ := trodVars_none hV
  have k0 := h0
  have lt0 : ∀ x ∈ p0, x.block < W.heap.size := by obtain ⟨m, hm⟩ := k0; exact DataW.trod_lt m _ _ _ hm
  obtain ⟨cs0, rfl, sz0⟩ := okWide_struct Try.underlying26 (hval 0 26 v0 rfl rfl)
  obtain ⟨x0, ra0, rb0, _, ok0⟩ := h0.elim fun fuel hf => ((OpV.struct tok (te := te26) (by kernel_rfl) rfl (by kernel_rfl) (OpAt.cons rfl (by kernel_rfl) (OpV.int tok (e := te3) (by kernel_rfl) rfl) (OpAt.cons rfl (by kernel_rfl) (OpV.slice tok (fun x : Int => .i .u8 x) (te := te24) (eu := te5) (by kernel_rfl) rfl (by kernel_rfl) (by decide) (by kernel_rfl) (.inr ⟨by kernel_rfl, rfl, fun _ => rfl⟩) (OpV.int tok (e := te5) (by kernel_rfl) rfl)) (OpAt.cons rfl (by kernel_rfl) (OpV.int tok (e := te3) (by kernel_rfl) rfl) (OpAt.cons rfl (by kernel_rfl) (OpV.int tok (e := te3) (by kernel_rfl) rfl) (OpAt.cons rfl (by kernel_rfl) (OpV.int tok (e := te3) (by kernel_rfl) rfl) (OpAt.cons rfl (by kernel_rfl) (OpV.int tok (e := te3) (by kernel_rfl) rfl) (OpAt.cons rfl (by kernel_rfl) (OpV.slice tok (fun x : Int => .i .u8 x) (te := te24) (eu := te5) (by kernel_rfl) rfl (by kernel_rfl) (by decide) (by kernel_rfl) (.inr ⟨by kernel_rfl, rfl, fun _ => rfl⟩) (OpV.int tok (e := te5) (by kernel_rfl) rfl)) (OpAt.cons rfl (by kernel_rfl) (OpV.int tok (e := te3) (by kernel_rfl) rfl) (OpAt.last rfl (by kernel_rfl) (OpV.bool tok (e := te4) (by kernel_rfl) rfl))))))))))) : OpV TT enc Try.prog W 26 _ _ _) _ _ _ hf
  have k1 := h1
  have lt1 : ∀ x ∈ p1, x.block < W.heap.size := by obtain ⟨m, hm⟩ := k1; exact DataW.trod_lt m _ _ _ hm
  obtain ⟨cs1, rfl, sz1⟩ := okWide_struct Try.underlying26 (hval 1 26 v1 rfl rfl)
  obtain ⟨x1, ra1, rb1, _, ok1⟩ := h1.elim fun fuel hf => ((OpV.struct tok (te := te26) (by kernel_rfl) rfl (by kernel_rfl) (OpAt.cons rfl (by kernel_rfl) (OpV.int tok (e := te3) (by kernel_rfl) rfl) (OpAt.cons rfl (by kernel_rfl) (OpV.slice tok (fun x : Int => .i .u8 x) (te := te24) (eu := te5) (by kernel_rfl) rfl (by kernel_rfl) (by decide) (by kernel_rfl) (.inr ⟨by kernel_rfl, rfl, fun _ => rfl⟩) (OpV.int tok (e := te5) (by kernel_rfl) rfl)) (OpAt.cons rfl (by kernel_rfl) (OpV.int tok (e := te3) (by kernel_rfl) rfl) (OpAt.cons rfl (by kernel_rfl) (OpV.int tok (e := te3) (by kernel_rfl) rfl) (OpAt.cons rfl (by kernel_rfl) (OpV.int tok (e := te3) (by kernel_rfl) rfl) (OpAt.cons rfl (by kernel_rfl) (OpV.int tok (e := te3) (by kernel_rfl) rfl) (OpAt.cons rfl (by kernel_rfl) (OpV.slice tok (fun x : Int => .i .u8 x) (te := te24) (eu := te5) (by kernel_rfl) rfl (by kernel_rfl) (by decide) (by kernel_rfl) (.inr ⟨by kernel_rfl, rfl, fun _ => rfl⟩) (OpV.int tok (e := te5) (by kernel_rfl) rfl)) (OpAt.cons rfl (by kernel_rfl) (OpV.int tok (e := te3) (by kernel_rfl) rfl) (OpAt.last rfl (by kernel_rfl) (OpV.bool tok (e := te4) (by kernel_rfl) rfl))))))))))) : OpV TT enc Try.prog W 26 _ _ _) _ _ _ hf
  clear hA0 hval0 hsz0
  refine (law_calls (w := W) ⟨_, _, Try.func13, by kernel_rfl, w13_h⟩ (BufferReads.pure x0 x1 ok0 ok1) (gok W) (args_agg ra0 rb0 (args_agg ra1 rb1 args_nil))).mono fun e W' ⟨he, bel⟩ => ?_
  subst he
  exact ⟨_, rfl, _, _, _, [], _, [], hW', trodAll_mk1 (shut_bool Try.underlying4 _), (trodAll_cons_mk (Below.trod laidOut (by kernel_rfl) (of_decide_eq_true (by kernel_rfl)) k0 bel lt0) (trodAll_cons_mk (Below.trod laidOut (by kernel_rfl) (of_decide_eq_true (by kernel_rfl)) k1 bel lt1) trodAll_mk0)), rfl, bel.frame _, fun h => by cases h⟩
theorem over : Rows.bufferReadsRow.holds Try.pinned (OpenSpec.ofChange Rows.bufferReadsSpec) :=
  OpenClaim.holds_of_wide 13 Try.f13 rfl rfl rfl rfl rfl rfl rfl ⟨rfl, rfl, rfl, rfl, rfl⟩ rfl rfl rfl rfl rfl (by kernel_rfl) Try.func13 (by kernel_rfl)
    (of_decide_eq_true (by kernel_rfl)) (by unfold Func.isWrapper; first | (rw [if_pos (by decide +kernel)]; kernel_rfl) | (rw [if_neg (by decide +kernel)]; exact ⟨rfl, rfl⟩))
    (fun os started H enc _ => lifted os started H enc)
theorem proved : Rows.BufferReadsSaid := over
end Go.Proofs.Ytdejapkfijdadaa.bufferReads
namespace Go.Proofs.Ytdejapkfijdadaa
theorem bufferReads_holds : Rows.BufferReadsSaid := bufferReads.proved
end Go.Proofs.Ytdejapkfijdadaa
end
