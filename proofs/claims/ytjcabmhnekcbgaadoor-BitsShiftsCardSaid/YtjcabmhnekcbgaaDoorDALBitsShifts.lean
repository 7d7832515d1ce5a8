/- The law BitsShifts: its function's walk, the pure law, the row. Conditions: none. -/
import Derived.Test.YtjcabmhnekcbgaaDoorRows
import Derived.Test.YtjcabmhnekcbgaaDoorCards
import Derived.Test.YtjcabmhnekcbgaaDoorTie
import Derived.WalkKit
import Derived.ProofKit
import Derived.OpenShut
import Derived.ShutString
import Derived.ChangeOld
import Derived.Below
import Derived.SizedLaws
import Derived.Carry
import Derived.LaidMore
import Derived.Stop.Joined
import Derived.SevenTiedAt
import Derived.Test.YtjcabmhnekcbgaaDoorDA5
set_option linter.unusedVariables false
set_option linter.unusedSimpArgs false
section
namespace Go.Proofs.YtjcabmhnekcbgaaDoor
open Go.Ab Go.RowKit 
set_option maxRecDepth 100000
set_option maxHeartbeats 40000000
noncomputable def w3_c : Code := (Tryd.f3.body).getD .skip
theorem w3_h : Tryd.f3.body = some w3_c := by kernel_rfl
theorem w3 (a0_0 : Int) (a0_1 : Bool) (a1 : Int) (a2_0 : Int) (a2_1 : Int) (r : Bool) (h : d3 a0_0 a0_1 a1 a2_0 a2_1 = some r) : Ab.Fn Tryd.prog TT 3 [.agg [.i .i64 a0_0, .b a0_1], .i .i64 a1, .agg [.i .i64 a2_0, .i .i64 a2_1]] (.b r) [] := by
  refine fn_pure tok (fun r => match r with | 6 => [[],[],[],[],[3],[0,1,2,3,4],[0,1,2,3,4,5],[0,1,2,3,4,5,6],[0,1,2,3,4,5,6],[0,1,2,3,4,5,6],[],[0,1,2,3,4,5,6,7,10],[0,1,2,3,4,5,6,7,8,10,11],[0,1,2,3,4,5,6,7,8,9,10,11,12]] | 7 => [[],[],[],[],[3],[0,1,2,3,4],[0,1,2,3,4,5],[0,1,2,3,4,5,6],[0,1,2,3,4,5,6],[0,1,2,3,4,5,6],[],[0,1,2,3,4,5,6,7,10],[0,1,2,3,4,5,6,7,8,10,11],[0,1,2,3,4,5,6,7,8,9,10,11,12]] | 18 => [[],[],[],[],[3],[0,1,2,3,4],[0,1,2,3,4,5],[0,1,2,3,4,5,6],[0,1,2,3,4,5,6],[0,1,2,3,4,5,6],[],[0,1,2,3,4,5,6,7,10],[0,1,2,3,4,5,6,7,8,10,11],[0,1,2,3,4,5,6,7,8,9,10,11,12]] | 19 => [[],[],[],[],[3],[0,1,2,3,4],[0,1,2,3,4,5],[0,1,2,3,4,5,6],[0,1,2,3,4,5,6],[0,1,2,3,4,5,6],[],[0,1,2,3,4,5,6,7,10],[0,1,2,3,4,5,6,7,8,10,11],[0,1,2,3,4,5,6,7,8,9,10,11,12]] | 20 => [[],[],[],[],[3],[],[5],[3,4,5,6],[0,1,2,3,4,5,6,7],[0,1,2,3,4,5,6,7,8],[0,1,2,3,4,5,6,7,8,9],[0,1,2,3,4,5,6,7,8,9],[0,1,2,3,4,5,6,7,8,9],[],[0,1,2,3,4,5,6,7,8,9,10,13],[0,1,2,3,4,5,6,7,8,9,10,11,13,14],[0,1,2,3,4,5,6,7,8,9,10,11,12,13,14,15]] | 21 => [[],[],[],[],[3],[],[5],[3,4,5,6],[0,1,2,3,4,5,6,7],[0,1,2,3,4,5,6,7,8],[0,1,2,3,4,5,6,7,8,9],[0,1,2,3,4,5,6,7,8,9],[0,1,2,3,4,5,6,7,8,9],[],[0,1,2,3,4,5,6,7,8,9,10,13],[0,1,2,3,4,5,6,7,8,9,10,11,13,14],[0,1,2,3,4,5,6,7,8,9,10,11,12,13,14,15]] | _ => []) Tryd.func3 (by kernel_rfl) w3_h (by kernel_rfl) ?_
  intro ar un cv mn mx pl mi cmp nt beq an scmp cat slen sbyte ssub ofB toB len gi gb gs gl sub put app ovl rep ne0 ge0 inb bnd room sroom need br call callb loop cut nl E R K hK
  have D := E.D
  clear E
  unfold d3 at h
  cbv
  refine R.callD h (fun x1 hx1 h2 => ?_)
  clear h; have h := h2; clear h2
  refine R.call' (w7 _ hx1) (by (first | (simp only [D.han, D.har, D.hbeq, D.hcmp, D.hge0, D.hnt]; done) | rfl | (simp only [D.han, D.har, D.hbeq, D.hcmp, D.hge0, D.hnt]; rfl))) ?_
  clear hx1; cbv
  refine R.callD h (fun x2 hx2 h2 => ?_)
  clear h; have h := h2; clear h2
  refine R.call' (w8 _ _ _ hx2) (by (first | (simp only [D.han, D.har, D.hbeq, D.hcmp, D.hge0, D.hnt]; done) | rfl | (simp only [D.han, D.har, D.hbeq, D.hcmp, D.hge0, D.hnt]; rfl))) ?_
  clear hx2; cbv
  refine R.cut' (by kernel_rfl) (by kernel_rfl) ?_
  cbv
  refine R.cutB (fun p => p) (fun _ _ e => e) h [] (fun p6 => [(73, .b p6)]) (fun p6 => []) (by kernel_rfl) (by kernel_rfl) (fun y5 hy hFy5 L hLy5 => ?_) (fun p6 h2 => ?_)
  · clear h; have h := hy; clear hy; cbv
    refine R.brD h (by (first | (simp only [D.han, D.har, D.hbeq, D.hcmp, D.hge0, D.hnt]; done) | rfl | (simp only [D.han, D.har, D.hbeq, D.hcmp, D.hge0, D.hnt]; rfl))) ?_ ?_ <;> clear h <;> intro h <;> cbv
    · obtain ⟨s', e, hi⟩ := jn_some (fun p => p) h
      refine hLy5 s' _ _ hi ⟨by kernel_rfl, ?_, ?_, by kernel_rfl, by kernel_rfl⟩ <;> cbv <;> (try (subst e; simp only [D.han, D.har, D.hbeq, D.hcmp, D.hge0, D.hnt, and_self, and_true, true_and] <;> (repeat' apply And.intro) <;> rfl))
    · refine R.brD h (by (first | (simp only [D.han, D.har, D.hbeq, D.hcmp, D.hge0, D.hnt]; done) | rfl | (simp only [D.han, D.har, D.hbeq, D.hcmp, D.hge0, D.hnt]; rfl))) ?_ ?_ <;> clear h <;> intro h <;> cbv
      · obtain ⟨s', e, hi⟩ := jn_some (fun p => p) h
        refine hLy5 s' _ _ hi ⟨by kernel_rfl, ?_, ?_, by kernel_rfl, by kernel_rfl⟩ <;> cbv <;> (try (subst e; simp only [D.han, D.har, D.hbeq, D.hcmp, D.hge0, D.hnt, and_self, and_true, true_and] <;> (repeat' apply And.intro) <;> rfl))
      · refine R.brD h (by (first | (simp only [D.han, D.har, D.hbeq, D.hcmp, D.hge0, D.hnt]; done) | rfl | (simp only [D.han, D.har, D.hbeq, D.hcmp, D.hge0, D.hnt]; rfl))) ?_ ?_ <;> clear h <;> intro h <;> cbv
        · obtain ⟨s', e, hi⟩ := jn_some (fun p => p) h
          refine hLy5 s' _ _ hi ⟨by kernel_rfl, ?_, ?_, by kernel_rfl, by kernel_rfl⟩ <;> cbv <;> (try (subst e; simp only [D.han, D.har, D.hbeq, D.hcmp, D.hge0, D.hnt, and_self, and_true, true_and] <;> (repeat' apply And.intro) <;> rfl))
        · refine R.brD h (by (first | (simp only [D.han, D.har, D.hbeq, D.hcmp, D.hge0, D.hnt]; done) | rfl | (simp only [D.han, D.har, D.hbeq, D.hcmp, D.hge0, D.hnt]; rfl))) ?_ ?_ <;> clear h <;> intro h <;> cbv
          · obtain ⟨s', e, hi⟩ := jn_some (fun p => p) h
            refine hLy5 s' _ _ hi ⟨by kernel_rfl, ?_, ?_, by kernel_rfl, by kernel_rfl⟩ <;> cbv <;> (try (subst e; simp only [D.han, D.har, D.hbeq, D.hcmp, D.hge0, D.hnt, and_self, and_true, true_and] <;> (repeat' apply And.intro) <;> rfl))
          · refine R.brD h (by (first | (simp only [D.han, D.har, D.hbeq, D.hcmp, D.hge0, D.hnt]; done) | rfl | (simp only [D.han, D.har, D.hbeq, D.hcmp, D.hge0, D.hnt]; rfl))) ?_ ?_ <;> clear h <;> intro h <;> cbv
            · obtain ⟨s', e, hi⟩ := jn_some (fun p => p) h
              refine hLy5 s' _ _ hi ⟨by kernel_rfl, ?_, ?_, by kernel_rfl, by kernel_rfl⟩ <;> cbv <;> (try (subst e; simp only [D.han, D.har, D.hbeq, D.hcmp, D.hge0, D.hnt, and_self, and_true, true_and] <;> (repeat' apply And.intro) <;> rfl))
            · obtain ⟨s', e, hi⟩ := jn_some (fun p => p) h
              refine hLy5 s' _ _ hi ⟨by kernel_rfl, ?_, ?_, by kernel_rfl, by kernel_rfl⟩ <;> cbv <;> (try (subst e; simp only [D.han, D.har, D.hbeq, D.hcmp, D.hge0, D.hnt, and_self, and_true, true_and] <;> (repeat' apply And.intro) <;> rfl))
  · as_aux_lemma =>
    clear h; have h := h2; clear h2; try dsimp only at h
    cbv
    refine R.brD h (by (first | (simp only [D.han, D.har, D.hbeq, D.hcmp, D.hge0, D.hnt]; done) | rfl | (simp only [D.han, D.har, D.hbeq, D.hcmp, D.hge0, D.hnt]; rfl))) ?_ ?_ <;> clear h <;> intro h <;> cbv
    · have e := ret_some h; clear h
      refine hK _ _ ?_
      cbv
      try (subst e; simp only [D.han, D.har, D.hbeq, D.hcmp, D.hge0, D.hnt, and_self, and_true, true_and] <;> (repeat' apply And.intro) <;> rfl)
    · as_aux_lemma =>
      refine R.needD h (by (first | (simp only [D.han, D.har, D.hbeq, D.hcmp, D.hge0, D.hnt]; done) | rfl | (simp only [D.han, D.har, D.hbeq, D.hcmp, D.hge0, D.hnt]; rfl))) ?_
      clear h; intro h; cbv
      refine R.callD h (fun x7 hx7 h2 => ?_)
      clear h; have h := h2; clear h2
      refine R.call' (w10 _ hx7) (by (first | (simp only [D.han, D.har, D.hbeq, D.hcmp, D.hge0, D.hnt]; done) | rfl | (simp only [D.han, D.har, D.hbeq, D.hcmp, D.hge0, D.hnt]; rfl))) ?_
      clear hx7; cbv
      refine R.callD h (fun x8 hx8 h2 => ?_)
      clear h; have h := h2; clear h2
      refine R.call' (w9 _ _ _ _ _ _ _ _ hx8) (by (first | (simp only [D.han, D.har, D.hbeq, D.hcmp, D.hge0, D.hnt]; done) | rfl | (simp only [D.han, D.har, D.hbeq, D.hcmp, D.hge0, D.hnt]; rfl))) ?_
      clear hx8; cbv
      refine R.callD h (fun x9 hx9 h2 => ?_)
      clear h; have h := h2; clear h2
      refine R.call' (w10 _ hx9) (by (first | (simp only [D.han, D.har, D.hbeq, D.hcmp, D.hge0, D.hnt]; done) | rfl | (simp only [D.han, D.har, D.hbeq, D.hcmp, D.hge0, D.hnt]; rfl))) ?_
      clear hx9; cbv
      refine R.callD h (fun x10 hx10 h2 => ?_)
      clear h; have h := h2; clear h2
      refine R.call' (w9 _ _ _ _ _ _ _ _ hx10) (by (first | (simp only [D.han, D.har, D.hbeq, D.hcmp, D.hge0, D.hnt]; done) | rfl | (simp only [D.han, D.har, D.hbeq, D.hcmp, D.hge0, D.hnt]; rfl))) ?_
      clear hx10; cbv
      refine R.callD h (fun x11 hx11 h2 => ?_)
      clear h; have h := h2; clear h2
      refine R.call' (w11 _ _ _ _ hx11) (by (first | (simp only [D.han, D.har, D.hbeq, D.hcmp, D.hge0, D.hnt]; done) | rfl | (simp only [D.han, D.har, D.hbeq, D.hcmp, D.hge0, D.hnt]; rfl))) ?_
      clear hx11; cbv
      refine R.callD h (fun x12 hx12 h2 => ?_)
      clear h; have h := h2; clear h2
      refine R.call' (w9 _ _ _ _ _ _ _ _ hx12) (by (first | (simp only [D.han, D.har, D.hbeq, D.hcmp, D.hge0, D.hnt]; done) | rfl | (simp only [D.han, D.har, D.hbeq, D.hcmp, D.hge0, D.hnt]; rfl))) ?_
      clear hx12; cbv
      refine R.cut' (by kernel_rfl) (by kernel_rfl) ?_
      cbv
      refine R.cutB (fun p => p) (fun _ _ e => e) h [] (fun p16 => [(129, .b p16)]) (fun p16 => []) (by kernel_rfl) (by kernel_rfl) (fun y15 hy hFy15 L hLy15 => ?_) (fun p16 h2 => ?_)
      · clear h; have h := hy; clear hy; cbv
        refine R.brD h (by (first | (simp only [D.han, D.har, D.hbeq, D.hcmp, D.hge0, D.hnt]; done) | rfl | (simp only [D.han, D.har, D.hbeq, D.hcmp, D.hge0, D.hnt]; rfl))) ?_ ?_ <;> clear h <;> intro h <;> cbv
        · obtain ⟨s', e, hi⟩ := jn_some (fun p => p) h
          refine hLy15 s' _ _ hi ⟨by kernel_rfl, ?_, ?_, by kernel_rfl, by kernel_rfl⟩ <;> cbv <;> (try (subst e; simp only [D.han, D.har, D.hbeq, D.hcmp, D.hge0, D.hnt, and_self, and_true, true_and] <;> (repeat' apply And.intro) <;> rfl))
        · refine R.brD h (by (first | (simp only [D.han, D.har, D.hbeq, D.hcmp, D.hge0, D.hnt]; done) | rfl | (simp only [D.han, D.har, D.hbeq, D.hcmp, D.hge0, D.hnt]; rfl))) ?_ ?_ <;> clear h <;> intro h <;> cbv
          · obtain ⟨s', e, hi⟩ := jn_some (fun p => p) h
            refine hLy15 s' _ _ hi ⟨by kernel_rfl, ?_, ?_, by kernel_rfl, by kernel_rfl⟩ <;> cbv <;> (try (subst e; simp only [D.han, D.har, D.hbeq, D.hcmp, D.hge0, D.hnt, and_self, and_true, true_and] <;> (repeat' apply And.intro) <;> rfl))
          · refine R.brD h (by (first | (simp only [D.han, D.har, D.hbeq, D.hcmp, D.hge0, D.hnt]; done) | rfl | (simp only [D.han, D.har, D.hbeq, D.hcmp, D.hge0, D.hnt]; rfl))) ?_ ?_ <;> clear h <;> intro h <;> cbv
            · obtain ⟨s', e, hi⟩ := jn_some (fun p => p) h
              refine hLy15 s' _ _ hi ⟨by kernel_rfl, ?_, ?_, by kernel_rfl, by kernel_rfl⟩ <;> cbv <;> (try (subst e; simp only [D.han, D.har, D.hbeq, D.hcmp, D.hge0, D.hnt, and_self, and_true, true_and] <;> (repeat' apply And.intro) <;> rfl))
            · refine R.brD h (by (first | (simp only [D.han, D.har, D.hbeq, D.hcmp, D.hge0, D.hnt]; done) | rfl | (simp only [D.han, D.har, D.hbeq, D.hcmp, D.hge0, D.hnt]; rfl))) ?_ ?_ <;> clear h <;> intro h <;> cbv
              · obtain ⟨s', e, hi⟩ := jn_some (fun p => p) h
                refine hLy15 s' _ _ hi ⟨by kernel_rfl, ?_, ?_, by kernel_rfl, by kernel_rfl⟩ <;> cbv <;> (try (subst e; simp only [D.han, D.har, D.hbeq, D.hcmp, D.hge0, D.hnt, and_self, and_true, true_and] <;> (repeat' apply And.intro) <;> rfl))
              · obtain ⟨s', e, hi⟩ := jn_some (fun p => p) h
                refine hLy15 s' _ _ hi ⟨by kernel_rfl, ?_, ?_, by kernel_rfl, by kernel_rfl⟩ <;> cbv <;> (try (subst e; simp only [D.han, D.har, D.hbeq, D.hcmp, D.hge0, D.hnt, and_self, and_true, true_and] <;> (repeat' apply And.intro) <;> rfl))
      · as_aux_lemma =>
        clear h; have h := h2; clear h2; try dsimp only at h
        cbv
        refine R.brD h (by (first | (simp only [D.han, D.har, D.hbeq, D.hcmp, D.hge0, D.hnt]; done) | rfl | (simp only [D.han, D.har, D.hbeq, D.hcmp, D.hge0, D.hnt]; rfl))) ?_ ?_ <;> clear h <;> intro h <;> cbv
        · have e := ret_some h; clear h
          refine hK _ _ ?_
          cbv
          try (subst e; simp only [D.han, D.har, D.hbeq, D.hcmp, D.hge0, D.hnt, and_self, and_true, true_and] <;> (repeat' apply And.intro) <;> rfl)
        · as_aux_lemma =>
          refine R.cutB Sum.inl (fun _ _ e => Sum.inl.inj e) h [] (fun p24 => []) (fun p24 => []) (by kernel_rfl) (by kernel_rfl) (fun y20 hy hFy20 L hLy20 => ?_) (fun p24 h2 => ?_)
          · clear h; have h := hy; clear hy; cbv
            refine R.cutB (fun p => p) (fun _ _ e => e) h [] (fun p22 => [(150, .b p22)]) (fun p22 => []) (by kernel_rfl) (by kernel_rfl) (fun y21 hy hFy21 L hLy21 => ?_) (fun p22 h2 => ?_)
            · clear h; have h := hy; clear hy; cbv
              refine R.brD h (by (first | (simp only [D.han, D.har, D.hbeq, D.hcmp, D.hge0, D.hnt]; done) | rfl | (simp only [D.han, D.har, D.hbeq, D.hcmp, D.hge0, D.hnt]; rfl))) ?_ ?_ <;> clear h <;> intro h <;> cbv
              · refine R.brD h (by (first | (simp only [D.han, D.har, D.hbeq, D.hcmp, D.hge0, D.hnt]; done) | rfl | (simp only [D.han, D.har, D.hbeq, D.hcmp, D.hge0, D.hnt]; rfl))) ?_ ?_ <;> clear h <;> intro h <;> cbv
                · obtain ⟨s', e, hi⟩ := jn_some (fun p => p) h
                  refine hLy21 s' _ _ hi ⟨by kernel_rfl, ?_, ?_, by kernel_rfl, by kernel_rfl⟩ <;> cbv <;> (try (subst e; simp only [D.han, D.har, D.hbeq, D.hcmp, D.hge0, D.hnt, and_self, and_true, true_and] <;> (repeat' apply And.intro) <;> rfl))
                · obtain ⟨s', e, hi⟩ := jn_some (fun p => p) h
                  refine hLy21 s' _ _ hi ⟨by kernel_rfl, ?_, ?_, by kernel_rfl, by kernel_rfl⟩ <;> cbv <;> (try (subst e; simp only [D.han, D.har, D.hbeq, D.hcmp, D.hge0, D.hnt, and_self, and_true, true_and] <;> (repeat' apply And.intro) <;> rfl))
              · refine R.brD h (by (first | (simp only [D.han, D.har, D.hbeq, D.hcmp, D.hge0, D.hnt]; done) | rfl | (simp only [D.han, D.har, D.hbeq, D.hcmp, D.hge0, D.hnt]; rfl))) ?_ ?_ <;> clear h <;> intro h <;> cbv
                · refine R.brD h (by (first | (simp only [D.han, D.har, D.hbeq, D.hcmp, D.hge0, D.hnt]; done) | rfl | (simp only [D.han, D.har, D.hbeq, D.hcmp, D.hge0, D.hnt]; rfl))) ?_ ?_ <;> clear h <;> intro h <;> cbv
                  · obtain ⟨s', e, hi⟩ := jn_some (fun p => p) h
                    refine hLy21 s' _ _ hi ⟨by kernel_rfl, ?_, ?_, by kernel_rfl, by kernel_rfl⟩ <;> cbv <;> (try (subst e; simp only [D.han, D.har, D.hbeq, D.hcmp, D.hge0, D.hnt, and_self, and_true, true_and] <;> (repeat' apply And.intro) <;> rfl))
                  · obtain ⟨s', e, hi⟩ := jn_some (fun p => p) h
                    refine hLy21 s' _ _ hi ⟨by kernel_rfl, ?_, ?_, by kernel_rfl, by kernel_rfl⟩ <;> cbv <;> (try (subst e; simp only [D.han, D.har, D.hbeq, D.hcmp, D.hge0, D.hnt, and_self, and_true, true_and] <;> (repeat' apply And.intro) <;> rfl))
                · obtain ⟨s', e, hi⟩ := jn_some (fun p => p) h
                  refine hLy21 s' _ _ hi ⟨by kernel_rfl, ?_, ?_, by kernel_rfl, by kernel_rfl⟩ <;> cbv <;> (try (subst e; simp only [D.han, D.har, D.hbeq, D.hcmp, D.hge0, D.hnt, and_self, and_true, true_and] <;> (repeat' apply And.intro) <;> rfl))
            · clear h; have h := h2; clear h2; try dsimp only at h
              cbv
              refine R.brD h (by (first | (simp only [D.han, D.har, D.hbeq, D.hcmp, D.hge0, D.hnt]; done) | rfl | (simp only [D.han, D.har, D.hbeq, D.hcmp, D.hge0, D.hnt]; rfl))) ?_ ?_ <;> clear h <;> intro h <;> cbv
              · refine R.callD h (fun x23 hx23 h2 => ?_)
                clear h; have h := h2; clear h2
                refine R.call' (w9 _ _ _ _ _ _ _ _ hx23) (by (first | (simp only [D.han, D.har, D.hbeq, D.hcmp, D.hge0, D.hnt]; done) | rfl | (simp only [D.han, D.har, D.hbeq, D.hcmp, D.hge0, D.hnt]; rfl))) ?_
                clear hx23; cbv
                refine R.cut' (by kernel_rfl) (by kernel_rfl) ?_
                cbv
                refine R.brD h (by (first | (simp only [D.han, D.har, D.hbeq, D.hcmp, D.hge0, D.hnt]; done) | rfl | (simp only [D.han, D.har, D.hbeq, D.hcmp, D.hge0, D.hnt]; rfl))) ?_ ?_ <;> clear h <;> intro h <;> cbv
                · have e := ret_some h; clear h
                  have h := hFy20; rw [e] at h; clear e; try dsimp only at h
                  cbv
                  have e := ret_some h; clear h
                  refine hK _ _ ?_
                  cbv
                  try (subst e; simp only [D.han, D.har, D.hbeq, D.hcmp, D.hge0, D.hnt, and_self, and_true, true_and] <;> (repeat' apply And.intro) <;> rfl)
                · refine R.brD h (by (first | (simp only [D.han, D.har, D.hbeq, D.hcmp, D.hge0, D.hnt]; done) | rfl | (simp only [D.han, D.har, D.hbeq, D.hcmp, D.hge0, D.hnt]; rfl))) ?_ ?_ <;> clear h <;> intro h <;> cbv
                  · have e := ret_some h; clear h
                    have h := hFy20; rw [e] at h; clear e; try dsimp only at h
                    cbv
                    have e := ret_some h; clear h
                    refine hK _ _ ?_
                    cbv
                    try (subst e; simp only [D.han, D.har, D.hbeq, D.hcmp, D.hge0, D.hnt, and_self, and_true, true_and] <;> (repeat' apply And.intro) <;> rfl)
                  · obtain ⟨s', e, hi⟩ := jn_some Sum.inl h
                    refine hLy20 s' _ _ hi ⟨by kernel_rfl, ?_, ?_, by kernel_rfl, by kernel_rfl⟩ <;> cbv <;> (try (subst e; simp only [D.han, D.har, D.hbeq, D.hcmp, D.hge0, D.hnt, and_self, and_true, true_and] <;> (repeat' apply And.intro) <;> rfl))
              · obtain ⟨s', e, hi⟩ := jn_some Sum.inl h
                refine hLy20 s' _ _ hi ⟨by kernel_rfl, ?_, ?_, by kernel_rfl, by kernel_rfl⟩ <;> cbv <;> (try (subst e; simp only [D.han, D.har, D.hbeq, D.hcmp, D.hge0, D.hnt, and_self, and_true, true_and] <;> (repeat' apply And.intro) <;> rfl))
          · as_aux_lemma =>
            clear h; have h := h2; clear h2; try dsimp only at h
            cbv
            refine R.cut' (by kernel_rfl) (by kernel_rfl) ?_
            cbv
            refine R.brD h (by (first | (simp only [D.han, D.har, D.hbeq, D.hcmp, D.hge0, D.hnt]; done) | rfl | (simp only [D.han, D.har, D.hbeq, D.hcmp, D.hge0, D.hnt]; rfl))) ?_ ?_ <;> clear h <;> intro h <;> cbv
            · have e := ret_some h; clear h
              refine hK _ _ ?_
              cbv
              try (subst e; simp only [D.han, D.har, D.hbeq, D.hcmp, D.hge0, D.hnt, and_self, and_true, true_and] <;> (repeat' apply And.intro) <;> rfl)
            · refine R.callD h (fun x25 hx25 h2 => ?_)
              clear h; have h := h2; clear h2
              refine R.call' (w10 _ hx25) (by (first | (simp only [D.han, D.har, D.hbeq, D.hcmp, D.hge0, D.hnt]; done) | rfl | (simp only [D.han, D.har, D.hbeq, D.hcmp, D.hge0, D.hnt]; rfl))) ?_
              clear hx25; cbv
              refine R.callD h (fun x26 hx26 h2 => ?_)
              clear h; have h := h2; clear h2
              refine R.call' (w9 _ _ _ _ _ _ _ _ hx26) (by (first | (simp only [D.han, D.har, D.hbeq, D.hcmp, D.hge0, D.hnt]; done) | rfl | (simp only [D.han, D.har, D.hbeq, D.hcmp, D.hge0, D.hnt]; rfl))) ?_
              clear hx26; cbv
              refine R.callD h (fun x27 hx27 h2 => ?_)
              clear h; have h := h2; clear h2
              refine R.call' (w10 _ hx27) (by (first | (simp only [D.han, D.har, D.hbeq, D.hcmp, D.hge0, D.hnt]; done) | rfl | (simp only [D.han, D.har, D.hbeq, D.hcmp, D.hge0, D.hnt]; rfl))) ?_
              clear hx27; cbv
              refine R.callD h (fun x28 hx28 h2 => ?_)
              clear h; have h := h2; clear h2
              refine R.call' (w9 _ _ _ _ _ _ _ _ hx28) (by (first | (simp only [D.han, D.har, D.hbeq, D.hcmp, D.hge0, D.hnt]; done) | rfl | (simp only [D.han, D.har, D.hbeq, D.hcmp, D.hge0, D.hnt]; rfl))) ?_
              clear hx28; cbv
              refine R.callD h (fun x29 hx29 h2 => ?_)
              clear h; have h := h2; clear h2
              refine R.call' (w10 _ hx29) (by (first | (simp only [D.han, D.har, D.hbeq, D.hcmp, D.hge0, D.hnt]; done) | rfl | (simp only [D.han, D.har, D.hbeq, D.hcmp, D.hge0, D.hnt]; rfl))) ?_
              clear hx29; cbv
              refine R.callD h (fun x30 hx30 h2 => ?_)
              clear h; have h := h2; clear h2
              refine R.call' (w9 _ _ _ _ _ _ _ _ hx30) (by (first | (simp only [D.han, D.har, D.hbeq, D.hcmp, D.hge0, D.hnt]; done) | rfl | (simp only [D.han, D.har, D.hbeq, D.hcmp, D.hge0, D.hnt]; rfl))) ?_
              clear hx30; cbv
              refine R.callD h (fun x31 hx31 h2 => ?_)
              clear h; have h := h2; clear h2
              refine R.call' (w10 _ hx31) (by (first | (simp only [D.han, D.har, D.hbeq, D.hcmp, D.hge0, D.hnt]; done) | rfl | (simp only [D.han, D.har, D.hbeq, D.hcmp, D.hge0, D.hnt]; rfl))) ?_
              clear hx31; cbv
              refine R.callD h (fun x32 hx32 h2 => ?_)
              clear h; have h := h2; clear h2
              refine R.call' (w9 _ _ _ _ _ _ _ _ hx32) (by (first | (simp only [D.han, D.har, D.hbeq, D.hcmp, D.hge0, D.hnt]; done) | rfl | (simp only [D.han, D.har, D.hbeq, D.hcmp, D.hge0, D.hnt]; rfl))) ?_
              clear hx32; cbv
              refine R.cut' (by kernel_rfl) (by kernel_rfl) ?_
              cbv
              refine R.brD h (by (first | (simp only [D.han, D.har, D.hbeq, D.hcmp, D.hge0, D.hnt]; done) | rfl | (simp only [D.han, D.har, D.hbeq, D.hcmp, D.hge0, D.hnt]; rfl))) ?_ ?_ <;> clear h <;> intro h <;> cbv
              · refine R.brD h (by (first | (simp only [D.han, D.har, D.hbeq, D.hcmp, D.hge0, D.hnt]; done) | rfl | (simp only [D.han, D.har, D.hbeq, D.hcmp, D.hge0, D.hnt]; rfl))) ?_ ?_ <;> clear h <;> intro h <;> cbv
                · refine R.brD h (by (first | (simp only [D.han, D.har, D.hbeq, D.hcmp, D.hge0, D.hnt]; done) | rfl | (simp only [D.han, D.har, D.hbeq, D.hcmp, D.hge0, D.hnt]; rfl))) ?_ ?_ <;> clear h <;> intro h <;> cbv
                  · refine R.brD h (by (first | (simp only [D.han, D.har, D.hbeq, D.hcmp, D.hge0, D.hnt]; done) | rfl | (simp only [D.han, D.har, D.hbeq, D.hcmp, D.hge0, D.hnt]; rfl))) ?_ ?_ <;> clear h <;> intro h <;> cbv
                    · refine R.brD h (by (first | (simp only [D.han, D.har, D.hbeq, D.hcmp, D.hge0, D.hnt]; done) | rfl | (simp only [D.han, D.har, D.hbeq, D.hcmp, D.hge0, D.hnt]; rfl))) ?_ ?_ <;> clear h <;> intro h <;> cbv
                      · have e := ret_some h; clear h
                        refine hK _ _ ?_
                        cbv
                        try (subst e; simp only [D.han, D.har, D.hbeq, D.hcmp, D.hge0, D.hnt, and_self, and_true, true_and] <;> (repeat' apply And.intro) <;> rfl)
                      · have e := ret_some h; clear h
                        refine hK _ _ ?_
                        cbv
                        try (subst e; simp only [D.han, D.har, D.hbeq, D.hcmp, D.hge0, D.hnt, and_self, and_true, true_and] <;> (repeat' apply And.intro) <;> rfl)
                    · have e := ret_some h; clear h
                      refine hK _ _ ?_
                      cbv
                      try (subst e; simp only [D.han, D.har, D.hbeq, D.hcmp, D.hge0, D.hnt, and_self, and_true, true_and] <;> (repeat' apply And.intro) <;> rfl)
                  · have e := ret_some h; clear h
                    refine hK _ _ ?_
                    cbv
                    try (subst e; simp only [D.han, D.har, D.hbeq, D.hcmp, D.hge0, D.hnt, and_self, and_true, true_and] <;> (repeat' apply And.intro) <;> rfl)
                · have e := ret_some h; clear h
                  refine hK _ _ ?_
                  cbv
                  try (subst e; simp only [D.han, D.har, D.hbeq, D.hcmp, D.hge0, D.hnt, and_self, and_true, true_and] <;> (repeat' apply And.intro) <;> rfl)
              · have e := ret_some h; clear h
                refine hK _ _ ?_
                cbv
                try (subst e; simp only [D.han, D.har, D.hbeq, D.hcmp, D.hge0, D.hnt, and_self, and_true, true_and] <;> (repeat' apply And.intro) <;> rfl)
end Go.Proofs.YtjcabmhnekcbgaaDoor

end
section
/- The one statement over its function that the law BitsShifts comes to. Conditions: none. -/
-- Told by a program of this seat's session. Not trusted: Lean checks it.

namespace Go.Proofs.YtjcabmhnekcbgaaDoor
open Go.Ab Go.RowKit
def BitsShifts.Claim : Prop := ∀ (x0 : (Int × Bool)) (x1 : Int) (x2 : (Int × Int)), (fun x : (Int × Bool) => (fun n : Int => (Lit.int .i64 n).wf = true) x.1 ∧ (fun _ : Bool => True) x.2) x0 → (fun n : Int => (Lit.int .i64 n).wf = true) x1 → (fun x : Int × Int => (fun n : Int => (Lit.int .i64 n).wf = true) x.1 ∧ (fun n : Int => (Lit.int .i64 n).wf = true) x.2) x2 → Ab.Fn Tryd.prog TT 3 [.agg [.i .i64 x0.1, .b x0.2], .i .i64 x1, .agg [.i .i64 x2.1, .i .i64 x2.2]] (.b true) []
end Go.Proofs.YtjcabmhnekcbgaaDoor
end
section
/- The law BitsShifts by the calculus. Conditions: none. -/

namespace Go.Proofs.YtjcabmhnekcbgaaDoor
open Go.Ab Go.RowKit
theorem BitsShifts.pure : BitsShifts.Claim := by
  intro x0 x1 x2 h0 h1 h2; exact w3 _ _ _ _ _ true (pd3 _ _ (i64_wf' h1) (i64_wf' h2.1) (i64_wf' h2.2))
end Go.Proofs.YtjcabmhnekcbgaaDoor
end
section
/- BitsShifts: the law's call returns true for every input, and its arguments read afterwards as_ before. Conditions: none. -/
-- Told by a program of this seat's session. Not trusted: Lean checks it.

namespace Go.Proofs.YtjcabmhnekcbgaaDoor.bitsShifts
open Go.ChangeShapes Go.WideShapes Go.ChangeAt Go.RowKit Go.Ab Go.Proofs.YtjcabmhnekcbgaaDoor
open Go.ChangeMaps (open_string shut_string)
theorem own : ownKnob Tryd.prog.godebug = none := by kernel_rfl
theorem laidOut : laidOutB Tryd.prog = true := by kernel_rfl
theorem door_met (os : Os) (args : Array Value) : laidMetH Tryd.prog Rows.bitsShiftsRow.laid ((World.doorLaid Tryd.prog 400 os).forCall (fun _ _ => 0) ⟨#[], args, []⟩).memory :=
  laidMetH_of_parts3 (fuel := 8) (laidMet_of_run' 8 (by kernel_rfl) (by kernel_rfl)) (by kernel_rfl) (by kernel_rfl)
set_option maxRecDepth 100000 in
set_option maxHeartbeats 8000000 in
theorem lifted (os : Os) (started : os.Started) (H : Type) (enc : TypeId × Value → H) :
    ReturnsInHanded {} Tryd.checked os 3 .any (fun w args => (Rows.bitsShiftsSpec.pre enc Tryd.prog Tryd.f3 [] false w args ∧ laidMetH Tryd.prog Rows.bitsShiftsRow.laid w) ∧ sizedMet enc Tryd.prog Tryd.f3 (OpenSpec.ofChange Rows.bitsShiftsSpec) false w args)
      (Rows.bitsShiftsSpec.post enc Tryd.prog Tryd.f3 false true false false) := by
  refine returnsInHanded_of_change_and (C := Tryd.checked) (X := fun w _ => laidMetH Tryd.prog Rows.bitsShiftsRow.laid w) (fun _ _ _ hh h => h.of_heap hh) own started (by kernel_rfl) Tryd.func3
    (ChangeSpec.witness_shaped (enc := enc) (C := Tryd.checked) (os := os) (X := fun w _ => laidMetH Tryd.prog Rows.bitsShiftsRow.laid w) false (World.doorLaid Tryd.prog 400 os) #[.agg #[.int .i64 0, .bool false], .int .i64 0, .agg #[.int .i64 0, .int .i64 0]] 8 rfl (World.shaped_of_RefB (by kernel_rfl) (by kernel_rfl)) (by kernel_rfl) (by kernel_rfl) (by kernel_rfl) (door_met os _)) ?_
  intro W base args ds gs before hval0 hW _ _ hL _
  have hval : ∀ (j : Nat) t v, Tryd.f3.params[j]? = some t → args[j]? = some v → Value.okWide Tryd.prog W .any base t v := hval0
  have hW' := hW
  obtain ⟨p, q, hA0, hV, rfl, hfz, hnd⟩ := hW
  have hA : DataW.TrodAll enc Tryd.prog W 0 (fun _ => true) true Tryd.f3.params.toList args.toList ds p := hA0
  rw [Tryd.params3] at hA hval
  obtain ⟨v0, vs0, d0, ds0, p0, q0, hargs, rfl, rfl, h0, r0⟩ := trodAll_cons hA
  obtain ⟨v1, vs1, d1, ds1, p1, q1, rfl, rfl, rfl, h1, r1⟩ := trodAll_cons r0
  obtain ⟨v2, vs2, d2, ds2, p2, q2, rfl, rfl, rfl, h2, r2⟩ := trodAll_cons r1
  obtain ⟨rfl, rfl, rfl⟩ := trodAll_nil r2
  obtain rfl : args = #[v0, v1, v2] := by cases args; simp_all
  obtain ⟨rfl, rfl⟩ := trodVars_none hV
  have k0 := h0
  have lt0 : ∀ x ∈ p0, x.block < W.heap.size := by obtain ⟨m, hm⟩ := k0; exact DataW.trod_lt m _ _ _ hm
  obtain ⟨cs0, rfl, sz0⟩ := okWide_struct Tryd.underlying23 (hval 0 23 v0 rfl rfl)
  obtain ⟨x0, ra0, rb0, _, ok0⟩ := h0.elim fun fuel hf => ((OpV.struct tok (te := te23) (by kernel_rfl) rfl (by kernel_rfl) (OpAt.cons rfl (by kernel_rfl) (OpV.int tok (e := te3) (by kernel_rfl) rfl) (OpAt.last rfl (by kernel_rfl) (OpV.bool tok (e := te4) (by kernel_rfl) rfl)))) : OpV TT enc Tryd.prog W 23 _ _ _) _ _ _ hf
  obtain ⟨x1, rfl, rfl, rfl, u1⟩ := open_int Tryd.underlying2 (hval 1 2 v1 rfl rfl) h1
  have k2 := h2
  have lt2 : ∀ x ∈ p2, x.block < W.heap.size := by obtain ⟨m, hm⟩ := k2; exact DataW.trod_lt m _ _ _ hm
  obtain ⟨cs2, rfl, sz2⟩ := okWide_arr Tryd.underlying24 (hval 2 24 v2 rfl rfl)
  obtain ⟨x2, ra2, rb2, _, ok2⟩ := h2.elim fun fuel hf => ((OpV.arr2 tok (te := te24) (by kernel_rfl) rfl (by kernel_rfl) (by kernel_rfl) (OpV.int tok (e := te3) (by kernel_rfl) rfl)) : OpV TT enc Tryd.prog W 24 _ _ _) _ _ _ hf
  clear hA0 hval0
  refine (law_calls (w := W) ⟨_, _, Tryd.func3, by kernel_rfl, w3_h⟩ (BitsShifts.pure x0 x1 x2 ok0 u1 ok2) (gok_of hL) (args_agg ra0 rb0 (args_i x1 (args_agg ra2 rb2 args_nil)))).mono fun e W' ⟨he, bel⟩ => ?_
  subst he
  exact ⟨_, rfl, _, _, _, [], _, [], hW', trodAll_mk1 (shut_bool Tryd.underlying4 _), (trodAll_cons_mk (Below.trod laidOut (by kernel_rfl) (of_decide_eq_true (by kernel_rfl)) k0 bel lt0) (trodAll_cons_mk (shut_int Tryd.underlying2 u1) (trodAll_cons_mk (Below.trod laidOut (by kernel_rfl) (of_decide_eq_true (by kernel_rfl)) k2 bel lt2) trodAll_mk0))), rfl, bel.frame _, fun h => by cases h⟩
theorem said : Rows.BitsShiftsSaid :=
  OpenClaim.holds_of_wide 3 Tryd.f3 rfl rfl rfl rfl rfl rfl rfl ⟨rfl, rfl, rfl, rfl, rfl⟩ rfl rfl rfl rfl rfl (by kernel_rfl) Tryd.func3 (by kernel_rfl)
    (of_decide_eq_true (by kernel_rfl)) (by unfold Func.isWrapper; first | (rw [if_pos (by decide +kernel)]; kernel_rfl) | (rw [if_neg (by decide +kernel)]; exact ⟨rfl, rfl⟩))
    (fun os started H enc _ => lifted os started H enc)
theorem card : Rows.BitsShiftsCardSaid :=
  Claim7.holds_tied_plain_at .later [] _ _ _ _ said (fun _ h => by cases h) (by kernel_rfl) (fun _ h => by cases h) bitsShifts_row_tie rfl ⟨rfl, rfl⟩ (by kernel_rfl) rfl
    (fun f fn hf hfn => by
      obtain rfl : f = 3 := Option.some.inj ((show Tryd.prog.funcNamed "tapline/taplinelaw01.BitsShifts" = some 3 by kernel_rfl).symm.trans hf) |>.symm
      obtain rfl : fn = Tryd.f3 := (Option.some.inj (Tryd.func3.symm.trans hfn)).symm
      exact ⟨by kernel_rfl, fun j t ht => by
        rw [Tryd.params3] at ht
        have hm : t ∈ [23, 2, 24] := by simpa using Array.mem_of_getElem? ht
        have hall : ([23, 2, 24].all fun u => !Tryd.prog.wantsStandIn u) = true := by kernel_rfl
        exact (show Tryd.prog.wantsStandIn t = false by simpa using List.all_eq_true.1 hall t hm)⟩)
    (by kernel_rfl)
end Go.Proofs.YtjcabmhnekcbgaaDoor.bitsShifts
namespace Go.Proofs.YtjcabmhnekcbgaaDoor
theorem bitsShifts_holds : Rows.BitsShiftsCardSaid := bitsShifts.card
end Go.Proofs.YtjcabmhnekcbgaaDoor
end
