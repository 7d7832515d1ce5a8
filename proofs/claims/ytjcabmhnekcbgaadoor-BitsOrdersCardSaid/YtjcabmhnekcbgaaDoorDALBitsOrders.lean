/- The law BitsOrders: its function's walk, the pure law, the row. Conditions: none. -/
import Derived.Test.YtjcabmhnekcbgaaDoorRows
import Derived.Test.YtjcabmhnekcbgaaDoorCards
import Derived.Test.YtjcabmhnekcbgaaDoorTie
import Derived.WalkKit
import Derived.ProofKit
import Derived.OpenShut
import Derived.ShutString
import Derived.ChangeOld
import Derived.Below
import Derived.SizedLaws
import Derived.Carry
import Derived.LaidMore
import Derived.Stop.Joined
import Derived.SevenTiedAt
import Derived.Test.YtjcabmhnekcbgaaDoorDA5
set_option linter.unusedVariables false
set_option linter.unusedSimpArgs false
section
namespace Go.Proofs.YtjcabmhnekcbgaaDoor
open Go.Ab Go.RowKit 
set_option maxRecDepth 100000
set_option maxHeartbeats 40000000
noncomputable def w5_c : Code := (Tryd.f5.body).getD .skip
theorem w5_h : Tryd.f5.body = some w5_c := by kernel_rfl
theorem w5 (a0_0 : Int) (a0_1 : Bool) (a1_0 : Int) (a1_1 : Int) (a1_2 : Int) (r : Bool) (h : d5 a0_0 a0_1 a1_0 a1_1 a1_2 = some r) : Ab.Fn Tryd.prog TT 5 [.agg [.i .i64 a0_0, .b a0_1], .agg [.i .i64 a1_0, .i .i64 a1_1, .i .i64 a1_2]] (.b r) [] := by
  refine fn_pure tok (fun r => match r with | 8 => [[],[0],[0,1],[0,1,2],[0,1,2,3],[0,1,2,3,4],[0,1,2,3,4,5],[0,1,2,3,4,5,6],[0,1,2,3,4,5,6],[0,1,2,3,4,5,6,8],[0,1,2,3,4,5,6,7,8,9],[0,1,2,3,4,5,6,7,8,9,10],[0,1,2,3,4,5,6,7,8,9,10,11],[0,1,2,3,4,5,6,7,8,9,10,11,12],[0,1,2,3,4,5,6,7,8,9,10,11,12,13],[0,1,2,3,4,5,6,7,8,9,10,11,12],[0,1,2,3,4,5,6,7,8,9,10,11,12],[0,1,2,3,4,5,6,7,8,9,10,11,12,16],[0,1,2,3,4,5,6,7,8,9,10,11,12,15,16,17],[0,1,2,3,4,5,6,7,8,9,10,11,12],[0,1,2,3,4,5,6,7,8,9,10,11,12],[0,1,2,3,4,5,6,7,8,9,10,11,12,20],[0,1,2,3,4,5,6,7,8,9,10,11,12,15,16,17,18,19,20,21],[0,1,2,3,4,5,6,7,8,9,10,11,12,15,16,17,18,19,20,21,22],[0,1,2,3,4,5,6,7,8,9,10,11,12,13,14,15,16,17,18,19,20,21,22,23],[0,1,2,3,4,5,6,7,8,9,10,11,12,13,14,15,16,17,18,19,20,21,22,23,24],[0,1,2,3,4,5,6,7,8,9,10,11,12,13,14,15,16,17,18,19,20,21,22,23,24,25],[0,1,2,3,4,5,6,7,8,9,10,11,12,13,14,15,16,17,18,19,20,21,22,23,24,25,26],[0,1,2,3,4,5,6,7,8,9,10,11,12,13,14,15,16,17,18,19,20,21,22,23,24,25,26,27],[0,1,2,3,4,5,6,7,8,9,10,11,12,13,14,15,16,17,18,19,20,21,22,23,24,25,26,27,28],[0,1,2,3,4,5,6,7,8,9,10,11,12,13,14,15,16,17,18,19,20,21,22,23,24,25,26,27,28,29],[0,1,2,3,4,5,6,7,8,9,10,11,12,13,14,15,16,17,18,19,20,21,22,23,24,25,26,27,28,29,30],[0,1,2,3,4,5,6,7,8,9,10,11,12,13,14,15,16,17,18,19,20,21,22,23,24,25,26,27,28,29,30,31],[0,1,2,3,4,5,6,7,8,9,10,11,12,13,14,15,16,17,18,19,20,21,22,23,24,25,26,27,28,29,30,31,32],[0,1,2,3,4,5,6,7,8,9,10,11,12,13,14,15,16,17,18,19,20,21,22,23,24,25,26,27,28,29,30,31,32,33],[0,1,2,3,4,5,6,7,8,9,10,11,12,13,14,15,16,17,18,19,20,21,22,23,24,25,26,27,28,29,30,31,32,33,34],[0,1,2,3,4,5,6,7,8,9,10,11,12,13,14,15,16,17,18,19,20,21,22,23,24,25,26,27,28,29,30,31,32,33,34,35],[0,1,2,3,4,5,6,7,8,9,10,11,12,13,14,15,16,17,18,19,20,21,22,23,24,25,26,27,28,29,30,31,32,33,34,35,36],[0,1,2,3,4,5,6,7,8,9,10,11,12,13,14,15,16,17,18,19,20,21,22,23,24,25,26,27,28,29,30,31,32,33,34,35,36,37],[0,1,2,3,4,5,6,7,8,9,10,11,12,13,14,15,16,17,18,19,20,21,22,23,24,25,26,27,28,29,30,31,32,33,34,35,36,37,38],[0,1,2,3,4,5,6,7,8,9,10,11,12,13,14,15,16,17,18,19,20,21,22,23,24,25,26,27,28,29,30,31,32,33,34,35,36,37,38,39],[0,1,2,3,4,5,6,7,8,9,10,11,12,13,14,15,16,17,18,19,20,21,22,23,24,25,26,27,28,29,30,31,32,33,34,35,36,37,38,39,40],[0,1,2,3,4,5,6,7,8,9,10,11,12,13,14,15,16,17,18,19,20,21,22,23,24,25,26,27,28,29,30,31,32,33,34,35,36,37,38,39,40,41],[0,1,2,3,4,5,6,7,8,9,10,11,12,13,14,15,16,17,18,19,20,21,22,23,24,25,26,27,28,29,30,31,32,33,34,35,36,37,38,39,40,41,42],[0,1,2,3,4,5,6,7,8,9,10,11,12,13,14,15,16,17,18,19,20,21,22,23,24,25,26,27,28,29,30,31,32,33,34,35,36,37,38,39,40,41,42,43],[0,1,2,3,4,5,6,7,8,9,10,11,12,13,14,15,16,17,18,19,20,21,22,23,24,25,26,27,28,29,30,31,32,33,34,35,36,37,38,39,40,41,42,43,44],[0,1,2,3,4,5,6,7,8,9,10,11,12,13,14,15,16,17,18,19,20,21,22,23,24,25,26,27,28,29,30,31,32,33,34,35,36,37,38,39,40,41,42,43,44,45],[0,1,2,3,4,5,6,7,8,9,10,11,12,13,14,15,16,17,18,19,20,21,22,23,24,25,26,27,28,29,30,31,32,33,34,35,36,37,38,39,40,41,42,43,44,45,46],[0,1,2,3,4,5,6,7,8,9,10,11,12,13,14,15,16,17,18,19,20,21,22,23,24,25,26,27,28,29,30,31,32,33,34,35,36,37,38,39,40,41,42,43,44,45,46,47],[0,1,2,3,4,5,6,7,8,9,10,11,12,13,14,15,16,17,18,19,20,21,22,23,24,25,26,27,28,29,30,31,32,33,34,35,36,37,38,39,40,41,42,43,44,45,46,47,48]] | 15 => [[],[],[0,1],[0,1,2],[0,1,2,3],[0,1,2,3,4],[0,1,2,3],[0,1,2,3,6],[0,1,2,3,6,7],[0,1,2,3,4,5,6,7,8],[0,1,2,3,4,5,6,7,8,9],[0,1,2,3,4,5,6,7,8,9,10],[0,1,2,3,4,5,6,7,8,9,10,11],[0,1,2,3,4,5,6,7,8,9,10,11,12],[0,1,2,3,4,5,6,7,8,9,10,11,12,13],[0,1,2,3,4,5,6,7,8,9,10,11,12,13,14],[0,1,2,3,4,5,6,7,8,9,10,11,12,13,14,15],[0,1,2,3,4,5,6,7,8,9,10,11,12,13,14,15,16],[0,1,2,3,4,5,6,7,8,9,10,11,12,13,14,15,16,17]] | _ => []) Tryd.func5 (by kernel_rfl) w5_h (by kernel_rfl) ?_
  intro ar un cv mn mx pl mi cmp nt beq an scmp cat slen sbyte ssub ofB toB len gi gb gs gl sub put app ovl rep ne0 ge0 inb bnd room sroom need br call callb loop cut nl E R K hK
  have D := E.D
  clear E
  unfold d5 at h
  cbv
  refine R.callD h (fun x1 hx1 h2 => ?_)
  clear h; have h := h2; clear h2
  refine R.call' (w7 _ hx1) (by (first | (simp only [D.han, D.har, D.hbeq, D.hcmp, D.hinb, D.hnt, D.hun]; done) | rfl | (simp only [D.han, D.har, D.hbeq, D.hcmp, D.hinb, D.hnt, D.hun]; rfl))) ?_
  clear hx1; cbv
  refine R.cut' (by kernel_rfl) (by kernel_rfl) ?_
  cbv
  refine R.cut' (by kernel_rfl) (by kernel_rfl) ?_
  cbv
  refine R.brD h (by (first | (simp only [D.han, D.har, D.hbeq, D.hcmp, D.hinb, D.hnt, D.hun]; done) | rfl | (simp only [D.han, D.har, D.hbeq, D.hcmp, D.hinb, D.hnt, D.hun]; rfl))) ?_ ?_ <;> clear h <;> intro h <;> cbv
  · have e := ret_some h; clear h
    refine hK _ _ ?_
    cbv
    try (subst e; simp only [D.han, D.har, D.hbeq, D.hcmp, D.hinb, D.hnt, D.hun, and_self, and_true, true_and] <;> (repeat' apply And.intro) <;> rfl)
  · as_aux_lemma =>
    refine R.callD h (fun x5 hx5 h2 => ?_)
    clear h; have h := h2; clear h2
    refine R.call' (w15 _ _ _ hx5) (by (first | (simp only [D.han, D.har, D.hbeq, D.hcmp, D.hinb, D.hnt, D.hun]; done) | rfl | (simp only [D.han, D.har, D.hbeq, D.hcmp, D.hinb, D.hnt, D.hun]; rfl))) ?_
    clear hx5; cbv
    refine R.brD h (by (first | (simp only [D.han, D.har, D.hbeq, D.hcmp, D.hinb, D.hnt, D.hun]; done) | rfl | (simp only [D.han, D.har, D.hbeq, D.hcmp, D.hinb, D.hnt, D.hun]; rfl))) ?_ ?_ <;> clear h <;> intro h <;> cbv
    · have e := ret_some h; clear h
      refine hK _ _ ?_
      cbv
      try (subst e; simp only [D.han, D.har, D.hbeq, D.hcmp, D.hinb, D.hnt, D.hun, and_self, and_true, true_and] <;> (repeat' apply And.intro) <;> rfl)
    · as_aux_lemma =>
      refine R.callD h (fun x6 hx6 h2 => ?_)
      clear h; have h := h2; clear h2
      refine R.call' (w16 _ _ _ _ _ hx6) (by (first | (simp only [D.han, D.har, D.hbeq, D.hcmp, D.hinb, D.hnt, D.hun]; done) | rfl | (simp only [D.han, D.har, D.hbeq, D.hcmp, D.hinb, D.hnt, D.hun]; rfl))) ?_
      clear hx6; cbv
      refine R.callD h (fun x7 hx7 h2 => ?_)
      clear h; have h := h2; clear h2
      refine R.call' (w16 _ _ _ _ _ hx7) (by (first | (simp only [D.han, D.har, D.hbeq, D.hcmp, D.hinb, D.hnt, D.hun]; done) | rfl | (simp only [D.han, D.har, D.hbeq, D.hcmp, D.hinb, D.hnt, D.hun]; rfl))) ?_
      clear hx7; cbv
      refine R.callD h (fun x8 hx8 h2 => ?_)
      clear h; have h := h2; clear h2
      refine R.call' (w16 _ _ _ _ _ hx8) (by (first | (simp only [D.han, D.har, D.hbeq, D.hcmp, D.hinb, D.hnt, D.hun]; done) | rfl | (simp only [D.han, D.har, D.hbeq, D.hcmp, D.hinb, D.hnt, D.hun]; rfl))) ?_
      clear hx8; cbv
      refine R.callD h (fun x9 hx9 h2 => ?_)
      clear h; have h := h2; clear h2
      refine R.call' (w16 _ _ _ _ _ hx9) (by (first | (simp only [D.han, D.har, D.hbeq, D.hcmp, D.hinb, D.hnt, D.hun]; done) | rfl | (simp only [D.han, D.har, D.hbeq, D.hcmp, D.hinb, D.hnt, D.hun]; rfl))) ?_
      clear hx9; cbv
      refine R.cut' (by kernel_rfl) (by kernel_rfl) ?_
      cbv
      refine R.cutB (fun p => p) (fun _ _ e => e) h [] (fun p19 => [(119, .b p19)]) (fun p19 => []) (by kernel_rfl) (by kernel_rfl) (fun y16 hy hFy16 L hLy16 => ?_) (fun p19 h2 => ?_)
      · as_aux_lemma =>
        clear h; have h := hy; clear hy; cbv
        refine R.brD h (by (first | (simp only [D.han, D.har, D.hbeq, D.hcmp, D.hinb, D.hnt, D.hun]; done) | rfl | (simp only [D.han, D.har, D.hbeq, D.hcmp, D.hinb, D.hnt, D.hun]; rfl))) ?_ ?_ <;> clear h <;> intro h <;> cbv
        · obtain ⟨s', e, hi⟩ := jn_some (fun p => p) h
          refine hLy16 s' _ _ hi ⟨by kernel_rfl, ?_, ?_, by kernel_rfl, by kernel_rfl⟩ <;> cbv <;> (try (subst e; simp only [D.han, D.har, D.hbeq, D.hcmp, D.hinb, D.hnt, D.hun, and_self, and_true, true_and] <;> (repeat' apply And.intro) <;> rfl))
        · as_aux_lemma =>
          refine R.brD h (by (first | (simp only [D.han, D.har, D.hbeq, D.hcmp, D.hinb, D.hnt, D.hun]; done) | rfl | (simp only [D.han, D.har, D.hbeq, D.hcmp, D.hinb, D.hnt, D.hun]; rfl))) ?_ ?_ <;> clear h <;> intro h <;> cbv
          · obtain ⟨s', e, hi⟩ := jn_some (fun p => p) h
            refine hLy16 s' _ _ hi ⟨by kernel_rfl, ?_, ?_, by kernel_rfl, by kernel_rfl⟩ <;> cbv <;> (try (subst e; simp only [D.han, D.har, D.hbeq, D.hcmp, D.hinb, D.hnt, D.hun, and_self, and_true, true_and] <;> (repeat' apply And.intro) <;> rfl))
          · as_aux_lemma =>
            refine R.brD h (by (first | (simp only [D.han, D.har, D.hbeq, D.hcmp, D.hinb, D.hnt, D.hun]; done) | rfl | (simp only [D.han, D.har, D.hbeq, D.hcmp, D.hinb, D.hnt, D.hun]; rfl))) ?_ ?_ <;> clear h <;> intro h <;> cbv
            · obtain ⟨s', e, hi⟩ := jn_some (fun p => p) h
              refine hLy16 s' _ _ hi ⟨by kernel_rfl, ?_, ?_, by kernel_rfl, by kernel_rfl⟩ <;> cbv <;> (try (subst e; simp only [D.han, D.har, D.hbeq, D.hcmp, D.hinb, D.hnt, D.hun, and_self, and_true, true_and] <;> (repeat' apply And.intro) <;> rfl))
            · as_aux_lemma =>
              refine R.callD h (fun x17 hx17 h2 => ?_)
              clear h; have h := h2; clear h2
              refine R.call' (w11 _ _ _ _ hx17) (by (first | (simp only [D.han, D.har, D.hbeq, D.hcmp, D.hinb, D.hnt, D.hun]; done) | rfl | (simp only [D.han, D.har, D.hbeq, D.hcmp, D.hinb, D.hnt, D.hun]; rfl))) ?_
              clear hx17; cbv
              refine R.callD h (fun x18 hx18 h2 => ?_)
              clear h; have h := h2; clear h2
              refine R.call' (w11 _ _ _ _ hx18) (by (first | (simp only [D.han, D.har, D.hbeq, D.hcmp, D.hinb, D.hnt, D.hun]; done) | rfl | (simp only [D.han, D.har, D.hbeq, D.hcmp, D.hinb, D.hnt, D.hun]; rfl))) ?_
              clear hx18; cbv
              refine R.brD h (by (first | (simp only [D.han, D.har, D.hbeq, D.hcmp, D.hinb, D.hnt, D.hun]; done) | rfl | (simp only [D.han, D.har, D.hbeq, D.hcmp, D.hinb, D.hnt, D.hun]; rfl))) ?_ ?_ <;> clear h <;> intro h <;> cbv
              · obtain ⟨s', e, hi⟩ := jn_some (fun p => p) h
                refine hLy16 s' _ _ hi ⟨by kernel_rfl, ?_, ?_, by kernel_rfl, by kernel_rfl⟩ <;> cbv <;> (try (subst e; simp only [D.han, D.har, D.hbeq, D.hcmp, D.hinb, D.hnt, D.hun, and_self, and_true, true_and] <;> (repeat' apply And.intro) <;> rfl))
              · refine R.brD h (by (first | (simp only [D.han, D.har, D.hbeq, D.hcmp, D.hinb, D.hnt, D.hun]; done) | rfl | (simp only [D.han, D.har, D.hbeq, D.hcmp, D.hinb, D.hnt, D.hun]; rfl))) ?_ ?_ <;> clear h <;> intro h <;> cbv
                · refine R.brD h (by (first | (simp only [D.han, D.har, D.hbeq, D.hcmp, D.hinb, D.hnt, D.hun]; done) | rfl | (simp only [D.han, D.har, D.hbeq, D.hcmp, D.hinb, D.hnt, D.hun]; rfl))) ?_ ?_ <;> clear h <;> intro h <;> cbv
                  · refine R.brD h (by (first | (simp only [D.han, D.har, D.hbeq, D.hcmp, D.hinb, D.hnt, D.hun]; done) | rfl | (simp only [D.han, D.har, D.hbeq, D.hcmp, D.hinb, D.hnt, D.hun]; rfl))) ?_ ?_ <;> clear h <;> intro h <;> cbv
                    · obtain ⟨s', e, hi⟩ := jn_some (fun p => p) h
                      refine hLy16 s' _ _ hi ⟨by kernel_rfl, ?_, ?_, by kernel_rfl, by kernel_rfl⟩ <;> cbv <;> (try (subst e; simp only [D.han, D.har, D.hbeq, D.hcmp, D.hinb, D.hnt, D.hun, and_self, and_true, true_and] <;> (repeat' apply And.intro) <;> rfl))
                    · refine R.brD h (by (first | (simp only [D.han, D.har, D.hbeq, D.hcmp, D.hinb, D.hnt, D.hun]; done) | rfl | (simp only [D.han, D.har, D.hbeq, D.hcmp, D.hinb, D.hnt, D.hun]; rfl))) ?_ ?_ <;> clear h <;> intro h <;> cbv
                      · refine R.brD h (by (first | (simp only [D.han, D.har, D.hbeq, D.hcmp, D.hinb, D.hnt, D.hun]; done) | rfl | (simp only [D.han, D.har, D.hbeq, D.hcmp, D.hinb, D.hnt, D.hun]; rfl))) ?_ ?_ <;> clear h <;> intro h <;> cbv
                        · obtain ⟨s', e, hi⟩ := jn_some (fun p => p) h
                          refine hLy16 s' _ _ hi ⟨by kernel_rfl, ?_, ?_, by kernel_rfl, by kernel_rfl⟩ <;> cbv <;> (try (subst e; simp only [D.han, D.har, D.hbeq, D.hcmp, D.hinb, D.hnt, D.hun, and_self, and_true, true_and] <;> (repeat' apply And.intro) <;> rfl))
                        · obtain ⟨s', e, hi⟩ := jn_some (fun p => p) h
                          refine hLy16 s' _ _ hi ⟨by kernel_rfl, ?_, ?_, by kernel_rfl, by kernel_rfl⟩ <;> cbv <;> (try (subst e; simp only [D.han, D.har, D.hbeq, D.hcmp, D.hinb, D.hnt, D.hun, and_self, and_true, true_and] <;> (repeat' apply And.intro) <;> rfl))
                      · obtain ⟨s', e, hi⟩ := jn_some (fun p => p) h
                        refine hLy16 s' _ _ hi ⟨by kernel_rfl, ?_, ?_, by kernel_rfl, by kernel_rfl⟩ <;> cbv <;> (try (subst e; simp only [D.han, D.har, D.hbeq, D.hcmp, D.hinb, D.hnt, D.hun, and_self, and_true, true_and] <;> (repeat' apply And.intro) <;> rfl))
                  · refine R.brD h (by (first | (simp only [D.han, D.har, D.hbeq, D.hcmp, D.hinb, D.hnt, D.hun]; done) | rfl | (simp only [D.han, D.har, D.hbeq, D.hcmp, D.hinb, D.hnt, D.hun]; rfl))) ?_ ?_ <;> clear h <;> intro h <;> cbv
                    · refine R.brD h (by (first | (simp only [D.han, D.har, D.hbeq, D.hcmp, D.hinb, D.hnt, D.hun]; done) | rfl | (simp only [D.han, D.har, D.hbeq, D.hcmp, D.hinb, D.hnt, D.hun]; rfl))) ?_ ?_ <;> clear h <;> intro h <;> cbv
                      · obtain ⟨s', e, hi⟩ := jn_some (fun p => p) h
                        refine hLy16 s' _ _ hi ⟨by kernel_rfl, ?_, ?_, by kernel_rfl, by kernel_rfl⟩ <;> cbv <;> (try (subst e; simp only [D.han, D.har, D.hbeq, D.hcmp, D.hinb, D.hnt, D.hun, and_self, and_true, true_and] <;> (repeat' apply And.intro) <;> rfl))
                      · obtain ⟨s', e, hi⟩ := jn_some (fun p => p) h
                        refine hLy16 s' _ _ hi ⟨by kernel_rfl, ?_, ?_, by kernel_rfl, by kernel_rfl⟩ <;> cbv <;> (try (subst e; simp only [D.han, D.har, D.hbeq, D.hcmp, D.hinb, D.hnt, D.hun, and_self, and_true, true_and] <;> (repeat' apply And.intro) <;> rfl))
                    · obtain ⟨s', e, hi⟩ := jn_some (fun p => p) h
                      refine hLy16 s' _ _ hi ⟨by kernel_rfl, ?_, ?_, by kernel_rfl, by kernel_rfl⟩ <;> cbv <;> (try (subst e; simp only [D.han, D.har, D.hbeq, D.hcmp, D.hinb, D.hnt, D.hun, and_self, and_true, true_and] <;> (repeat' apply And.intro) <;> rfl))
                · refine R.brD h (by (first | (simp only [D.han, D.har, D.hbeq, D.hcmp, D.hinb, D.hnt, D.hun]; done) | rfl | (simp only [D.han, D.har, D.hbeq, D.hcmp, D.hinb, D.hnt, D.hun]; rfl))) ?_ ?_ <;> clear h <;> intro h <;> cbv
                  · refine R.brD h (by (first | (simp only [D.han, D.har, D.hbeq, D.hcmp, D.hinb, D.hnt, D.hun]; done) | rfl | (simp only [D.han, D.har, D.hbeq, D.hcmp, D.hinb, D.hnt, D.hun]; rfl))) ?_ ?_ <;> clear h <;> intro h <;> cbv
                    · obtain ⟨s', e, hi⟩ := jn_some (fun p => p) h
                      refine hLy16 s' _ _ hi ⟨by kernel_rfl, ?_, ?_, by kernel_rfl, by kernel_rfl⟩ <;> cbv <;> (try (subst e; simp only [D.han, D.har, D.hbeq, D.hcmp, D.hinb, D.hnt, D.hun, and_self, and_true, true_and] <;> (repeat' apply And.intro) <;> rfl))
                    · obtain ⟨s', e, hi⟩ := jn_some (fun p => p) h
                      refine hLy16 s' _ _ hi ⟨by kernel_rfl, ?_, ?_, by kernel_rfl, by kernel_rfl⟩ <;> cbv <;> (try (subst e; simp only [D.han, D.har, D.hbeq, D.hcmp, D.hinb, D.hnt, D.hun, and_self, and_true, true_and] <;> (repeat' apply And.intro) <;> rfl))
                  · obtain ⟨s', e, hi⟩ := jn_some (fun p => p) h
                    refine hLy16 s' _ _ hi ⟨by kernel_rfl, ?_, ?_, by kernel_rfl, by kernel_rfl⟩ <;> cbv <;> (try (subst e; simp only [D.han, D.har, D.hbeq, D.hcmp, D.hinb, D.hnt, D.hun, and_self, and_true, true_and] <;> (repeat' apply And.intro) <;> rfl))
      · as_aux_lemma =>
        clear h; have h := h2; clear h2; try dsimp only at h
        cbv
        refine R.brD h (by (first | (simp only [D.han, D.har, D.hbeq, D.hcmp, D.hinb, D.hnt, D.hun]; done) | rfl | (simp only [D.han, D.har, D.hbeq, D.hcmp, D.hinb, D.hnt, D.hun]; rfl))) ?_ ?_ <;> clear h <;> intro h <;> cbv
        · have e := ret_some h; clear h
          refine hK _ _ ?_
          cbv
          try (subst e; simp only [D.han, D.har, D.hbeq, D.hcmp, D.hinb, D.hnt, D.hun, and_self, and_true, true_and] <;> (repeat' apply And.intro) <;> rfl)
        · as_aux_lemma =>
          refine R.cutB Sum.inl (fun _ _ e => Sum.inl.inj e) h [] (fun p68 => []) (fun p68 => []) (by kernel_rfl) (by kernel_rfl) (fun y38 hy hFy38 L hLy38 => ?_) (fun p68 h2 => ?_)
          · as_aux_lemma =>
            clear h; have h := hy; clear hy; cbv
            refine R.loopD h (fun s0 y56 e0 hi hFs47 => ?_)
            clear h
            refine R.loopI hi [] (fun s47 => [(15, .i .i64 s47)]) (fun s47 => []) ⟨by kernel_rfl, ?_, ?_, by kernel_rfl, by kernel_rfl⟩ (by kernel_rfl) ?_
            · cbv; try (subst e0; simp only [D.han, D.har, D.hbeq, D.hcmp, D.hinb, D.hnt, D.hun, and_self, and_true, true_and] <;> (repeat' apply And.intro) <;> rfl)
            · cbv; try (subst e0; simp only [D.han, D.har, D.hbeq, D.hcmp, D.hinb, D.hnt, D.hun, and_self, and_true, true_and] <;> (repeat' apply And.intro) <;> rfl)
            clear hi e0
            intro s47 m y' hy hins47 houts47 L hLs47
            have h := hy; clear hy; unfold d5_b1 at h
            cbv
            refine R.cut' (by kernel_rfl) (by kernel_rfl) ?_
            cbv
            refine R.brD h (by (first | (simp only [D.han, D.har, D.hbeq, D.hcmp, D.hinb, D.hnt, D.hun]; done) | rfl | (simp only [D.han, D.har, D.hbeq, D.hcmp, D.hinb, D.hnt, D.hun]; rfl))) ?_ ?_ <;> clear h <;> intro h <;> cbv
            · as_aux_lemma =>
              refine R.cut' (by kernel_rfl) (by kernel_rfl) ?_
              cbv
              refine R.callD h (fun x61 hx61 h2 => ?_)
              clear h; have h := h2; clear h2
              refine R.call' (w17 _ _ _ _ _ _ hx61) (by (first | (simp only [D.han, D.har, D.hbeq, D.hcmp, D.hinb, D.hnt, D.hun]; done) | rfl | (simp only [D.han, D.har, D.hbeq, D.hcmp, D.hinb, D.hnt, D.hun]; rfl))) ?_
              clear hx61; cbv
              refine R.cutB (fun p => p) (fun _ _ e => e) h [] (fun p65 => [(166, .b p65)]) (fun p65 => []) (by kernel_rfl) (by kernel_rfl) (fun y63 hy hFy63 L hLy63 => ?_) (fun p65 h2 => ?_)
              · as_aux_lemma =>
                clear h; have h := hy; clear hy; cbv
                refine R.callD h (fun x64 hx64 h2 => ?_)
                clear h; have h := h2; clear h2
                refine R.call' (w10 _ hx64) (by (first | (simp only [D.han, D.har, D.hbeq, D.hcmp, D.hinb, D.hnt, D.hun]; done) | rfl | (simp only [D.han, D.har, D.hbeq, D.hcmp, D.hinb, D.hnt, D.hun]; rfl))) ?_
                clear hx64; cbv
                refine R.brD h (by (first | (simp only [D.han, D.har, D.hbeq, D.hcmp, D.hinb, D.hnt, D.hun]; done) | rfl | (simp only [D.han, D.har, D.hbeq, D.hcmp, D.hinb, D.hnt, D.hun]; rfl))) ?_ ?_ <;> clear h <;> intro h <;> cbv
                · obtain ⟨s', e, hi⟩ := jn_some (fun p => p) h
                  refine hLy63 s' _ _ hi ⟨by kernel_rfl, ?_, ?_, by kernel_rfl, by kernel_rfl⟩ <;> cbv <;> (try (subst e; simp only [D.han, D.har, D.hbeq, D.hcmp, D.hinb, D.hnt, D.hun, and_self, and_true, true_and] <;> (repeat' apply And.intro) <;> rfl))
                · as_aux_lemma =>
                  refine R.needD h (by (first | (simp only [D.han, D.har, D.hbeq, D.hcmp, D.hinb, D.hnt, D.hun]; done) | rfl | (simp only [D.han, D.har, D.hbeq, D.hcmp, D.hinb, D.hnt, D.hun]; rfl))) ?_
                  clear h; intro h; cbv
                  refine R.brD h (by (first | (simp only [D.han, D.har, D.hbeq, D.hcmp, D.hinb, D.hnt, D.hun]; done) | rfl | (simp only [D.han, D.har, D.hbeq, D.hcmp, D.hinb, D.hnt, D.hun]; rfl))) ?_ ?_ <;> clear h <;> intro h <;> cbv
                  · refine R.brD h (by (first | (simp only [D.han, D.har, D.hbeq, D.hcmp, D.hinb, D.hnt, D.hun]; done) | rfl | (simp only [D.han, D.har, D.hbeq, D.hcmp, D.hinb, D.hnt, D.hun]; rfl))) ?_ ?_ <;> clear h <;> intro h <;> cbv
                    · obtain ⟨s', e, hi⟩ := jn_some (fun p => p) h
                      refine hLy63 s' _ _ hi ⟨by kernel_rfl, ?_, ?_, by kernel_rfl, by kernel_rfl⟩ <;> cbv <;> (try (subst e; simp only [D.han, D.har, D.hbeq, D.hcmp, D.hinb, D.hnt, D.hun, and_self, and_true, true_and] <;> (repeat' apply And.intro) <;> rfl))
                    · refine R.brD h (by (first | (simp only [D.han, D.har, D.hbeq, D.hcmp, D.hinb, D.hnt, D.hun]; done) | rfl | (simp only [D.han, D.har, D.hbeq, D.hcmp, D.hinb, D.hnt, D.hun]; rfl))) ?_ ?_ <;> clear h <;> intro h <;> cbv
                      · obtain ⟨s', e, hi⟩ := jn_some (fun p => p) h
                        refine hLy63 s' _ _ hi ⟨by kernel_rfl, ?_, ?_, by kernel_rfl, by kernel_rfl⟩ <;> cbv <;> (try (subst e; simp only [D.han, D.har, D.hbeq, D.hcmp, D.hinb, D.hnt, D.hun, and_self, and_true, true_and] <;> (repeat' apply And.intro) <;> rfl))
                      · obtain ⟨s', e, hi⟩ := jn_some (fun p => p) h
                        refine hLy63 s' _ _ hi ⟨by kernel_rfl, ?_, ?_, by kernel_rfl, by kernel_rfl⟩ <;> cbv <;> (try (subst e; simp only [D.han, D.har, D.hbeq, D.hcmp, D.hinb, D.hnt, D.hun, and_self, and_true, true_and] <;> (repeat' apply And.intro) <;> rfl))
                  · as_aux_lemma =>
                    refine R.brD h (by (first | (simp only [D.han, D.har, D.hbeq, D.hcmp, D.hinb, D.hnt, D.hun]; done) | rfl | (simp only [D.han, D.har, D.hbeq, D.hcmp, D.hinb, D.hnt, D.hun]; rfl))) ?_ ?_ <;> clear h <;> intro h <;> cbv
                    · refine R.brD h (by (first | (simp only [D.han, D.har, D.hbeq, D.hcmp, D.hinb, D.hnt, D.hun]; done) | rfl | (simp only [D.han, D.har, D.hbeq, D.hcmp, D.hinb, D.hnt, D.hun]; rfl))) ?_ ?_ <;> clear h <;> intro h <;> cbv
                      · obtain ⟨s', e, hi⟩ := jn_some (fun p => p) h
                        refine hLy63 s' _ _ hi ⟨by kernel_rfl, ?_, ?_, by kernel_rfl, by kernel_rfl⟩ <;> cbv <;> (try (subst e; simp only [D.han, D.har, D.hbeq, D.hcmp, D.hinb, D.hnt, D.hun, and_self, and_true, true_and] <;> (repeat' apply And.intro) <;> rfl))
                      · refine R.brD h (by (first | (simp only [D.han, D.har, D.hbeq, D.hcmp, D.hinb, D.hnt, D.hun]; done) | rfl | (simp only [D.han, D.har, D.hbeq, D.hcmp, D.hinb, D.hnt, D.hun]; rfl))) ?_ ?_ <;> clear h <;> intro h <;> cbv
                        · obtain ⟨s', e, hi⟩ := jn_some (fun p => p) h
                          refine hLy63 s' _ _ hi ⟨by kernel_rfl, ?_, ?_, by kernel_rfl, by kernel_rfl⟩ <;> cbv <;> (try (subst e; simp only [D.han, D.har, D.hbeq, D.hcmp, D.hinb, D.hnt, D.hun, and_self, and_true, true_and] <;> (repeat' apply And.intro) <;> rfl))
                        · obtain ⟨s', e, hi⟩ := jn_some (fun p => p) h
                          refine hLy63 s' _ _ hi ⟨by kernel_rfl, ?_, ?_, by kernel_rfl, by kernel_rfl⟩ <;> cbv <;> (try (subst e; simp only [D.han, D.har, D.hbeq, D.hcmp, D.hinb, D.hnt, D.hun, and_self, and_true, true_and] <;> (repeat' apply And.intro) <;> rfl))
                    · as_aux_lemma =>
                      refine R.brD h (by (first | (simp only [D.han, D.har, D.hbeq, D.hcmp, D.hinb, D.hnt, D.hun]; done) | rfl | (simp only [D.han, D.har, D.hbeq, D.hcmp, D.hinb, D.hnt, D.hun]; rfl))) ?_ ?_ <;> clear h <;> intro h <;> cbv
                      · refine R.brD h (by (first | (simp only [D.han, D.har, D.hbeq, D.hcmp, D.hinb, D.hnt, D.hun]; done) | rfl | (simp only [D.han, D.har, D.hbeq, D.hcmp, D.hinb, D.hnt, D.hun]; rfl))) ?_ ?_ <;> clear h <;> intro h <;> cbv
                        · obtain ⟨s', e, hi⟩ := jn_some (fun p => p) h
                          refine hLy63 s' _ _ hi ⟨by kernel_rfl, ?_, ?_, by kernel_rfl, by kernel_rfl⟩ <;> cbv <;> (try (subst e; simp only [D.han, D.har, D.hbeq, D.hcmp, D.hinb, D.hnt, D.hun, and_self, and_true, true_and] <;> (repeat' apply And.intro) <;> rfl))
                        · refine R.brD h (by (first | (simp only [D.han, D.har, D.hbeq, D.hcmp, D.hinb, D.hnt, D.hun]; done) | rfl | (simp only [D.han, D.har, D.hbeq, D.hcmp, D.hinb, D.hnt, D.hun]; rfl))) ?_ ?_ <;> clear h <;> intro h <;> cbv
                          · obtain ⟨s', e, hi⟩ := jn_some (fun p => p) h
                            refine hLy63 s' _ _ hi ⟨by kernel_rfl, ?_, ?_, by kernel_rfl, by kernel_rfl⟩ <;> cbv <;> (try (subst e; simp only [D.han, D.har, D.hbeq, D.hcmp, D.hinb, D.hnt, D.hun, and_self, and_true, true_and] <;> (repeat' apply And.intro) <;> rfl))
                          · obtain ⟨s', e, hi⟩ := jn_some (fun p => p) h
                            refine hLy63 s' _ _ hi ⟨by kernel_rfl, ?_, ?_, by kernel_rfl, by kernel_rfl⟩ <;> cbv <;> (try (subst e; simp only [D.han, D.har, D.hbeq, D.hcmp, D.hinb, D.hnt, D.hun, and_self, and_true, true_and] <;> (repeat' apply And.intro) <;> rfl))
                      · refine R.brD h (by (first | (simp only [D.han, D.har, D.hbeq, D.hcmp, D.hinb, D.hnt, D.hun]; done) | rfl | (simp only [D.han, D.har, D.hbeq, D.hcmp, D.hinb, D.hnt, D.hun]; rfl))) ?_ ?_ <;> clear h <;> intro h <;> cbv
                        · refine R.brD h (by (first | (simp only [D.han, D.har, D.hbeq, D.hcmp, D.hinb, D.hnt, D.hun]; done) | rfl | (simp only [D.han, D.har, D.hbeq, D.hcmp, D.hinb, D.hnt, D.hun]; rfl))) ?_ ?_ <;> clear h <;> intro h <;> cbv
                          · obtain ⟨s', e, hi⟩ := jn_some (fun p => p) h
                            refine hLy63 s' _ _ hi ⟨by kernel_rfl, ?_, ?_, by kernel_rfl, by kernel_rfl⟩ <;> cbv <;> (try (subst e; simp only [D.han, D.har, D.hbeq, D.hcmp, D.hinb, D.hnt, D.hun, and_self, and_true, true_and] <;> (repeat' apply And.intro) <;> rfl))
                          · refine R.brD h (by (first | (simp only [D.han, D.har, D.hbeq, D.hcmp, D.hinb, D.hnt, D.hun]; done) | rfl | (simp only [D.han, D.har, D.hbeq, D.hcmp, D.hinb, D.hnt, D.hun]; rfl))) ?_ ?_ <;> clear h <;> intro h <;> cbv
                            · obtain ⟨s', e, hi⟩ := jn_some (fun p => p) h
                              refine hLy63 s' _ _ hi ⟨by kernel_rfl, ?_, ?_, by kernel_rfl, by kernel_rfl⟩ <;> cbv <;> (try (subst e; simp only [D.han, D.har, D.hbeq, D.hcmp, D.hinb, D.hnt, D.hun, and_self, and_true, true_and] <;> (repeat' apply And.intro) <;> rfl))
                            · obtain ⟨s', e, hi⟩ := jn_some (fun p => p) h
                              refine hLy63 s' _ _ hi ⟨by kernel_rfl, ?_, ?_, by kernel_rfl, by kernel_rfl⟩ <;> cbv <;> (try (subst e; simp only [D.han, D.har, D.hbeq, D.hcmp, D.hinb, D.hnt, D.hun, and_self, and_true, true_and] <;> (repeat' apply And.intro) <;> rfl))
                        · refine R.brD h (by (first | (simp only [D.han, D.har, D.hbeq, D.hcmp, D.hinb, D.hnt, D.hun]; done) | rfl | (simp only [D.han, D.har, D.hbeq, D.hcmp, D.hinb, D.hnt, D.hun]; rfl))) ?_ ?_ <;> clear h <;> intro h <;> cbv
                          · refine R.brD h (by (first | (simp only [D.han, D.har, D.hbeq, D.hcmp, D.hinb, D.hnt, D.hun]; done) | rfl | (simp only [D.han, D.har, D.hbeq, D.hcmp, D.hinb, D.hnt, D.hun]; rfl))) ?_ ?_ <;> clear h <;> intro h <;> cbv
                            · obtain ⟨s', e, hi⟩ := jn_some (fun p => p) h
                              refine hLy63 s' _ _ hi ⟨by kernel_rfl, ?_, ?_, by kernel_rfl, by kernel_rfl⟩ <;> cbv <;> (try (subst e; simp only [D.han, D.har, D.hbeq, D.hcmp, D.hinb, D.hnt, D.hun, and_self, and_true, true_and] <;> (repeat' apply And.intro) <;> rfl))
                            · refine R.brD h (by (first | (simp only [D.han, D.har, D.hbeq, D.hcmp, D.hinb, D.hnt, D.hun]; done) | rfl | (simp only [D.han, D.har, D.hbeq, D.hcmp, D.hinb, D.hnt, D.hun]; rfl))) ?_ ?_ <;> clear h <;> intro h <;> cbv
                              · obtain ⟨s', e, hi⟩ := jn_some (fun p => p) h
                                refine hLy63 s' _ _ hi ⟨by kernel_rfl, ?_, ?_, by kernel_rfl, by kernel_rfl⟩ <;> cbv <;> (try (subst e; simp only [D.han, D.har, D.hbeq, D.hcmp, D.hinb, D.hnt, D.hun, and_self, and_true, true_and] <;> (repeat' apply And.intro) <;> rfl))
                              · obtain ⟨s', e, hi⟩ := jn_some (fun p => p) h
                                refine hLy63 s' _ _ hi ⟨by kernel_rfl, ?_, ?_, by kernel_rfl, by kernel_rfl⟩ <;> cbv <;> (try (subst e; simp only [D.han, D.har, D.hbeq, D.hcmp, D.hinb, D.hnt, D.hun, and_self, and_true, true_and] <;> (repeat' apply And.intro) <;> rfl))
                          · refine R.brD h (by (first | (simp only [D.han, D.har, D.hbeq, D.hcmp, D.hinb, D.hnt, D.hun]; done) | rfl | (simp only [D.han, D.har, D.hbeq, D.hcmp, D.hinb, D.hnt, D.hun]; rfl))) ?_ ?_ <;> clear h <;> intro h <;> cbv
                            · obtain ⟨s', e, hi⟩ := jn_some (fun p => p) h
                              refine hLy63 s' _ _ hi ⟨by kernel_rfl, ?_, ?_, by kernel_rfl, by kernel_rfl⟩ <;> cbv <;> (try (subst e; simp only [D.han, D.har, D.hbeq, D.hcmp, D.hinb, D.hnt, D.hun, and_self, and_true, true_and] <;> (repeat' apply And.intro) <;> rfl))
                            · refine R.brD h (by (first | (simp only [D.han, D.har, D.hbeq, D.hcmp, D.hinb, D.hnt, D.hun]; done) | rfl | (simp only [D.han, D.har, D.hbeq, D.hcmp, D.hinb, D.hnt, D.hun]; rfl))) ?_ ?_ <;> clear h <;> intro h <;> cbv
                              · obtain ⟨s', e, hi⟩ := jn_some (fun p => p) h
                                refine hLy63 s' _ _ hi ⟨by kernel_rfl, ?_, ?_, by kernel_rfl, by kernel_rfl⟩ <;> cbv <;> (try (subst e; simp only [D.han, D.har, D.hbeq, D.hcmp, D.hinb, D.hnt, D.hun, and_self, and_true, true_and] <;> (repeat' apply And.intro) <;> rfl))
                              · obtain ⟨s', e, hi⟩ := jn_some (fun p => p) h
                                refine hLy63 s' _ _ hi ⟨by kernel_rfl, ?_, ?_, by kernel_rfl, by kernel_rfl⟩ <;> cbv <;> (try (subst e; simp only [D.han, D.har, D.hbeq, D.hcmp, D.hinb, D.hnt, D.hun, and_self, and_true, true_and] <;> (repeat' apply And.intro) <;> rfl))
              · clear h; have h := h2; clear h2; try dsimp only at h
                cbv
                refine R.brD h (by (first | (simp only [D.han, D.har, D.hbeq, D.hcmp, D.hinb, D.hnt, D.hun]; done) | rfl | (simp only [D.han, D.har, D.hbeq, D.hcmp, D.hinb, D.hnt, D.hun]; rfl))) ?_ ?_ <;> clear h <;> intro h <;> cbv
                · have e := inr_some h houts47; clear h
                  have h := hFs47; rw [e] at h; clear e; try dsimp only at h
                  cbv
                  have e := ret_some h; clear h
                  have h := hFy38; rw [e] at h; clear e; try dsimp only at h
                  cbv
                  have e := ret_some h; clear h
                  refine hK _ _ ?_
                  cbv
                  try (subst e; simp only [D.han, D.har, D.hbeq, D.hcmp, D.hinb, D.hnt, D.hun, and_self, and_true, true_and] <;> (repeat' apply And.intro) <;> rfl)
                · obtain ⟨s', e, hi⟩ := inl_some h hins47
                  refine hLs47 s' _ _ hi ⟨by kernel_rfl, ?_, ?_, by kernel_rfl, by kernel_rfl⟩ <;> cbv <;> (try (subst e; simp only [D.han, D.har, D.hbeq, D.hcmp, D.hinb, D.hnt, D.hun, and_self, and_true, true_and] <;> (repeat' apply And.intro) <;> rfl))
            · have e := inr_some h houts47; clear h
              have h := hFs47; rw [e] at h; clear e; try dsimp only at h
              cbv
              obtain ⟨s', e, hi⟩ := jn_some Sum.inl h
              refine hLy38 s' _ _ hi ⟨by kernel_rfl, ?_, ?_, by kernel_rfl, by kernel_rfl⟩ <;> cbv <;> (try (subst e; simp only [D.han, D.har, D.hbeq, D.hcmp, D.hinb, D.hnt, D.hun, and_self, and_true, true_and] <;> (repeat' apply And.intro) <;> rfl))
          · clear h; have h := h2; clear h2; try dsimp only at h
            cbv
            refine R.callD h (fun x69 hx69 h2 => ?_)
            clear h; have h := h2; clear h2
            refine R.call' (w18 _ _ _ hx69) (by (first | (simp only [D.han, D.har, D.hbeq, D.hcmp, D.hinb, D.hnt, D.hun]; done) | rfl | (simp only [D.han, D.har, D.hbeq, D.hcmp, D.hinb, D.hnt, D.hun]; rfl))) ?_
            clear hx69; cbv
            refine R.callD h (fun x70 hx70 h2 => ?_)
            clear h; have h := h2; clear h2
            refine R.call' (w16 _ _ _ _ _ hx70) (by (first | (simp only [D.han, D.har, D.hbeq, D.hcmp, D.hinb, D.hnt, D.hun]; done) | rfl | (simp only [D.han, D.har, D.hbeq, D.hcmp, D.hinb, D.hnt, D.hun]; rfl))) ?_
            clear hx70; cbv
            refine R.callD h (fun x71 hx71 h2 => ?_)
            clear h; have h := h2; clear h2
            refine R.call' (w16 _ _ _ _ _ hx71) (by (first | (simp only [D.han, D.har, D.hbeq, D.hcmp, D.hinb, D.hnt, D.hun]; done) | rfl | (simp only [D.han, D.har, D.hbeq, D.hcmp, D.hinb, D.hnt, D.hun]; rfl))) ?_
            clear hx71; cbv
            refine R.cut' (by kernel_rfl) (by kernel_rfl) ?_
            cbv
            refine R.brD h (by (first | (simp only [D.han, D.har, D.hbeq, D.hcmp, D.hinb, D.hnt, D.hun]; done) | rfl | (simp only [D.han, D.har, D.hbeq, D.hcmp, D.hinb, D.hnt, D.hun]; rfl))) ?_ ?_ <;> clear h <;> intro h <;> cbv
            · refine R.brD h (by (first | (simp only [D.han, D.har, D.hbeq, D.hcmp, D.hinb, D.hnt, D.hun]; done) | rfl | (simp only [D.han, D.har, D.hbeq, D.hcmp, D.hinb, D.hnt, D.hun]; rfl))) ?_ ?_ <;> clear h <;> intro h <;> cbv
              · refine R.brD h (by (first | (simp only [D.han, D.har, D.hbeq, D.hcmp, D.hinb, D.hnt, D.hun]; done) | rfl | (simp only [D.han, D.har, D.hbeq, D.hcmp, D.hinb, D.hnt, D.hun]; rfl))) ?_ ?_ <;> clear h <;> intro h <;> cbv
                · refine R.callD h (fun x74 hx74 h2 => ?_)
                  clear h; have h := h2; clear h2
                  refine R.call' (w11 _ _ _ _ hx74) (by (first | (simp only [D.han, D.har, D.hbeq, D.hcmp, D.hinb, D.hnt, D.hun]; done) | rfl | (simp only [D.han, D.har, D.hbeq, D.hcmp, D.hinb, D.hnt, D.hun]; rfl))) ?_
                  clear hx74; cbv
                  refine R.brD h (by (first | (simp only [D.han, D.har, D.hbeq, D.hcmp, D.hinb, D.hnt, D.hun]; done) | rfl | (simp only [D.han, D.har, D.hbeq, D.hcmp, D.hinb, D.hnt, D.hun]; rfl))) ?_ ?_ <;> clear h <;> intro h <;> cbv
                  · refine R.callD h (fun x75 hx75 h2 => ?_)
                    clear h; have h := h2; clear h2
                    refine R.call' (w11 _ _ _ _ hx75) (by (first | (simp only [D.han, D.har, D.hbeq, D.hcmp, D.hinb, D.hnt, D.hun]; done) | rfl | (simp only [D.han, D.har, D.hbeq, D.hcmp, D.hinb, D.hnt, D.hun]; rfl))) ?_
                    clear hx75; cbv
                    have e := ret_some h; clear h
                    refine hK _ _ ?_
                    cbv
                    try (subst e; simp only [D.han, D.har, D.hbeq, D.hcmp, D.hinb, D.hnt, D.hun, and_self, and_true, true_and] <;> (repeat' apply And.intro) <;> rfl)
                  · have e := ret_some h; clear h
                    refine hK _ _ ?_
                    cbv
                    try (subst e; simp only [D.han, D.har, D.hbeq, D.hcmp, D.hinb, D.hnt, D.hun, and_self, and_true, true_and] <;> (repeat' apply And.intro) <;> rfl)
                · have e := ret_some h; clear h
                  refine hK _ _ ?_
                  cbv
                  try (subst e; simp only [D.han, D.har, D.hbeq, D.hcmp, D.hinb, D.hnt, D.hun, and_self, and_true, true_and] <;> (repeat' apply And.intro) <;> rfl)
              · have e := ret_some h; clear h
                refine hK _ _ ?_
                cbv
                try (subst e; simp only [D.han, D.har, D.hbeq, D.hcmp, D.hinb, D.hnt, D.hun, and_self, and_true, true_and] <;> (repeat' apply And.intro) <;> rfl)
            · have e := ret_some h; clear h
              refine hK _ _ ?_
              cbv
              try (subst e; simp only [D.han, D.har, D.hbeq, D.hcmp, D.hinb, D.hnt, D.hun, and_self, and_true, true_and] <;> (repeat' apply And.intro) <;> rfl)
end Go.Proofs.YtjcabmhnekcbgaaDoor

end
section
/- The one statement over its function that the law BitsOrders comes to. Conditions: none. -/
-- Told by a program of this seat's session. Not trusted: Lean checks it.

namespace Go.Proofs.YtjcabmhnekcbgaaDoor
open Go.Ab Go.RowKit
def BitsOrders.Claim : Prop := ∀ (x0 : (Int × Bool)) (x1 : (Int × (Int × Int))), (fun x : (Int × Bool) => (fun n : Int => (Lit.int .i64 n).wf = true) x.1 ∧ (fun _ : Bool => True) x.2) x0 → (fun x : Int × (Int × Int) => (fun n : Int => (Lit.int .i64 n).wf = true) x.1 ∧ ((fun n : Int => (Lit.int .i64 n).wf = true) x.2.1 ∧ (fun n : Int => (Lit.int .i64 n).wf = true) x.2.2)) x1 → Ab.Fn Tryd.prog TT 5 [.agg [.i .i64 x0.1, .b x0.2], .agg [.i .i64 x1.1, .i .i64 x1.2.1, .i .i64 x1.2.2]] (.b true) []
end Go.Proofs.YtjcabmhnekcbgaaDoor
end
section
/- The law BitsOrders by the calculus. Conditions: none. -/

namespace Go.Proofs.YtjcabmhnekcbgaaDoor
open Go.Ab Go.RowKit
theorem BitsOrders.pure : BitsOrders.Claim := by
  intro x0 x1 h0 h1; exact w5 _ _ _ _ _ true (pd5 _ _ (i64_wf' h1.1) (i64_wf' h1.2.1) (i64_wf' h1.2.2))
end Go.Proofs.YtjcabmhnekcbgaaDoor
end
section
/- BitsOrders: the law's call returns true for every input, and its arguments read afterwards as_ before. Conditions: none. -/
-- Told by a program of this seat's session. Not trusted: Lean checks it.

namespace Go.Proofs.YtjcabmhnekcbgaaDoor.bitsOrders
open Go.ChangeShapes Go.WideShapes Go.ChangeAt Go.RowKit Go.Ab Go.Proofs.YtjcabmhnekcbgaaDoor
open Go.ChangeMaps (open_string shut_string)
theorem own : ownKnob Tryd.prog.godebug = none := by kernel_rfl
theorem laidOut : laidOutB Tryd.prog = true := by kernel_rfl
theorem door_met (os : Os) (args : Array Value) : laidMetH Tryd.prog Rows.bitsOrdersRow.laid ((World.doorLaid Tryd.prog 400 os).forCall (fun _ _ => 0) ⟨#[], args, []⟩).memory :=
  laidMetH_of_parts3 (fuel := 8) (laidMet_of_run' 8 (by kernel_rfl) (by kernel_rfl)) (by kernel_rfl) (by kernel_rfl)
set_option maxRecDepth 100000 in
set_option maxHeartbeats 8000000 in
theorem lifted (os : Os) (started : os.Started) (H : Type) (enc : TypeId × Value → H) :
    ReturnsInHanded {} Tryd.checked os 5 .any (fun w args => (Rows.bitsOrdersSpec.pre enc Tryd.prog Tryd.f5 [] false w args ∧ laidMetH Tryd.prog Rows.bitsOrdersRow.laid w) ∧ sizedMet enc Tryd.prog Tryd.f5 (OpenSpec.ofChange Rows.bitsOrdersSpec) false w args)
      (Rows.bitsOrdersSpec.post enc Tryd.prog Tryd.f5 false true false false) := by
  refine returnsInHanded_of_change_and (C := Tryd.checked) (X := fun w _ => laidMetH Tryd.prog Rows.bitsOrdersRow.laid w) (fun _ _ _ hh h => h.of_heap hh) own started (by kernel_rfl) Tryd.func5
    (ChangeSpec.witness_shaped (enc := enc) (C := Tryd.checked) (os := os) (X := fun w _ => laidMetH Tryd.prog Rows.bitsOrdersRow.laid w) false (World.doorLaid Tryd.prog 400 os) #[.agg #[.int .i64 0, .bool false], .agg #[.int .i64 0, .int .i64 0, .int .i64 0]] 8 rfl (World.shaped_of_RefB (by kernel_rfl) (by kernel_rfl)) (by kernel_rfl) (by kernel_rfl) (by kernel_rfl) (door_met os _)) ?_
  intro W base args ds gs before hval0 hW _ _ hL _
  have hval : ∀ (j : Nat) t v, Tryd.f5.params[j]? = some t → args[j]? = some v → Value.okWide Tryd.prog W .any base t v := hval0
  have hW' := hW
  obtain ⟨p, q, hA0, hV, rfl, hfz, hnd⟩ := hW
  have hA : DataW.TrodAll enc Tryd.prog W 0 (fun _ => true) true Tryd.f5.params.toList args.toList ds p := hA0
  rw [Tryd.params5] at hA hval
  obtain ⟨v0, vs0, d0, ds0, p0, q0, hargs, rfl, rfl, h0, r0⟩ := trodAll_cons hA
  obtain ⟨v1, vs1, d1, ds1, p1, q1, rfl, rfl, rfl, h1, r1⟩ := trodAll_cons r0
  obtain ⟨rfl, rfl, rfl⟩ := trodAll_nil r1
  obtain rfl : args = #[v0, v1] := by cases args; simp_all
  obtain ⟨rfl, rfl⟩ := trodVars_none hV
  have k0 := h0
  have lt0 : ∀ x ∈ p0, x.block < W.heap.size := by obtain ⟨m, hm⟩ := k0; exact DataW.trod_lt m _ _ _ hm
  obtain ⟨cs0, rfl, sz0⟩ := okWide_struct Tryd.underlying23 (hval 0 23 v0 rfl rfl)
  obtain ⟨x0, ra0, rb0, _, ok0⟩ := h0.elim fun fuel hf => ((OpV.struct tok (te := te23) (by kernel_rfl) rfl (by kernel_rfl) (OpAt.cons rfl (by kernel_rfl) (OpV.int tok (e := te3) (by kernel_rfl) rfl) (OpAt.last rfl (by kernel_rfl) (OpV.bool tok (e := te4) (by kernel_rfl) rfl)))) : OpV TT enc Tryd.prog W 23 _ _ _) _ _ _ hf
  have k1 := h1
  have lt1 : ∀ x ∈ p1, x.block < W.heap.size := by obtain ⟨m, hm⟩ := k1; exact DataW.trod_lt m _ _ _ hm
  obtain ⟨cs1, rfl, sz1⟩ := okWide_arr Tryd.underlying42 (hval 1 42 v1 rfl rfl)
  obtain ⟨x1, ra1, rb1, _, ok1⟩ := h1.elim fun fuel hf => ((OpV.arr3 tok (te := te42) (by kernel_rfl) rfl (by kernel_rfl) (by kernel_rfl) (OpV.int tok (e := te2) (by kernel_rfl) rfl)) : OpV TT enc Tryd.prog W 42 _ _ _) _ _ _ hf
  clear hA0 hval0
  refine (law_calls (w := W) ⟨_, _, Tryd.func5, by kernel_rfl, w5_h⟩ (BitsOrders.pure x0 x1 ok0 ok1) (gok_of hL) (args_agg ra0 rb0 (args_agg ra1 rb1 args_nil))).mono fun e W' ⟨he, bel⟩ => ?_
  subst he
  exact ⟨_, rfl, _, _, _, [], _, [], hW', trodAll_mk1 (shut_bool Tryd.underlying4 _), (trodAll_cons_mk (Below.trod laidOut (by kernel_rfl) (of_decide_eq_true (by kernel_rfl)) k0 bel lt0) (trodAll_cons_mk (Below.trod laidOut (by kernel_rfl) (of_decide_eq_true (by kernel_rfl)) k1 bel lt1) trodAll_mk0)), rfl, bel.frame _, fun h => by cases h⟩
theorem said : Rows.BitsOrdersSaid :=
  OpenClaim.holds_of_wide 5 Tryd.f5 rfl rfl rfl rfl rfl rfl rfl ⟨rfl, rfl, rfl, rfl, rfl⟩ rfl rfl rfl rfl rfl (by kernel_rfl) Tryd.func5 (by kernel_rfl)
    (of_decide_eq_true (by kernel_rfl)) (by unfold Func.isWrapper; first | (rw [if_pos (by decide +kernel)]; kernel_rfl) | (rw [if_neg (by decide +kernel)]; exact ⟨rfl, rfl⟩))
    (fun os started H enc _ => lifted os started H enc)
theorem card : Rows.BitsOrdersCardSaid :=
  Claim7.holds_tied_plain_at .later [] _ _ _ _ said (fun _ h => by cases h) (by kernel_rfl) (fun _ h => by cases h) bitsOrders_row_tie rfl ⟨rfl, rfl⟩ (by kernel_rfl) rfl
    (fun f fn hf hfn => by
      obtain rfl : f = 5 := Option.some.inj ((show Tryd.prog.funcNamed "tapline/taplinelaw01.BitsOrders" = some 5 by kernel_rfl).symm.trans hf) |>.symm
      obtain rfl : fn = Tryd.f5 := (Option.some.inj (Tryd.func5.symm.trans hfn)).symm
      exact ⟨by kernel_rfl, fun j t ht => by
        rw [Tryd.params5] at ht
        have hm : t ∈ [23, 42] := by simpa using Array.mem_of_getElem? ht
        have hall : ([23, 42].all fun u => !Tryd.prog.wantsStandIn u) = true := by kernel_rfl
        exact (show Tryd.prog.wantsStandIn t = false by simpa using List.all_eq_true.1 hall t hm)⟩)
    (by kernel_rfl)
end Go.Proofs.YtjcabmhnekcbgaaDoor.bitsOrders
namespace Go.Proofs.YtjcabmhnekcbgaaDoor
theorem bitsOrders_holds : Rows.BitsOrdersCardSaid := bitsOrders.card
end Go.Proofs.YtjcabmhnekcbgaaDoor
end
