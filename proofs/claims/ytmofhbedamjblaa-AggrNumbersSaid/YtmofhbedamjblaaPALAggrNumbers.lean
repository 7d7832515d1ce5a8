/- The law AggrNumbers: its function's walk, the pure law, the row. Conditions: none. -/
import Derived.Test.YtmofhbedamjblaaRows
import Derived.WalkKit
import Derived.ProofKit
import Derived.OpenShut
import Derived.ShutString
import Derived.ChangeOld
import Derived.Below
import Derived.SizedLaws
import Derived.Carry
import Derived.Test.YtmofhbedamjblaaPA6
set_option linter.unusedVariables false
set_option linter.unusedSimpArgs false
section
namespace Go.Proofs.Ytmofhbedamjblaa
open Go.Ab Go.RowKit 
set_option maxRecDepth 100000
set_option maxHeartbeats 40000000
noncomputable def w5_c : Code := (Try.f5.body).getD .skip
theorem w5_h : Try.f5.body = some w5_c := by kernel_rfl
theorem w5 (a0 : List V) (a1_0 : Int) (a1_1 : Int) (a1_2 : Int) (r : Bool) (h : d5 a0 a1_0 a1_1 a1_2 = some r) : Ab.Fn Try.prog TT 5 [.sl 2 a0, .agg [.i .i64 a1_0, .i .i64 a1_1, .i .i64 a1_2]] (.b r) [] := by
 refine fn_pure tok (fun r => match r with | 10 => [[],[0],[0,1],[0,1],[0,1,2,3],[0,1,2,3,4],[0,1],[0,1,6],[0,1,6,7],[0,1,2,3,4,5,6,7,8],[0,1,2,3,4,5,6,7,8,9],[0,1,2,3,4,5,6,7,8,9,10]] | _ => []) Try.func5 (by kernel_rfl) w5_h (by kernel_rfl) ?_
 intro _ _ _ _ _ _ _ _ _ _ _ _ _ _ _ _ _ _ _ _ _ _ _ _ _ _ _ _ _ _ _ _ _ _ _ _ _ _ _ _ _ E R K hK
 have D := E.D
 clear E
 have S := And.intro D.happ (And.intro D.har (And.intro D.hcmp (And.intro D.hgi (And.intro D.hinb (And.intro D.hlen (And.intro D.hne0 (And.intro D.hnt (D.hroom))))))))
 unfold d5 at h
 cbv
 refine R.callD h (fun x1 hx1 h2 => ?_)
 clear h; have h := h2; clear h2
 refine R.call' (w10 _ hx1) (by first|(simp only [S]<;>rfl)|rfl) ?_
 clear hx1; cbv
 refine R.cut' (by kernel_rfl) (by kernel_rfl) ?_
 cbv
 refine R.cut' (by kernel_rfl) (by kernel_rfl) ?_
 cbv
 refine R.brD h (by first|(simp only [S]<;>rfl)|rfl) ?_ ?_<;>clear h<;>intro h<;>cbv
 ·have e := ret_some h; clear h
  refine hK _ _ ?_
  cbv
  try (subst e; simp only [S, and_self, and_true, true_and] <;> (repeat' apply And.intro) <;> rfl)
 ·as_aux_lemma =>
  refine R.brD h (by first|(simp only [S]<;>rfl)|rfl) ?_ ?_<;>clear h<;>intro h<;>cbv
  ·have e := ret_some h; clear h
   refine hK _ _ ?_
   cbv
   try (subst e; simp only [S, and_self, and_true, true_and] <;> (repeat' apply And.intro) <;> rfl)
  ·as_aux_lemma =>
   refine R.cutB Sum.inl (fun _ _ e => Sum.inl.inj e) h [] (fun p9 => [(6, .b p9)]) (fun p9 => []) (by kernel_rfl) (by kernel_rfl) (fun y4 hy hFy4 L hLy4 => ?_) (fun p9 h2 => ?_)
   ·clear h; have h := hy; clear hy; cbv
    refine R.loopD h (fun s0 y6 e0 hi hFs5 => ?_)
    clear h
    refine R.loopI hi [] (fun s5 => [(6, .b s5.1), (7, .i .i64 s5.2)]) (fun s5 => []) ⟨by kernel_rfl, ?_, ?_, by kernel_rfl, by kernel_rfl⟩ (by kernel_rfl) ?_
    ·cbv; try (subst e0; simp only [S, and_self, and_true, true_and] <;> (repeat' apply And.intro) <;> rfl)
    ·cbv; try (subst e0; simp only [S, and_self, and_true, true_and] <;> (repeat' apply And.intro) <;> rfl)
    clear hi e0
    intro s5 m y' hy hins5 houts5 L hLs5
    have h := hy; clear hy; unfold d5_b1 at h
    cbv
    refine R.cut' (by kernel_rfl) (by kernel_rfl) ?_
    cbv
    refine R.brD h (by first|(simp only [S]<;>rfl)|rfl) ?_ ?_<;>clear h<;>intro h<;>cbv
    ·refine R.cut' (by kernel_rfl) (by kernel_rfl) ?_
     cbv
     refine R.cut' (by kernel_rfl) (by kernel_rfl) ?_
     cbv
     refine R.cut' (by kernel_rfl) (by kernel_rfl) ?_
     cbv
     refine R.needD h (by first|(simp only [S]<;>rfl)|rfl) ?_
     clear h; intro h; cbv
     refine R.brD h (by first|(simp only [S]<;>rfl)|rfl) ?_ ?_<;>clear h<;>intro h<;>cbv
     ·have e := inr_some h houts5; clear h
      have h := hFs5; rw [e] at h; clear e; try dsimp only at h
      cbv
      have e := ret_some h; clear h
      have h := hFy4; rw [e] at h; clear e; try dsimp only at h
      cbv
      have e := ret_some h; clear h
      refine hK _ _ ?_
      cbv
      try (subst e; simp only [S, and_self, and_true, true_and] <;> (repeat' apply And.intro) <;> rfl)
     ·refine R.needD h (by first|(simp only [S]<;>rfl)|rfl) ?_
      clear h; intro h; cbv
      refine R.brD h (by first|(simp only [S]<;>rfl)|rfl) ?_ ?_<;>clear h<;>intro h<;>cbv
      ·have e := inr_some h houts5; clear h
       have h := hFs5; rw [e] at h; clear e; try dsimp only at h
       cbv
       have e := ret_some h; clear h
       have h := hFy4; rw [e] at h; clear e; try dsimp only at h
       cbv
       have e := ret_some h; clear h
       refine hK _ _ ?_
       cbv
       try (subst e; simp only [S, and_self, and_true, true_and] <;> (repeat' apply And.intro) <;> rfl)
      ·refine R.brD h (by first|(simp only [S]<;>rfl)|rfl) ?_ ?_<;>clear h<;>intro h<;>cbv
       ·refine R.needD h (by first|(simp only [S]<;>rfl)|rfl) ?_
        clear h; intro h; cbv
        refine R.needD h (by first|(simp only [S]<;>rfl)|rfl) ?_
        clear h; intro h; cbv
        obtain ⟨s', e, hi⟩ := inl_some h hins5
        refine hLs5 s' _ _ hi ⟨by kernel_rfl, ?_, ?_, by kernel_rfl, by kernel_rfl⟩<;>cbv<;>(try (subst e;simp only [S,and_self,and_true,true_and]<;>(repeat' apply And.intro)<;>rfl))
       ·obtain ⟨s', e, hi⟩ := inl_some h hins5
        refine hLs5 s' _ _ hi ⟨by kernel_rfl, ?_, ?_, by kernel_rfl, by kernel_rfl⟩<;>cbv<;>(try (subst e;simp only [S,and_self,and_true,true_and]<;>(repeat' apply And.intro)<;>rfl))
    ·have e := inr_some h houts5; clear h
     have h := hFs5; rw [e] at h; clear e; try dsimp only at h
     cbv
     obtain ⟨s', e, hi⟩ := jn_some Sum.inl h
     refine hLy4 s' _ _ hi ⟨by kernel_rfl, ?_, ?_, by kernel_rfl, by kernel_rfl⟩<;>cbv<;>(try (subst e;simp only [S,and_self,and_true,true_and]<;>(repeat' apply And.intro)<;>rfl))
   ·as_aux_lemma =>
    clear h; have h := h2; clear h2; try dsimp only at h
    cbv
    refine R.cutB Sum.inl (fun _ _ e => Sum.inl.inj e) h [] (fun p73 => [(8, .row 143)]) (fun p73 => [(143, .row 2 p73)]) (by kernel_rfl) (by kernel_rfl) (fun y36 hy hFy36 L hLy36 => ?_) (fun p73 h2 => ?_)
    ·as_aux_lemma =>
     clear h; have h := hy; clear hy; cbv
     refine R.loopD h (fun s0 y62 e0 hi hFs53 => ?_)
     clear h
     refine R.born' (e := te2) 8 143 2 rfl rfl (by kernel_rfl) (by decide) ?_
     refine R.loopI hi [] (fun s53 => [(8, .row 143), (9, .i .i64 s53.1)]) (fun s53 => [(143, .row 2 s53.2)]) ⟨by kernel_rfl, ?_, ?_, by kernel_rfl, by kernel_rfl⟩ (by kernel_rfl) ?_
     ·cbv; try (subst e0; simp only [S, and_self, and_true, true_and] <;> (repeat' apply And.intro) <;> rfl)
     ·cbv; try (subst e0; simp only [S, and_self, and_true, true_and] <;> (repeat' apply And.intro) <;> rfl)
     clear hi e0
     intro s53 m y' hy hins53 houts53 L hLs53
     have h := hy; clear hy; unfold d5_b2 at h
     cbv
     refine R.cut' (by kernel_rfl) (by kernel_rfl) ?_
     cbv
     refine R.brD h (by first|(simp only [S]<;>rfl)|rfl) ?_ ?_<;>clear h<;>intro h<;>cbv
     ·refine R.cut' (by kernel_rfl) (by kernel_rfl) ?_
      cbv
      refine R.callD h (fun x67 hx67 h2 => ?_)
      clear h; have h := h2; clear h2
      refine R.callN (w20 _ _ _ hx67) (by simp only [fitA, fitV, fitS1, fitL, D.happ, D.har, D.hcmp, D.hgi, D.hinb, D.hlen, D.hne0, D.hnt, D.hroom, and_self]) ?_
      clear hx67; cbv
      refine R.callD h (fun x68 hx68 h2 => ?_)
      clear h; have h := h2; clear h2
      refine R.call' (w19 _ _ _ _ _ _ hx68) (by first|(simp only [S]<;>rfl)|rfl) ?_
      clear hx68; cbv
      refine R.callD h (fun x69 hx69 h2 => ?_)
      clear h; have h := h2; clear h2
      refine R.callN (w20 _ _ _ hx69) (by simp only [fitA, fitV, fitS1, fitL, D.happ, D.har, D.hcmp, D.hgi, D.hinb, D.hlen, D.hne0, D.hnt, D.hroom, and_self]) ?_
      clear hx69; cbv
      refine R.callD h (fun x70 hx70 h2 => ?_)
      clear h; have h := h2; clear h2
      refine R.call' (w21 _ _ _ _ _ _ hx70) (by first|(simp only [S]<;>rfl)|rfl) ?_
      clear hx70; cbv
      refine R.cut' (by kernel_rfl) (by kernel_rfl) ?_
      cbv
      refine R.cut' (by kernel_rfl) (by kernel_rfl) ?_
      cbv
      refine R.brD h (by first|(simp only [S]<;>rfl)|rfl) ?_ ?_<;>clear h<;>intro h<;>cbv
      ·have e := inr_some h houts53; clear h
       have h := hFs53; rw [e] at h; clear e; try dsimp only at h
       cbv
       have e := ret_some h; clear h
       have h := hFy36; rw [e] at h; clear e; try dsimp only at h
       cbv
       have e := ret_some h; clear h
       refine hK _ _ ?_
       cbv
       try (subst e; simp only [S, and_self, and_true, true_and] <;> (repeat' apply And.intro) <;> rfl)
      ·refine R.brD h (by first|(simp only [S]<;>rfl)|rfl) ?_ ?_<;>clear h<;>intro h<;>cbv
       ·have e := inr_some h houts53; clear h
        have h := hFs53; rw [e] at h; clear e; try dsimp only at h
        cbv
        have e := ret_some h; clear h
        have h := hFy36; rw [e] at h; clear e; try dsimp only at h
        cbv
        have e := ret_some h; clear h
        refine hK _ _ ?_
        cbv
        try (subst e; simp only [S, and_self, and_true, true_and] <;> (repeat' apply And.intro) <;> rfl)
       ·refine R.needD h (by first|(simp only [S]<;>rfl)|rfl) ?_
        clear h; intro h; cbv
        obtain ⟨s', e, hi⟩ := inl_some h hins53
        refine hLs53 s' _ _ hi ⟨by kernel_rfl, ?_, ?_, by kernel_rfl, by kernel_rfl⟩<;>cbv<;>(try (subst e;simp only [S,and_self,and_true,true_and]<;>(repeat' apply And.intro)<;>rfl))
     ·have e := inr_some h houts53; clear h
      have h := hFs53; rw [e] at h; clear e; try dsimp only at h
      cbv
      obtain ⟨s', e, hi⟩ := jn_some Sum.inl h
      refine hLy36 s' _ _ hi ⟨by kernel_rfl, ?_, ?_, by kernel_rfl, by kernel_rfl⟩<;>cbv<;>(try (subst e;simp only [S,and_self,and_true,true_and]<;>(repeat' apply And.intro)<;>rfl))
    ·as_aux_lemma =>
     clear h; have h := h2; clear h2; try dsimp only at h
     cbv
     refine R.callD h (fun x74 hx74 h2 => ?_)
     clear h; have h := h2; clear h2
     refine R.call' (w20 _ _ _ hx74) (by first|(simp only [S]<;>rfl)|rfl) ?_
     clear hx74; cbv
     refine R.cutB Sum.inl (fun _ _ e => Sum.inl.inj e) h [] (fun p82 => []) (fun p82 => []) (by kernel_rfl) (by kernel_rfl) (fun y78 hy hFy78 L hLy78 => ?_) (fun p82 h2 => ?_)
     ·clear h; have h := hy; clear hy; cbv
      refine R.callD h (fun x79 hx79 h2 => ?_)
      clear h; have h := h2; clear h2
      refine R.call' (w22 _ _ _ _ _ hx79) (by first|(simp only [S]<;>rfl)|rfl) ?_
      clear hx79; cbv
      refine R.brD h (by first|(simp only [S]<;>rfl)|rfl) ?_ ?_<;>clear h<;>intro h<;>cbv
      ·refine R.callD h (fun x80 hx80 h2 => ?_)
       clear h; have h := h2; clear h2
       refine R.call' (w19 _ _ _ _ _ _ hx80) (by first|(simp only [S]<;>rfl)|rfl) ?_
       clear hx80; cbv
       refine R.callD h (fun x81 hx81 h2 => ?_)
       clear h; have h := h2; clear h2
       refine R.call' (w21 _ _ _ _ _ _ hx81) (by first|(simp only [S]<;>rfl)|rfl) ?_
       clear hx81; cbv
       refine R.cut' (by kernel_rfl) (by kernel_rfl) ?_
       cbv
       refine R.brD h (by first|(simp only [S]<;>rfl)|rfl) ?_ ?_<;>clear h<;>intro h<;>cbv
       ·have e := ret_some h; clear h
        have h := hFy78; rw [e] at h; clear e; try dsimp only at h
        cbv
        have e := ret_some h; clear h
        refine hK _ _ ?_
        cbv
        try (subst e; simp only [S, and_self, and_true, true_and] <;> (repeat' apply And.intro) <;> rfl)
       ·refine R.brD h (by first|(simp only [S]<;>rfl)|rfl) ?_ ?_<;>clear h<;>intro h<;>cbv
        ·have e := ret_some h; clear h
         have h := hFy78; rw [e] at h; clear e; try dsimp only at h
         cbv
         have e := ret_some h; clear h
         refine hK _ _ ?_
         cbv
         try (subst e; simp only [S, and_self, and_true, true_and] <;> (repeat' apply And.intro) <;> rfl)
        ·refine R.brD h (by first|(simp only [S]<;>rfl)|rfl) ?_ ?_<;>clear h<;>intro h<;>cbv
         ·have e := ret_some h; clear h
          have h := hFy78; rw [e] at h; clear e; try dsimp only at h
          cbv
          have e := ret_some h; clear h
          refine hK _ _ ?_
          cbv
          try (subst e; simp only [S, and_self, and_true, true_and] <;> (repeat' apply And.intro) <;> rfl)
         ·obtain ⟨s', e, hi⟩ := jn_some Sum.inl h
          refine hLy78 s' _ _ hi ⟨by kernel_rfl, ?_, ?_, by kernel_rfl, by kernel_rfl⟩<;>cbv<;>(try (subst e;simp only [S,and_self,and_true,true_and]<;>(repeat' apply And.intro)<;>rfl))
      ·obtain ⟨s', e, hi⟩ := jn_some Sum.inl h
       refine hLy78 s' _ _ hi ⟨by kernel_rfl, ?_, ?_, by kernel_rfl, by kernel_rfl⟩<;>cbv<;>(try (subst e;simp only [S,and_self,and_true,true_and]<;>(repeat' apply And.intro)<;>rfl))
     ·as_aux_lemma =>
      clear h; have h := h2; clear h2; try dsimp only at h
      cbv
      refine R.needD h (by first|(simp only [S]<;>rfl)|rfl) ?_
      clear h; intro h; cbv
      refine R.needD h (by first|(simp only [S]<;>rfl)|rfl) ?_
      clear h; intro h; cbv
      refine R.needD h (by first|(simp only [S]<;>rfl)|rfl) ?_
      clear h; intro h; cbv
      refine R.cut' (by kernel_rfl) (by kernel_rfl) ?_
      cbv
      refine R.brD h (by first|(simp only [S]<;>rfl)|rfl) ?_ ?_<;>clear h<;>intro h<;>cbv
      ·as_aux_lemma =>
       refine R.needD h (by first|(simp only [S]<;>rfl)|rfl) ?_
       clear h; intro h; cbv
       refine R.brD h (by first|(simp only [S]<;>rfl)|rfl) ?_ ?_<;>clear h<;>intro h<;>cbv
       ·refine R.needD h (by first|(simp only [S]<;>rfl)|rfl) ?_
        clear h; intro h; cbv
        refine R.brD h (by first|(simp only [S]<;>rfl)|rfl) ?_ ?_<;>clear h<;>intro h<;>cbv
        ·refine R.brD h (by first|(simp only [S]<;>rfl)|rfl) ?_ ?_<;>clear h<;>intro h<;>cbv
         ·refine R.brD h (by first|(simp only [S]<;>rfl)|rfl) ?_ ?_<;>clear h<;>intro h<;>cbv
          ·refine R.needD h (by first|(simp only [S]<;>rfl)|rfl) ?_
           clear h; intro h; cbv
           refine R.brD h (by first|(simp only [S]<;>rfl)|rfl) ?_ ?_<;>clear h<;>intro h<;>cbv
           ·refine R.needD h (by first|(simp only [S]<;>rfl)|rfl) ?_
            clear h; intro h; cbv
            refine R.brD h (by first|(simp only [S]<;>rfl)|rfl) ?_ ?_<;>clear h<;>intro h<;>cbv
            ·refine R.needD h (by first|(simp only [S]<;>rfl)|rfl) ?_
             clear h; intro h; cbv
             refine R.needD h (by first|(simp only [S]<;>rfl)|rfl) ?_
             clear h; intro h; cbv
             have e := ret_some h; clear h
             refine hK _ _ ?_
             cbv
             try (subst e; simp only [S, and_self, and_true, true_and] <;> (repeat' apply And.intro) <;> rfl)
            ·have e := ret_some h; clear h
             refine hK _ _ ?_
             cbv
             try (subst e; simp only [S, and_self, and_true, true_and] <;> (repeat' apply And.intro) <;> rfl)
           ·refine R.brD h (by first|(simp only [S]<;>rfl)|rfl) ?_ ?_<;>clear h<;>intro h<;>cbv
            ·refine R.needD h (by first|(simp only [S]<;>rfl)|rfl) ?_
             clear h; intro h; cbv
             refine R.brD h (by first|(simp only [S]<;>rfl)|rfl) ?_ ?_<;>clear h<;>intro h<;>cbv
             ·refine R.needD h (by first|(simp only [S]<;>rfl)|rfl) ?_
              clear h; intro h; cbv
              refine R.needD h (by first|(simp only [S]<;>rfl)|rfl) ?_
              clear h; intro h; cbv
              have e := ret_some h; clear h
              refine hK _ _ ?_
              cbv
              try (subst e; simp only [S, and_self, and_true, true_and] <;> (repeat' apply And.intro) <;> rfl)
             ·have e := ret_some h; clear h
              refine hK _ _ ?_
              cbv
              try (subst e; simp only [S, and_self, and_true, true_and] <;> (repeat' apply And.intro) <;> rfl)
            ·have e := ret_some h; clear h
             refine hK _ _ ?_
             cbv
             try (subst e; simp only [S, and_self, and_true, true_and] <;> (repeat' apply And.intro) <;> rfl)
          ·have e := ret_some h; clear h
           refine hK _ _ ?_
           cbv
           try (subst e; simp only [S, and_self, and_true, true_and] <;> (repeat' apply And.intro) <;> rfl)
         ·have e := ret_some h; clear h
          refine hK _ _ ?_
          cbv
          try (subst e; simp only [S, and_self, and_true, true_and] <;> (repeat' apply And.intro) <;> rfl)
        ·have e := ret_some h; clear h
         refine hK _ _ ?_
         cbv
         try (subst e; simp only [S, and_self, and_true, true_and] <;> (repeat' apply And.intro) <;> rfl)
       ·have e := ret_some h; clear h
        refine hK _ _ ?_
        cbv
        try (subst e; simp only [S, and_self, and_true, true_and] <;> (repeat' apply And.intro) <;> rfl)
      ·have e := ret_some h; clear h
       refine hK _ _ ?_
       cbv
       try (subst e; simp only [S, and_self, and_true, true_and] <;> (repeat' apply And.intro) <;> rfl)
end Go.Proofs.Ytmofhbedamjblaa

end
section
/- The one statement over its function that the law AggrNumbers comes to. Conditions: none. -/
-- Told by a program of this seat's session. Not trusted: Lean checks it.

namespace Go.Proofs.Ytmofhbedamjblaa
open Go.Ab Go.RowKit
def AggrNumbers.Claim : Prop := ∀ (x0 : (List Int)) (x1 : (Int × (Int × Int))), (fun l : List Int => l.length ≤ maxLen ∧ ∀ x ∈ l, (fun n : Int => (Lit.int .i64 n).wf = true) x) x0 → (fun x : Int × (Int × Int) => (fun n : Int => (Lit.int .i64 n).wf = true) x.1 ∧ ((fun n : Int => (Lit.int .i64 n).wf = true) x.2.1 ∧ (fun n : Int => (Lit.int .i64 n).wf = true) x.2.2)) x1 → Ab.Fn Try.prog TT 5 [.sl 2 (x0.map (fun x : Int => .i .i64 x)), .agg [.i .i64 x1.1, .i .i64 x1.2.1, .i .i64 x1.2.2]] (.b true) []
end Go.Proofs.Ytmofhbedamjblaa
end
section
/- The law AggrNumbers by the calculus. Conditions: none. -/

namespace Go.Proofs.Ytmofhbedamjblaa
open Go.Ab Go.RowKit
theorem AggrNumbers.pure : AggrNumbers.Claim := by
  intro x0 x1 h0 h1
  exact w5 _ _ _ _ true (p5 x0 (wf_is h0.2) x1.1 x1.2.1 x1.2.2 (wf_i h1.1) (wf_i h1.2.1) (wf_i h1.2.2))
end Go.Proofs.Ytmofhbedamjblaa
end
section
/- AggrNumbers: the law's call returns true for every input, and its arguments read afterwards as_ before. Conditions: none. -/
-- Told by a program of this seat's session. Not trusted: Lean checks it.

namespace Go.Proofs.Ytmofhbedamjblaa.aggrNumbers
open Go.ChangeShapes Go.WideShapes Go.ChangeAt Go.RowKit Go.Ab Go.Proofs.Ytmofhbedamjblaa
open Go.ChangeMaps (open_string shut_string)
theorem own : ownKnob Try.prog.godebug = none := by kernel_rfl
theorem laidOut : laidOutB Try.prog = true := by kernel_rfl
set_option maxRecDepth 100000 in
set_option maxHeartbeats 8000000 in
theorem lifted (os : Os) (started : os.Started) (H : Type) (enc : TypeId × Value → H) :
    ReturnsInHanded {} Try.checked os 5 .any (Rows.aggrNumbersSpec.pre6 enc Try.prog Try.f5 Rows.aggrNumbersRow.domain false) (Rows.aggrNumbersSpec.post enc Try.prog Try.f5 false true false false) := by
  refine returnsInHanded_of_change_sized (C := Try.checked) own started (by kernel_rfl) Try.func5
    (ChangeSpec.witness6 (enc := enc) (C := Try.checked) false ⟨#[], #[.slice none 0 0, .agg #[.int .i64 0, .int .i64 0, .int .i64 0]], []⟩ 8 (by kernel_rfl) (by kernel_rfl) (by kernel_rfl) (by kernel_rfl)) ?_
  intro W base args ds gs before hval0 hW hcnd hsz0 _
  have hval : ∀ (j : Nat) t v, Try.f5.params[j]? = some t → args[j]? = some v → Value.okWide Try.prog W .any base t v := hval0
  have hW' := hW
  obtain ⟨p, q, hA0, hV, rfl, hfz, hnd⟩ := hW
  have hA : DataW.TrodAll enc Try.prog W 0 (fun _ => true) true Try.f5.params.toList args.toList ds p := hA0
  rw [Try.params5] at hA hval
  obtain ⟨v0, vs0, d0, ds0, p0, q0, hargs, rfl, rfl, h0, r0⟩ := trodAll_cons hA
  obtain ⟨v1, vs1, d1, ds1, p1, q1, rfl, rfl, rfl, h1, r1⟩ := trodAll_cons r0
  obtain ⟨rfl, rfl, rfl⟩ := trodAll_nil r1
  obtain rfl : args = #[v0, v1] := by cases args; simp_all
  obtain ⟨rfl, rfl⟩ := trodVars_none hV
  have k0 := h0
  have lt0 : ∀ x ∈ p0, x.block < W.heap.size := by obtain ⟨m, hm⟩ := k0; exact DataW.trod_lt m _ _ _ hm
  obtain ⟨aa0, ll0, cc0, rfl⟩ := okWide_slice Try.underlying22 (hval 0 22 v0 rfl rfl)
  obtain ⟨x0, ra0, rb0, _, ok0⟩ := h0.elim fun fuel hf => ((OpV.slice tok (fun x : Int => .i .i64 x) (te := te22) (eu := te2) (by kernel_rfl) rfl (by kernel_rfl) (by decide) (by kernel_rfl) (.inr ⟨by kernel_rfl, rfl, fun _ => rfl⟩) (OpV.int tok (e := te2) (by kernel_rfl) rfl)) : OpV TT enc Try.prog W 22 _ _ _) _ _ _ hf
  have k1 := h1
  have lt1 : ∀ x ∈ p1, x.block < W.heap.size := by obtain ⟨m, hm⟩ := k1; exact DataW.trod_lt m _ _ _ hm
  obtain ⟨cs1, rfl, sz1⟩ := okWide_arr Try.underlying26 (hval 1 26 v1 rfl rfl)
  obtain ⟨x1, ra1, rb1, _, ok1⟩ := h1.elim fun fuel hf => ((OpV.arr3 tok (te := te26) (by kernel_rfl) rfl (by kernel_rfl) (by kernel_rfl) (OpV.int tok (e := te2) (by kernel_rfl) rfl)) : OpV TT enc Try.prog W 26 _ _ _) _ _ _ hf
  clear hA0 hval0 hsz0
  refine (law_calls (w := W) ⟨_, _, Try.func5, by kernel_rfl, w5_h⟩ (AggrNumbers.pure x0 x1 ok0 ok1) (gok W) (args_one ra0 (args_agg ra1 rb1 args_nil))).mono fun e W' ⟨he, bel⟩ => ?_
  subst he
  exact ⟨_, rfl, _, _, _, [], _, [], hW', trodAll_mk1 (shut_bool Try.underlying4 _), (trodAll_cons_mk (Below.trod laidOut (by kernel_rfl) (of_decide_eq_true (by kernel_rfl)) k0 bel lt0) (trodAll_cons_mk (Below.trod laidOut (by kernel_rfl) (of_decide_eq_true (by kernel_rfl)) k1 bel lt1) trodAll_mk0)), rfl, bel.frame _, fun h => by cases h⟩
theorem over : Rows.aggrNumbersRow.holds Try.pinned (OpenSpec.ofChange Rows.aggrNumbersSpec) :=
  OpenClaim.holds_of_wide 5 Try.f5 rfl rfl rfl rfl rfl rfl rfl ⟨rfl, rfl, rfl, rfl, rfl⟩ rfl rfl rfl rfl rfl (by kernel_rfl) Try.func5 (by kernel_rfl)
    (of_decide_eq_true (by kernel_rfl)) (by unfold Func.isWrapper; first | (rw [if_pos (by decide +kernel)]; kernel_rfl) | (rw [if_neg (by decide +kernel)]; exact ⟨rfl, rfl⟩))
    (fun os started H enc _ => lifted os started H enc)
theorem proved : Rows.AggrNumbersSaid := over
end Go.Proofs.Ytmofhbedamjblaa.aggrNumbers
namespace Go.Proofs.Ytmofhbedamjblaa
theorem aggrNumbers_holds : Rows.AggrNumbersSaid := aggrNumbers.proved
end Go.Proofs.Ytmofhbedamjblaa
end
