/- The law AggrWithin: its function's walk, the pure law, the row. Conditions: none. -/
import Derived.Test.YtmofhbedamjblaaRows
import Derived.WalkKit
import Derived.ProofKit
import Derived.OpenShut
import Derived.ShutString
import Derived.ChangeOld
import Derived.Below
import Derived.SizedLaws
import Derived.Carry
import Derived.Test.YtmofhbedamjblaaPA6
set_option linter.unusedVariables false
set_option linter.unusedSimpArgs false
section
namespace Go.Proofs.Ytmofhbedamjblaa
open Go.Ab Go.RowKit 
set_option maxRecDepth 100000
set_option maxHeartbeats 40000000
noncomputable def w4_c : Code := (Try.f4.body).getD .skip
theorem w4_h : Try.f4.body = some w4_c := by kernel_rfl
theorem w4 (a0_0 : ByteArray) (a0_1 : Int) (a0_2 : List V) (a0_3 : List V) (a1 : Int) (r : Bool) (h : d4 a0_0 a0_1 a0_2 a0_3 a1 = some r) : Ab.Fn Try.prog TT 4 [.agg [.str a0_0, .i .i64 a0_1, .sl 2 a0_2, .sl 74 a0_3], .i .i64 a1] (.b r) [] := by
 refine fn_pure tok W0 Try.func4 (by kernel_rfl) w4_h (by kernel_rfl) ?_
 intro _ _ _ _ _ _ _ _ _ _ _ _ _ _ _ _ _ _ _ _ _ _ _ _ _ _ _ _ _ _ _ _ _ _ _ _ _ _ _ _ _ E R K hK
 have D := E.D
 clear E
 have S := And.intro D.har (And.intro D.hbeq (And.intro D.hcmp (And.intro D.hlen (D.hnt))))
 unfold d4 at h
 cbv
 refine R.callD h (fun x1 hx1 h2 => ?_)
 clear h; have h := h2; clear h2
 refine R.call' (w10 _ hx1) (by first|(simp only [S]<;>rfl)|rfl) ?_
 clear hx1; cbv
 refine R.callD h (fun x2 hx2 h2 => ?_)
 clear h; have h := h2; clear h2
 refine R.call' (w11 _ _ _ _ _ _ hx2) (by first|(simp only [S]<;>rfl)|rfl) ?_
 clear hx2; cbv
 refine R.cut' (by kernel_rfl) (by kernel_rfl) ?_
 cbv
 refine R.brD h (by first|(simp only [S]<;>rfl)|rfl) ?_ ?_<;>clear h<;>intro h<;>cbv
 ·have e := ret_some h; clear h
  refine hK _ _ ?_
  cbv
  try (subst e; simp only [S, and_self, and_true, true_and] <;> (repeat' apply And.intro) <;> rfl)
 ·as_aux_lemma =>
  refine R.callD h (fun x3 hx3 h2 => ?_)
  clear h; have h := h2; clear h2
  refine R.call' (w18s _ _ _ _ _ hx3) (by first|(simp only [S]<;>rfl)|rfl) ?_
  clear hx3; cbv
  refine R.cut' (by kernel_rfl) (by kernel_rfl) ?_
  cbv
  refine R.cut' (by kernel_rfl) (by kernel_rfl) ?_
  cbv
  refine R.brD h (by first|(simp only [S]<;>rfl)|rfl) ?_ ?_<;>clear h<;>intro h<;>cbv
  ·have e := ret_some h; clear h
   refine hK _ _ ?_
   cbv
   try (subst e; simp only [S, and_self, and_true, true_and] <;> (repeat' apply And.intro) <;> rfl)
  ·as_aux_lemma =>
   refine R.brD h (by first|(simp only [S]<;>rfl)|rfl) ?_ ?_<;>clear h<;>intro h<;>cbv
   ·have e := ret_some h; clear h
    refine hK _ _ ?_
    cbv
    try (subst e; simp only [S, and_self, and_true, true_and] <;> (repeat' apply And.intro) <;> rfl)
   ·as_aux_lemma =>
    refine R.brD h (by first|(simp only [S]<;>rfl)|rfl) ?_ ?_<;>clear h<;>intro h<;>cbv
    ·have e := ret_some h; clear h
     refine hK _ _ ?_
     cbv
     try (subst e; simp only [S, and_self, and_true, true_and] <;> (repeat' apply And.intro) <;> rfl)
    ·as_aux_lemma =>
     refine R.cutB Sum.inl (fun _ _ e => Sum.inl.inj e) h [] (fun p101 => [(11, .i .i64 p101)]) (fun p101 => []) (by kernel_rfl) (by kernel_rfl) (fun y42 hy hFy42 L hLy42 => ?_) (fun p101 h2 => ?_)
     ·as_aux_lemma =>
      clear h; have h := hy; clear hy; cbv
      refine R.loopD h (fun s0 y80 e0 hi hFs61 => ?_)
      clear h
      refine R.loopI hi [] (fun s61 => [(10, .b s61.1), (11, .i .i64 s61.2.1), (12, .i .i64 s61.2.2)]) (fun s61 => []) ⟨by kernel_rfl, ?_, ?_, by kernel_rfl, by kernel_rfl⟩ (by kernel_rfl) ?_
      ·cbv; try (subst e0; simp only [S, and_self, and_true, true_and] <;> (repeat' apply And.intro) <;> rfl)
      ·cbv; try (subst e0; simp only [S, and_self, and_true, true_and] <;> (repeat' apply And.intro) <;> rfl)
      clear hi e0
      intro s61 m y' hy hins61 houts61 L hLs61
      have h := hy; clear hy; unfold d4_b1 at h
      cbv
      refine R.cut' (by kernel_rfl) (by kernel_rfl) ?_
      cbv
      refine R.brD h (by first|(simp only [S]<;>rfl)|rfl) ?_ ?_<;>clear h<;>intro h<;>cbv
      ·as_aux_lemma =>
       refine R.cut' (by kernel_rfl) (by kernel_rfl) ?_
       cbv
       refine R.callD h (fun x90 hx90 h2 => ?_)
       clear h; have h := h2; clear h2
       refine R.call' (w12 _ _ _ _ _ _ hx90) (by first|(simp only [S]<;>rfl)|rfl) ?_
       clear hx90; cbv
       refine R.cut' (by kernel_rfl) (by kernel_rfl) ?_
       cbv
       refine R.cutB (fun p => p) (fun _ _ e => e) h [] (fun p94 => [(76, .b p94)]) (fun p94 => []) (by kernel_rfl) (by kernel_rfl) (fun y93 hy hFy93 L hLy93 => ?_) (fun p94 h2 => ?_)
       ·clear h; have h := hy; clear hy; cbv
        refine R.brD h (by first|(simp only [S]<;>rfl)|rfl) ?_ ?_<;>clear h<;>intro h<;>cbv
        ·obtain ⟨s', e, hi⟩ := jn_some (fun p => p) h
         refine hLy93 s' _ _ hi ⟨by kernel_rfl, ?_, ?_, by kernel_rfl, by kernel_rfl⟩<;>cbv<;>(try (subst e;simp only [S,and_self,and_true,true_and]<;>(repeat' apply And.intro)<;>rfl))
        ·refine R.brD h (by first|(simp only [S]<;>rfl)|rfl) ?_ ?_<;>clear h<;>intro h<;>cbv
         ·refine R.brD h (by first|(simp only [S]<;>rfl)|rfl) ?_ ?_<;>clear h<;>intro h<;>cbv
          ·obtain ⟨s', e, hi⟩ := jn_some (fun p => p) h
           refine hLy93 s' _ _ hi ⟨by kernel_rfl, ?_, ?_, by kernel_rfl, by kernel_rfl⟩<;>cbv<;>(try (subst e;simp only [S,and_self,and_true,true_and]<;>(repeat' apply And.intro)<;>rfl))
          ·obtain ⟨s', e, hi⟩ := jn_some (fun p => p) h
           refine hLy93 s' _ _ hi ⟨by kernel_rfl, ?_, ?_, by kernel_rfl, by kernel_rfl⟩<;>cbv<;>(try (subst e;simp only [S,and_self,and_true,true_and]<;>(repeat' apply And.intro)<;>rfl))
         ·obtain ⟨s', e, hi⟩ := jn_some (fun p => p) h
          refine hLy93 s' _ _ hi ⟨by kernel_rfl, ?_, ?_, by kernel_rfl, by kernel_rfl⟩<;>cbv<;>(try (subst e;simp only [S,and_self,and_true,true_and]<;>(repeat' apply And.intro)<;>rfl))
       ·as_aux_lemma =>
        clear h; have h := h2; clear h2; try dsimp only at h
        cbv
        refine R.brD h (by first|(simp only [S]<;>rfl)|rfl) ?_ ?_<;>clear h<;>intro h<;>cbv
        ·have e := inr_some h houts61; clear h
         have h := hFs61; rw [e] at h; clear e; try dsimp only at h
         cbv
         have e := ret_some h; clear h
         have h := hFy42; rw [e] at h; clear e; try dsimp only at h
         cbv
         have e := ret_some h; clear h
         refine hK _ _ ?_
         cbv
         try (subst e; simp only [S, and_self, and_true, true_and] <;> (repeat' apply And.intro) <;> rfl)
        ·as_aux_lemma =>
         refine R.cut' (by kernel_rfl) (by kernel_rfl) ?_
         cbv
         refine R.brD h (by first|(simp only [S]<;>rfl)|rfl) ?_ ?_<;>clear h<;>intro h<;>cbv
         ·obtain ⟨s', e, hi⟩ := inl_some h hins61
          refine hLs61 s' _ _ hi ⟨by kernel_rfl, ?_, ?_, by kernel_rfl, by kernel_rfl⟩<;>cbv<;>(try (subst e;simp only [S,and_self,and_true,true_and]<;>(repeat' apply And.intro)<;>rfl))
         ·as_aux_lemma =>
          refine R.cut' (by kernel_rfl) (by kernel_rfl) ?_
          cbv
          refine R.cutB (fun p => p) (fun _ _ e => e) h [] (fun p98 => [(102, .b p98)]) (fun p98 => []) (by kernel_rfl) (by kernel_rfl) (fun y97 hy hFy97 L hLy97 => ?_) (fun p98 h2 => ?_)
          ·clear h; have h := hy; clear hy; cbv
           refine R.brD h (by first|(simp only [S]<;>rfl)|rfl) ?_ ?_<;>clear h<;>intro h<;>cbv
           ·obtain ⟨s', e, hi⟩ := jn_some (fun p => p) h
            refine hLy97 s' _ _ hi ⟨by kernel_rfl, ?_, ?_, by kernel_rfl, by kernel_rfl⟩<;>cbv<;>(try (subst e;simp only [S,and_self,and_true,true_and]<;>(repeat' apply And.intro)<;>rfl))
           ·refine R.brD h (by first|(simp only [S]<;>rfl)|rfl) ?_ ?_<;>clear h<;>intro h<;>cbv
            ·refine R.brD h (by first|(simp only [S]<;>rfl)|rfl) ?_ ?_<;>clear h<;>intro h<;>cbv
             ·obtain ⟨s', e, hi⟩ := jn_some (fun p => p) h
              refine hLy97 s' _ _ hi ⟨by kernel_rfl, ?_, ?_, by kernel_rfl, by kernel_rfl⟩<;>cbv<;>(try (subst e;simp only [S,and_self,and_true,true_and]<;>(repeat' apply And.intro)<;>rfl))
             ·refine R.brD h (by first|(simp only [S]<;>rfl)|rfl) ?_ ?_<;>clear h<;>intro h<;>cbv
              ·refine R.brD h (by first|(simp only [S]<;>rfl)|rfl) ?_ ?_<;>clear h<;>intro h<;>cbv
               ·obtain ⟨s', e, hi⟩ := jn_some (fun p => p) h
                refine hLy97 s' _ _ hi ⟨by kernel_rfl, ?_, ?_, by kernel_rfl, by kernel_rfl⟩<;>cbv<;>(try (subst e;simp only [S,and_self,and_true,true_and]<;>(repeat' apply And.intro)<;>rfl))
               ·obtain ⟨s', e, hi⟩ := jn_some (fun p => p) h
                refine hLy97 s' _ _ hi ⟨by kernel_rfl, ?_, ?_, by kernel_rfl, by kernel_rfl⟩<;>cbv<;>(try (subst e;simp only [S,and_self,and_true,true_and]<;>(repeat' apply And.intro)<;>rfl))
              ·obtain ⟨s', e, hi⟩ := jn_some (fun p => p) h
               refine hLy97 s' _ _ hi ⟨by kernel_rfl, ?_, ?_, by kernel_rfl, by kernel_rfl⟩<;>cbv<;>(try (subst e;simp only [S,and_self,and_true,true_and]<;>(repeat' apply And.intro)<;>rfl))
            ·refine R.brD h (by first|(simp only [S]<;>rfl)|rfl) ?_ ?_<;>clear h<;>intro h<;>cbv
             ·refine R.brD h (by first|(simp only [S]<;>rfl)|rfl) ?_ ?_<;>clear h<;>intro h<;>cbv
              ·obtain ⟨s', e, hi⟩ := jn_some (fun p => p) h
               refine hLy97 s' _ _ hi ⟨by kernel_rfl, ?_, ?_, by kernel_rfl, by kernel_rfl⟩<;>cbv<;>(try (subst e;simp only [S,and_self,and_true,true_and]<;>(repeat' apply And.intro)<;>rfl))
              ·obtain ⟨s', e, hi⟩ := jn_some (fun p => p) h
               refine hLy97 s' _ _ hi ⟨by kernel_rfl, ?_, ?_, by kernel_rfl, by kernel_rfl⟩<;>cbv<;>(try (subst e;simp only [S,and_self,and_true,true_and]<;>(repeat' apply And.intro)<;>rfl))
             ·obtain ⟨s', e, hi⟩ := jn_some (fun p => p) h
              refine hLy97 s' _ _ hi ⟨by kernel_rfl, ?_, ?_, by kernel_rfl, by kernel_rfl⟩<;>cbv<;>(try (subst e;simp only [S,and_self,and_true,true_and]<;>(repeat' apply And.intro)<;>rfl))
          ·clear h; have h := h2; clear h2; try dsimp only at h
           cbv
           refine R.brD h (by first|(simp only [S]<;>rfl)|rfl) ?_ ?_<;>clear h<;>intro h<;>cbv
           ·have e := inr_some h houts61; clear h
            have h := hFs61; rw [e] at h; clear e; try dsimp only at h
            cbv
            have e := ret_some h; clear h
            have h := hFy42; rw [e] at h; clear e; try dsimp only at h
            cbv
            have e := ret_some h; clear h
            refine hK _ _ ?_
            cbv
            try (subst e; simp only [S, and_self, and_true, true_and] <;> (repeat' apply And.intro) <;> rfl)
           ·obtain ⟨s', e, hi⟩ := inl_some h hins61
            refine hLs61 s' _ _ hi ⟨by kernel_rfl, ?_, ?_, by kernel_rfl, by kernel_rfl⟩<;>cbv<;>(try (subst e;simp only [S,and_self,and_true,true_and]<;>(repeat' apply And.intro)<;>rfl))
      ·have e := inr_some h houts61; clear h
       have h := hFs61; rw [e] at h; clear e; try dsimp only at h
       cbv
       obtain ⟨s', e, hi⟩ := jn_some Sum.inl h
       refine hLy42 s' _ _ hi ⟨by kernel_rfl, ?_, ?_, by kernel_rfl, by kernel_rfl⟩<;>cbv<;>(try (subst e;simp only [S,and_self,and_true,true_and]<;>(repeat' apply And.intro)<;>rfl))
     ·clear h; have h := h2; clear h2; try dsimp only at h
      cbv
      refine R.cut' (by kernel_rfl) (by kernel_rfl) ?_
      cbv
      refine R.brD h (by first|(simp only [S]<;>rfl)|rfl) ?_ ?_<;>clear h<;>intro h<;>cbv
      ·have e := ret_some h; clear h
       refine hK _ _ ?_
       cbv
       try (subst e; simp only [S, and_self, and_true, true_and] <;> (repeat' apply And.intro) <;> rfl)
      ·have e := ret_some h; clear h
       refine hK _ _ ?_
       cbv
       try (subst e; simp only [S, and_self, and_true, true_and] <;> (repeat' apply And.intro) <;> rfl)
end Go.Proofs.Ytmofhbedamjblaa

end
section
/- The one statement over its function that the law AggrWithin comes to. Conditions: none. -/
-- Told by a program of this seat's session. Not trusted: Lean checks it.

namespace Go.Proofs.Ytmofhbedamjblaa
open Go.Ab Go.RowKit
def AggrWithin.Claim : Prop := ∀ (x0 : (ByteArray × (Int × ((List Int) × (List (Int × ((Int × Bool) × Int))))))) (x1 : Int), (fun x : (ByteArray × (Int × ((List Int) × (List (Int × ((Int × Bool) × Int)))))) => (fun s : ByteArray => s.size ≤ maxLen) x.1 ∧ (fun x : (Int × ((List Int) × (List (Int × ((Int × Bool) × Int))))) => (fun n : Int => (Lit.int .i64 n).wf = true) x.1 ∧ (fun x : ((List Int) × (List (Int × ((Int × Bool) × Int)))) => (fun l : List Int => l.length ≤ maxLen ∧ ∀ x ∈ l, (fun n : Int => (Lit.int .i64 n).wf = true) x) x.1 ∧ (fun l : List (Int × ((Int × Bool) × Int)) => l.length ≤ maxLen ∧ ∀ x ∈ l, (fun x : (Int × ((Int × Bool) × Int)) => (fun n : Int => (Lit.int .i64 n).wf = true) x.1 ∧ (fun x : ((Int × Bool) × Int) => (fun x : (Int × Bool) => (fun n : Int => (Lit.int .i64 n).wf = true) x.1 ∧ (fun _ : Bool => True) x.2) x.1 ∧ (fun n : Int => (Lit.int .i64 n).wf = true) x.2) x.2) x) x.2) x.2) x.2) x0 → (fun n : Int => (Lit.int .i64 n).wf = true) x1 → Ab.Fn Try.prog TT 4 [.agg [.str x0.1, .i .i64 x0.2.1, .sl 2 (x0.2.2.1.map (fun x : Int => .i .i64 x)), .sl 74 (x0.2.2.2.map (fun x : (Int × ((Int × Bool) × Int)) => .agg [.i .i64 x.1, .i .i64 x.2.1.1, .b x.2.1.2, .i .i64 x.2.2]))], .i .i64 x1] (.b true) []
end Go.Proofs.Ytmofhbedamjblaa
end
section
/- The law AggrWithin by the calculus. Conditions: none. -/

namespace Go.Proofs.Ytmofhbedamjblaa
open Go.Ab Go.RowKit
theorem AggrWithin.pure : AggrWithin.Claim := by
  intro x0 x1 h0 h1
  exact w4 _ _ _ _ _ true (p4 x0.1 x0.2.1 x0.2.2.1 _ (wf_is h0.2.2.1.2) x1 (wf_i h1))
end Go.Proofs.Ytmofhbedamjblaa
end
section
/- AggrWithin: the law's call returns true for every input, and its arguments read afterwards as_ before. Conditions: none. -/
-- Told by a program of this seat's session. Not trusted: Lean checks it.

namespace Go.Proofs.Ytmofhbedamjblaa.aggrWithin
open Go.ChangeShapes Go.WideShapes Go.ChangeAt Go.RowKit Go.Ab Go.Proofs.Ytmofhbedamjblaa
open Go.ChangeMaps (open_string shut_string)
theorem own : ownKnob Try.prog.godebug = none := by kernel_rfl
theorem laidOut : laidOutB Try.prog = true := by kernel_rfl
set_option maxRecDepth 100000 in
set_option maxHeartbeats 8000000 in
theorem lifted (os : Os) (started : os.Started) (H : Type) (enc : TypeId × Value → H) :
    ReturnsInHanded {} Try.checked os 4 .any (Rows.aggrWithinSpec.pre6 enc Try.prog Try.f4 Rows.aggrWithinRow.domain false) (Rows.aggrWithinSpec.post enc Try.prog Try.f4 false true false false) := by
  refine returnsInHanded_of_change_sized (C := Try.checked) own started (by kernel_rfl) Try.func4
    (ChangeSpec.witness6 (enc := enc) (C := Try.checked) false ⟨#[], #[.agg #[.string ByteArray.empty, .int .i64 0, .slice none 0 0, .slice none 0 0], .int .i64 0], []⟩ 8 (by kernel_rfl) (by kernel_rfl) (by kernel_rfl) (by kernel_rfl)) ?_
  intro W base args ds gs before hval0 hW hcnd hsz0 _
  have hval : ∀ (j : Nat) t v, Try.f4.params[j]? = some t → args[j]? = some v → Value.okWide Try.prog W .any base t v := hval0
  have hW' := hW
  obtain ⟨p, q, hA0, hV, rfl, hfz, hnd⟩ := hW
  have hA : DataW.TrodAll enc Try.prog W 0 (fun _ => true) true Try.f4.params.toList args.toList ds p := hA0
  rw [Try.params4] at hA hval
  obtain ⟨v0, vs0, d0, ds0, p0, q0, hargs, rfl, rfl, h0, r0⟩ := trodAll_cons hA
  obtain ⟨v1, vs1, d1, ds1, p1, q1, rfl, rfl, rfl, h1, r1⟩ := trodAll_cons r0
  obtain ⟨rfl, rfl, rfl⟩ := trodAll_nil r1
  obtain rfl : args = #[v0, v1] := by cases args; simp_all
  obtain ⟨rfl, rfl⟩ := trodVars_none hV
  have k0 := h0
  have lt0 : ∀ x ∈ p0, x.block < W.heap.size := by obtain ⟨m, hm⟩ := k0; exact DataW.trod_lt m _ _ _ hm
  obtain ⟨cs0, rfl, sz0⟩ := okWide_struct Try.underlying25 (hval 0 25 v0 rfl rfl)
  obtain ⟨x0, ra0, rb0, _, ok0⟩ := h0.elim fun fuel hf => ((OpV.struct tok (te := te25) (by kernel_rfl) rfl (by kernel_rfl) (OpAt.cons rfl (by kernel_rfl) (OpV.string tok (e := te9) (by kernel_rfl) rfl) (OpAt.cons rfl (by kernel_rfl) (OpV.int tok (e := te3) (by kernel_rfl) rfl) (OpAt.cons rfl (by kernel_rfl) (OpV.slice tok (fun x : Int => .i .i64 x) (te := te22) (eu := te2) (by kernel_rfl) rfl (by kernel_rfl) (by decide) (by kernel_rfl) (.inr ⟨by kernel_rfl, rfl, fun _ => rfl⟩) (OpV.int tok (e := te2) (by kernel_rfl) rfl)) (OpAt.last rfl (by kernel_rfl) (OpV.slice tok (fun x : (Int × ((Int × Bool) × Int)) => .agg [.i .i64 x.1, .i .i64 x.2.1.1, .b x.2.1.2, .i .i64 x.2.2]) (te := te23) (eu := te74) (by kernel_rfl) rfl (by kernel_rfl) (by decide) (by kernel_rfl) (.inl ⟨by kernel_rfl, by kernel_rfl, fun _ => rfl⟩) (OpV.struct tok (te := te74) (by kernel_rfl) rfl (by kernel_rfl) (OpAt.cons rfl (by kernel_rfl) (OpV.int tok (e := te3) (by kernel_rfl) rfl) (OpAt.cons rfl (by kernel_rfl) (OpV.struct tok (te := te72) (by kernel_rfl) rfl (by kernel_rfl) (OpAt.cons rfl (by kernel_rfl) (OpV.int tok (e := te3) (by kernel_rfl) rfl) (OpAt.last rfl (by kernel_rfl) (OpV.bool tok (e := te4) (by kernel_rfl) rfl)))) (OpAt.last rfl (by kernel_rfl) (OpV.int tok (e := te3) (by kernel_rfl) rfl))))))))))) : OpV TT enc Try.prog W 25 _ _ _) _ _ _ hf
  obtain ⟨x1, rfl, rfl, rfl, u1⟩ := open_int Try.underlying2 (hval 1 2 v1 rfl rfl) h1
  clear hA0 hval0 hsz0
  refine (law_calls (w := W) ⟨_, _, Try.func4, by kernel_rfl, w4_h⟩ (AggrWithin.pure x0 x1 ok0 u1) (gok W) (args_agg ra0 rb0 (args_i x1 args_nil))).mono fun e W' ⟨he, bel⟩ => ?_
  subst he
  exact ⟨_, rfl, _, _, _, [], _, [], hW', trodAll_mk1 (shut_bool Try.underlying4 _), (trodAll_cons_mk (Below.trod laidOut (by kernel_rfl) (of_decide_eq_true (by kernel_rfl)) k0 bel lt0) (trodAll_cons_mk (shut_int Try.underlying2 u1) trodAll_mk0)), rfl, bel.frame _, fun h => by cases h⟩
theorem over : Rows.aggrWithinRow.holds Try.pinned (OpenSpec.ofChange Rows.aggrWithinSpec) :=
  OpenClaim.holds_of_wide 4 Try.f4 rfl rfl rfl rfl rfl rfl rfl ⟨rfl, rfl, rfl, rfl, rfl⟩ rfl rfl rfl rfl rfl (by kernel_rfl) Try.func4 (by kernel_rfl)
    (of_decide_eq_true (by kernel_rfl)) (by unfold Func.isWrapper; first | (rw [if_pos (by decide +kernel)]; kernel_rfl) | (rw [if_neg (by decide +kernel)]; exact ⟨rfl, rfl⟩))
    (fun os started H enc _ => lifted os started H enc)
theorem proved : Rows.AggrWithinSaid := over
end Go.Proofs.Ytmofhbedamjblaa.aggrWithin
namespace Go.Proofs.Ytmofhbedamjblaa
theorem aggrWithin_holds : Rows.AggrWithinSaid := aggrWithin.proved
end Go.Proofs.Ytmofhbedamjblaa
end
