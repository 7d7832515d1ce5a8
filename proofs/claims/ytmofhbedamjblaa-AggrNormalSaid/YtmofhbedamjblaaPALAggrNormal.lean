/- The law AggrNormal: its function's walk, the pure law, the row. Conditions: none. -/
import Derived.Test.YtmofhbedamjblaaRows
import Derived.WalkKit
import Derived.ProofKit
import Derived.OpenShut
import Derived.ShutString
import Derived.ChangeOld
import Derived.Below
import Derived.SizedLaws
import Derived.Carry
import Derived.Test.YtmofhbedamjblaaPA6
set_option linter.unusedVariables false
set_option linter.unusedSimpArgs false
section
namespace Go.Proofs.Ytmofhbedamjblaa
open Go.Ab Go.RowKit 
set_option maxRecDepth 100000
set_option maxHeartbeats 40000000
noncomputable def w6_c : Code := (Try.f6.body).getD .skip
theorem w6_h : Try.f6.body = some w6_c := by kernel_rfl
theorem w6 (a0_0 : ByteArray) (a0_1 : Int) (a0_2 : List V) (a0_3 : List V) (a1 : List V) (a2_0 : Int) (a2_1 : Int) (r : Bool) (h : d6 a0_0 a0_1 a0_2 a0_3 a1 a2_0 a2_1 = some r) : Ab.Fn Try.prog TT 6 [.agg [.str a0_0, .i .i64 a0_1, .sl 2 a0_2, .sl 74 a0_3], .sl 2 a1, .agg [.i .i64 a2_0, .i .i64 a2_1]] (.b r) [] := by
 refine fn_pure tok (fun r => match r with | 19 => [[],[],[0,1],[0,1,2],[],[4],[0,1,2,3,4,5],[],[],[7,8],[7,8,9],[0,1,2,3,4,5,6,7,8,9,10]] | _ => []) Try.func6 (by kernel_rfl) w6_h (by kernel_rfl) ?_
 intro _ _ _ _ _ _ _ _ _ _ _ _ _ _ _ _ _ _ _ _ _ _ _ _ _ _ _ _ _ _ _ _ _ _ _ _ _ _ _ _ _ E R K hK
 have D := E.D
 clear E
 have S := And.intro D.har (And.intro D.hcmp (And.intro D.hgi (And.intro D.hinb (And.intro D.hlen (And.intro D.hne0 (D.hnt))))))
 unfold d6 at h
 cbv
 refine R.callD h (fun x1 hx1 h2 => ?_)
 clear h; have h := h2; clear h2
 refine R.call' (w10 _ hx1) (by first|(simp only [S]<;>rfl)|rfl) ?_
 clear hx1; cbv
 refine R.callD h (fun x2 hx2 h2 => ?_)
 clear h; have h := h2; clear h2
 refine R.call' (w13s _ _ _ _ _ _ _ hx2) (by first|(simp only [S]<;>rfl)|rfl) ?_
 clear hx2; cbv
 refine R.callD h (fun x3 hx3 h2 => ?_)
 clear h; have h := h2; clear h2
 refine R.call' (w21 _ _ _ _ _ _ hx3) (by first|(simp only [S]<;>rfl)|rfl) ?_
 clear hx3; cbv
 refine R.cut' (by kernel_rfl) (by kernel_rfl) ?_
 cbv
 refine R.brD h (by first|(simp only [S]<;>rfl)|rfl) ?_ ?_<;>clear h<;>intro h<;>cbv
 ·have e := ret_some h; clear h
  refine hK _ _ ?_
  cbv
  try (subst e; simp only [S, and_self, and_true, true_and] <;> (repeat' apply And.intro) <;> rfl)
 ·as_aux_lemma =>
  refine R.cut' (by kernel_rfl) (by kernel_rfl) ?_
  cbv
  refine R.brD h (by first|(simp only [S]<;>rfl)|rfl) ?_ ?_<;>clear h<;>intro h<;>cbv
  ·have e := ret_some h; clear h
   refine hK _ _ ?_
   cbv
   try (subst e; simp only [S, and_self, and_true, true_and] <;> (repeat' apply And.intro) <;> rfl)
  ·as_aux_lemma =>
   refine R.cut' (by kernel_rfl) (by kernel_rfl) ?_
   cbv
   refine R.cutB (fun p => p) (fun _ _ e => e) h [] (fun p16 => [(56, .b p16)]) (fun p16 => []) (by kernel_rfl) (by kernel_rfl) (fun y12 hy hFy12 L hLy12 => ?_) (fun p16 h2 => ?_)
   ·clear h; have h := hy; clear hy; cbv
    refine R.brD h (by first|(simp only [S]<;>rfl)|rfl) ?_ ?_<;>clear h<;>intro h<;>cbv
    ·refine R.callD h (fun x13 hx13 h2 => ?_)
     clear h; have h := h2; clear h2
     refine R.call' (w17 _ _ _ hx13) (by first|(simp only [S]<;>rfl)|rfl) ?_
     clear hx13; cbv
     refine R.brD h (by first|(simp only [S]<;>rfl)|rfl) ?_ ?_<;>clear h<;>intro h<;>cbv
     ·obtain ⟨s', e, hi⟩ := jn_some (fun p => p) h
      refine hLy12 s' _ _ hi ⟨by kernel_rfl, ?_, ?_, by kernel_rfl, by kernel_rfl⟩<;>cbv<;>(try (subst e;simp only [S,and_self,and_true,true_and]<;>(repeat' apply And.intro)<;>rfl))
     ·refine R.brD h (by first|(simp only [S]<;>rfl)|rfl) ?_ ?_<;>clear h<;>intro h<;>cbv
      ·refine R.callD h (fun x14 hx14 h2 => ?_)
       clear h; have h := h2; clear h2
       refine R.call' (w17 _ _ _ hx14) (by first|(simp only [S]<;>rfl)|rfl) ?_
       clear hx14; cbv
       obtain ⟨s', e, hi⟩ := jn_some (fun p => p) h
       refine hLy12 s' _ _ hi ⟨by kernel_rfl, ?_, ?_, by kernel_rfl, by kernel_rfl⟩<;>cbv<;>(try (subst e;simp only [S,and_self,and_true,true_and]<;>(repeat' apply And.intro)<;>rfl))
      ·obtain ⟨s', e, hi⟩ := jn_some (fun p => p) h
       refine hLy12 s' _ _ hi ⟨by kernel_rfl, ?_, ?_, by kernel_rfl, by kernel_rfl⟩<;>cbv<;>(try (subst e;simp only [S,and_self,and_true,true_and]<;>(repeat' apply And.intro)<;>rfl))
    ·refine R.brD h (by first|(simp only [S]<;>rfl)|rfl) ?_ ?_<;>clear h<;>intro h<;>cbv
     ·refine R.callD h (fun x15 hx15 h2 => ?_)
      clear h; have h := h2; clear h2
      refine R.call' (w17 _ _ _ hx15) (by first|(simp only [S]<;>rfl)|rfl) ?_
      clear hx15; cbv
      obtain ⟨s', e, hi⟩ := jn_some (fun p => p) h
      refine hLy12 s' _ _ hi ⟨by kernel_rfl, ?_, ?_, by kernel_rfl, by kernel_rfl⟩<;>cbv<;>(try (subst e;simp only [S,and_self,and_true,true_and]<;>(repeat' apply And.intro)<;>rfl))
     ·obtain ⟨s', e, hi⟩ := jn_some (fun p => p) h
      refine hLy12 s' _ _ hi ⟨by kernel_rfl, ?_, ?_, by kernel_rfl, by kernel_rfl⟩<;>cbv<;>(try (subst e;simp only [S,and_self,and_true,true_and]<;>(repeat' apply And.intro)<;>rfl))
   ·as_aux_lemma =>
    clear h; have h := h2; clear h2; try dsimp only at h
    cbv
    refine R.brD h (by first|(simp only [S]<;>rfl)|rfl) ?_ ?_<;>clear h<;>intro h<;>cbv
    ·have e := ret_some h; clear h
     refine hK _ _ ?_
     cbv
     try (subst e; simp only [S, and_self, and_true, true_and] <;> (repeat' apply And.intro) <;> rfl)
    ·as_aux_lemma =>
     refine R.cut' (by kernel_rfl) (by kernel_rfl) ?_
     cbv
     refine R.cutB (fun p => p) (fun _ _ e => e) h [] (fun p20 => [(74, .b p20)]) (fun p20 => []) (by kernel_rfl) (by kernel_rfl) (fun y19 hy hFy19 L hLy19 => ?_) (fun p20 h2 => ?_)
     ·clear h; have h := hy; clear hy; cbv
      refine R.brD h (by first|(simp only [S]<;>rfl)|rfl) ?_ ?_<;>clear h<;>intro h<;>cbv
      ·obtain ⟨s', e, hi⟩ := jn_some (fun p => p) h
       refine hLy19 s' _ _ hi ⟨by kernel_rfl, ?_, ?_, by kernel_rfl, by kernel_rfl⟩<;>cbv<;>(try (subst e;simp only [S,and_self,and_true,true_and]<;>(repeat' apply And.intro)<;>rfl))
      ·refine R.brD h (by first|(simp only [S]<;>rfl)|rfl) ?_ ?_<;>clear h<;>intro h<;>cbv
       ·obtain ⟨s', e, hi⟩ := jn_some (fun p => p) h
        refine hLy19 s' _ _ hi ⟨by kernel_rfl, ?_, ?_, by kernel_rfl, by kernel_rfl⟩<;>cbv<;>(try (subst e;simp only [S,and_self,and_true,true_and]<;>(repeat' apply And.intro)<;>rfl))
       ·refine R.brD h (by first|(simp only [S]<;>rfl)|rfl) ?_ ?_<;>clear h<;>intro h<;>cbv
        ·obtain ⟨s', e, hi⟩ := jn_some (fun p => p) h
         refine hLy19 s' _ _ hi ⟨by kernel_rfl, ?_, ?_, by kernel_rfl, by kernel_rfl⟩<;>cbv<;>(try (subst e;simp only [S,and_self,and_true,true_and]<;>(repeat' apply And.intro)<;>rfl))
        ·obtain ⟨s', e, hi⟩ := jn_some (fun p => p) h
         refine hLy19 s' _ _ hi ⟨by kernel_rfl, ?_, ?_, by kernel_rfl, by kernel_rfl⟩<;>cbv<;>(try (subst e;simp only [S,and_self,and_true,true_and]<;>(repeat' apply And.intro)<;>rfl))
     ·as_aux_lemma =>
      clear h; have h := h2; clear h2; try dsimp only at h
      cbv
      refine R.brD h (by first|(simp only [S]<;>rfl)|rfl) ?_ ?_<;>clear h<;>intro h<;>cbv
      ·have e := ret_some h; clear h
       refine hK _ _ ?_
       cbv
       try (subst e; simp only [S, and_self, and_true, true_and] <;> (repeat' apply And.intro) <;> rfl)
      ·as_aux_lemma =>
       refine R.callD h (fun x21 hx21 h2 => ?_)
       clear h; have h := h2; clear h2
       refine R.call' (w13s _ _ _ _ _ _ _ hx21) (by first|(simp only [S]<;>rfl)|rfl) ?_
       clear hx21; cbv
       refine R.callD h (fun x22 hx22 h2 => ?_)
       clear h; have h := h2; clear h2
       refine R.call' (w13s _ _ _ _ _ _ _ hx22) (by first|(simp only [S]<;>rfl)|rfl) ?_
       clear hx22; cbv
       refine R.cut' (by kernel_rfl) (by kernel_rfl) ?_
       cbv
       refine R.cut' (by kernel_rfl) (by kernel_rfl) ?_
       cbv
       refine R.brD h (by first|(simp only [S]<;>rfl)|rfl) ?_ ?_<;>clear h<;>intro h<;>cbv
       ·have e := ret_some h; clear h
        refine hK _ _ ?_
        cbv
        try (subst e; simp only [S, and_self, and_true, true_and] <;> (repeat' apply And.intro) <;> rfl)
       ·as_aux_lemma =>
        refine R.brD h (by first|(simp only [S]<;>rfl)|rfl) ?_ ?_<;>clear h<;>intro h<;>cbv
        ·have e := ret_some h; clear h
         refine hK _ _ ?_
         cbv
         try (subst e; simp only [S, and_self, and_true, true_and] <;> (repeat' apply And.intro) <;> rfl)
        ·refine R.brD h (by first|(simp only [S]<;>rfl)|rfl) ?_ ?_<;>clear h<;>intro h<;>cbv
         ·have e := ret_some h; clear h
          refine hK _ _ ?_
          cbv
          try (subst e; simp only [S, and_self, and_true, true_and] <;> (repeat' apply And.intro) <;> rfl)
         ·refine R.cutB Sum.inl (fun _ _ e => Sum.inl.inj e) h [] (fun p30 => []) (fun p30 => []) (by kernel_rfl) (by kernel_rfl) (fun y25 hy hFy25 L hLy25 => ?_) (fun p30 h2 => ?_)
          ·clear h; have h := hy; clear hy; cbv
           refine R.loopD h (fun s0 y27 e0 hi hFs26 => ?_)
           clear h
           refine R.loopI hi [] (fun s26 => [(16, .i .i64 s26)]) (fun s26 => []) ⟨by kernel_rfl, ?_, ?_, by kernel_rfl, by kernel_rfl⟩ (by kernel_rfl) ?_
           ·cbv; try (subst e0; simp only [S, and_self, and_true, true_and] <;> (repeat' apply And.intro) <;> rfl)
           ·cbv; try (subst e0; simp only [S, and_self, and_true, true_and] <;> (repeat' apply And.intro) <;> rfl)
           clear hi e0
           intro s26 m y' hy hins26 houts26 L hLs26
           have h := hy; clear hy; unfold d6_b1 at h
           cbv
           refine R.cut' (by kernel_rfl) (by kernel_rfl) ?_
           cbv
           refine R.brD h (by first|(simp only [S]<;>rfl)|rfl) ?_ ?_<;>clear h<;>intro h<;>cbv
           ·refine R.cut' (by kernel_rfl) (by kernel_rfl) ?_
            cbv
            refine R.needD h (by first|(simp only [S]<;>rfl)|rfl) ?_
            clear h; intro h; cbv
            refine R.needD h (by first|(simp only [S]<;>rfl)|rfl) ?_
            clear h; intro h; cbv
            refine R.needD h (by first|(simp only [S]<;>rfl)|rfl) ?_
            clear h; intro h; cbv
            refine R.brD h (by first|(simp only [S]<;>rfl)|rfl) ?_ ?_<;>clear h<;>intro h<;>cbv
            ·have e := inr_some h houts26; clear h
             have h := hFs26; rw [e] at h; clear e; try dsimp only at h
             cbv
             have e := ret_some h; clear h
             have h := hFy25; rw [e] at h; clear e; try dsimp only at h
             cbv
             have e := ret_some h; clear h
             refine hK _ _ ?_
             cbv
             try (subst e; simp only [S, and_self, and_true, true_and] <;> (repeat' apply And.intro) <;> rfl)
            ·obtain ⟨s', e, hi⟩ := inl_some h hins26
             refine hLs26 s' _ _ hi ⟨by kernel_rfl, ?_, ?_, by kernel_rfl, by kernel_rfl⟩<;>cbv<;>(try (subst e;simp only [S,and_self,and_true,true_and]<;>(repeat' apply And.intro)<;>rfl))
           ·have e := inr_some h houts26; clear h
            have h := hFs26; rw [e] at h; clear e; try dsimp only at h
            cbv
            obtain ⟨s', e, hi⟩ := jn_some Sum.inl h
            refine hLy25 s' _ _ hi ⟨by kernel_rfl, ?_, ?_, by kernel_rfl, by kernel_rfl⟩<;>cbv<;>(try (subst e;simp only [S,and_self,and_true,true_and]<;>(repeat' apply And.intro)<;>rfl))
          ·clear h; have h := h2; clear h2; try dsimp only at h
           cbv
           have e := ret_some h; clear h
           refine hK _ _ ?_
           cbv
           try (subst e; simp only [S, and_self, and_true, true_and] <;> (repeat' apply And.intro) <;> rfl)
end Go.Proofs.Ytmofhbedamjblaa

end
section
/- The one statement over its function that the law AggrNormal comes to. Conditions: none. -/
-- Told by a program of this seat's session. Not trusted: Lean checks it.

namespace Go.Proofs.Ytmofhbedamjblaa
open Go.Ab Go.RowKit
def AggrNormal.Claim : Prop := ∀ (x0 : (ByteArray × (Int × ((List Int) × (List (Int × ((Int × Bool) × Int))))))) (x1 : (List Int)) (x2 : (Int × Int)), (fun x : (ByteArray × (Int × ((List Int) × (List (Int × ((Int × Bool) × Int)))))) => (fun s : ByteArray => s.size ≤ maxLen) x.1 ∧ (fun x : (Int × ((List Int) × (List (Int × ((Int × Bool) × Int))))) => (fun n : Int => (Lit.int .i64 n).wf = true) x.1 ∧ (fun x : ((List Int) × (List (Int × ((Int × Bool) × Int)))) => (fun l : List Int => l.length ≤ maxLen ∧ ∀ x ∈ l, (fun n : Int => (Lit.int .i64 n).wf = true) x) x.1 ∧ (fun l : List (Int × ((Int × Bool) × Int)) => l.length ≤ maxLen ∧ ∀ x ∈ l, (fun x : (Int × ((Int × Bool) × Int)) => (fun n : Int => (Lit.int .i64 n).wf = true) x.1 ∧ (fun x : ((Int × Bool) × Int) => (fun x : (Int × Bool) => (fun n : Int => (Lit.int .i64 n).wf = true) x.1 ∧ (fun _ : Bool => True) x.2) x.1 ∧ (fun n : Int => (Lit.int .i64 n).wf = true) x.2) x.2) x) x.2) x.2) x.2) x0 → (fun l : List Int => l.length ≤ maxLen ∧ ∀ x ∈ l, (fun n : Int => (Lit.int .i64 n).wf = true) x) x1 → (fun x : Int × Int => (fun n : Int => (Lit.int .i64 n).wf = true) x.1 ∧ (fun n : Int => (Lit.int .i64 n).wf = true) x.2) x2 → Ab.Fn Try.prog TT 6 [.agg [.str x0.1, .i .i64 x0.2.1, .sl 2 (x0.2.2.1.map (fun x : Int => .i .i64 x)), .sl 74 (x0.2.2.2.map (fun x : (Int × ((Int × Bool) × Int)) => .agg [.i .i64 x.1, .i .i64 x.2.1.1, .b x.2.1.2, .i .i64 x.2.2]))], .sl 2 (x1.map (fun x : Int => .i .i64 x)), .agg [.i .i64 x2.1, .i .i64 x2.2]] (.b true) []
end Go.Proofs.Ytmofhbedamjblaa
end
section
/- The law AggrNormal by the calculus. Conditions: none. -/

namespace Go.Proofs.Ytmofhbedamjblaa
open Go.Ab Go.RowKit
theorem AggrNormal.pure : AggrNormal.Claim := by
  intro x0 x1 x2 h0 h1 h2
  exact w6 _ _ _ _ _ _ _ true (p6 x0.1 x0.2.1 x0.2.2.1 _ (wf_is h0.2.2.1.2) x1 (len_ok h1.1) (wf_is h1.2) x2.1 x2.2)
end Go.Proofs.Ytmofhbedamjblaa
end
section
/- AggrNormal: the law's call returns true for every input, and its arguments read afterwards as_ before. Conditions: none. -/
-- Told by a program of this seat's session. Not trusted: Lean checks it.

namespace Go.Proofs.Ytmofhbedamjblaa.aggrNormal
open Go.ChangeShapes Go.WideShapes Go.ChangeAt Go.RowKit Go.Ab Go.Proofs.Ytmofhbedamjblaa
open Go.ChangeMaps (open_string shut_string)
theorem own : ownKnob Try.prog.godebug = none := by kernel_rfl
theorem laidOut : laidOutB Try.prog = true := by kernel_rfl
set_option maxRecDepth 100000 in
set_option maxHeartbeats 8000000 in
theorem lifted (os : Os) (started : os.Started) (H : Type) (enc : TypeId × Value → H) :
    ReturnsInHanded {} Try.checked os 6 .any (Rows.aggrNormalSpec.pre6 enc Try.prog Try.f6 Rows.aggrNormalRow.domain false) (Rows.aggrNormalSpec.post enc Try.prog Try.f6 false true false false) := by
  refine returnsInHanded_of_change_sized (C := Try.checked) own started (by kernel_rfl) Try.func6
    (ChangeSpec.witness6 (enc := enc) (C := Try.checked) false ⟨#[], #[.agg #[.string ByteArray.empty, .int .i64 0, .slice none 0 0, .slice none 0 0], .slice none 0 0, .agg #[.int .i64 0, .int .i64 0]], []⟩ 8 (by kernel_rfl) (by kernel_rfl) (by kernel_rfl) (by kernel_rfl)) ?_
  intro W base args ds gs before hval0 hW hcnd hsz0 _
  have hval : ∀ (j : Nat) t v, Try.f6.params[j]? = some t → args[j]? = some v → Value.okWide Try.prog W .any base t v := hval0
  have hW' := hW
  obtain ⟨p, q, hA0, hV, rfl, hfz, hnd⟩ := hW
  have hA : DataW.TrodAll enc Try.prog W 0 (fun _ => true) true Try.f6.params.toList args.toList ds p := hA0
  rw [Try.params6] at hA hval
  obtain ⟨v0, vs0, d0, ds0, p0, q0, hargs, rfl, rfl, h0, r0⟩ := trodAll_cons hA
  obtain ⟨v1, vs1, d1, ds1, p1, q1, rfl, rfl, rfl, h1, r1⟩ := trodAll_cons r0
  obtain ⟨v2, vs2, d2, ds2, p2, q2, rfl, rfl, rfl, h2, r2⟩ := trodAll_cons r1
  obtain ⟨rfl, rfl, rfl⟩ := trodAll_nil r2
  obtain rfl : args = #[v0, v1, v2] := by cases args; simp_all
  obtain ⟨rfl, rfl⟩ := trodVars_none hV
  have k0 := h0
  have lt0 : ∀ x ∈ p0, x.block < W.heap.size := by obtain ⟨m, hm⟩ := k0; exact DataW.trod_lt m _ _ _ hm
  obtain ⟨cs0, rfl, sz0⟩ := okWide_struct Try.underlying25 (hval 0 25 v0 rfl rfl)
  obtain ⟨x0, ra0, rb0, _, ok0⟩ := h0.elim fun fuel hf => ((OpV.struct tok (te := te25) (by kernel_rfl) rfl (by kernel_rfl) (OpAt.cons rfl (by kernel_rfl) (OpV.string tok (e := te9) (by kernel_rfl) rfl) (OpAt.cons rfl (by kernel_rfl) (OpV.int tok (e := te3) (by kernel_rfl) rfl) (OpAt.cons rfl (by kernel_rfl) (OpV.slice tok (fun x : Int => .i .i64 x) (te := te22) (eu := te2) (by kernel_rfl) rfl (by kernel_rfl) (by decide) (by kernel_rfl) (.inr ⟨by kernel_rfl, rfl, fun _ => rfl⟩) (OpV.int tok (e := te2) (by kernel_rfl) rfl)) (OpAt.last rfl (by kernel_rfl) (OpV.slice tok (fun x : (Int × ((Int × Bool) × Int)) => .agg [.i .i64 x.1, .i .i64 x.2.1.1, .b x.2.1.2, .i .i64 x.2.2]) (te := te23) (eu := te74) (by kernel_rfl) rfl (by kernel_rfl) (by decide) (by kernel_rfl) (.inl ⟨by kernel_rfl, by kernel_rfl, fun _ => rfl⟩) (OpV.struct tok (te := te74) (by kernel_rfl) rfl (by kernel_rfl) (OpAt.cons rfl (by kernel_rfl) (OpV.int tok (e := te3) (by kernel_rfl) rfl) (OpAt.cons rfl (by kernel_rfl) (OpV.struct tok (te := te72) (by kernel_rfl) rfl (by kernel_rfl) (OpAt.cons rfl (by kernel_rfl) (OpV.int tok (e := te3) (by kernel_rfl) rfl) (OpAt.last rfl (by kernel_rfl) (OpV.bool tok (e := te4) (by kernel_rfl) rfl)))) (OpAt.last rfl (by kernel_rfl) (OpV.int tok (e := te3) (by kernel_rfl) rfl))))))))))) : OpV TT enc Try.prog W 25 _ _ _) _ _ _ hf
  have k1 := h1
  have lt1 : ∀ x ∈ p1, x.block < W.heap.size := by obtain ⟨m, hm⟩ := k1; exact DataW.trod_lt m _ _ _ hm
  obtain ⟨aa1, ll1, cc1, rfl⟩ := okWide_slice Try.underlying22 (hval 1 22 v1 rfl rfl)
  obtain ⟨x1, ra1, rb1, _, ok1⟩ := h1.elim fun fuel hf => ((OpV.slice tok (fun x : Int => .i .i64 x) (te := te22) (eu := te2) (by kernel_rfl) rfl (by kernel_rfl) (by decide) (by kernel_rfl) (.inr ⟨by kernel_rfl, rfl, fun _ => rfl⟩) (OpV.int tok (e := te2) (by kernel_rfl) rfl)) : OpV TT enc Try.prog W 22 _ _ _) _ _ _ hf
  have k2 := h2
  have lt2 : ∀ x ∈ p2, x.block < W.heap.size := by obtain ⟨m, hm⟩ := k2; exact DataW.trod_lt m _ _ _ hm
  obtain ⟨cs2, rfl, sz2⟩ := okWide_arr Try.underlying55 (hval 2 55 v2 rfl rfl)
  obtain ⟨x2, ra2, rb2, _, ok2⟩ := h2.elim fun fuel hf => ((OpV.arr2 tok (te := te55) (by kernel_rfl) rfl (by kernel_rfl) (by kernel_rfl) (OpV.int tok (e := te2) (by kernel_rfl) rfl)) : OpV TT enc Try.prog W 55 _ _ _) _ _ _ hf
  clear hA0 hval0 hsz0
  refine (law_calls (w := W) ⟨_, _, Try.func6, by kernel_rfl, w6_h⟩ (AggrNormal.pure x0 x1 x2 ok0 ok1 ok2) (gok W) (args_agg ra0 rb0 (args_one ra1 (args_agg ra2 rb2 args_nil)))).mono fun e W' ⟨he, bel⟩ => ?_
  subst he
  exact ⟨_, rfl, _, _, _, [], _, [], hW', trodAll_mk1 (shut_bool Try.underlying4 _), (trodAll_cons_mk (Below.trod laidOut (by kernel_rfl) (of_decide_eq_true (by kernel_rfl)) k0 bel lt0) (trodAll_cons_mk (Below.trod laidOut (by kernel_rfl) (of_decide_eq_true (by kernel_rfl)) k1 bel lt1) (trodAll_cons_mk (Below.trod laidOut (by kernel_rfl) (of_decide_eq_true (by kernel_rfl)) k2 bel lt2) trodAll_mk0))), rfl, bel.frame _, fun h => by cases h⟩
theorem over : Rows.aggrNormalRow.holds Try.pinned (OpenSpec.ofChange Rows.aggrNormalSpec) :=
  OpenClaim.holds_of_wide 6 Try.f6 rfl rfl rfl rfl rfl rfl rfl ⟨rfl, rfl, rfl, rfl, rfl⟩ rfl rfl rfl rfl rfl (by kernel_rfl) Try.func6 (by kernel_rfl)
    (of_decide_eq_true (by kernel_rfl)) (by unfold Func.isWrapper; first | (rw [if_pos (by decide +kernel)]; kernel_rfl) | (rw [if_neg (by decide +kernel)]; exact ⟨rfl, rfl⟩))
    (fun os started H enc _ => lifted os started H enc)
theorem proved : Rows.AggrNormalSaid := over
end Go.Proofs.Ytmofhbedamjblaa.aggrNormal
namespace Go.Proofs.Ytmofhbedamjblaa
theorem aggrNormal_holds : Rows.AggrNormalSaid := aggrNormal.proved
end Go.Proofs.Ytmofhbedamjblaa
end
