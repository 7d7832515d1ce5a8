/- The law AggrBuckets: its function's walk, the pure law, the row. Conditions: none. -/
import Derived.Test.YtmofhbedamjblaaRows
import Derived.WalkKit
import Derived.ProofKit
import Derived.OpenShut
import Derived.ShutString
import Derived.ChangeOld
import Derived.Below
import Derived.SizedLaws
import Derived.Carry
import Derived.Test.YtmofhbedamjblaaPB6
set_option linter.unusedVariables false
set_option linter.unusedSimpArgs false
section
namespace Go.Proofs.Ytmofhbedamjblaa
open Go.Ab Go.RowKit 
set_option maxRecDepth 100000
set_option maxHeartbeats 40000000
noncomputable def w3_c : Code := (Try.f3.body).getD .skip
theorem w3_h : Try.f3.body = some w3_c := by kernel_rfl
theorem w3 (a0_0 : ByteArray) (a0_1 : Int) (a0_2 : List V) (a0_3 : List V) (a1 : List V) (a2_0 : Int) (a2_1 : Int) (a2_2 : Int) (r : Bool) (h : d3 a0_0 a0_1 a0_2 a0_3 a1 a2_0 a2_1 a2_2 = some r) : Ab.Fn Try.prog TT 3 [.agg [.str a0_0, .i .i64 a0_1, .sl 2 a0_2, .sl 74 a0_3], .sl 2 a1, .agg [.i .i64 a2_0, .i .i64 a2_1, .i .i64 a2_2]] (.b r) [] := by
 refine fn_pure tok W0 Try.func3 (by kernel_rfl) w3_h (by kernel_rfl) ?_
 intro _ _ _ _ _ _ _ _ _ _ _ _ _ _ _ _ _ _ _ _ _ _ _ _ _ _ _ _ _ _ _ _ _ _ _ _ _ _ _ _ _ E R K hK
 have D := E.D
 clear E
 have S := And.intro D.hbeq (D.hcmp)
 unfold d3 at h
 cbv
 refine R.callD h (fun x1 hx1 h2 => ?_)
 clear h; have h := h2; clear h2
 refine R.call' (w10 _ hx1) (by first|(simp only [S]<;>rfl)|rfl) ?_
 clear hx1; cbv
 refine R.callD h (fun x2 hx2 h2 => ?_)
 clear h; have h := h2; clear h2
 refine R.call' (w11 _ _ _ _ _ _ hx2) (by first|(simp only [S]<;>rfl)|rfl) ?_
 clear hx2; cbv
 refine R.callD h (fun x3 hx3 h2 => ?_)
 clear h; have h := h2; clear h2
 refine R.call' (w12 _ _ _ _ _ _ hx3) (by first|(simp only [S]<;>rfl)|rfl) ?_
 clear hx3; cbv
 refine R.callD h (fun x4 hx4 h2 => ?_)
 clear h; have h := h2; clear h2
 refine R.call' (w13s _ _ _ _ _ _ _ hx4) (by first|(simp only [S]<;>rfl)|rfl) ?_
 clear hx4; cbv
 refine R.callD h (fun x5 hx5 h2 => ?_)
 clear h; have h := h2; clear h2
 refine R.call' (w14 _ _ _ _ _ _ hx5) (by first|(simp only [S]<;>rfl)|rfl) ?_
 clear hx5; cbv
 refine R.callD h (fun x6 hx6 h2 => ?_)
 clear h; have h := h2; clear h2
 refine R.call' (w15 _ _ _ _ _ _ hx6) (by first|(simp only [S]<;>rfl)|rfl) ?_
 clear hx6; cbv
 refine R.callD h (fun x7 hx7 h2 => ?_)
 clear h; have h := h2; clear h2
 refine R.call' (w16s _ _ _ _ _ _ _ hx7) (by first|(simp only [S]<;>rfl)|rfl) ?_
 clear hx7; cbv
 refine R.cut' (by kernel_rfl) (by kernel_rfl) ?_
 cbv
 refine R.brD h (by first|(simp only [S]<;>rfl)|rfl) ?_ ?_<;>clear h<;>intro h<;>cbv
 ·refine R.brD h (by first|(simp only [S]<;>rfl)|rfl) ?_ ?_<;>clear h<;>intro h<;>cbv
  ·refine R.brD h (by first|(simp only [S]<;>rfl)|rfl) ?_ ?_<;>clear h<;>intro h<;>cbv
   ·refine R.brD h (by first|(simp only [S]<;>rfl)|rfl) ?_ ?_<;>clear h<;>intro h<;>cbv
    ·refine R.brD h (by first|(simp only [S]<;>rfl)|rfl) ?_ ?_<;>clear h<;>intro h<;>cbv
     ·refine R.brD h (by first|(simp only [S]<;>rfl)|rfl) ?_ ?_<;>clear h<;>intro h<;>cbv
      ·refine R.brD h (by first|(simp only [S]<;>rfl)|rfl) ?_ ?_<;>clear h<;>intro h<;>cbv
       ·refine R.brD h (by first|(simp only [S]<;>rfl)|rfl) ?_ ?_<;>clear h<;>intro h<;>cbv
        ·refine R.callD h (fun x9 hx9 h2 => ?_)
         clear h; have h := h2; clear h2
         refine R.call' (w17 _ _ _ hx9) (by first|(simp only [S]<;>rfl)|rfl) ?_
         clear hx9; cbv
         have e := ret_some h; clear h
         refine hK _ _ ?_
         cbv
         try (subst e; simp only [S, and_self, and_true, true_and] <;> (repeat' apply And.intro) <;> rfl)
        ·have e := ret_some h; clear h
         refine hK _ _ ?_
         cbv
         try (subst e; simp only [S, and_self, and_true, true_and] <;> (repeat' apply And.intro) <;> rfl)
       ·have e := ret_some h; clear h
        refine hK _ _ ?_
        cbv
        try (subst e; simp only [S, and_self, and_true, true_and] <;> (repeat' apply And.intro) <;> rfl)
      ·have e := ret_some h; clear h
       refine hK _ _ ?_
       cbv
       try (subst e; simp only [S, and_self, and_true, true_and] <;> (repeat' apply And.intro) <;> rfl)
     ·have e := ret_some h; clear h
      refine hK _ _ ?_
      cbv
      try (subst e; simp only [S, and_self, and_true, true_and] <;> (repeat' apply And.intro) <;> rfl)
    ·have e := ret_some h; clear h
     refine hK _ _ ?_
     cbv
     try (subst e; simp only [S, and_self, and_true, true_and] <;> (repeat' apply And.intro) <;> rfl)
   ·have e := ret_some h; clear h
    refine hK _ _ ?_
    cbv
    try (subst e; simp only [S, and_self, and_true, true_and] <;> (repeat' apply And.intro) <;> rfl)
  ·have e := ret_some h; clear h
   refine hK _ _ ?_
   cbv
   try (subst e; simp only [S, and_self, and_true, true_and] <;> (repeat' apply And.intro) <;> rfl)
 ·have e := ret_some h; clear h
  refine hK _ _ ?_
  cbv
  try (subst e; simp only [S, and_self, and_true, true_and] <;> (repeat' apply And.intro) <;> rfl)
end Go.Proofs.Ytmofhbedamjblaa
end
section
-- Told by a program of this seat's session. Not trusted: Lean checks it.
namespace Go.Proofs.Ytmofhbedamjblaa
open Go.Ab Go.RowKit
def AggrBuckets.Claim : Prop := ∀ (x0 : (ByteArray × (Int × ((List Int) × (List (Int × ((Int × Bool) × Int))))))) (x1 : (List Int)) (x2 : (Int × (Int × Int))), (fun x : (ByteArray × (Int × ((List Int) × (List (Int × ((Int × Bool) × Int)))))) => (fun s : ByteArray => s.size ≤ maxLen) x.1 ∧ (fun x : (Int × ((List Int) × (List (Int × ((Int × Bool) × Int))))) => (fun n : Int => (Lit.int .i64 n).wf = true) x.1 ∧ (fun x : ((List Int) × (List (Int × ((Int × Bool) × Int)))) => (fun l : List Int => l.length ≤ maxLen ∧ ∀ x ∈ l, (fun n : Int => (Lit.int .i64 n).wf = true) x) x.1 ∧ (fun l : List (Int × ((Int × Bool) × Int)) => l.length ≤ maxLen ∧ ∀ x ∈ l, (fun x : (Int × ((Int × Bool) × Int)) => (fun n : Int => (Lit.int .i64 n).wf = true) x.1 ∧ (fun x : ((Int × Bool) × Int) => (fun x : (Int × Bool) => (fun n : Int => (Lit.int .i64 n).wf = true) x.1 ∧ (fun _ : Bool => True) x.2) x.1 ∧ (fun n : Int => (Lit.int .i64 n).wf = true) x.2) x.2) x) x.2) x.2) x.2) x0 → (fun l : List Int => l.length ≤ maxLen ∧ ∀ x ∈ l, (fun n : Int => (Lit.int .i64 n).wf = true) x) x1 → (fun x : Int × (Int × Int) => (fun n : Int => (Lit.int .i64 n).wf = true) x.1 ∧ ((fun n : Int => (Lit.int .i64 n).wf = true) x.2.1 ∧ (fun n : Int => (Lit.int .i64 n).wf = true) x.2.2)) x2 → Ab.Fn Try.prog TT 3 [.agg [.str x0.1, .i .i64 x0.2.1, .sl 2 (x0.2.2.1.map (fun x : Int => .i .i64 x)), .sl 74 (x0.2.2.2.map (fun x : (Int × ((Int × Bool) × Int)) => .agg [.i .i64 x.1, .i .i64 x.2.1.1, .b x.2.1.2, .i .i64 x.2.2]))], .sl 2 (x1.map (fun x : Int => .i .i64 x)), .agg [.i .i64 x2.1, .i .i64 x2.2.1, .i .i64 x2.2.2]] (.b true) []
end Go.Proofs.Ytmofhbedamjblaa
end
section
namespace Go.Proofs.Ytmofhbedamjblaa
open Go.Ab Go.RowKit
theorem AggrBuckets.pure : AggrBuckets.Claim := by
  intro x0 x1 x2 h0 h1 h2
  exact w3 _ _ _ _ _ _ _ _ true (p3 x0.1 x0.2.1 x0.2.2.1 _ (wf_is h0.2.2.1.2) x1 (len_ok h1.1) (wf_is h1.2) x2.1 x2.2.1 x2.2.2 (wf_i h2.1) (wf_i h2.2.1) (wf_i h2.2.2))
end Go.Proofs.Ytmofhbedamjblaa
end
section
-- Told by a program of this seat's session. Not trusted: Lean checks it.
namespace Go.Proofs.Ytmofhbedamjblaa.aggrBuckets
open Go.ChangeShapes Go.WideShapes Go.ChangeAt Go.RowKit Go.Ab Go.Proofs.Ytmofhbedamjblaa
open Go.ChangeMaps (open_string shut_string)
theorem own : ownKnob Try.prog.godebug = none := by kernel_rfl
theorem laidOut : laidOutB Try.prog = true := by kernel_rfl
set_option maxRecDepth 100000 in
set_option maxHeartbeats 8000000 in
theorem lifted (os : Os) (started : os.Started) (H : Type) (enc : TypeId × Value → H) :
    ReturnsInHanded {} Try.checked os 3 .any (Rows.aggrBucketsSpec.pre6 enc Try.prog Try.f3 Rows.aggrBucketsRow.domain false) (Rows.aggrBucketsSpec.post enc Try.prog Try.f3 false true false false) := by
  refine returnsInHanded_of_change_sized (C := Try.checked) own started (by kernel_rfl) Try.func3
    (ChangeSpec.witness6 (enc := enc) (C := Try.checked) false ⟨#[], #[.agg #[.string ByteArray.empty, .int .i64 0, .slice none 0 0, .slice none 0 0], .slice none 0 0, .agg #[.int .i64 0, .int .i64 0, .int .i64 0]], []⟩ 8 (by kernel_rfl) (by kernel_rfl) (by kernel_rfl) (by kernel_rfl)) ?_
  intro W base args ds gs before hval0 hW hcnd hsz0 _
  have hval : ∀ (j : Nat) t v, Try.f3.params[j]? = some t → args[j]? = some v → Value.okWide Try.prog W .any base t v := hval0
  have hW' := hW
  obtain ⟨p, q, hA0, hV, rfl, hfz, hnd⟩ := hW
  have hA : DataW.TrodAll enc Try.prog W 0 (fun _ => true) true Try.f3.params.toList args.toList ds p := hA0
  rw [Try.params3] at hA hval
  obtain ⟨v0, vs0, d0, ds0, p0, q0, hargs, rfl, rfl, h0, r0⟩ := trodAll_cons hA
  obtain ⟨v1, vs1, d1, ds1, p1, q1, rfl, rfl, rfl, h1, r1⟩ := trodAll_cons r0
  obtain ⟨v2, vs2, d2, ds2, p2, q2, rfl, rfl, rfl, h2, r2⟩ := trodAll_cons r1
  obtain ⟨rfl, rfl, rfl⟩ := trodAll_nil r2
  obtain rfl : args = #[v0, v1, v2] := by cases args; simp_all
  obtain ⟨rfl, rfl⟩ := trodVars_none hV
  have k0 := h0
  have lt0 : ∀ x ∈ p0, x.block < W.heap.size := by obtain ⟨m, hm⟩ := k0; exact DataW.trod_lt m _ _ _ hm
  obtain ⟨cs0, rfl, sz0⟩ := okWide_struct Try.underlying25 (hval 0 25 v0 rfl rfl)
  obtain ⟨x0, ra0, rb0, _, ok0⟩ := h0.elim fun fuel hf => ((OpV.struct tok (te := te25) (by kernel_rfl) rfl (by kernel_rfl) (OpAt.cons rfl (by kernel_rfl) (OpV.string tok (e := te9) (by kernel_rfl) rfl) (OpAt.cons rfl (by kernel_rfl) (OpV.int tok (e := te3) (by kernel_rfl) rfl) (OpAt.cons rfl (by kernel_rfl) (OpV.slice tok (fun x : Int => .i .i64 x) (te := te22) (eu := te2) (by kernel_rfl) rfl (by kernel_rfl) (by decide) (by kernel_rfl) (.inr ⟨by kernel_rfl, rfl, fun _ => rfl⟩) (OpV.int tok (e := te2) (by kernel_rfl) rfl)) (OpAt.last rfl (by kernel_rfl) (OpV.slice tok (fun x : (Int × ((Int × Bool) × Int)) => .agg [.i .i64 x.1, .i .i64 x.2.1.1, .b x.2.1.2, .i .i64 x.2.2]) (te := te23) (eu := te74) (by kernel_rfl) rfl (by kernel_rfl) (by decide) (by kernel_rfl) (.inl ⟨by kernel_rfl, by kernel_rfl, fun _ => rfl⟩) (OpV.struct tok (te := te74) (by kernel_rfl) rfl (by kernel_rfl) (OpAt.cons rfl (by kernel_rfl) (OpV.int tok (e := te3) (by kernel_rfl) rfl) (OpAt.cons rfl (by kernel_rfl) (OpV.struct tok (te := te72) (by kernel_rfl) rfl (by kernel_rfl) (OpAt.cons rfl (by kernel_rfl) (OpV.int tok (e := te3) (by kernel_rfl) rfl) (OpAt.last rfl (by kernel_rfl) (OpV.bool tok (e := te4) (by kernel_rfl) rfl)))) (OpAt.last rfl (by kernel_rfl) (OpV.int tok (e := te3) (by kernel_rfl) rfl))))))))))) : OpV TT enc Try.prog W 25 _ _ _) _ _ _ hf
  have k1 := h1
  have lt1 : ∀ x ∈ p1, x.block < W.heap.size := by obtain ⟨m, hm⟩ := k1; exact DataW.trod_lt m _ _ _ hm
  obtain ⟨aa1, ll1, cc1, rfl⟩ := okWide_slice Try.underlying22 (hval 1 22 v1 rfl rfl)
  obtain ⟨x1, ra1, rb1, _, ok1⟩ := h1.elim fun fuel hf => ((OpV.slice tok (fun x : Int => .i .i64 x) (te := te22) (eu := te2) (by kernel_rfl) rfl (by kernel_rfl) (by decide) (by kernel_rfl) (.inr ⟨by kernel_rfl, rfl, fun _ => rfl⟩) (OpV.int tok (e := te2) (by kernel_rfl) rfl)) : OpV TT enc Try.prog W 22 _ _ _) _ _ _ hf
  have k2 := h2
  have lt2 : ∀ x ∈ p2, x.block < W.heap.size := by obtain ⟨m, hm⟩ := k2; exact DataW.trod_lt m _ _ _ hm
  obtain ⟨cs2, rfl, sz2⟩ := okWide_arr Try.underlying26 (hval 2 26 v2 rfl rfl)
  obtain ⟨x2, ra2, rb2, _, ok2⟩ := h2.elim fun fuel hf => ((OpV.arr3 tok (te := te26) (by kernel_rfl) rfl (by kernel_rfl) (by kernel_rfl) (OpV.int tok (e := te2) (by kernel_rfl) rfl)) : OpV TT enc Try.prog W 26 _ _ _) _ _ _ hf
  clear hA0 hval0 hsz0
  refine (law_calls (w := W) ⟨_, _, Try.func3, by kernel_rfl, w3_h⟩ (AggrBuckets.pure x0 x1 x2 ok0 ok1 ok2) (gok W) (args_agg ra0 rb0 (args_one ra1 (args_agg ra2 rb2 args_nil)))).mono fun e W' ⟨he, bel⟩ => ?_
  subst he
  exact ⟨_, rfl, _, _, _, [], _, [], hW', trodAll_mk1 (shut_bool Try.underlying4 _), (trodAll_cons_mk (Below.trod laidOut (by kernel_rfl) (of_decide_eq_true (by kernel_rfl)) k0 bel lt0) (trodAll_cons_mk (Below.trod laidOut (by kernel_rfl) (of_decide_eq_true (by kernel_rfl)) k1 bel lt1) (trodAll_cons_mk (Below.trod laidOut (by kernel_rfl) (of_decide_eq_true (by kernel_rfl)) k2 bel lt2) trodAll_mk0))), rfl, bel.frame _, fun h => by cases h⟩
theorem over : Rows.aggrBucketsRow.holds Try.pinned (OpenSpec.ofChange Rows.aggrBucketsSpec) :=
  OpenClaim.holds_of_wide 3 Try.f3 rfl rfl rfl rfl rfl rfl rfl ⟨rfl, rfl, rfl, rfl, rfl⟩ rfl rfl rfl rfl rfl (by kernel_rfl) Try.func3 (by kernel_rfl)
    (of_decide_eq_true (by kernel_rfl)) (by unfold Func.isWrapper; first | (rw [if_pos (by decide +kernel)]; kernel_rfl) | (rw [if_neg (by decide +kernel)]; exact ⟨rfl, rfl⟩))
    (fun os started H enc _ => lifted os started H enc)
theorem proved : Rows.AggrBucketsSaid := over
end Go.Proofs.Ytmofhbedamjblaa.aggrBuckets
namespace Go.Proofs.Ytmofhbedamjblaa
theorem aggrBuckets_holds : Rows.AggrBucketsSaid := aggrBuckets.proved
end Go.Proofs.Ytmofhbedamjblaa
end
