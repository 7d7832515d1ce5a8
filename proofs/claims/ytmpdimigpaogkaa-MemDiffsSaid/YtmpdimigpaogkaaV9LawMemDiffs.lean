/- MemDiffs: the law's call returns true for every input, and its arguments read afterwards as before. Conditions: none. -/
-- Told by a program of this seat's session. Not trusted: Lean checks it.
import Derived.Test.YtmpdimigpaogkaaRows
import Derived.Test.YtmpdimigpaogkaaV9SMemDiffs
import Derived.Test.YtmpdimigpaogkaaV9PureMemDiffs
import Derived.Test.YtmpdimigpaogkaaV9O
import Derived.Below
import Derived.Carry
import Derived.ChangeOld
import Derived.OpenShut
import Derived.ProofKit
import Derived.ShutString
import Derived.SizedLaws
import Derived.WalkKit
namespace Go.Proofs.Ytmpdimigpaogkaa.memDiffs
open Go.ChangeShapes Go.WideShapes Go.ChangeAt Go.RowKit Go.Proofs.Ytmpdimigpaogkaa.M Go.Proofs.YtmpdimigpaogkaaW.PrintWords Go.Proofs.Ytmpdimigpaogkaa
open Go.ChangeMaps (open_string shut_string)
set_option linter.unusedVariables false
theorem own : ownKnob Try.prog.godebug = none := by kernel_rfl
theorem laidOut : laidOutB Try.prog = true := by kernel_rfl
set_option maxRecDepth 100000 in
set_option maxHeartbeats 8000000 in
theorem lifted (os : Os) (started : os.Started) (H : Type) (enc : TypeId × Value → H) :
    ReturnsInHanded {} Try.checked os 11 .any (Rows.memDiffsSpec.pre6 enc Try.prog Try.f11 Rows.memDiffsRow.domain false) (Rows.memDiffsSpec.post enc Try.prog Try.f11 false true false false) := by
  refine returnsInHanded_of_change_sized (C := Try.checked) own started (by kernel_rfl) Try.func11
    (ChangeSpec.witness6 (enc := enc) (C := Try.checked) false ⟨#[], #[.agg #[.slice none 0 0, .slice none 0 0], .agg #[.slice none 0 0, .slice none 0 0]], []⟩ 8 (by kernel_rfl) (by kernel_rfl) (by kernel_rfl) (by kernel_rfl)) ?_
  intro W base args ds gs before hval0 hW hcnd hsz0 _
  have hval : ∀ (j : Nat) t v, Try.f11.params[j]? = some t → args[j]? = some v → Value.okWide Try.prog W .any base t v := hval0
  have hW' := hW
  obtain ⟨p, q, hA0, hV, rfl, hfz, hnd⟩ := hW
  have hA : DataW.TrodAll enc Try.prog W 0 (fun _ => true) true Try.f11.params.toList args.toList ds p := hA0
  rw [Try.params11] at hA hval
  obtain ⟨v0, vs0, d0, ds0, p0, q0, hargs, rfl, rfl, h0, r0⟩ := trodAll_cons hA
  obtain ⟨v1, vs1, d1, ds1, p1, q1, rfl, rfl, rfl, h1, r1⟩ := trodAll_cons r0
  obtain ⟨rfl, rfl, rfl⟩ := trodAll_nil r1
  obtain rfl : args = #[v0, v1] := by cases args; simp_all
  obtain ⟨rfl, rfl⟩ := trodVars_none hV
  have k0 := h0
  have lt0 : ∀ x ∈ p0, x.block < W.heap.size := by obtain ⟨m, hm⟩ := k0; exact DataW.trod_lt m _ _ _ hm
  obtain ⟨cs0, rfl, sz0⟩ := okWide_struct Try.underlying25 (hval 0 25 v0 rfl rfl)
  have op0 : ∃ a : ((List Int) × (List Int)), Kd.K (Kd.pair (Kd.slice 3 (Kd.int .i64)) (Kd.slice 5 (Kd.int .u8))) W a _ ∧ (fun x => (fun l => l.length ≤ maxLen ∧ ∀ x ∈ l, (fun n => (Lit.int .i64 n).wf = true) x) x.1 ∧ (fun l => l.length ≤ maxLen ∧ ∀ x ∈ l, (fun n => (Lit.int .u8 n).wf = true) x) x.2) a := h0.elim fun fuel hf => (O.Opens.struct Try.underlying25 (by kernel_rfl) (O.OpensAt.cons rfl (by kernel_rfl) (O.Opens.slice Try.underlying22 (by kernel_rfl) (O.Opens.int enc Try.prog W Try.underlying3)) (O.OpensAt.last rfl (by kernel_rfl) (O.Opens.slice Try.underlying23 (by kernel_rfl) (O.Opens.int enc Try.prog W Try.underlying5))))) _ _ _ hf
  obtain ⟨x0, hK0, hok0⟩ := op0
  obtain ⟨⟨u0_0, z0_0⟩, ⟨u0_1, z0_1⟩⟩ := hok0
  obtain ⟨cl0, hcl0⟩ : ∃ cl, cl = cs0.toList := ⟨_, rfl⟩
  have hK0' : Kd.K (Kd.pair (Kd.slice 3 (Kd.int .i64)) (Kd.slice 5 (Kd.int .u8))) W x0 cl0 := by rw [hcl0]; exact hK0
  clear hK0
  obtain ⟨_, _, rfl, ⟨A0_0, c0_0, rfl, hc0_0, hr0_0⟩, ⟨A0_1, c0_1, rfl, hc0_1, hr0_1⟩⟩ := hK0'
  obtain rfl : cs0 = #[.slice A0_0 x0.1.length c0_0, .slice A0_1 x0.2.length c0_1] := by
    have := congrArg List.toArray hcl0
    simpa using this.symm
  have k1 := h1
  have lt1 : ∀ x ∈ p1, x.block < W.heap.size := by obtain ⟨m, hm⟩ := k1; exact DataW.trod_lt m _ _ _ hm
  obtain ⟨cs1, rfl, sz1⟩ := okWide_struct Try.underlying25 (hval 1 25 v1 rfl rfl)
  have op1 : ∃ a : ((List Int) × (List Int)), Kd.K (Kd.pair (Kd.slice 3 (Kd.int .i64)) (Kd.slice 5 (Kd.int .u8))) W a _ ∧ (fun x => (fun l => l.length ≤ maxLen ∧ ∀ x ∈ l, (fun n => (Lit.int .i64 n).wf = true) x) x.1 ∧ (fun l => l.length ≤ maxLen ∧ ∀ x ∈ l, (fun n => (Lit.int .u8 n).wf = true) x) x.2) a := h1.elim fun fuel hf => (O.Opens.struct Try.underlying25 (by kernel_rfl) (O.OpensAt.cons rfl (by kernel_rfl) (O.Opens.slice Try.underlying22 (by kernel_rfl) (O.Opens.int enc Try.prog W Try.underlying3)) (O.OpensAt.last rfl (by kernel_rfl) (O.Opens.slice Try.underlying23 (by kernel_rfl) (O.Opens.int enc Try.prog W Try.underlying5))))) _ _ _ hf
  obtain ⟨x1, hK1, hok1⟩ := op1
  obtain ⟨⟨u1_0, z1_0⟩, ⟨u1_1, z1_1⟩⟩ := hok1
  obtain ⟨cl1, hcl1⟩ : ∃ cl, cl = cs1.toList := ⟨_, rfl⟩
  have hK1' : Kd.K (Kd.pair (Kd.slice 3 (Kd.int .i64)) (Kd.slice 5 (Kd.int .u8))) W x1 cl1 := by rw [hcl1]; exact hK1
  clear hK1
  obtain ⟨_, _, rfl, ⟨A1_0, c1_0, rfl, hc1_0, hr1_0⟩, ⟨A1_1, c1_1, rfl, hc1_1, hr1_1⟩⟩ := hK1'
  obtain rfl : cs1 = #[.slice A1_0 x1.1.length c1_0, .slice A1_1 x1.2.length c1_1] := by
    have := congrArg List.toArray hcl1
    simpa using this.symm
  clear hA0 hval0 hsz0
  refine (MemDiffs.walk MemDiffs.pure A0_0 c0_0 x0.1 A0_1 c0_1 x0.2 A1_0 c1_0 x1.1 A1_1 c1_1 x1.2 W hr0_0 hc0_0 hr0_1 hc0_1 hr1_0 hc1_0 hr1_1 hc1_1 u0_0 z0_0 u0_1 z0_1 u1_0 z1_0 u1_1 z1_1).mono fun e W' ⟨he, bel⟩ => ?_
  subst he
  exact ⟨_, rfl, _, _, _, [], _, [], hW', trodAll_mk1 (shut_bool Try.underlying4 _), (trodAll_cons_mk (Below.trod laidOut (by kernel_rfl) (of_decide_eq_true (by kernel_rfl)) k0 bel lt0) (trodAll_cons_mk (Below.trod laidOut (by kernel_rfl) (of_decide_eq_true (by kernel_rfl)) k1 bel lt1) trodAll_mk0)), rfl, bel.frame _, fun h => by cases h⟩
theorem over : Rows.memDiffsRow.holds Try.pinned (OpenSpec.ofChange Rows.memDiffsSpec) :=
  OpenClaim.holds_of_wide 11 Try.f11 rfl rfl rfl rfl rfl rfl rfl ⟨rfl, rfl, rfl, rfl, rfl⟩ rfl rfl rfl rfl rfl (by kernel_rfl) Try.func11 (by kernel_rfl)
    (of_decide_eq_true (by kernel_rfl)) (by unfold Func.isWrapper; first | (rw [if_pos (by decide +kernel)]; kernel_rfl) | (rw [if_neg (by decide +kernel)]; exact ⟨rfl, rfl⟩))
    (fun os started H enc _ => lifted os started H enc)
theorem proved : Rows.MemDiffsSaid := over
#print axioms proved
end Go.Proofs.Ytmpdimigpaogkaa.memDiffs
namespace Go.Proofs.Ytmpdimigpaogkaa
/-- The row, under a short name, for the claim. -/
theorem memDiffs_holds : Rows.MemDiffsSaid := memDiffs.proved
end Go.Proofs.Ytmpdimigpaogkaa
