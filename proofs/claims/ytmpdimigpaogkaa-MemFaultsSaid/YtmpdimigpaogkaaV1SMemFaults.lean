/- A text of the proof of MemFaults: what of it that proof uses. No statement of its own. -/
-- Told by a program of this seat's session. Not trusted: Lean checks it.
import Derived.Test.YtmpdimigpaogkaaV1Mx8
namespace Go.Proofs.Ytmpdimigpaogkaa
open Go.RowKit Go.Proofs.Ytmpdimigpaogkaa.M Go.Proofs.YtmpdimigpaogkaaW.PrintWords Go.Proofs.YtmpdimigpaogkaaW.PrintLast
set_option linter.unusedVariables false
/-- THE ONE PURE STATEMENT of MemFaults. -/
def MemFaults.Pure : Prop := ∀ (l0_0 : (List Int)) (l0_1 : (List Int)) (a1_0 : Int) (a1_1 : Int) (a1_2 : Int) (a2_0 : Int) (a2_1 : Int) (a2_2 : Bool) (a2_3 : Int), l0_0.length ≤ maxLen → (∀ x ∈ l0_0, (fun n => (Lit.int .i64 n).wf = true) x) → l0_1.length ≤ maxLen → (∀ x ∈ l0_1, (fun n => (Lit.int .u8 n).wf = true) x) → (Lit.int .i64 a1_0).wf = true → (Lit.int .i64 a1_1).wf = true → (Lit.int .i64 a1_2).wf = true → (Lit.int .i64 a2_0).wf = true → (Lit.int .i64 a2_1).wf = true → (Lit.int .i64 a2_3).wf = true → ∃ k, taplinelaw03_MemFaults.f k l0_0 l0_1 a1_0 a1_1 a1_2 a2_0 a2_1 a2_2 a2_3 = some true
theorem MemFaults.walk (P : MemFaults.Pure) (A0_0 : Option Addr) (c0_0 : Nat) (l0_0 : (List Int)) (A0_1 : Option Addr) (c0_1 : Nat) (l0_1 : (List Int)) (a1_0 : Int) (a1_1 : Int) (a1_2 : Int) (a2_0 : Int) (a2_1 : Int) (a2_2 : Bool) (a2_3 : Int) (w : World) (hr0_0 : Kd.C (Kd.int .i64) w A0_0 l0_0.length l0_0) (hc0_0 : l0_0.length ≤ c0_0) (hr0_1 : Kd.C (Kd.int .u8) w A0_1 l0_1.length l0_1) (hc0_1 : l0_1.length ≤ c0_1) (y0 : l0_0.length ≤ maxLen) (y1 : (∀ x ∈ l0_0, (fun n => (Lit.int .i64 n).wf = true) x)) (y2 : l0_1.length ≤ maxLen) (y3 : (∀ x ∈ l0_1, (fun n => (Lit.int .u8 n).wf = true) x)) (y4 : (Lit.int .i64 a1_0).wf = true) (y5 : (Lit.int .i64 a1_1).wf = true) (y6 : (Lit.int .i64 a1_2).wf = true) (y7 : (Lit.int .i64 a2_0).wf = true) (y8 : (Lit.int .i64 a2_1).wf = true) (y9 : (Lit.int .i64 a2_3).wf = true) :
    Calls Try.prog 3 #[.agg #[.slice A0_0 l0_0.length c0_0, .slice A0_1 l0_1.length c0_1], .agg #[.int .i64 a1_0, .int .i64 a1_1, .int .i64 a1_2], .agg #[.int .i64 a2_0, .int .i64 a2_1, .bool a2_2, .int .i64 a2_3]] w fun e w' => e = .returned (.bool true) ∧ Below w.heap.size w w' := by
  obtain ⟨k, h⟩ := P l0_0 l0_1 a1_0 a1_1 a1_2 a2_0 a2_1 a2_2 a2_3 y0 y1 y2 y3 y4 y5 y6 y7 y8 y9
  refine (taplinelaw03_MemFaults.calls k A0_0 c0_0 l0_0 A0_1 c0_1 l0_1 a1_0 a1_1 a1_2 a2_0 a2_1 a2_2 a2_3 true w hr0_0 hc0_0 hr0_1 hc0_1 h).mono ?_
  rintro e w' ⟨rfl, hd⟩
  exact ⟨rfl, hd⟩
end Go.Proofs.Ytmpdimigpaogkaa
