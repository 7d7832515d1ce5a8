/- A text of the proof of MemDiffs: what of it that proof uses. No statement of its own. -/
-- Told by a program of this seat's session. Not trusted: Lean checks it.
import Derived.Test.YtmpdimigpaogkaaV9Mx20
namespace Go.Proofs.Ytmpdimigpaogkaa
open Go.RowKit Go.Proofs.Ytmpdimigpaogkaa.M Go.Proofs.YtmpdimigpaogkaaW.PrintWords Go.Proofs.YtmpdimigpaogkaaW.PrintLast
set_option linter.unusedVariables false
/-- THE ONE PURE STATEMENT of MemDiffs. -/
def MemDiffs.Pure : Prop := ∀ (l0_0 : (List Int)) (l0_1 : (List Int)) (l1_0 : (List Int)) (l1_1 : (List Int)), l0_0.length ≤ maxLen → (∀ x ∈ l0_0, (fun n => (Lit.int .i64 n).wf = true) x) → l0_1.length ≤ maxLen → (∀ x ∈ l0_1, (fun n => (Lit.int .u8 n).wf = true) x) → l1_0.length ≤ maxLen → (∀ x ∈ l1_0, (fun n => (Lit.int .i64 n).wf = true) x) → l1_1.length ≤ maxLen → (∀ x ∈ l1_1, (fun n => (Lit.int .u8 n).wf = true) x) → ∃ k, taplinelaw03_MemDiffs.f k l0_0 l0_1 l1_0 l1_1 = some true
theorem MemDiffs.walk (P : MemDiffs.Pure) (A0_0 : Option Addr) (c0_0 : Nat) (l0_0 : (List Int)) (A0_1 : Option Addr) (c0_1 : Nat) (l0_1 : (List Int)) (A1_0 : Option Addr) (c1_0 : Nat) (l1_0 : (List Int)) (A1_1 : Option Addr) (c1_1 : Nat) (l1_1 : (List Int)) (w : World) (hr0_0 : Kd.C (Kd.int .i64) w A0_0 l0_0.length l0_0) (hc0_0 : l0_0.length ≤ c0_0) (hr0_1 : Kd.C (Kd.int .u8) w A0_1 l0_1.length l0_1) (hc0_1 : l0_1.length ≤ c0_1) (hr1_0 : Kd.C (Kd.int .i64) w A1_0 l1_0.length l1_0) (hc1_0 : l1_0.length ≤ c1_0) (hr1_1 : Kd.C (Kd.int .u8) w A1_1 l1_1.length l1_1) (hc1_1 : l1_1.length ≤ c1_1) (y0 : l0_0.length ≤ maxLen) (y1 : (∀ x ∈ l0_0, (fun n => (Lit.int .i64 n).wf = true) x)) (y2 : l0_1.length ≤ maxLen) (y3 : (∀ x ∈ l0_1, (fun n => (Lit.int .u8 n).wf = true) x)) (y4 : l1_0.length ≤ maxLen) (y5 : (∀ x ∈ l1_0, (fun n => (Lit.int .i64 n).wf = true) x)) (y6 : l1_1.length ≤ maxLen) (y7 : (∀ x ∈ l1_1, (fun n => (Lit.int .u8 n).wf = true) x)) :
    Calls Try.prog 11 #[.agg #[.slice A0_0 l0_0.length c0_0, .slice A0_1 l0_1.length c0_1], .agg #[.slice A1_0 l1_0.length c1_0, .slice A1_1 l1_1.length c1_1]] w fun e w' => e = .returned (.bool true) ∧ Below w.heap.size w w' := by
  obtain ⟨k, h⟩ := P l0_0 l0_1 l1_0 l1_1 y0 y1 y2 y3 y4 y5 y6 y7
  refine (taplinelaw03_MemDiffs.calls k A0_0 c0_0 l0_0 A0_1 c0_1 l0_1 A1_0 c1_0 l1_0 A1_1 c1_1 l1_1 true w hr0_0 hc0_0 hr0_1 hc0_1 hr1_0 hc1_0 hr1_1 hc1_1 h).mono ?_
  rintro e w' ⟨rfl, hd⟩
  exact ⟨rfl, hd⟩
end Go.Proofs.Ytmpdimigpaogkaa
