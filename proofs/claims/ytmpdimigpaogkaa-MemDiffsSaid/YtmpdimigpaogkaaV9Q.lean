/- A text of the proof of MemDiffs: what of it that proof uses. No statement of its own. -/
import Derived.Test.YtmpdimigpaogkaaV9Mx6
import Derived.Test.YtmpdimigpaogkaaV9Mx0
namespace Go.Proofs.Ytmpdimigpaogkaa.Q
open Go.RowKit Go.Proofs.Ytmpdimigpaogkaa.M Go.Proofs.Ytmpdimigpaogkaa.G Go.Proofs.YtmpdimigpaogkaaW.PrintWords Go.Proofs.YtmpdimigpaogkaaW.PrintLast
set_option linter.unusedVariables false
set_option linter.unusedSimpArgs false
set_option maxRecDepth 100000 in
theorem sane_ok : taplinelaw03_sane.f 60 = some true := by decide +kernel
theorem sane_at (k : Nat) (h : 60 ≤ k) : taplinelaw03_sane.f k = some true := by
  obtain ⟨d, rfl⟩ : ∃ d, k = 60 + d := ⟨k - 60, by omega⟩
  clear h
  induction d with
  | zero => exact sane_ok
  | succ d ih => exact taplinelaw03_sane.mono (60 + d) _ ih
theorem check_two (P B : List Int) : (checkV P B = 0 ∧ P.length ≤ 32 ∧ B.length = 64 * P.length ∧ P.all permOk = true) ∨ checkV P B = 30 := by
  unfold checkV
  split
  · rename_i h; exact .inl ⟨rfl, h⟩
  · exact .inr rfl
end Go.Proofs.Ytmpdimigpaogkaa.Q
