/- A text of the proof of MemFaults: what of it that proof uses. No statement of its own. -/
import Derived.Test.YtmpdimigpaogkaaV1G7
namespace Go.Proofs.Ytmpdimigpaogkaa.G
open Go.RowKit Go.Proofs.YtmpdimigpaogkaaW.PrintWords Go.Proofs.YtmpdimigpaogkaaW.PrintLast Go.Proofs.YtmpdimigpaogkaaW.PrintMore
set_option linter.unusedVariables false
set_option linter.unusedSimpArgs false

theorem needs_one (P : List Int) (len at_ k perm : Int) : needs P len (wrap64 (at_ + k)) perm (1 : Int).toNat 0 = need1 P len (wrap64 (at_ + k)) perm := by
  show needs P len (wrap64 (at_ + k)) perm 1 0 = _
  unfold needs
  rw [show wrap64 (wrap64 (at_ + k) + 0) = wrap64 (at_ + k) from by unfold wrap64; omega]
  cases need1 P len (wrap64 (at_ + k)) perm <;> rfl
end Go.Proofs.Ytmpdimigpaogkaa.G
