/- A text of the proof of MemFaults: what of it that proof uses. No statement of its own. -/
-- Told by a program of this seat's session (it runs the kit's print program, with some functions given by hand). Not trusted: Lean checks it.
import Derived.Test.YtmpdimigpaogkaaProg
import Derived.Test.YtmpdimigpaogkaaV1G8
import Derived.Test.YtmpdimigpaogkaaV1WWords
import Derived.Test.YtmpdimigpaogkaaV1WLast
import Derived.Test.YtmpdimigpaogkaaV1WTab
import Derived.Test.YtmpdimigpaogkaaV1WApart
import Derived.Test.YtmpdimigpaogkaaV1WShare
import Derived.Test.YtmpdimigpaogkaaV1WN
import Derived.Test.YtmpdimigpaogkaaV1WEqStruct
import Derived.Test.YtmpdimigpaogkaaV1WInv
import Derived.Test.YtmpdimigpaogkaaV1WGuard
import Derived.Test.YtmpdimigpaogkaaV1WMore
import Derived.ArgAppend
import Derived.Below
import Derived.BigQuiet
import Derived.Deep.AppendLies
import Derived.Deep.CutBlock
import Derived.Deep.DeepCutAuto
import Derived.Deep.Draws
import Derived.Deep.LoopGhost
import Derived.Deep.OwnRows
import Derived.Deep.QuietTactic
import Derived.Deep.RegionHeld3
import Derived.KernelRfl
import Derived.Laws.BitsLemmas
import Derived.Laws.BytesArg
import Derived.Laws.IdiomCopy
import Derived.Laws.MakeOwn
import Derived.Laws.OwnMore
import Derived.Laws.Rows
import Derived.Laws.Slices
import Derived.Lib.AppendStr
import Derived.Lib.ConvBytes
import Derived.Maps.AppendAt
import Derived.OrdersHeld
import Derived.OwnWalk
import Derived.RowKit
import Derived.RowKit3
import Derived.Tactics
import Derived.WalkKit
import Derived.WideLaws
namespace Go.Proofs.Ytmpdimigpaogkaa.M
open Go.Proofs.Ytmpdimigpaogkaa.G (bits_Check.f bits_Check.calls bits_wrap.f bits_wrap.calls slices_Clone_int_int.f slices_Clone_int_int.calls slices_Clone_byte_byte.f slices_Clone_byte_byte.calls mem_copied.f mem_copied.calls mem_faults.f mem_faults.calls mem_Check.f mem_Check.calls)
open Go.RowKit Go.Proofs.YtmpdimigpaogkaaW.PrintWords Go.Proofs.YtmpdimigpaogkaaW.PrintLast Go.Proofs.YtmpdimigpaogkaaW.PrintMore
set_option linter.unusedVariables false
set_option linter.unusedSimpArgs false

theorem info3 : (Try.prog.info? 3).map (fun i => (i.zero, i.size, i.bytes)) = some (some (.int .i64 0), 1, 8) := by kernel_rfl
theorem info5 : (Try.prog.info? 5).map (fun i => (i.zero, i.size, i.bytes)) = some (some (.int .u8 0), 1, 1) := by kernel_rfl
-- the values' own types
/-! #### struct type 25 -/
/-! #### struct type 94 -/
end Go.Proofs.Ytmpdimigpaogkaa.M
