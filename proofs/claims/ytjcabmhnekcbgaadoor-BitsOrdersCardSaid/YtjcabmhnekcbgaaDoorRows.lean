/-
  NARROWER THAN 'FOR EVERY INPUT', by the rows' own cells (each row's printed sentence says how): BitsShifts: laid · BitsOperates: laid · BitsOrders: laid · BitsTypes: laid.
  DERIVED. THE GIVEN ROWS OF THIS SEAT. 4 by the template 'for every input the law returns true; each argument reads behind the call as it read before'; 0 by the template 'total and deterministic' (their statements: YtjcabmhnekcbgaaDoorTotals.lean).
  GIVEN WITH THE SEED: the statements are not yours to turn. If you find one false, say at which input.
  Laid BY PROGRAM, IN A SANDBOX (cutbox-rows.mjs): the forced cells as the released guide's own fill.sh prints them over the translation f66d161a59bc2c31… (all of the seat's roots in one cut). By AI agents, Wed Nov 11 2026. No macro, syntax, notation, axiom, sorry.
-/
import Derived.Test.YtjcabmhnekcbgaaDoorChecked
import GoSem.Claim
import GoSem.ClaimJoined
import GoSem.ClaimMapViews
import Derived.JoinedTies
import Derived.KernelRfl
namespace Go.Proofs.YtjcabmhnekcbgaaDoor
/- THE CELL 'sum', in the pinned program and in every row, IS THE sha256 OF THE DUMP (.gsa) THAT YtjcabmhnekcbgaaDoorProg.lean LOADS. Nothing in Lean hashes anything: it is a label: what it is worth is what the hold of that sum in a sandbox is worth. -/
noncomputable def Tryd.pinned : Pinned := { name := "ytjcabmhnekcbgaadoor", sum := "f66d161a59bc2c31a6e3b1e8fa70e2af817843416a70575289b4ac116ab12dbd", checked := Tryd.checked }
namespace Rows
def none {H : Type} : Left H := { results := [], args := [] }

/- WHAT THE LISTED PACKAGE-LEVEL VARIABLES READ AS WHEN THE CALL BEGINS. Each datum BY PROGRAM (the guide's laid-datum.mjs) off the statement by which the dump's own 'gosem.cut.vars' lays the variable. In a bare row this is a premise. The card (YtjcabmhnekcbgaaDoorCards.lean) ties it to the program's text. -/
def laid_tapline_taplineref01_promoted {H : Type} : DataW H := .agg [.agg [.lit (.int .i64 4), .lit (.bool true)], .agg [.lit (.int .i64 4), .lit (.bool false)], .agg [.lit (.int .i64 8), .lit (.bool true)], .agg [.lit (.int .i64 8), .lit (.bool false)]]

/-- 'taplinelaw01.BitsShifts': WHATEVER THE INPUT: true; the input reads as it did. -/
def bitsShiftsSpec : ChangeSpec := { name := "bitsShifts", fn := fun _ => fun
  | [d1, d2, d3] => { results := [.lit (.bool true)], args := [d1, d2, d3] }
  | _ => none }
def bitsShiftsRow : OpenClaim := { program := "ytjcabmhnekcbgaadoor", sum := "f66d161a59bc2c31a6e3b1e8fa70e2af817843416a70575289b4ac116ab12dbd", func := "tapline/taplinelaw01.BitsShifts", spec := "bitsShifts", inPlace := ["math/bits.Add64"], unfollowed := true, recurses := true, named := ["math/bits.divideError", "math/bits.overflowError", "tapline/taplineref01.promoted"], plainKeys := false, apart := false, laid := [("tapline/taplineref01.promoted", laid_tapline_taplineref01_promoted)] }
def BitsShiftsSaid : Prop := bitsShiftsRow.holds Tryd.pinned (OpenSpec.ofChange bitsShiftsSpec)

/-- ITS FALSE NEIGHBOUR: 'it returns false'. Refute it at one input. -/
def bitsShiftsWrong : ChangeSpec := { name := "bitsShifts", fn := fun _ => fun
  | [d1, d2, d3] => { results := [.lit (.bool false)], args := [d1, d2, d3] }
  | _ => none }
def BitsShiftsWrongFalsely : Prop := bitsShiftsRow.holds Tryd.pinned (OpenSpec.ofChange bitsShiftsWrong)

/-- 'taplinelaw01.BitsOperates': WHATEVER THE INPUT: true; the input reads as it did. -/
def bitsOperatesSpec : ChangeSpec := { name := "bitsOperates", fn := fun _ => fun
  | [d1, d2, d3] => { results := [.lit (.bool true)], args := [d1, d2, d3] }
  | _ => none }
def bitsOperatesRow : OpenClaim := { program := "ytjcabmhnekcbgaadoor", sum := "f66d161a59bc2c31a6e3b1e8fa70e2af817843416a70575289b4ac116ab12dbd", func := "tapline/taplinelaw01.BitsOperates", spec := "bitsOperates", inPlace := ["math/bits.Add64"], unfollowed := true, recurses := true, named := ["math/bits.divideError", "math/bits.overflowError", "tapline/taplineref01.promoted"], plainKeys := false, apart := false, laid := [("tapline/taplineref01.promoted", laid_tapline_taplineref01_promoted)] }
def BitsOperatesSaid : Prop := bitsOperatesRow.holds Tryd.pinned (OpenSpec.ofChange bitsOperatesSpec)

/-- ITS FALSE NEIGHBOUR: 'it returns false'. Refute it at one input. -/
def bitsOperatesWrong : ChangeSpec := { name := "bitsOperates", fn := fun _ => fun
  | [d1, d2, d3] => { results := [.lit (.bool false)], args := [d1, d2, d3] }
  | _ => none }
def BitsOperatesWrongFalsely : Prop := bitsOperatesRow.holds Tryd.pinned (OpenSpec.ofChange bitsOperatesWrong)

/-- 'taplinelaw01.BitsOrders': WHATEVER THE INPUT: true; the input reads as it did. -/
def bitsOrdersSpec : ChangeSpec := { name := "bitsOrders", fn := fun _ => fun
  | [d1, d2] => { results := [.lit (.bool true)], args := [d1, d2] }
  | _ => none }
def bitsOrdersRow : OpenClaim := { program := "ytjcabmhnekcbgaadoor", sum := "f66d161a59bc2c31a6e3b1e8fa70e2af817843416a70575289b4ac116ab12dbd", func := "tapline/taplinelaw01.BitsOrders", spec := "bitsOrders", inPlace := ["math/bits.Add64"], unfollowed := true, recurses := true, named := ["math/bits.divideError", "math/bits.overflowError", "tapline/taplineref01.promoted"], plainKeys := false, apart := false, laid := [("tapline/taplineref01.promoted", laid_tapline_taplineref01_promoted)] }
def BitsOrdersSaid : Prop := bitsOrdersRow.holds Tryd.pinned (OpenSpec.ofChange bitsOrdersSpec)

/-- ITS FALSE NEIGHBOUR: 'it returns false'. Refute it at one input. -/
def bitsOrdersWrong : ChangeSpec := { name := "bitsOrders", fn := fun _ => fun
  | [d1, d2] => { results := [.lit (.bool false)], args := [d1, d2] }
  | _ => none }
def BitsOrdersWrongFalsely : Prop := bitsOrdersRow.holds Tryd.pinned (OpenSpec.ofChange bitsOrdersWrong)

/-- 'taplinelaw01.BitsTypes': WHATEVER THE INPUT: true; the input reads as it did. -/
def bitsTypesSpec : ChangeSpec := { name := "bitsTypes", fn := fun _ => fun
  | [d1, d2, d3] => { results := [.lit (.bool true)], args := [d1, d2, d3] }
  | _ => none }
def bitsTypesRow : OpenClaim := { program := "ytjcabmhnekcbgaadoor", sum := "f66d161a59bc2c31a6e3b1e8fa70e2af817843416a70575289b4ac116ab12dbd", func := "tapline/taplinelaw01.BitsTypes", spec := "bitsTypes", inPlace := ["math/bits.Add64"], unfollowed := true, recurses := true, named := ["math/bits.divideError", "math/bits.overflowError", "tapline/taplineref01.promoted"], plainKeys := false, apart := false, laid := [("tapline/taplineref01.promoted", laid_tapline_taplineref01_promoted)] }
def BitsTypesSaid : Prop := bitsTypesRow.holds Tryd.pinned (OpenSpec.ofChange bitsTypesSpec)

/-- ITS FALSE NEIGHBOUR: 'it returns false'. Refute it at one input. -/
def bitsTypesWrong : ChangeSpec := { name := "bitsTypes", fn := fun _ => fun
  | [d1, d2, d3] => { results := [.lit (.bool false)], args := [d1, d2, d3] }
  | _ => none }
def BitsTypesWrongFalsely : Prop := bitsTypesRow.holds Tryd.pinned (OpenSpec.ofChange bitsTypesWrong)

/- THE SECOND FORM. 'bulk': how many values and letters a reading holds, each counted each time it is reached (what is shared counts as often as it is met; a slice's spare places count too). A statement '..UptoSaid' is the law's where the arguments, and the package variables that the reading takes, are together of bulk at most 1048576: NARROWER than '..Said'. Prove '..Said' where nothing that the law and all that it calls make is longer than what came in: it says more and counts as full. Else prove '..UptoSaid'. A law counts once. -/
mutual
def uptoBulk {H : Type} : DataW H → Nat
  | .lit (.string bytes) => bytes.length + 1
  | .lit _ => 1
  | .nil => 1
  | .ptr d => uptoBulk d + 1
  | .slice elems spare => uptoBulkAll elems + uptoBulkAll spare + 1
  | .agg parts => uptoBulkAll parts + 1
  | .iface _ d => uptoBulk d + 1
  | .map entries => uptoBulkEntries entries + 1
  | .held _ => 1
def uptoBulkAll {H : Type} : List (DataW H) → Nat
  | [] => 0
  | d :: r => uptoBulk d + uptoBulkAll r
def uptoBulkEntries {H : Type} : List (Lit × DataW H) → Nat
  | [] => 0
  | x :: r => uptoBulkEntry x + uptoBulkEntries r
def uptoBulkEntry {H : Type} : Lit × DataW H → Nat
  | (.string bytes, d) => bytes.length + uptoBulk d + 1
  | (_, d) => uptoBulk d + 1
 end
def uptoSmall : (H : Type) → List (DataW H) → Bool := fun _ ds => decide (uptoBulkAll ds ≤ 1048576)
def OpenSpec.upto (s : _root_.Go.ChangeSpec) : _root_.Go.OpenSpec := { _root_.Go.OpenSpec.ofChange s with cond := some uptoSmall }

/-- 'taplinelaw01.BitsShifts', WHERE WHAT IT READS IS OF BULK AT MOST 1048576: true; the input reads as it did. -/
def bitsShiftsUptoRow : OpenClaim := { program := "ytjcabmhnekcbgaadoor", sum := "f66d161a59bc2c31a6e3b1e8fa70e2af817843416a70575289b4ac116ab12dbd", func := "tapline/taplinelaw01.BitsShifts", spec := "bitsShifts", inPlace := ["math/bits.Add64"], unfollowed := true, recurses := true, named := ["math/bits.divideError", "math/bits.overflowError", "tapline/taplineref01.promoted"], plainKeys := false, apart := false, laid := [("tapline/taplineref01.promoted", laid_tapline_taplineref01_promoted)], narrowed := true }
def BitsShiftsUptoSaid : Prop := bitsShiftsUptoRow.holds Tryd.pinned (OpenSpec.upto bitsShiftsSpec)

/-- 'taplinelaw01.BitsOperates', WHERE WHAT IT READS IS OF BULK AT MOST 1048576: true; the input reads as it did. -/
def bitsOperatesUptoRow : OpenClaim := { program := "ytjcabmhnekcbgaadoor", sum := "f66d161a59bc2c31a6e3b1e8fa70e2af817843416a70575289b4ac116ab12dbd", func := "tapline/taplinelaw01.BitsOperates", spec := "bitsOperates", inPlace := ["math/bits.Add64"], unfollowed := true, recurses := true, named := ["math/bits.divideError", "math/bits.overflowError", "tapline/taplineref01.promoted"], plainKeys := false, apart := false, laid := [("tapline/taplineref01.promoted", laid_tapline_taplineref01_promoted)], narrowed := true }
def BitsOperatesUptoSaid : Prop := bitsOperatesUptoRow.holds Tryd.pinned (OpenSpec.upto bitsOperatesSpec)

/-- 'taplinelaw01.BitsOrders', WHERE WHAT IT READS IS OF BULK AT MOST 1048576: true; the input reads as it did. -/
def bitsOrdersUptoRow : OpenClaim := { program := "ytjcabmhnekcbgaadoor", sum := "f66d161a59bc2c31a6e3b1e8fa70e2af817843416a70575289b4ac116ab12dbd", func := "tapline/taplinelaw01.BitsOrders", spec := "bitsOrders", inPlace := ["math/bits.Add64"], unfollowed := true, recurses := true, named := ["math/bits.divideError", "math/bits.overflowError", "tapline/taplineref01.promoted"], plainKeys := false, apart := false, laid := [("tapline/taplineref01.promoted", laid_tapline_taplineref01_promoted)], narrowed := true }
def BitsOrdersUptoSaid : Prop := bitsOrdersUptoRow.holds Tryd.pinned (OpenSpec.upto bitsOrdersSpec)

/-- 'taplinelaw01.BitsTypes', WHERE WHAT IT READS IS OF BULK AT MOST 1048576: true; the input reads as it did. -/
def bitsTypesUptoRow : OpenClaim := { program := "ytjcabmhnekcbgaadoor", sum := "f66d161a59bc2c31a6e3b1e8fa70e2af817843416a70575289b4ac116ab12dbd", func := "tapline/taplinelaw01.BitsTypes", spec := "bitsTypes", inPlace := ["math/bits.Add64"], unfollowed := true, recurses := true, named := ["math/bits.divideError", "math/bits.overflowError", "tapline/taplineref01.promoted"], plainKeys := false, apart := false, laid := [("tapline/taplineref01.promoted", laid_tapline_taplineref01_promoted)], narrowed := true }
def BitsTypesUptoSaid : Prop := bitsTypesUptoRow.holds Tryd.pinned (OpenSpec.upto bitsTypesSpec)

end Rows
end Go.Proofs.YtjcabmhnekcbgaaDoor
