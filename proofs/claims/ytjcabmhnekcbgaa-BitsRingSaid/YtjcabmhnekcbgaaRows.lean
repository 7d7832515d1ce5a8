/-
  No cell of these rows narrows 'for every input' (looked for: loops, veiled, ifaces, maps, wideKeys, modest, calm, conditions, laid).
  DERIVED. THE GIVEN ROWS OF THIS SEAT. 6 by the template 'for every input the law returns true; each argument reads behind the call as it read before'; 0 by the template 'total and deterministic' (their statements: YtjcabmhnekcbgaaTotals.lean).
  GIVEN WITH THE SEED: the statements are not yours to turn. If you find one false, say at which input.
  Laid BY PROGRAM, IN A SANDBOX (cutbox-rows.mjs): the forced cells as the released guide's own fill.sh prints them over the translation 796c3b8e30762470… (all of the seat's roots in one cut). By AI agents, Wed Nov 11 2026. No macro, syntax, notation, axiom, sorry.
-/
import Derived.Test.YtjcabmhnekcbgaaChecked
import GoSem.Claim
import GoSem.ClaimJoined
import GoSem.ClaimMapViews
import Derived.JoinedTies
import Derived.KernelRfl
namespace Go.Proofs.Ytjcabmhnekcbgaa
/- THE CELL 'sum', in the pinned program and in every row, IS THE sha256 OF THE DUMP (.gsa) THAT YtjcabmhnekcbgaaProg.lean LOADS. Nothing in Lean hashes anything: it is a label: what it is worth is what the hold of that sum in a sandbox is worth. -/
noncomputable def Try.pinned : Pinned := { name := "ytjcabmhnekcbgaa", sum := "796c3b8e307624706aee3c374dcbb0bd50e38f45a7011660b589c9dc8bc354a1", checked := Try.checked }
namespace Rows
def none {H : Type} : Left H := { results := [], args := [] }

/-- 'taplinelaw01.BitsRing': WHATEVER THE INPUT: true; the input reads as it did. -/
def bitsRingSpec : ChangeSpec := { name := "bitsRing", fn := fun _ => fun
  | [d1, d2, d3] => { results := [.lit (.bool true)], args := [d1, d2, d3] }
  | _ => none }
def bitsRingRow : OpenClaim := { program := "ytjcabmhnekcbgaa", sum := "796c3b8e307624706aee3c374dcbb0bd50e38f45a7011660b589c9dc8bc354a1", func := "tapline/taplinelaw01.BitsRing", spec := "bitsRing", inPlace := ["math/bits.Add64"], unfollowed := true, recurses := true, named := ["math/bits.divideError", "math/bits.overflowError"], plainKeys := false, apart := false }
def BitsRingSaid : Prop := bitsRingRow.holds Try.pinned (OpenSpec.ofChange bitsRingSpec)

/-- ITS FALSE NEIGHBOUR: 'it returns false'. Refute it at one input. -/
def bitsRingWrong : ChangeSpec := { name := "bitsRing", fn := fun _ => fun
  | [d1, d2, d3] => { results := [.lit (.bool false)], args := [d1, d2, d3] }
  | _ => none }
def BitsRingWrongFalsely : Prop := bitsRingRow.holds Try.pinned (OpenSpec.ofChange bitsRingWrong)

/-- 'taplinelaw01.BitsCommon': WHATEVER THE INPUT: true; the input reads as it did. -/
def bitsCommonSpec : ChangeSpec := { name := "bitsCommon", fn := fun _ => fun
  | [d1, d2, d3] => { results := [.lit (.bool true)], args := [d1, d2, d3] }
  | _ => none }
def bitsCommonRow : OpenClaim := { program := "ytjcabmhnekcbgaa", sum := "796c3b8e307624706aee3c374dcbb0bd50e38f45a7011660b589c9dc8bc354a1", func := "tapline/taplinelaw01.BitsCommon", spec := "bitsCommon", inPlace := ["math/bits.Add64"], unfollowed := true, recurses := true, named := ["math/bits.divideError", "math/bits.overflowError"], plainKeys := false, apart := false }
def BitsCommonSaid : Prop := bitsCommonRow.holds Try.pinned (OpenSpec.ofChange bitsCommonSpec)

/-- ITS FALSE NEIGHBOUR: 'it returns false'. Refute it at one input. -/
def bitsCommonWrong : ChangeSpec := { name := "bitsCommon", fn := fun _ => fun
  | [d1, d2, d3] => { results := [.lit (.bool false)], args := [d1, d2, d3] }
  | _ => none }
def BitsCommonWrongFalsely : Prop := bitsCommonRow.holds Try.pinned (OpenSpec.ofChange bitsCommonWrong)

/-- 'taplinelaw01.BitsConverts': WHATEVER THE INPUT: true; the input reads as it did. -/
def bitsConvertsSpec : ChangeSpec := { name := "bitsConverts", fn := fun _ => fun
  | [d1, d2, d3] => { results := [.lit (.bool true)], args := [d1, d2, d3] }
  | _ => none }
def bitsConvertsRow : OpenClaim := { program := "ytjcabmhnekcbgaa", sum := "796c3b8e307624706aee3c374dcbb0bd50e38f45a7011660b589c9dc8bc354a1", func := "tapline/taplinelaw01.BitsConverts", spec := "bitsConverts", inPlace := ["math/bits.Add64"], unfollowed := true, recurses := true, named := ["math/bits.divideError", "math/bits.overflowError"], plainKeys := false, apart := false }
def BitsConvertsSaid : Prop := bitsConvertsRow.holds Try.pinned (OpenSpec.ofChange bitsConvertsSpec)

/-- ITS FALSE NEIGHBOUR: 'it returns false'. Refute it at one input. -/
def bitsConvertsWrong : ChangeSpec := { name := "bitsConverts", fn := fun _ => fun
  | [d1, d2, d3] => { results := [.lit (.bool false)], args := [d1, d2, d3] }
  | _ => none }
def BitsConvertsWrongFalsely : Prop := bitsConvertsRow.holds Try.pinned (OpenSpec.ofChange bitsConvertsWrong)

/-- 'taplinelaw01.BitsDivides': WHATEVER THE INPUT: true; the input reads as it did. -/
def bitsDividesSpec : ChangeSpec := { name := "bitsDivides", fn := fun _ => fun
  | [d1, d2, d3] => { results := [.lit (.bool true)], args := [d1, d2, d3] }
  | _ => none }
def bitsDividesRow : OpenClaim := { program := "ytjcabmhnekcbgaa", sum := "796c3b8e307624706aee3c374dcbb0bd50e38f45a7011660b589c9dc8bc354a1", func := "tapline/taplinelaw01.BitsDivides", spec := "bitsDivides", inPlace := ["math/bits.Add64"], unfollowed := true, recurses := true, named := ["math/bits.divideError", "math/bits.overflowError"], plainKeys := false, apart := false }
def BitsDividesSaid : Prop := bitsDividesRow.holds Try.pinned (OpenSpec.ofChange bitsDividesSpec)

/-- ITS FALSE NEIGHBOUR: 'it returns false'. Refute it at one input. -/
def bitsDividesWrong : ChangeSpec := { name := "bitsDivides", fn := fun _ => fun
  | [d1, d2, d3] => { results := [.lit (.bool false)], args := [d1, d2, d3] }
  | _ => none }
def BitsDividesWrongFalsely : Prop := bitsDividesRow.holds Try.pinned (OpenSpec.ofChange bitsDividesWrong)

/-- 'taplinelaw01.BitsBack': WHATEVER THE INPUT: true; the input reads as it did. -/
def bitsBackSpec : ChangeSpec := { name := "bitsBack", fn := fun _ => fun
  | [d1, d2, d3] => { results := [.lit (.bool true)], args := [d1, d2, d3] }
  | _ => none }
def bitsBackRow : OpenClaim := { program := "ytjcabmhnekcbgaa", sum := "796c3b8e307624706aee3c374dcbb0bd50e38f45a7011660b589c9dc8bc354a1", func := "tapline/taplinelaw01.BitsBack", spec := "bitsBack", inPlace := ["math/bits.Add64"], unfollowed := true, recurses := true, named := ["math/bits.divideError", "math/bits.overflowError"], plainKeys := false, apart := false }
def BitsBackSaid : Prop := bitsBackRow.holds Try.pinned (OpenSpec.ofChange bitsBackSpec)

/-- ITS FALSE NEIGHBOUR: 'it returns false'. Refute it at one input. -/
def bitsBackWrong : ChangeSpec := { name := "bitsBack", fn := fun _ => fun
  | [d1, d2, d3] => { results := [.lit (.bool false)], args := [d1, d2, d3] }
  | _ => none }
def BitsBackWrongFalsely : Prop := bitsBackRow.holds Try.pinned (OpenSpec.ofChange bitsBackWrong)

/-- 'taplinelaw01.BitsForms': WHATEVER THE INPUT: true; the input reads as it did. -/
def bitsFormsSpec : ChangeSpec := { name := "bitsForms", fn := fun _ => fun
  | [d1, d2, d3] => { results := [.lit (.bool true)], args := [d1, d2, d3] }
  | _ => none }
def bitsFormsRow : OpenClaim := { program := "ytjcabmhnekcbgaa", sum := "796c3b8e307624706aee3c374dcbb0bd50e38f45a7011660b589c9dc8bc354a1", func := "tapline/taplinelaw01.BitsForms", spec := "bitsForms", inPlace := ["math/bits.Add64"], unfollowed := true, recurses := true, named := ["math/bits.divideError", "math/bits.overflowError"], plainKeys := false, apart := false }
def BitsFormsSaid : Prop := bitsFormsRow.holds Try.pinned (OpenSpec.ofChange bitsFormsSpec)

/-- ITS FALSE NEIGHBOUR: 'it returns false'. Refute it at one input. -/
def bitsFormsWrong : ChangeSpec := { name := "bitsForms", fn := fun _ => fun
  | [d1, d2, d3] => { results := [.lit (.bool false)], args := [d1, d2, d3] }
  | _ => none }
def BitsFormsWrongFalsely : Prop := bitsFormsRow.holds Try.pinned (OpenSpec.ofChange bitsFormsWrong)

/- THE SECOND FORM. 'bulk': how many values and letters a reading holds, each counted each time it is reached (what is shared counts as often as it is met; a slice's spare places count too). A statement '..UptoSaid' is the law's where the arguments, and the package variables that the reading takes, are together of bulk at most 1048576: NARROWER than '..Said'. Prove '..Said' where nothing that the law and all that it calls make is longer than what came in: it says more and counts as full. Else prove '..UptoSaid'. A law counts once. -/
mutual
def uptoBulk {H : Type} : DataW H → Nat
  | .lit (.string bytes) => bytes.length + 1
  | .lit _ => 1
  | .nil => 1
  | .ptr d => uptoBulk d + 1
  | .slice elems spare => uptoBulkAll elems + uptoBulkAll spare + 1
  | .agg parts => uptoBulkAll parts + 1
  | .iface _ d => uptoBulk d + 1
  | .map entries => uptoBulkEntries entries + 1
  | .held _ => 1
def uptoBulkAll {H : Type} : List (DataW H) → Nat
  | [] => 0
  | d :: r => uptoBulk d + uptoBulkAll r
def uptoBulkEntries {H : Type} : List (Lit × DataW H) → Nat
  | [] => 0
  | x :: r => uptoBulkEntry x + uptoBulkEntries r
def uptoBulkEntry {H : Type} : Lit × DataW H → Nat
  | (.string bytes, d) => bytes.length + uptoBulk d + 1
  | (_, d) => uptoBulk d + 1
 end
def uptoSmall : (H : Type) → List (DataW H) → Bool := fun _ ds => decide (uptoBulkAll ds ≤ 1048576)
def OpenSpec.upto (s : _root_.Go.ChangeSpec) : _root_.Go.OpenSpec := { _root_.Go.OpenSpec.ofChange s with cond := some uptoSmall }

/-- 'taplinelaw01.BitsRing', WHERE WHAT IT READS IS OF BULK AT MOST 1048576: true; the input reads as it did. -/
def bitsRingUptoRow : OpenClaim := { program := "ytjcabmhnekcbgaa", sum := "796c3b8e307624706aee3c374dcbb0bd50e38f45a7011660b589c9dc8bc354a1", func := "tapline/taplinelaw01.BitsRing", spec := "bitsRing", inPlace := ["math/bits.Add64"], unfollowed := true, recurses := true, named := ["math/bits.divideError", "math/bits.overflowError"], plainKeys := false, apart := false, narrowed := true }
def BitsRingUptoSaid : Prop := bitsRingUptoRow.holds Try.pinned (OpenSpec.upto bitsRingSpec)

/-- 'taplinelaw01.BitsCommon', WHERE WHAT IT READS IS OF BULK AT MOST 1048576: true; the input reads as it did. -/
def bitsCommonUptoRow : OpenClaim := { program := "ytjcabmhnekcbgaa", sum := "796c3b8e307624706aee3c374dcbb0bd50e38f45a7011660b589c9dc8bc354a1", func := "tapline/taplinelaw01.BitsCommon", spec := "bitsCommon", inPlace := ["math/bits.Add64"], unfollowed := true, recurses := true, named := ["math/bits.divideError", "math/bits.overflowError"], plainKeys := false, apart := false, narrowed := true }
def BitsCommonUptoSaid : Prop := bitsCommonUptoRow.holds Try.pinned (OpenSpec.upto bitsCommonSpec)

/-- 'taplinelaw01.BitsConverts', WHERE WHAT IT READS IS OF BULK AT MOST 1048576: true; the input reads as it did. -/
def bitsConvertsUptoRow : OpenClaim := { program := "ytjcabmhnekcbgaa", sum := "796c3b8e307624706aee3c374dcbb0bd50e38f45a7011660b589c9dc8bc354a1", func := "tapline/taplinelaw01.BitsConverts", spec := "bitsConverts", inPlace := ["math/bits.Add64"], unfollowed := true, recurses := true, named := ["math/bits.divideError", "math/bits.overflowError"], plainKeys := false, apart := false, narrowed := true }
def BitsConvertsUptoSaid : Prop := bitsConvertsUptoRow.holds Try.pinned (OpenSpec.upto bitsConvertsSpec)

/-- 'taplinelaw01.BitsDivides', WHERE WHAT IT READS IS OF BULK AT MOST 1048576: true; the input reads as it did. -/
def bitsDividesUptoRow : OpenClaim := { program := "ytjcabmhnekcbgaa", sum := "796c3b8e307624706aee3c374dcbb0bd50e38f45a7011660b589c9dc8bc354a1", func := "tapline/taplinelaw01.BitsDivides", spec := "bitsDivides", inPlace := ["math/bits.Add64"], unfollowed := true, recurses := true, named := ["math/bits.divideError", "math/bits.overflowError"], plainKeys := false, apart := false, narrowed := true }
def BitsDividesUptoSaid : Prop := bitsDividesUptoRow.holds Try.pinned (OpenSpec.upto bitsDividesSpec)

/-- 'taplinelaw01.BitsBack', WHERE WHAT IT READS IS OF BULK AT MOST 1048576: true; the input reads as it did. -/
def bitsBackUptoRow : OpenClaim := { program := "ytjcabmhnekcbgaa", sum := "796c3b8e307624706aee3c374dcbb0bd50e38f45a7011660b589c9dc8bc354a1", func := "tapline/taplinelaw01.BitsBack", spec := "bitsBack", inPlace := ["math/bits.Add64"], unfollowed := true, recurses := true, named := ["math/bits.divideError", "math/bits.overflowError"], plainKeys := false, apart := false, narrowed := true }
def BitsBackUptoSaid : Prop := bitsBackUptoRow.holds Try.pinned (OpenSpec.upto bitsBackSpec)

/-- 'taplinelaw01.BitsForms', WHERE WHAT IT READS IS OF BULK AT MOST 1048576: true; the input reads as it did. -/
def bitsFormsUptoRow : OpenClaim := { program := "ytjcabmhnekcbgaa", sum := "796c3b8e307624706aee3c374dcbb0bd50e38f45a7011660b589c9dc8bc354a1", func := "tapline/taplinelaw01.BitsForms", spec := "bitsForms", inPlace := ["math/bits.Add64"], unfollowed := true, recurses := true, named := ["math/bits.divideError", "math/bits.overflowError"], plainKeys := false, apart := false, narrowed := true }
def BitsFormsUptoSaid : Prop := bitsFormsUptoRow.holds Try.pinned (OpenSpec.upto bitsFormsSpec)

end Rows
end Go.Proofs.Ytjcabmhnekcbgaa
