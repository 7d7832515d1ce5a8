/-
  No cell of these rows narrows 'for every input' (looked for: loops, veiled, ifaces, maps, wideKeys, modest, calm, conditions, laid).
  DERIVED. THE GIVEN ROWS OF THIS SEAT. 11 by the template 'for every input the law returns true; each argument reads behind the call as it read before'; 0 by the template 'total and deterministic' (their statements: YtdejapkfijdadaaTotals.lean).
  GIVEN WITH THE SEED: the statements are not yours to turn. If you find one false, say at which input.
  Laid BY PROGRAM, IN A SANDBOX (cutbox-rows.mjs): the forced cells as the released guide's own fill.sh prints them over the translation d6dc37b59f7484c4… (all of the seat's roots in one cut). By AI agents, Wed Nov 11 2026. No macro, syntax, notation, axiom, sorry.
-/
import Derived.Test.YtdejapkfijdadaaChecked
import GoSem.Claim
import GoSem.ClaimJoined
import GoSem.ClaimMapViews
import Derived.JoinedTies
import Derived.KernelRfl
namespace Go.Proofs.Ytdejapkfijdadaa
/- THE CELL 'sum', in the pinned program and in every row, IS THE sha256 OF THE DUMP (.gsa) THAT YtdejapkfijdadaaProg.lean LOADS. Nothing in Lean hashes anything: it is a label: what it is worth is what the hold of that sum in a sandbox is worth. -/
noncomputable def Try.pinned : Pinned := { name := "ytdejapkfijdadaa", sum := "d6dc37b59f7484c424e5bc9be68c0ec3a17cb8851bae720f3c6b1ec1cbb16be1", checked := Try.checked }
namespace Rows
def none {H : Type} : Left H := { results := [], args := [] }

/-- 'taplinelaw22.BufferSizes': WHATEVER THE INPUT: true; the input reads as it did. -/
def bufferSizesSpec : ChangeSpec := { name := "bufferSizes", fn := fun _ => fun
  | [d1, d2, d3] => { results := [.lit (.bool true)], args := [d1, d2, d3] }
  | _ => none }
def bufferSizesRow : OpenClaim := { program := "ytdejapkfijdadaa", sum := "d6dc37b59f7484c424e5bc9be68c0ec3a17cb8851bae720f3c6b1ec1cbb16be1", func := "tapline/taplinelaw22.BufferSizes", spec := "bufferSizes", unfollowed := true, recurses := true, apart := false }
def BufferSizesSaid : Prop := bufferSizesRow.holds Try.pinned (OpenSpec.ofChange bufferSizesSpec)

/-- ITS FALSE NEIGHBOUR: 'it returns false'. Refute it at one input. -/
def bufferSizesWrong : ChangeSpec := { name := "bufferSizes", fn := fun _ => fun
  | [d1, d2, d3] => { results := [.lit (.bool false)], args := [d1, d2, d3] }
  | _ => none }
def BufferSizesWrongFalsely : Prop := bufferSizesRow.holds Try.pinned (OpenSpec.ofChange bufferSizesWrong)

/-- 'taplinelaw22.BufferPrefix': WHATEVER THE INPUT: true; the input reads as it did. -/
def bufferPrefixSpec : ChangeSpec := { name := "bufferPrefix", fn := fun _ => fun
  | [d1, d2, d3] => { results := [.lit (.bool true)], args := [d1, d2, d3] }
  | _ => none }
def bufferPrefixRow : OpenClaim := { program := "ytdejapkfijdadaa", sum := "d6dc37b59f7484c424e5bc9be68c0ec3a17cb8851bae720f3c6b1ec1cbb16be1", func := "tapline/taplinelaw22.BufferPrefix", spec := "bufferPrefix", unfollowed := true, recurses := true, apart := false }
def BufferPrefixSaid : Prop := bufferPrefixRow.holds Try.pinned (OpenSpec.ofChange bufferPrefixSpec)

/-- ITS FALSE NEIGHBOUR: 'it returns false'. Refute it at one input. -/
def bufferPrefixWrong : ChangeSpec := { name := "bufferPrefix", fn := fun _ => fun
  | [d1, d2, d3] => { results := [.lit (.bool false)], args := [d1, d2, d3] }
  | _ => none }
def BufferPrefixWrongFalsely : Prop := bufferPrefixRow.holds Try.pinned (OpenSpec.ofChange bufferPrefixWrong)

/-- 'taplinelaw22.BufferSuffix': WHATEVER THE INPUT: true; the input reads as it did. -/
def bufferSuffixSpec : ChangeSpec := { name := "bufferSuffix", fn := fun _ => fun
  | [d1, d2] => { results := [.lit (.bool true)], args := [d1, d2] }
  | _ => none }
def bufferSuffixRow : OpenClaim := { program := "ytdejapkfijdadaa", sum := "d6dc37b59f7484c424e5bc9be68c0ec3a17cb8851bae720f3c6b1ec1cbb16be1", func := "tapline/taplinelaw22.BufferSuffix", spec := "bufferSuffix", unfollowed := true, recurses := true, apart := false }
def BufferSuffixSaid : Prop := bufferSuffixRow.holds Try.pinned (OpenSpec.ofChange bufferSuffixSpec)

/-- ITS FALSE NEIGHBOUR: 'it returns false'. Refute it at one input. -/
def bufferSuffixWrong : ChangeSpec := { name := "bufferSuffix", fn := fun _ => fun
  | [d1, d2] => { results := [.lit (.bool false)], args := [d1, d2] }
  | _ => none }
def BufferSuffixWrongFalsely : Prop := bufferSuffixRow.holds Try.pinned (OpenSpec.ofChange bufferSuffixWrong)

/-- 'taplinelaw22.BufferParts': WHATEVER THE INPUT: true; the input reads as it did. -/
def bufferPartsSpec : ChangeSpec := { name := "bufferParts", fn := fun _ => fun
  | [d1, d2, d3] => { results := [.lit (.bool true)], args := [d1, d2, d3] }
  | _ => none }
def bufferPartsRow : OpenClaim := { program := "ytdejapkfijdadaa", sum := "d6dc37b59f7484c424e5bc9be68c0ec3a17cb8851bae720f3c6b1ec1cbb16be1", func := "tapline/taplinelaw22.BufferParts", spec := "bufferParts", unfollowed := true, recurses := true, apart := false }
def BufferPartsSaid : Prop := bufferPartsRow.holds Try.pinned (OpenSpec.ofChange bufferPartsSpec)

/-- ITS FALSE NEIGHBOUR: 'it returns false'. Refute it at one input. -/
def bufferPartsWrong : ChangeSpec := { name := "bufferParts", fn := fun _ => fun
  | [d1, d2, d3] => { results := [.lit (.bool false)], args := [d1, d2, d3] }
  | _ => none }
def BufferPartsWrongFalsely : Prop := bufferPartsRow.holds Try.pinned (OpenSpec.ofChange bufferPartsWrong)

/-- 'taplinelaw22.BufferBytes': WHATEVER THE INPUT: true; the input reads as it did. -/
def bufferBytesSpec : ChangeSpec := { name := "bufferBytes", fn := fun _ => fun
  | [d1, d2] => { results := [.lit (.bool true)], args := [d1, d2] }
  | _ => none }
def bufferBytesRow : OpenClaim := { program := "ytdejapkfijdadaa", sum := "d6dc37b59f7484c424e5bc9be68c0ec3a17cb8851bae720f3c6b1ec1cbb16be1", func := "tapline/taplinelaw22.BufferBytes", spec := "bufferBytes", unfollowed := true, recurses := true, apart := false }
def BufferBytesSaid : Prop := bufferBytesRow.holds Try.pinned (OpenSpec.ofChange bufferBytesSpec)

/-- ITS FALSE NEIGHBOUR: 'it returns false'. Refute it at one input. -/
def bufferBytesWrong : ChangeSpec := { name := "bufferBytes", fn := fun _ => fun
  | [d1, d2] => { results := [.lit (.bool false)], args := [d1, d2] }
  | _ => none }
def BufferBytesWrongFalsely : Prop := bufferBytesRow.holds Try.pinned (OpenSpec.ofChange bufferBytesWrong)

/-- 'taplinelaw22.BufferDelivered': WHATEVER THE INPUT: true; the input reads as it did. -/
def bufferDeliveredSpec : ChangeSpec := { name := "bufferDelivered", fn := fun _ => fun
  | [d1, d2] => { results := [.lit (.bool true)], args := [d1, d2] }
  | _ => none }
def bufferDeliveredRow : OpenClaim := { program := "ytdejapkfijdadaa", sum := "d6dc37b59f7484c424e5bc9be68c0ec3a17cb8851bae720f3c6b1ec1cbb16be1", func := "tapline/taplinelaw22.BufferDelivered", spec := "bufferDelivered", unfollowed := true, recurses := true, apart := false }
def BufferDeliveredSaid : Prop := bufferDeliveredRow.holds Try.pinned (OpenSpec.ofChange bufferDeliveredSpec)

/-- ITS FALSE NEIGHBOUR: 'it returns false'. Refute it at one input. -/
def bufferDeliveredWrong : ChangeSpec := { name := "bufferDelivered", fn := fun _ => fun
  | [d1, d2] => { results := [.lit (.bool false)], args := [d1, d2] }
  | _ => none }
def BufferDeliveredWrongFalsely : Prop := bufferDeliveredRow.holds Try.pinned (OpenSpec.ofChange bufferDeliveredWrong)

/-- 'taplinelaw22.BufferValid': WHATEVER THE INPUT: true; the input reads as it did. -/
def bufferValidSpec : ChangeSpec := { name := "bufferValid", fn := fun _ => fun
  | [d1, d2, d3, d4] => { results := [.lit (.bool true)], args := [d1, d2, d3, d4] }
  | _ => none }
def bufferValidRow : OpenClaim := { program := "ytdejapkfijdadaa", sum := "d6dc37b59f7484c424e5bc9be68c0ec3a17cb8851bae720f3c6b1ec1cbb16be1", func := "tapline/taplinelaw22.BufferValid", spec := "bufferValid", unfollowed := true, recurses := true, apart := false }
def BufferValidSaid : Prop := bufferValidRow.holds Try.pinned (OpenSpec.ofChange bufferValidSpec)

/-- ITS FALSE NEIGHBOUR: 'it returns false'. Refute it at one input. -/
def bufferValidWrong : ChangeSpec := { name := "bufferValid", fn := fun _ => fun
  | [d1, d2, d3, d4] => { results := [.lit (.bool false)], args := [d1, d2, d3, d4] }
  | _ => none }
def BufferValidWrongFalsely : Prop := bufferValidRow.holds Try.pinned (OpenSpec.ofChange bufferValidWrong)

/-- 'taplinelaw22.BufferReadings': WHATEVER THE INPUT: true; the input reads as it did. -/
def bufferReadingsSpec : ChangeSpec := { name := "bufferReadings", fn := fun _ => fun
  | [d] => { results := [.lit (.bool true)], args := [d] }
  | _ => none }
def bufferReadingsRow : OpenClaim := { program := "ytdejapkfijdadaa", sum := "d6dc37b59f7484c424e5bc9be68c0ec3a17cb8851bae720f3c6b1ec1cbb16be1", func := "tapline/taplinelaw22.BufferReadings", spec := "bufferReadings", unfollowed := true, recurses := true, apart := false }
def BufferReadingsSaid : Prop := bufferReadingsRow.holds Try.pinned (OpenSpec.ofChange bufferReadingsSpec)

/-- ITS FALSE NEIGHBOUR: 'it returns false'. Refute it at one input. -/
def bufferReadingsWrong : ChangeSpec := { name := "bufferReadings", fn := fun _ => fun
  | [d] => { results := [.lit (.bool false)], args := [d] }
  | _ => none }
def BufferReadingsWrongFalsely : Prop := bufferReadingsRow.holds Try.pinned (OpenSpec.ofChange bufferReadingsWrong)

/-- 'taplinelaw22.BufferWrites': WHATEVER THE INPUT: true; the input reads as it did. -/
def bufferWritesSpec : ChangeSpec := { name := "bufferWrites", fn := fun _ => fun
  | [d1, d2] => { results := [.lit (.bool true)], args := [d1, d2] }
  | _ => none }
def bufferWritesRow : OpenClaim := { program := "ytdejapkfijdadaa", sum := "d6dc37b59f7484c424e5bc9be68c0ec3a17cb8851bae720f3c6b1ec1cbb16be1", func := "tapline/taplinelaw22.BufferWrites", spec := "bufferWrites", unfollowed := true, recurses := true, apart := false }
def BufferWritesSaid : Prop := bufferWritesRow.holds Try.pinned (OpenSpec.ofChange bufferWritesSpec)

/-- ITS FALSE NEIGHBOUR: 'it returns false'. Refute it at one input. -/
def bufferWritesWrong : ChangeSpec := { name := "bufferWrites", fn := fun _ => fun
  | [d1, d2] => { results := [.lit (.bool false)], args := [d1, d2] }
  | _ => none }
def BufferWritesWrongFalsely : Prop := bufferWritesRow.holds Try.pinned (OpenSpec.ofChange bufferWritesWrong)

/-- 'taplinelaw22.BufferFree': WHATEVER THE INPUT: true; the input reads as it did. -/
def bufferFreeSpec : ChangeSpec := { name := "bufferFree", fn := fun _ => fun
  | [d1, d2] => { results := [.lit (.bool true)], args := [d1, d2] }
  | _ => none }
def bufferFreeRow : OpenClaim := { program := "ytdejapkfijdadaa", sum := "d6dc37b59f7484c424e5bc9be68c0ec3a17cb8851bae720f3c6b1ec1cbb16be1", func := "tapline/taplinelaw22.BufferFree", spec := "bufferFree", unfollowed := true, recurses := true, apart := false }
def BufferFreeSaid : Prop := bufferFreeRow.holds Try.pinned (OpenSpec.ofChange bufferFreeSpec)

/-- ITS FALSE NEIGHBOUR: 'it returns false'. Refute it at one input. -/
def bufferFreeWrong : ChangeSpec := { name := "bufferFree", fn := fun _ => fun
  | [d1, d2] => { results := [.lit (.bool false)], args := [d1, d2] }
  | _ => none }
def BufferFreeWrongFalsely : Prop := bufferFreeRow.holds Try.pinned (OpenSpec.ofChange bufferFreeWrong)

/-- 'taplinelaw22.BufferReads': WHATEVER THE INPUT: true; the input reads as it did. -/
def bufferReadsSpec : ChangeSpec := { name := "bufferReads", fn := fun _ => fun
  | [d1, d2] => { results := [.lit (.bool true)], args := [d1, d2] }
  | _ => none }
def bufferReadsRow : OpenClaim := { program := "ytdejapkfijdadaa", sum := "d6dc37b59f7484c424e5bc9be68c0ec3a17cb8851bae720f3c6b1ec1cbb16be1", func := "tapline/taplinelaw22.BufferReads", spec := "bufferReads", unfollowed := true, recurses := true, apart := false }
def BufferReadsSaid : Prop := bufferReadsRow.holds Try.pinned (OpenSpec.ofChange bufferReadsSpec)

/-- ITS FALSE NEIGHBOUR: 'it returns false'. Refute it at one input. -/
def bufferReadsWrong : ChangeSpec := { name := "bufferReads", fn := fun _ => fun
  | [d1, d2] => { results := [.lit (.bool false)], args := [d1, d2] }
  | _ => none }
def BufferReadsWrongFalsely : Prop := bufferReadsRow.holds Try.pinned (OpenSpec.ofChange bufferReadsWrong)

/- THE SECOND FORM. 'bulk': how many values and letters a reading holds, each counted each time it is reached (what is shared counts as often as it is met; a slice's spare places count too). A statement '..UptoSaid' is the law's where the arguments, and the package variables that the reading takes, are together of bulk at most 1048576: NARROWER than '..Said'. Prove '..Said' where nothing that the law and all that it calls make is longer than what came in: it says more and counts as full. Else prove '..UptoSaid'. A law counts once. -/
mutual
def uptoBulk {H : Type} : DataW H → Nat
  | .lit (.string bytes) => bytes.length + 1
  | .lit _ => 1
  | .nil => 1
  | .ptr d => uptoBulk d + 1
  | .slice elems spare => uptoBulkAll elems + uptoBulkAll spare + 1
  | .agg parts => uptoBulkAll parts + 1
  | .iface _ d => uptoBulk d + 1
  | .map entries => uptoBulkEntries entries + 1
  | .held _ => 1
def uptoBulkAll {H : Type} : List (DataW H) → Nat
  | [] => 0
  | d :: r => uptoBulk d + uptoBulkAll r
def uptoBulkEntries {H : Type} : List (Lit × DataW H) → Nat
  | [] => 0
  | x :: r => uptoBulkEntry x + uptoBulkEntries r
def uptoBulkEntry {H : Type} : Lit × DataW H → Nat
  | (.string bytes, d) => bytes.length + uptoBulk d + 1
  | (_, d) => uptoBulk d + 1
 end
def uptoSmall : (H : Type) → List (DataW H) → Bool := fun _ ds => decide (uptoBulkAll ds ≤ 1048576)
def OpenSpec.upto (s : _root_.Go.ChangeSpec) : _root_.Go.OpenSpec := { _root_.Go.OpenSpec.ofChange s with cond := some uptoSmall }

/-- 'taplinelaw22.BufferSizes', WHERE WHAT IT READS IS OF BULK AT MOST 1048576: true; the input reads as it did. -/
def bufferSizesUptoRow : OpenClaim := { program := "ytdejapkfijdadaa", sum := "d6dc37b59f7484c424e5bc9be68c0ec3a17cb8851bae720f3c6b1ec1cbb16be1", func := "tapline/taplinelaw22.BufferSizes", spec := "bufferSizes", unfollowed := true, recurses := true, apart := false, narrowed := true }
def BufferSizesUptoSaid : Prop := bufferSizesUptoRow.holds Try.pinned (OpenSpec.upto bufferSizesSpec)

/-- 'taplinelaw22.BufferPrefix', WHERE WHAT IT READS IS OF BULK AT MOST 1048576: true; the input reads as it did. -/
def bufferPrefixUptoRow : OpenClaim := { program := "ytdejapkfijdadaa", sum := "d6dc37b59f7484c424e5bc9be68c0ec3a17cb8851bae720f3c6b1ec1cbb16be1", func := "tapline/taplinelaw22.BufferPrefix", spec := "bufferPrefix", unfollowed := true, recurses := true, apart := false, narrowed := true }
def BufferPrefixUptoSaid : Prop := bufferPrefixUptoRow.holds Try.pinned (OpenSpec.upto bufferPrefixSpec)

/-- 'taplinelaw22.BufferSuffix', WHERE WHAT IT READS IS OF BULK AT MOST 1048576: true; the input reads as it did. -/
def bufferSuffixUptoRow : OpenClaim := { program := "ytdejapkfijdadaa", sum := "d6dc37b59f7484c424e5bc9be68c0ec3a17cb8851bae720f3c6b1ec1cbb16be1", func := "tapline/taplinelaw22.BufferSuffix", spec := "bufferSuffix", unfollowed := true, recurses := true, apart := false, narrowed := true }
def BufferSuffixUptoSaid : Prop := bufferSuffixUptoRow.holds Try.pinned (OpenSpec.upto bufferSuffixSpec)

/-- 'taplinelaw22.BufferParts', WHERE WHAT IT READS IS OF BULK AT MOST 1048576: true; the input reads as it did. -/
def bufferPartsUptoRow : OpenClaim := { program := "ytdejapkfijdadaa", sum := "d6dc37b59f7484c424e5bc9be68c0ec3a17cb8851bae720f3c6b1ec1cbb16be1", func := "tapline/taplinelaw22.BufferParts", spec := "bufferParts", unfollowed := true, recurses := true, apart := false, narrowed := true }
def BufferPartsUptoSaid : Prop := bufferPartsUptoRow.holds Try.pinned (OpenSpec.upto bufferPartsSpec)

/-- 'taplinelaw22.BufferBytes', WHERE WHAT IT READS IS OF BULK AT MOST 1048576: true; the input reads as it did. -/
def bufferBytesUptoRow : OpenClaim := { program := "ytdejapkfijdadaa", sum := "d6dc37b59f7484c424e5bc9be68c0ec3a17cb8851bae720f3c6b1ec1cbb16be1", func := "tapline/taplinelaw22.BufferBytes", spec := "bufferBytes", unfollowed := true, recurses := true, apart := false, narrowed := true }
def BufferBytesUptoSaid : Prop := bufferBytesUptoRow.holds Try.pinned (OpenSpec.upto bufferBytesSpec)

/-- 'taplinelaw22.BufferDelivered', WHERE WHAT IT READS IS OF BULK AT MOST 1048576: true; the input reads as it did. -/
def bufferDeliveredUptoRow : OpenClaim := { program := "ytdejapkfijdadaa", sum := "d6dc37b59f7484c424e5bc9be68c0ec3a17cb8851bae720f3c6b1ec1cbb16be1", func := "tapline/taplinelaw22.BufferDelivered", spec := "bufferDelivered", unfollowed := true, recurses := true, apart := false, narrowed := true }
def BufferDeliveredUptoSaid : Prop := bufferDeliveredUptoRow.holds Try.pinned (OpenSpec.upto bufferDeliveredSpec)

/-- 'taplinelaw22.BufferValid', WHERE WHAT IT READS IS OF BULK AT MOST 1048576: true; the input reads as it did. -/
def bufferValidUptoRow : OpenClaim := { program := "ytdejapkfijdadaa", sum := "d6dc37b59f7484c424e5bc9be68c0ec3a17cb8851bae720f3c6b1ec1cbb16be1", func := "tapline/taplinelaw22.BufferValid", spec := "bufferValid", unfollowed := true, recurses := true, apart := false, narrowed := true }
def BufferValidUptoSaid : Prop := bufferValidUptoRow.holds Try.pinned (OpenSpec.upto bufferValidSpec)

/-- 'taplinelaw22.BufferReadings', WHERE WHAT IT READS IS OF BULK AT MOST 1048576: true; the input reads as it did. -/
def bufferReadingsUptoRow : OpenClaim := { program := "ytdejapkfijdadaa", sum := "d6dc37b59f7484c424e5bc9be68c0ec3a17cb8851bae720f3c6b1ec1cbb16be1", func := "tapline/taplinelaw22.BufferReadings", spec := "bufferReadings", unfollowed := true, recurses := true, apart := false, narrowed := true }
def BufferReadingsUptoSaid : Prop := bufferReadingsUptoRow.holds Try.pinned (OpenSpec.upto bufferReadingsSpec)

/-- 'taplinelaw22.BufferWrites', WHERE WHAT IT READS IS OF BULK AT MOST 1048576: true; the input reads as it did. -/
def bufferWritesUptoRow : OpenClaim := { program := "ytdejapkfijdadaa", sum := "d6dc37b59f7484c424e5bc9be68c0ec3a17cb8851bae720f3c6b1ec1cbb16be1", func := "tapline/taplinelaw22.BufferWrites", spec := "bufferWrites", unfollowed := true, recurses := true, apart := false, narrowed := true }
def BufferWritesUptoSaid : Prop := bufferWritesUptoRow.holds Try.pinned (OpenSpec.upto bufferWritesSpec)

/-- 'taplinelaw22.BufferFree', WHERE WHAT IT READS IS OF BULK AT MOST 1048576: true; the input reads as it did. -/
def bufferFreeUptoRow : OpenClaim := { program := "ytdejapkfijdadaa", sum := "d6dc37b59f7484c424e5bc9be68c0ec3a17cb8851bae720f3c6b1ec1cbb16be1", func := "tapline/taplinelaw22.BufferFree", spec := "bufferFree", unfollowed := true, recurses := true, apart := false, narrowed := true }
def BufferFreeUptoSaid : Prop := bufferFreeUptoRow.holds Try.pinned (OpenSpec.upto bufferFreeSpec)

/-- 'taplinelaw22.BufferReads', WHERE WHAT IT READS IS OF BULK AT MOST 1048576: true; the input reads as it did. -/
def bufferReadsUptoRow : OpenClaim := { program := "ytdejapkfijdadaa", sum := "d6dc37b59f7484c424e5bc9be68c0ec3a17cb8851bae720f3c6b1ec1cbb16be1", func := "tapline/taplinelaw22.BufferReads", spec := "bufferReads", unfollowed := true, recurses := true, apart := false, narrowed := true }
def BufferReadsUptoSaid : Prop := bufferReadsUptoRow.holds Try.pinned (OpenSpec.upto bufferReadsSpec)

end Rows
end Go.Proofs.Ytdejapkfijdadaa
