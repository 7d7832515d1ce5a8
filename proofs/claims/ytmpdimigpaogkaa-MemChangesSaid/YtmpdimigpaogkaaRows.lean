/-
  No cell of these rows narrows 'for every input' (looked for: loops, veiled, ifaces, maps, wideKeys, modest, calm, conditions, laid).
  DERIVED. THE GIVEN ROWS OF THIS SEAT. 11 by the template 'for every input the law returns true; each argument reads behind the call as it read before'; 0 by the template 'total and deterministic' (their statements: YtmpdimigpaogkaaTotals.lean).
  GIVEN WITH THE SEED: the statements are not yours to turn. If you find one false, say at which input.
  Laid BY PROGRAM, IN A SANDBOX (cutbox-rows.mjs): the forced cells as the released guide's own fill.sh prints them over the translation d407e4a5c49fc104… (all of the seat's roots in one cut). By AI agents, Wed Nov 11 2026. No macro, syntax, notation, axiom, sorry.
-/
import Derived.Test.YtmpdimigpaogkaaChecked
import GoSem.Claim
import GoSem.ClaimJoined
import GoSem.ClaimMapViews
import Derived.JoinedTies
import Derived.KernelRfl
namespace Go.Proofs.Ytmpdimigpaogkaa
/- THE CELL 'sum', in the pinned program and in every row, IS THE sha256 OF THE DUMP (.gsa) THAT YtmpdimigpaogkaaProg.lean LOADS. Nothing in Lean hashes anything: it is a label: what it is worth is what the hold of that sum in a sandbox is worth. -/
noncomputable def Try.pinned : Pinned := { name := "ytmpdimigpaogkaa", sum := "d407e4a5c49fc104bd85d8bf2aebebb9c0d275dc3826adadea31bc220ff1f077", checked := Try.checked }
namespace Rows
def none {H : Type} : Left H := { results := [], args := [] }

/-- 'taplinelaw03.MemFaults': WHATEVER THE INPUT: true; the input reads as it did. -/
def memFaultsSpec : ChangeSpec := { name := "memFaults", fn := fun _ => fun
  | [d1, d2, d3] => { results := [.lit (.bool true)], args := [d1, d2, d3] }
  | _ => none }
def memFaultsRow : OpenClaim := { program := "ytmpdimigpaogkaa", sum := "d407e4a5c49fc104bd85d8bf2aebebb9c0d275dc3826adadea31bc220ff1f077", func := "tapline/taplinelaw03.MemFaults", spec := "memFaults", unfollowed := true, recurses := true, plainKeys := false, apart := false }
def MemFaultsSaid : Prop := memFaultsRow.holds Try.pinned (OpenSpec.ofChange memFaultsSpec)

/-- ITS FALSE NEIGHBOUR: 'it returns false'. Refute it at one input. -/
def memFaultsWrong : ChangeSpec := { name := "memFaults", fn := fun _ => fun
  | [d1, d2, d3] => { results := [.lit (.bool false)], args := [d1, d2, d3] }
  | _ => none }
def MemFaultsWrongFalsely : Prop := memFaultsRow.holds Try.pinned (OpenSpec.ofChange memFaultsWrong)

/-- 'taplinelaw03.MemCode': WHATEVER THE INPUT: true; the input reads as it did. -/
def memCodeSpec : ChangeSpec := { name := "memCode", fn := fun _ => fun
  | [d1, d2, d3] => { results := [.lit (.bool true)], args := [d1, d2, d3] }
  | _ => none }
def memCodeRow : OpenClaim := { program := "ytmpdimigpaogkaa", sum := "d407e4a5c49fc104bd85d8bf2aebebb9c0d275dc3826adadea31bc220ff1f077", func := "tapline/taplinelaw03.MemCode", spec := "memCode", unfollowed := true, recurses := true, plainKeys := false, apart := false }
def MemCodeSaid : Prop := memCodeRow.holds Try.pinned (OpenSpec.ofChange memCodeSpec)

/-- ITS FALSE NEIGHBOUR: 'it returns false'. Refute it at one input. -/
def memCodeWrong : ChangeSpec := { name := "memCode", fn := fun _ => fun
  | [d1, d2, d3] => { results := [.lit (.bool false)], args := [d1, d2, d3] }
  | _ => none }
def MemCodeWrongFalsely : Prop := memCodeRow.holds Try.pinned (OpenSpec.ofChange memCodeWrong)

/-- 'taplinelaw03.MemSpaces': WHATEVER THE INPUT: true; the input reads as it did. -/
def memSpacesSpec : ChangeSpec := { name := "memSpaces", fn := fun _ => fun
  | [d1, d2, d3] => { results := [.lit (.bool true)], args := [d1, d2, d3] }
  | _ => none }
def memSpacesRow : OpenClaim := { program := "ytmpdimigpaogkaa", sum := "d407e4a5c49fc104bd85d8bf2aebebb9c0d275dc3826adadea31bc220ff1f077", func := "tapline/taplinelaw03.MemSpaces", spec := "memSpaces", unfollowed := true, recurses := true, plainKeys := false, apart := false }
def MemSpacesSaid : Prop := memSpacesRow.holds Try.pinned (OpenSpec.ofChange memSpacesSpec)

/-- ITS FALSE NEIGHBOUR: 'it returns false'. Refute it at one input. -/
def memSpacesWrong : ChangeSpec := { name := "memSpaces", fn := fun _ => fun
  | [d1, d2, d3] => { results := [.lit (.bool false)], args := [d1, d2, d3] }
  | _ => none }
def MemSpacesWrongFalsely : Prop := memSpacesRow.holds Try.pinned (OpenSpec.ofChange memSpacesWrong)

/-- 'taplinelaw03.MemApart': WHATEVER THE INPUT: true; the input reads as it did. -/
def memApartSpec : ChangeSpec := { name := "memApart", fn := fun _ => fun
  | [d1, d2, d3] => { results := [.lit (.bool true)], args := [d1, d2, d3] }
  | _ => none }
def memApartRow : OpenClaim := { program := "ytmpdimigpaogkaa", sum := "d407e4a5c49fc104bd85d8bf2aebebb9c0d275dc3826adadea31bc220ff1f077", func := "tapline/taplinelaw03.MemApart", spec := "memApart", unfollowed := true, recurses := true, plainKeys := false, apart := false }
def MemApartSaid : Prop := memApartRow.holds Try.pinned (OpenSpec.ofChange memApartSpec)

/-- ITS FALSE NEIGHBOUR: 'it returns false'. Refute it at one input. -/
def memApartWrong : ChangeSpec := { name := "memApart", fn := fun _ => fun
  | [d1, d2, d3] => { results := [.lit (.bool false)], args := [d1, d2, d3] }
  | _ => none }
def MemApartWrongFalsely : Prop := memApartRow.holds Try.pinned (OpenSpec.ofChange memApartWrong)

/-- 'taplinelaw03.MemHalves': WHATEVER THE INPUT: true; the input reads as it did. -/
def memHalvesSpec : ChangeSpec := { name := "memHalves", fn := fun _ => fun
  | [d1, d2] => { results := [.lit (.bool true)], args := [d1, d2] }
  | _ => none }
def memHalvesRow : OpenClaim := { program := "ytmpdimigpaogkaa", sum := "d407e4a5c49fc104bd85d8bf2aebebb9c0d275dc3826adadea31bc220ff1f077", func := "tapline/taplinelaw03.MemHalves", spec := "memHalves", unfollowed := true, recurses := true, plainKeys := false, apart := false }
def MemHalvesSaid : Prop := memHalvesRow.holds Try.pinned (OpenSpec.ofChange memHalvesSpec)

/-- ITS FALSE NEIGHBOUR: 'it returns false'. Refute it at one input. -/
def memHalvesWrong : ChangeSpec := { name := "memHalves", fn := fun _ => fun
  | [d1, d2] => { results := [.lit (.bool false)], args := [d1, d2] }
  | _ => none }
def MemHalvesWrongFalsely : Prop := memHalvesRow.holds Try.pinned (OpenSpec.ofChange memHalvesWrong)

/-- 'taplinelaw03.MemMoves': WHATEVER THE INPUT: true; the input reads as it did. -/
def memMovesSpec : ChangeSpec := { name := "memMoves", fn := fun _ => fun
  | [d1, d2, d3] => { results := [.lit (.bool true)], args := [d1, d2, d3] }
  | _ => none }
def memMovesRow : OpenClaim := { program := "ytmpdimigpaogkaa", sum := "d407e4a5c49fc104bd85d8bf2aebebb9c0d275dc3826adadea31bc220ff1f077", func := "tapline/taplinelaw03.MemMoves", spec := "memMoves", unfollowed := true, recurses := true, plainKeys := false, apart := false }
def MemMovesSaid : Prop := memMovesRow.holds Try.pinned (OpenSpec.ofChange memMovesSpec)

/-- ITS FALSE NEIGHBOUR: 'it returns false'. Refute it at one input. -/
def memMovesWrong : ChangeSpec := { name := "memMoves", fn := fun _ => fun
  | [d1, d2, d3] => { results := [.lit (.bool false)], args := [d1, d2, d3] }
  | _ => none }
def MemMovesWrongFalsely : Prop := memMovesRow.holds Try.pinned (OpenSpec.ofChange memMovesWrong)

/-- 'taplinelaw03.MemStrings': WHATEVER THE INPUT: true; the input reads as it did. -/
def memStringsSpec : ChangeSpec := { name := "memStrings", fn := fun _ => fun
  | [d1, d2] => { results := [.lit (.bool true)], args := [d1, d2] }
  | _ => none }
def memStringsRow : OpenClaim := { program := "ytmpdimigpaogkaa", sum := "d407e4a5c49fc104bd85d8bf2aebebb9c0d275dc3826adadea31bc220ff1f077", func := "tapline/taplinelaw03.MemStrings", spec := "memStrings", unfollowed := true, recurses := true, plainKeys := false, apart := false }
def MemStringsSaid : Prop := memStringsRow.holds Try.pinned (OpenSpec.ofChange memStringsSpec)

/-- ITS FALSE NEIGHBOUR: 'it returns false'. Refute it at one input. -/
def memStringsWrong : ChangeSpec := { name := "memStrings", fn := fun _ => fun
  | [d1, d2] => { results := [.lit (.bool false)], args := [d1, d2] }
  | _ => none }
def MemStringsWrongFalsely : Prop := memStringsRow.holds Try.pinned (OpenSpec.ofChange memStringsWrong)

/-- 'taplinelaw03.MemReads': WHATEVER THE INPUT: true; the input reads as it did. -/
def memReadsSpec : ChangeSpec := { name := "memReads", fn := fun _ => fun
  | [d1, d2] => { results := [.lit (.bool true)], args := [d1, d2] }
  | _ => none }
def memReadsRow : OpenClaim := { program := "ytmpdimigpaogkaa", sum := "d407e4a5c49fc104bd85d8bf2aebebb9c0d275dc3826adadea31bc220ff1f077", func := "tapline/taplinelaw03.MemReads", spec := "memReads", unfollowed := true, recurses := true, plainKeys := false, apart := false }
def MemReadsSaid : Prop := memReadsRow.holds Try.pinned (OpenSpec.ofChange memReadsSpec)

/-- ITS FALSE NEIGHBOUR: 'it returns false'. Refute it at one input. -/
def memReadsWrong : ChangeSpec := { name := "memReads", fn := fun _ => fun
  | [d1, d2] => { results := [.lit (.bool false)], args := [d1, d2] }
  | _ => none }
def MemReadsWrongFalsely : Prop := memReadsRow.holds Try.pinned (OpenSpec.ofChange memReadsWrong)

/-- 'taplinelaw03.MemDiffs': WHATEVER THE INPUT: true; the input reads as it did. -/
def memDiffsSpec : ChangeSpec := { name := "memDiffs", fn := fun _ => fun
  | [d1, d2] => { results := [.lit (.bool true)], args := [d1, d2] }
  | _ => none }
def memDiffsRow : OpenClaim := { program := "ytmpdimigpaogkaa", sum := "d407e4a5c49fc104bd85d8bf2aebebb9c0d275dc3826adadea31bc220ff1f077", func := "tapline/taplinelaw03.MemDiffs", spec := "memDiffs", unfollowed := true, recurses := true, plainKeys := false, apart := false }
def MemDiffsSaid : Prop := memDiffsRow.holds Try.pinned (OpenSpec.ofChange memDiffsSpec)

/-- ITS FALSE NEIGHBOUR: 'it returns false'. Refute it at one input. -/
def memDiffsWrong : ChangeSpec := { name := "memDiffs", fn := fun _ => fun
  | [d1, d2] => { results := [.lit (.bool false)], args := [d1, d2] }
  | _ => none }
def MemDiffsWrongFalsely : Prop := memDiffsRow.holds Try.pinned (OpenSpec.ofChange memDiffsWrong)

/-- 'taplinelaw03.MemStored': WHATEVER THE INPUT: true; the input reads as it did. -/
def memStoredSpec : ChangeSpec := { name := "memStored", fn := fun _ => fun
  | [d1, d2, d3] => { results := [.lit (.bool true)], args := [d1, d2, d3] }
  | _ => none }
def memStoredRow : OpenClaim := { program := "ytmpdimigpaogkaa", sum := "d407e4a5c49fc104bd85d8bf2aebebb9c0d275dc3826adadea31bc220ff1f077", func := "tapline/taplinelaw03.MemStored", spec := "memStored", unfollowed := true, recurses := true, plainKeys := false, apart := false }
def MemStoredSaid : Prop := memStoredRow.holds Try.pinned (OpenSpec.ofChange memStoredSpec)

/-- ITS FALSE NEIGHBOUR: 'it returns false'. Refute it at one input. -/
def memStoredWrong : ChangeSpec := { name := "memStored", fn := fun _ => fun
  | [d1, d2, d3] => { results := [.lit (.bool false)], args := [d1, d2, d3] }
  | _ => none }
def MemStoredWrongFalsely : Prop := memStoredRow.holds Try.pinned (OpenSpec.ofChange memStoredWrong)

/-- 'taplinelaw03.MemChanges': WHATEVER THE INPUT: true; the input reads as it did. -/
def memChangesSpec : ChangeSpec := { name := "memChanges", fn := fun _ => fun
  | [d1, d2] => { results := [.lit (.bool true)], args := [d1, d2] }
  | _ => none }
def memChangesRow : OpenClaim := { program := "ytmpdimigpaogkaa", sum := "d407e4a5c49fc104bd85d8bf2aebebb9c0d275dc3826adadea31bc220ff1f077", func := "tapline/taplinelaw03.MemChanges", spec := "memChanges", unfollowed := true, recurses := true, plainKeys := false, apart := false }
def MemChangesSaid : Prop := memChangesRow.holds Try.pinned (OpenSpec.ofChange memChangesSpec)

/-- ITS FALSE NEIGHBOUR: 'it returns false'. Refute it at one input. -/
def memChangesWrong : ChangeSpec := { name := "memChanges", fn := fun _ => fun
  | [d1, d2] => { results := [.lit (.bool false)], args := [d1, d2] }
  | _ => none }
def MemChangesWrongFalsely : Prop := memChangesRow.holds Try.pinned (OpenSpec.ofChange memChangesWrong)

/- THE SECOND FORM. 'bulk': how many values and letters a reading holds, each counted each time it is reached (what is shared counts as often as it is met; a slice's spare places count too). A statement '..UptoSaid' is the law's where the arguments, and the package variables that the reading takes, are together of bulk at most 1048576: NARROWER than '..Said'. Prove '..Said' where nothing that the law and all that it calls make is longer than what came in: it says more and counts as full. Else prove '..UptoSaid'. A law counts once. -/
mutual
def uptoBulk {H : Type} : DataW H → Nat
  | .lit (.string bytes) => bytes.length + 1
  | .lit _ => 1
  | .nil => 1
  | .ptr d => uptoBulk d + 1
  | .slice elems spare => uptoBulkAll elems + uptoBulkAll spare + 1
  | .agg parts => uptoBulkAll parts + 1
  | .iface _ d => uptoBulk d + 1
  | .map entries => uptoBulkEntries entries + 1
  | .held _ => 1
def uptoBulkAll {H : Type} : List (DataW H) → Nat
  | [] => 0
  | d :: r => uptoBulk d + uptoBulkAll r
def uptoBulkEntries {H : Type} : List (Lit × DataW H) → Nat
  | [] => 0
  | x :: r => uptoBulkEntry x + uptoBulkEntries r
def uptoBulkEntry {H : Type} : Lit × DataW H → Nat
  | (.string bytes, d) => bytes.length + uptoBulk d + 1
  | (_, d) => uptoBulk d + 1
 end
def uptoSmall : (H : Type) → List (DataW H) → Bool := fun _ ds => decide (uptoBulkAll ds ≤ 1048576)
def OpenSpec.upto (s : _root_.Go.ChangeSpec) : _root_.Go.OpenSpec := { _root_.Go.OpenSpec.ofChange s with cond := some uptoSmall }

/-- 'taplinelaw03.MemFaults', WHERE WHAT IT READS IS OF BULK AT MOST 1048576: true; the input reads as it did. -/
def memFaultsUptoRow : OpenClaim := { program := "ytmpdimigpaogkaa", sum := "d407e4a5c49fc104bd85d8bf2aebebb9c0d275dc3826adadea31bc220ff1f077", func := "tapline/taplinelaw03.MemFaults", spec := "memFaults", unfollowed := true, recurses := true, plainKeys := false, apart := false, narrowed := true }
def MemFaultsUptoSaid : Prop := memFaultsUptoRow.holds Try.pinned (OpenSpec.upto memFaultsSpec)

/-- 'taplinelaw03.MemCode', WHERE WHAT IT READS IS OF BULK AT MOST 1048576: true; the input reads as it did. -/
def memCodeUptoRow : OpenClaim := { program := "ytmpdimigpaogkaa", sum := "d407e4a5c49fc104bd85d8bf2aebebb9c0d275dc3826adadea31bc220ff1f077", func := "tapline/taplinelaw03.MemCode", spec := "memCode", unfollowed := true, recurses := true, plainKeys := false, apart := false, narrowed := true }
def MemCodeUptoSaid : Prop := memCodeUptoRow.holds Try.pinned (OpenSpec.upto memCodeSpec)

/-- 'taplinelaw03.MemSpaces', WHERE WHAT IT READS IS OF BULK AT MOST 1048576: true; the input reads as it did. -/
def memSpacesUptoRow : OpenClaim := { program := "ytmpdimigpaogkaa", sum := "d407e4a5c49fc104bd85d8bf2aebebb9c0d275dc3826adadea31bc220ff1f077", func := "tapline/taplinelaw03.MemSpaces", spec := "memSpaces", unfollowed := true, recurses := true, plainKeys := false, apart := false, narrowed := true }
def MemSpacesUptoSaid : Prop := memSpacesUptoRow.holds Try.pinned (OpenSpec.upto memSpacesSpec)

/-- 'taplinelaw03.MemApart', WHERE WHAT IT READS IS OF BULK AT MOST 1048576: true; the input reads as it did. -/
def memApartUptoRow : OpenClaim := { program := "ytmpdimigpaogkaa", sum := "d407e4a5c49fc104bd85d8bf2aebebb9c0d275dc3826adadea31bc220ff1f077", func := "tapline/taplinelaw03.MemApart", spec := "memApart", unfollowed := true, recurses := true, plainKeys := false, apart := false, narrowed := true }
def MemApartUptoSaid : Prop := memApartUptoRow.holds Try.pinned (OpenSpec.upto memApartSpec)

/-- 'taplinelaw03.MemHalves', WHERE WHAT IT READS IS OF BULK AT MOST 1048576: true; the input reads as it did. -/
def memHalvesUptoRow : OpenClaim := { program := "ytmpdimigpaogkaa", sum := "d407e4a5c49fc104bd85d8bf2aebebb9c0d275dc3826adadea31bc220ff1f077", func := "tapline/taplinelaw03.MemHalves", spec := "memHalves", unfollowed := true, recurses := true, plainKeys := false, apart := false, narrowed := true }
def MemHalvesUptoSaid : Prop := memHalvesUptoRow.holds Try.pinned (OpenSpec.upto memHalvesSpec)

/-- 'taplinelaw03.MemMoves', WHERE WHAT IT READS IS OF BULK AT MOST 1048576: true; the input reads as it did. -/
def memMovesUptoRow : OpenClaim := { program := "ytmpdimigpaogkaa", sum := "d407e4a5c49fc104bd85d8bf2aebebb9c0d275dc3826adadea31bc220ff1f077", func := "tapline/taplinelaw03.MemMoves", spec := "memMoves", unfollowed := true, recurses := true, plainKeys := false, apart := false, narrowed := true }
def MemMovesUptoSaid : Prop := memMovesUptoRow.holds Try.pinned (OpenSpec.upto memMovesSpec)

/-- 'taplinelaw03.MemStrings', WHERE WHAT IT READS IS OF BULK AT MOST 1048576: true; the input reads as it did. -/
def memStringsUptoRow : OpenClaim := { program := "ytmpdimigpaogkaa", sum := "d407e4a5c49fc104bd85d8bf2aebebb9c0d275dc3826adadea31bc220ff1f077", func := "tapline/taplinelaw03.MemStrings", spec := "memStrings", unfollowed := true, recurses := true, plainKeys := false, apart := false, narrowed := true }
def MemStringsUptoSaid : Prop := memStringsUptoRow.holds Try.pinned (OpenSpec.upto memStringsSpec)

/-- 'taplinelaw03.MemReads', WHERE WHAT IT READS IS OF BULK AT MOST 1048576: true; the input reads as it did. -/
def memReadsUptoRow : OpenClaim := { program := "ytmpdimigpaogkaa", sum := "d407e4a5c49fc104bd85d8bf2aebebb9c0d275dc3826adadea31bc220ff1f077", func := "tapline/taplinelaw03.MemReads", spec := "memReads", unfollowed := true, recurses := true, plainKeys := false, apart := false, narrowed := true }
def MemReadsUptoSaid : Prop := memReadsUptoRow.holds Try.pinned (OpenSpec.upto memReadsSpec)

/-- 'taplinelaw03.MemDiffs', WHERE WHAT IT READS IS OF BULK AT MOST 1048576: true; the input reads as it did. -/
def memDiffsUptoRow : OpenClaim := { program := "ytmpdimigpaogkaa", sum := "d407e4a5c49fc104bd85d8bf2aebebb9c0d275dc3826adadea31bc220ff1f077", func := "tapline/taplinelaw03.MemDiffs", spec := "memDiffs", unfollowed := true, recurses := true, plainKeys := false, apart := false, narrowed := true }
def MemDiffsUptoSaid : Prop := memDiffsUptoRow.holds Try.pinned (OpenSpec.upto memDiffsSpec)

/-- 'taplinelaw03.MemStored', WHERE WHAT IT READS IS OF BULK AT MOST 1048576: true; the input reads as it did. -/
def memStoredUptoRow : OpenClaim := { program := "ytmpdimigpaogkaa", sum := "d407e4a5c49fc104bd85d8bf2aebebb9c0d275dc3826adadea31bc220ff1f077", func := "tapline/taplinelaw03.MemStored", spec := "memStored", unfollowed := true, recurses := true, plainKeys := false, apart := false, narrowed := true }
def MemStoredUptoSaid : Prop := memStoredUptoRow.holds Try.pinned (OpenSpec.upto memStoredSpec)

/-- 'taplinelaw03.MemChanges', WHERE WHAT IT READS IS OF BULK AT MOST 1048576: true; the input reads as it did. -/
def memChangesUptoRow : OpenClaim := { program := "ytmpdimigpaogkaa", sum := "d407e4a5c49fc104bd85d8bf2aebebb9c0d275dc3826adadea31bc220ff1f077", func := "tapline/taplinelaw03.MemChanges", spec := "memChanges", unfollowed := true, recurses := true, plainKeys := false, apart := false, narrowed := true }
def MemChangesUptoSaid : Prop := memChangesUptoRow.holds Try.pinned (OpenSpec.upto memChangesSpec)

end Rows
end Go.Proofs.Ytmpdimigpaogkaa
