/-
  No cell of these rows narrows 'for every input' (looked for: loops, veiled, ifaces, maps, wideKeys, modest, calm, conditions, laid).
  DERIVED. THE GIVEN ROWS OF THIS SEAT. 7 by the template 'for every input the law returns true; each argument reads behind the call as it read before'; 0 by the template 'total and deterministic' (their statements: YtmofhbedamjblaaTotals.lean).
  GIVEN WITH THE SEED: the statements are not yours to turn. If you find one false, say at which input.
  Laid BY PROGRAM, IN A SANDBOX (cutbox-rows.mjs): the forced cells as the released guide's own fill.sh prints them over the translation 844926d2eb0abf32… (all of the seat's roots in one cut). By AI agents, Wed Nov 11 2026. No macro, syntax, notation, axiom, sorry.
-/
import Derived.Test.YtmofhbedamjblaaChecked
import GoSem.Claim
import GoSem.ClaimJoined
import GoSem.ClaimMapViews
import Derived.JoinedTies
import Derived.KernelRfl
namespace Go.Proofs.Ytmofhbedamjblaa
/- THE CELL 'sum', in the pinned program and in every row, IS THE sha256 OF THE DUMP (.gsa) THAT YtmofhbedamjblaaProg.lean LOADS. Nothing in Lean hashes anything: it is a label: what it is worth is what the hold of that sum in a sandbox is worth. -/
noncomputable def Try.pinned : Pinned := { name := "ytmofhbedamjblaa", sum := "844926d2eb0abf32a0f7b3c702ac2272570a3b3d162f99d89eb78f8bcc37832f", checked := Try.checked }
namespace Rows
def none {H : Type} : Left H := { results := [], args := [] }

/-- 'taplinelaw21.AggrBuckets': WHATEVER THE INPUT: true; the input reads as it did. -/
def aggrBucketsSpec : ChangeSpec := { name := "aggrBuckets", fn := fun _ => fun
  | [d1, d2, d3] => { results := [.lit (.bool true)], args := [d1, d2, d3] }
  | _ => none }
def aggrBucketsRow : OpenClaim := { program := "ytmofhbedamjblaa", sum := "844926d2eb0abf32a0f7b3c702ac2272570a3b3d162f99d89eb78f8bcc37832f", func := "tapline/taplinelaw21.AggrBuckets", spec := "aggrBuckets", inPlace := ["math/bits.Add64"], unfollowed := true, recurses := true, named := ["math/bits.divideError", "math/bits.overflowError"], apart := false }
def AggrBucketsSaid : Prop := aggrBucketsRow.holds Try.pinned (OpenSpec.ofChange aggrBucketsSpec)

/-- ITS FALSE NEIGHBOUR: 'it returns false'. Refute it at one input. -/
def aggrBucketsWrong : ChangeSpec := { name := "aggrBuckets", fn := fun _ => fun
  | [d1, d2, d3] => { results := [.lit (.bool false)], args := [d1, d2, d3] }
  | _ => none }
def AggrBucketsWrongFalsely : Prop := aggrBucketsRow.holds Try.pinned (OpenSpec.ofChange aggrBucketsWrong)

/-- 'taplinelaw21.AggrWithin': WHATEVER THE INPUT: true; the input reads as it did. -/
def aggrWithinSpec : ChangeSpec := { name := "aggrWithin", fn := fun _ => fun
  | [d1, d2] => { results := [.lit (.bool true)], args := [d1, d2] }
  | _ => none }
def aggrWithinRow : OpenClaim := { program := "ytmofhbedamjblaa", sum := "844926d2eb0abf32a0f7b3c702ac2272570a3b3d162f99d89eb78f8bcc37832f", func := "tapline/taplinelaw21.AggrWithin", spec := "aggrWithin", inPlace := ["math/bits.Add64"], unfollowed := true, recurses := true, named := ["math/bits.divideError", "math/bits.overflowError"], apart := false }
def AggrWithinSaid : Prop := aggrWithinRow.holds Try.pinned (OpenSpec.ofChange aggrWithinSpec)

/-- ITS FALSE NEIGHBOUR: 'it returns false'. Refute it at one input. -/
def aggrWithinWrong : ChangeSpec := { name := "aggrWithin", fn := fun _ => fun
  | [d1, d2] => { results := [.lit (.bool false)], args := [d1, d2] }
  | _ => none }
def AggrWithinWrongFalsely : Prop := aggrWithinRow.holds Try.pinned (OpenSpec.ofChange aggrWithinWrong)

/-- 'taplinelaw21.AggrNumbers': WHATEVER THE INPUT: true; the input reads as it did. -/
def aggrNumbersSpec : ChangeSpec := { name := "aggrNumbers", fn := fun _ => fun
  | [d1, d2] => { results := [.lit (.bool true)], args := [d1, d2] }
  | _ => none }
def aggrNumbersRow : OpenClaim := { program := "ytmofhbedamjblaa", sum := "844926d2eb0abf32a0f7b3c702ac2272570a3b3d162f99d89eb78f8bcc37832f", func := "tapline/taplinelaw21.AggrNumbers", spec := "aggrNumbers", inPlace := ["math/bits.Add64"], unfollowed := true, recurses := true, named := ["math/bits.divideError", "math/bits.overflowError"], apart := false }
def AggrNumbersSaid : Prop := aggrNumbersRow.holds Try.pinned (OpenSpec.ofChange aggrNumbersSpec)

/-- ITS FALSE NEIGHBOUR: 'it returns false'. Refute it at one input. -/
def aggrNumbersWrong : ChangeSpec := { name := "aggrNumbers", fn := fun _ => fun
  | [d1, d2] => { results := [.lit (.bool false)], args := [d1, d2] }
  | _ => none }
def AggrNumbersWrongFalsely : Prop := aggrNumbersRow.holds Try.pinned (OpenSpec.ofChange aggrNumbersWrong)

/-- 'taplinelaw21.AggrNormal': WHATEVER THE INPUT: true; the input reads as it did. -/
def aggrNormalSpec : ChangeSpec := { name := "aggrNormal", fn := fun _ => fun
  | [d1, d2, d3] => { results := [.lit (.bool true)], args := [d1, d2, d3] }
  | _ => none }
def aggrNormalRow : OpenClaim := { program := "ytmofhbedamjblaa", sum := "844926d2eb0abf32a0f7b3c702ac2272570a3b3d162f99d89eb78f8bcc37832f", func := "tapline/taplinelaw21.AggrNormal", spec := "aggrNormal", inPlace := ["math/bits.Add64"], unfollowed := true, recurses := true, named := ["math/bits.divideError", "math/bits.overflowError"], apart := false }
def AggrNormalSaid : Prop := aggrNormalRow.holds Try.pinned (OpenSpec.ofChange aggrNormalSpec)

/-- ITS FALSE NEIGHBOUR: 'it returns false'. Refute it at one input. -/
def aggrNormalWrong : ChangeSpec := { name := "aggrNormal", fn := fun _ => fun
  | [d1, d2, d3] => { results := [.lit (.bool false)], args := [d1, d2, d3] }
  | _ => none }
def AggrNormalWrongFalsely : Prop := aggrNormalRow.holds Try.pinned (OpenSpec.ofChange aggrNormalWrong)

/-- 'taplinelaw21.AggrAny': WHATEVER THE INPUT: true; the input reads as it did. -/
def aggrAnySpec : ChangeSpec := { name := "aggrAny", fn := fun _ => fun
  | [d1, d2, d3] => { results := [.lit (.bool true)], args := [d1, d2, d3] }
  | _ => none }
def aggrAnyRow : OpenClaim := { program := "ytmofhbedamjblaa", sum := "844926d2eb0abf32a0f7b3c702ac2272570a3b3d162f99d89eb78f8bcc37832f", func := "tapline/taplinelaw21.AggrAny", spec := "aggrAny", inPlace := ["math/bits.Add64"], unfollowed := true, recurses := true, named := ["math/bits.divideError", "math/bits.overflowError"], apart := false }
def AggrAnySaid : Prop := aggrAnyRow.holds Try.pinned (OpenSpec.ofChange aggrAnySpec)

/-- ITS FALSE NEIGHBOUR: 'it returns false'. Refute it at one input. -/
def aggrAnyWrong : ChangeSpec := { name := "aggrAny", fn := fun _ => fun
  | [d1, d2, d3] => { results := [.lit (.bool false)], args := [d1, d2, d3] }
  | _ => none }
def AggrAnyWrongFalsely : Prop := aggrAnyRow.holds Try.pinned (OpenSpec.ofChange aggrAnyWrong)

/-- 'taplinelaw21.AggrMerged': WHATEVER THE INPUT: true; the input reads as it did. -/
def aggrMergedSpec : ChangeSpec := { name := "aggrMerged", fn := fun _ => fun
  | [d1, d2] => { results := [.lit (.bool true)], args := [d1, d2] }
  | _ => none }
def aggrMergedRow : OpenClaim := { program := "ytmofhbedamjblaa", sum := "844926d2eb0abf32a0f7b3c702ac2272570a3b3d162f99d89eb78f8bcc37832f", func := "tapline/taplinelaw21.AggrMerged", spec := "aggrMerged", inPlace := ["math/bits.Add64"], unfollowed := true, recurses := true, named := ["math/bits.divideError", "math/bits.overflowError"], apart := false }
def AggrMergedSaid : Prop := aggrMergedRow.holds Try.pinned (OpenSpec.ofChange aggrMergedSpec)

/-- ITS FALSE NEIGHBOUR: 'it returns false'. Refute it at one input. -/
def aggrMergedWrong : ChangeSpec := { name := "aggrMerged", fn := fun _ => fun
  | [d1, d2] => { results := [.lit (.bool false)], args := [d1, d2] }
  | _ => none }
def AggrMergedWrongFalsely : Prop := aggrMergedRow.holds Try.pinned (OpenSpec.ofChange aggrMergedWrong)

/-- 'taplinelaw21.AggrTogether': WHATEVER THE INPUT: true; the input reads as it did. -/
def aggrTogetherSpec : ChangeSpec := { name := "aggrTogether", fn := fun _ => fun
  | [d1, d2] => { results := [.lit (.bool true)], args := [d1, d2] }
  | _ => none }
def aggrTogetherRow : OpenClaim := { program := "ytmofhbedamjblaa", sum := "844926d2eb0abf32a0f7b3c702ac2272570a3b3d162f99d89eb78f8bcc37832f", func := "tapline/taplinelaw21.AggrTogether", spec := "aggrTogether", inPlace := ["math/bits.Add64", "internal/bytealg.IndexByteString", "internal/bytealg.abigen_runtime_cmpstring", "slices.overlaps[tapline/api.AggCell]"], unfollowed := true, recurses := true, named := ["math/bits.divideError", "math/bits.overflowError"], apart := false }
def AggrTogetherSaid : Prop := aggrTogetherRow.holds Try.pinned (OpenSpec.ofChange aggrTogetherSpec)

/-- ITS FALSE NEIGHBOUR: 'it returns false'. Refute it at one input. -/
def aggrTogetherWrong : ChangeSpec := { name := "aggrTogether", fn := fun _ => fun
  | [d1, d2] => { results := [.lit (.bool false)], args := [d1, d2] }
  | _ => none }
def AggrTogetherWrongFalsely : Prop := aggrTogetherRow.holds Try.pinned (OpenSpec.ofChange aggrTogetherWrong)

/- THE SECOND FORM. 'bulk': how many values and letters a reading holds, each counted each time it is reached (what is shared counts as often as it is met; a slice's spare places count too). A statement '..UptoSaid' is the law's where the arguments, and the package variables that the reading takes, are together of bulk at most 1048576: NARROWER than '..Said'. Prove '..Said' where nothing that the law and all that it calls make is longer than what came in: it says more and counts as full. Else prove '..UptoSaid'. A law counts once. -/
mutual
def uptoBulk {H : Type} : DataW H → Nat
  | .lit (.string bytes) => bytes.length + 1
  | .lit _ => 1
  | .nil => 1
  | .ptr d => uptoBulk d + 1
  | .slice elems spare => uptoBulkAll elems + uptoBulkAll spare + 1
  | .agg parts => uptoBulkAll parts + 1
  | .iface _ d => uptoBulk d + 1
  | .map entries => uptoBulkEntries entries + 1
  | .held _ => 1
def uptoBulkAll {H : Type} : List (DataW H) → Nat
  | [] => 0
  | d :: r => uptoBulk d + uptoBulkAll r
def uptoBulkEntries {H : Type} : List (Lit × DataW H) → Nat
  | [] => 0
  | x :: r => uptoBulkEntry x + uptoBulkEntries r
def uptoBulkEntry {H : Type} : Lit × DataW H → Nat
  | (.string bytes, d) => bytes.length + uptoBulk d + 1
  | (_, d) => uptoBulk d + 1
 end
def uptoSmall : (H : Type) → List (DataW H) → Bool := fun _ ds => decide (uptoBulkAll ds ≤ 1048576)
def OpenSpec.upto (s : _root_.Go.ChangeSpec) : _root_.Go.OpenSpec := { _root_.Go.OpenSpec.ofChange s with cond := some uptoSmall }

/-- 'taplinelaw21.AggrBuckets', WHERE WHAT IT READS IS OF BULK AT MOST 1048576: true; the input reads as it did. -/
def aggrBucketsUptoRow : OpenClaim := { program := "ytmofhbedamjblaa", sum := "844926d2eb0abf32a0f7b3c702ac2272570a3b3d162f99d89eb78f8bcc37832f", func := "tapline/taplinelaw21.AggrBuckets", spec := "aggrBuckets", inPlace := ["math/bits.Add64"], unfollowed := true, recurses := true, named := ["math/bits.divideError", "math/bits.overflowError"], apart := false, narrowed := true }
def AggrBucketsUptoSaid : Prop := aggrBucketsUptoRow.holds Try.pinned (OpenSpec.upto aggrBucketsSpec)

/-- 'taplinelaw21.AggrWithin', WHERE WHAT IT READS IS OF BULK AT MOST 1048576: true; the input reads as it did. -/
def aggrWithinUptoRow : OpenClaim := { program := "ytmofhbedamjblaa", sum := "844926d2eb0abf32a0f7b3c702ac2272570a3b3d162f99d89eb78f8bcc37832f", func := "tapline/taplinelaw21.AggrWithin", spec := "aggrWithin", inPlace := ["math/bits.Add64"], unfollowed := true, recurses := true, named := ["math/bits.divideError", "math/bits.overflowError"], apart := false, narrowed := true }
def AggrWithinUptoSaid : Prop := aggrWithinUptoRow.holds Try.pinned (OpenSpec.upto aggrWithinSpec)

/-- 'taplinelaw21.AggrNumbers', WHERE WHAT IT READS IS OF BULK AT MOST 1048576: true; the input reads as it did. -/
def aggrNumbersUptoRow : OpenClaim := { program := "ytmofhbedamjblaa", sum := "844926d2eb0abf32a0f7b3c702ac2272570a3b3d162f99d89eb78f8bcc37832f", func := "tapline/taplinelaw21.AggrNumbers", spec := "aggrNumbers", inPlace := ["math/bits.Add64"], unfollowed := true, recurses := true, named := ["math/bits.divideError", "math/bits.overflowError"], apart := false, narrowed := true }
def AggrNumbersUptoSaid : Prop := aggrNumbersUptoRow.holds Try.pinned (OpenSpec.upto aggrNumbersSpec)

/-- 'taplinelaw21.AggrNormal', WHERE WHAT IT READS IS OF BULK AT MOST 1048576: true; the input reads as it did. -/
def aggrNormalUptoRow : OpenClaim := { program := "ytmofhbedamjblaa", sum := "844926d2eb0abf32a0f7b3c702ac2272570a3b3d162f99d89eb78f8bcc37832f", func := "tapline/taplinelaw21.AggrNormal", spec := "aggrNormal", inPlace := ["math/bits.Add64"], unfollowed := true, recurses := true, named := ["math/bits.divideError", "math/bits.overflowError"], apart := false, narrowed := true }
def AggrNormalUptoSaid : Prop := aggrNormalUptoRow.holds Try.pinned (OpenSpec.upto aggrNormalSpec)

/-- 'taplinelaw21.AggrAny', WHERE WHAT IT READS IS OF BULK AT MOST 1048576: true; the input reads as it did. -/
def aggrAnyUptoRow : OpenClaim := { program := "ytmofhbedamjblaa", sum := "844926d2eb0abf32a0f7b3c702ac2272570a3b3d162f99d89eb78f8bcc37832f", func := "tapline/taplinelaw21.AggrAny", spec := "aggrAny", inPlace := ["math/bits.Add64"], unfollowed := true, recurses := true, named := ["math/bits.divideError", "math/bits.overflowError"], apart := false, narrowed := true }
def AggrAnyUptoSaid : Prop := aggrAnyUptoRow.holds Try.pinned (OpenSpec.upto aggrAnySpec)

/-- 'taplinelaw21.AggrMerged', WHERE WHAT IT READS IS OF BULK AT MOST 1048576: true; the input reads as it did. -/
def aggrMergedUptoRow : OpenClaim := { program := "ytmofhbedamjblaa", sum := "844926d2eb0abf32a0f7b3c702ac2272570a3b3d162f99d89eb78f8bcc37832f", func := "tapline/taplinelaw21.AggrMerged", spec := "aggrMerged", inPlace := ["math/bits.Add64"], unfollowed := true, recurses := true, named := ["math/bits.divideError", "math/bits.overflowError"], apart := false, narrowed := true }
def AggrMergedUptoSaid : Prop := aggrMergedUptoRow.holds Try.pinned (OpenSpec.upto aggrMergedSpec)

/-- 'taplinelaw21.AggrTogether', WHERE WHAT IT READS IS OF BULK AT MOST 1048576: true; the input reads as it did. -/
def aggrTogetherUptoRow : OpenClaim := { program := "ytmofhbedamjblaa", sum := "844926d2eb0abf32a0f7b3c702ac2272570a3b3d162f99d89eb78f8bcc37832f", func := "tapline/taplinelaw21.AggrTogether", spec := "aggrTogether", inPlace := ["math/bits.Add64", "internal/bytealg.IndexByteString", "internal/bytealg.abigen_runtime_cmpstring", "slices.overlaps[tapline/api.AggCell]"], unfollowed := true, recurses := true, named := ["math/bits.divideError", "math/bits.overflowError"], apart := false, narrowed := true }
def AggrTogetherUptoSaid : Prop := aggrTogetherUptoRow.holds Try.pinned (OpenSpec.upto aggrTogetherSpec)

end Rows
end Go.Proofs.Ytmofhbedamjblaa
