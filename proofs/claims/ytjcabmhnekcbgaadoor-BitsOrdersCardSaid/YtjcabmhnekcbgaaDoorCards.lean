/-
  DERIVED. GIVEN WITH THE SEED: THE CARDS: each row of YtjcabmhnekcbgaaDoorRows.lean that lists a variable, with what it lists TIED to the program's text (the seventh form; the later family's looks); each row that meets fmt, with fmt's text TOLD by the authors' own Lean function (tested against real Go, not proved from fmt's source: count such statements apart). THE CARD IS WHAT COUNTS. Prove the row's statement (the work); the ties are given (YtjcabmhnekcbgaaDoorTie.lean); close each card by the builder's one call (the guide's Derived/Test/ToyasCard.lean, 'card_holds'). Laid BY PROGRAM, IN A SANDBOX (cutbox-door.mjs). By AI agents, Wed Nov 11 2026. No macro, syntax, notation, axiom, sorry.
-/
import Derived.Test.YtjcabmhnekcbgaaDoorRows
import GoSem.ClaimSeven
namespace Go.Proofs.YtjcabmhnekcbgaaDoor
namespace Rows

/-- THE TIED CARD OF 'taplinelaw01.BitsShifts'. -/
def bitsShiftsCard : Claim7 := { stood := { row := bitsShiftsRow, standIns := [], harness := (true, "c1004135eeed1fc648f9cea26533122f0c18bb61432e1f0aa4c852eea681fc4b"), looks := false }, kinds := [], alts := [], laidByText := true, laidKinds := [.data], laidTests := true, laidLooks := .later }
def BitsShiftsCardSaid : Prop := Claim7.holds Tryd.pinned (.plain (OpenSpec.ofChange bitsShiftsSpec)) bitsShiftsCard

/-- THE TIED CARD OF 'taplinelaw01.BitsOperates'. -/
def bitsOperatesCard : Claim7 := { stood := { row := bitsOperatesRow, standIns := [], harness := (true, "c1004135eeed1fc648f9cea26533122f0c18bb61432e1f0aa4c852eea681fc4b"), looks := false }, kinds := [], alts := [], laidByText := true, laidKinds := [.data], laidTests := true, laidLooks := .later }
def BitsOperatesCardSaid : Prop := Claim7.holds Tryd.pinned (.plain (OpenSpec.ofChange bitsOperatesSpec)) bitsOperatesCard

/-- THE TIED CARD OF 'taplinelaw01.BitsOrders'. -/
def bitsOrdersCard : Claim7 := { stood := { row := bitsOrdersRow, standIns := [], harness := (true, "c1004135eeed1fc648f9cea26533122f0c18bb61432e1f0aa4c852eea681fc4b"), looks := false }, kinds := [], alts := [], laidByText := true, laidKinds := [.data], laidTests := true, laidLooks := .later }
def BitsOrdersCardSaid : Prop := Claim7.holds Tryd.pinned (.plain (OpenSpec.ofChange bitsOrdersSpec)) bitsOrdersCard

/-- THE TIED CARD OF 'taplinelaw01.BitsTypes'. -/
def bitsTypesCard : Claim7 := { stood := { row := bitsTypesRow, standIns := [], harness := (true, "c1004135eeed1fc648f9cea26533122f0c18bb61432e1f0aa4c852eea681fc4b"), looks := false }, kinds := [], alts := [], laidByText := true, laidKinds := [.data], laidTests := true, laidLooks := .later }
def BitsTypesCardSaid : Prop := Claim7.holds Tryd.pinned (.plain (OpenSpec.ofChange bitsTypesSpec)) bitsTypesCard

/-- THE SECOND FORM's CARD OF 'taplinelaw01.BitsShifts'. -/
def bitsShiftsUptoCard : Claim7 := { stood := { row := bitsShiftsUptoRow, standIns := [], harness := (true, "c1004135eeed1fc648f9cea26533122f0c18bb61432e1f0aa4c852eea681fc4b"), looks := false }, kinds := [], alts := [], laidByText := true, laidKinds := [.data], laidTests := true, laidLooks := .later }
def BitsShiftsUptoCardSaid : Prop := Claim7.holds Tryd.pinned (.plain (OpenSpec.upto bitsShiftsSpec)) bitsShiftsUptoCard

/-- THE SECOND FORM's CARD OF 'taplinelaw01.BitsOperates'. -/
def bitsOperatesUptoCard : Claim7 := { stood := { row := bitsOperatesUptoRow, standIns := [], harness := (true, "c1004135eeed1fc648f9cea26533122f0c18bb61432e1f0aa4c852eea681fc4b"), looks := false }, kinds := [], alts := [], laidByText := true, laidKinds := [.data], laidTests := true, laidLooks := .later }
def BitsOperatesUptoCardSaid : Prop := Claim7.holds Tryd.pinned (.plain (OpenSpec.upto bitsOperatesSpec)) bitsOperatesUptoCard

/-- THE SECOND FORM's CARD OF 'taplinelaw01.BitsOrders'. -/
def bitsOrdersUptoCard : Claim7 := { stood := { row := bitsOrdersUptoRow, standIns := [], harness := (true, "c1004135eeed1fc648f9cea26533122f0c18bb61432e1f0aa4c852eea681fc4b"), looks := false }, kinds := [], alts := [], laidByText := true, laidKinds := [.data], laidTests := true, laidLooks := .later }
def BitsOrdersUptoCardSaid : Prop := Claim7.holds Tryd.pinned (.plain (OpenSpec.upto bitsOrdersSpec)) bitsOrdersUptoCard

/-- THE SECOND FORM's CARD OF 'taplinelaw01.BitsTypes'. -/
def bitsTypesUptoCard : Claim7 := { stood := { row := bitsTypesUptoRow, standIns := [], harness := (true, "c1004135eeed1fc648f9cea26533122f0c18bb61432e1f0aa4c852eea681fc4b"), looks := false }, kinds := [], alts := [], laidByText := true, laidKinds := [.data], laidTests := true, laidLooks := .later }
def BitsTypesUptoCardSaid : Prop := Claim7.holds Tryd.pinned (.plain (OpenSpec.upto bitsTypesSpec)) bitsTypesUptoCard
end Rows
end Go.Proofs.YtjcabmhnekcbgaaDoor
