/-
  DERIVED. GIVEN WITH THE SEED: THE CARDS: each row of YtioobnkmohikjaaGreatDoorRows.lean that lists a variable, with what it lists TIED to the program's text (the seventh form; the later family's looks); each row that meets fmt, with fmt's text TOLD by the authors' own Lean function (tested against real Go, not proved from fmt's source: count such statements apart). THE CARD IS WHAT COUNTS. Prove the row's statement (the work); the ties are given (YtioobnkmohikjaaGreatDoorTie.lean); close each card by the builder's one call (the guide's Derived/Test/ToyasCard.lean, 'card_holds'). Laid BY PROGRAM, IN A SANDBOX (cutbox-door.mjs). By AI agents, Wed Nov 11 2026. No macro, syntax, notation, axiom, sorry.
-/
import Derived.Test.YtioobnkmohikjaaGreatDoorRows
import GoSem.ClaimSeven
namespace Go.Proofs.YtioobnkmohikjaaGreatDoor
namespace Rows

/-- THE TIED CARD OF 'tannoylaw10.ChecklistMakes'. -/
def checklistMakesCard : Claim7 := { stood := { row := checklistMakesRow, standIns := [], harness := (true, "da77e1865ae41b40c25bcb37cb32671b9f8664367b1765c519293e1f7c122044"), looks := false }, kinds := [], alts := [], laidByText := true, laidKinds := [.data, .data, .data, .data, .pinned], laidTests := true, laidLooks := .later }
def ChecklistMakesCardSaid : Prop := Claim7.holds Tryz.pinned (.plain (OpenSpec.ofChange checklistMakesSpec)) checklistMakesCard

/-- THE TIED CARD OF 'tannoylaw10.ChecklistNext'. -/
def checklistNextCard : Claim7 := { stood := { row := checklistNextRow, standIns := [], harness := (true, "da77e1865ae41b40c25bcb37cb32671b9f8664367b1765c519293e1f7c122044"), looks := false }, kinds := [], alts := [], laidByText := true, laidKinds := [.data, .data, .data, .data, .pinned], laidTests := true, laidLooks := .later }
def ChecklistNextCardSaid : Prop := Claim7.holds Tryz.pinned (.plain (OpenSpec.ofChange checklistNextSpec)) checklistNextCard

/-- THE TIED CARD OF 'tannoylaw10.ChecklistSets'. -/
def checklistSetsCard : Claim7 := { stood := { row := checklistSetsRow, standIns := [], harness := (true, "da77e1865ae41b40c25bcb37cb32671b9f8664367b1765c519293e1f7c122044"), looks := false }, kinds := [], alts := [], laidByText := true, laidKinds := [.data, .data, .data, .data, .pinned], laidTests := true, laidLooks := .later }
def ChecklistSetsCardSaid : Prop := Claim7.holds Tryz.pinned (.plain (OpenSpec.ofChange checklistSetsSpec)) checklistSetsCard

/-- THE TIED CARD OF 'tannoylaw10.ChecklistEnds'. -/
def checklistEndsCard : Claim7 := { stood := { row := checklistEndsRow, standIns := [], harness := (true, "da77e1865ae41b40c25bcb37cb32671b9f8664367b1765c519293e1f7c122044"), looks := false }, kinds := [], alts := [], laidByText := true, laidKinds := [.data, .data, .data, .data, .pinned], laidTests := true, laidLooks := .later }
def ChecklistEndsCardSaid : Prop := Claim7.holds Tryz.pinned (.plain (OpenSpec.ofChange checklistEndsSpec)) checklistEndsCard

/-- THE SECOND FORM's CARD OF 'tannoylaw10.ChecklistMakes'. -/
def checklistMakesUptoCard : Claim7 := { stood := { row := checklistMakesUptoRow, standIns := [], harness := (true, "da77e1865ae41b40c25bcb37cb32671b9f8664367b1765c519293e1f7c122044"), looks := false }, kinds := [], alts := [], laidByText := true, laidKinds := [.data, .data, .data, .data, .pinned], laidTests := true, laidLooks := .later }
def ChecklistMakesUptoCardSaid : Prop := Claim7.holds Tryz.pinned (.plain (OpenSpec.upto checklistMakesSpec)) checklistMakesUptoCard

/-- THE SECOND FORM's CARD OF 'tannoylaw10.ChecklistNext'. -/
def checklistNextUptoCard : Claim7 := { stood := { row := checklistNextUptoRow, standIns := [], harness := (true, "da77e1865ae41b40c25bcb37cb32671b9f8664367b1765c519293e1f7c122044"), looks := false }, kinds := [], alts := [], laidByText := true, laidKinds := [.data, .data, .data, .data, .pinned], laidTests := true, laidLooks := .later }
def ChecklistNextUptoCardSaid : Prop := Claim7.holds Tryz.pinned (.plain (OpenSpec.upto checklistNextSpec)) checklistNextUptoCard

/-- THE SECOND FORM's CARD OF 'tannoylaw10.ChecklistSets'. -/
def checklistSetsUptoCard : Claim7 := { stood := { row := checklistSetsUptoRow, standIns := [], harness := (true, "da77e1865ae41b40c25bcb37cb32671b9f8664367b1765c519293e1f7c122044"), looks := false }, kinds := [], alts := [], laidByText := true, laidKinds := [.data, .data, .data, .data, .pinned], laidTests := true, laidLooks := .later }
def ChecklistSetsUptoCardSaid : Prop := Claim7.holds Tryz.pinned (.plain (OpenSpec.upto checklistSetsSpec)) checklistSetsUptoCard

/-- THE SECOND FORM's CARD OF 'tannoylaw10.ChecklistEnds'. -/
def checklistEndsUptoCard : Claim7 := { stood := { row := checklistEndsUptoRow, standIns := [], harness := (true, "da77e1865ae41b40c25bcb37cb32671b9f8664367b1765c519293e1f7c122044"), looks := false }, kinds := [], alts := [], laidByText := true, laidKinds := [.data, .data, .data, .data, .pinned], laidTests := true, laidLooks := .later }
def ChecklistEndsUptoCardSaid : Prop := Claim7.holds Tryz.pinned (.plain (OpenSpec.upto checklistEndsSpec)) checklistEndsUptoCard
end Rows
end Go.Proofs.YtioobnkmohikjaaGreatDoor
