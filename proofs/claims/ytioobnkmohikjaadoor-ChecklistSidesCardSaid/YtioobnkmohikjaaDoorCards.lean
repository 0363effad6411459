/-
  DERIVED. GIVEN WITH THE SEED: THE CARDS: each row of YtioobnkmohikjaaDoorRows.lean that lists a variable, with what it lists TIED to the program's text (the seventh form; the later family's looks); each row that meets fmt, with fmt's text TOLD by the authors' own Lean function (tested against real Go, not proved from fmt's source: count such statements apart). THE CARD IS WHAT COUNTS. Prove the row's statement (the work); the ties are given (YtioobnkmohikjaaDoorTie.lean); close each card by the builder's one call (the guide's Derived/Test/ToyasCard.lean, 'card_holds'). Laid BY PROGRAM, IN A SANDBOX (cutbox-door.mjs). By AI agents, Wed Nov 11 2026. No macro, syntax, notation, axiom, sorry.
-/
import Derived.Test.YtioobnkmohikjaaDoorRows
import GoSem.ClaimSeven
namespace Go.Proofs.YtioobnkmohikjaaDoor
namespace Rows

/-- THE TIED CARD OF 'tannoylaw10.ChecklistPairs'. -/
def checklistPairsCard : Claim7 := { stood := { row := checklistPairsRow, standIns := [], harness := (true, "62529c4d70fb5723b7c261a8bc253186ee1a984c261142dfada504e8f749795e"), looks := false }, kinds := [], alts := [], laidByText := true, laidKinds := [.data, .data, .data, .data, .pinned], laidTests := true, laidLooks := .later }
def ChecklistPairsCardSaid : Prop := Claim7.holds Tryd.pinned (.plain (OpenSpec.ofChange checklistPairsSpec)) checklistPairsCard

/-- THE TIED CARD OF 'tannoylaw10.ChecklistSides'. -/
def checklistSidesCard : Claim7 := { stood := { row := checklistSidesRow, standIns := [], harness := (true, "62529c4d70fb5723b7c261a8bc253186ee1a984c261142dfada504e8f749795e"), looks := false }, kinds := [], alts := [], laidByText := true, laidKinds := [.data, .data, .data, .data, .pinned], laidTests := true, laidLooks := .later }
def ChecklistSidesCardSaid : Prop := Claim7.holds Tryd.pinned (.plain (OpenSpec.ofChange checklistSidesSpec)) checklistSidesCard

/-- THE TIED CARD OF 'tannoylaw10.ChecklistKnown'. -/
def checklistKnownCard : Claim7 := { stood := { row := checklistKnownRow, standIns := [], harness := (true, "62529c4d70fb5723b7c261a8bc253186ee1a984c261142dfada504e8f749795e"), looks := false }, kinds := [], alts := [], laidByText := true, laidKinds := [.data, .data, .data, .data, .pinned], laidTests := true, laidLooks := .later }
def ChecklistKnownCardSaid : Prop := Claim7.holds Tryd.pinned (.plain (OpenSpec.ofChange checklistKnownSpec)) checklistKnownCard

/-- THE SECOND FORM's CARD OF 'tannoylaw10.ChecklistPairs'. -/
def checklistPairsUptoCard : Claim7 := { stood := { row := checklistPairsUptoRow, standIns := [], harness := (true, "62529c4d70fb5723b7c261a8bc253186ee1a984c261142dfada504e8f749795e"), looks := false }, kinds := [], alts := [], laidByText := true, laidKinds := [.data, .data, .data, .data, .pinned], laidTests := true, laidLooks := .later }
def ChecklistPairsUptoCardSaid : Prop := Claim7.holds Tryd.pinned (.plain (OpenSpec.upto checklistPairsSpec)) checklistPairsUptoCard

/-- THE SECOND FORM's CARD OF 'tannoylaw10.ChecklistSides'. -/
def checklistSidesUptoCard : Claim7 := { stood := { row := checklistSidesUptoRow, standIns := [], harness := (true, "62529c4d70fb5723b7c261a8bc253186ee1a984c261142dfada504e8f749795e"), looks := false }, kinds := [], alts := [], laidByText := true, laidKinds := [.data, .data, .data, .data, .pinned], laidTests := true, laidLooks := .later }
def ChecklistSidesUptoCardSaid : Prop := Claim7.holds Tryd.pinned (.plain (OpenSpec.upto checklistSidesSpec)) checklistSidesUptoCard

/-- THE SECOND FORM's CARD OF 'tannoylaw10.ChecklistKnown'. -/
def checklistKnownUptoCard : Claim7 := { stood := { row := checklistKnownUptoRow, standIns := [], harness := (true, "62529c4d70fb5723b7c261a8bc253186ee1a984c261142dfada504e8f749795e"), looks := false }, kinds := [], alts := [], laidByText := true, laidKinds := [.data, .data, .data, .data, .pinned], laidTests := true, laidLooks := .later }
def ChecklistKnownUptoCardSaid : Prop := Claim7.holds Tryd.pinned (.plain (OpenSpec.upto checklistKnownSpec)) checklistKnownUptoCard
end Rows
end Go.Proofs.YtioobnkmohikjaaDoor
