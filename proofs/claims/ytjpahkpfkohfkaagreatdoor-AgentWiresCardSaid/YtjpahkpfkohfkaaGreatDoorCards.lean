/-
  DERIVED. GIVEN WITH THE SEED: THE CARDS: each row of YtjpahkpfkohfkaaGreatDoorRows.lean that lists a variable, with what it lists TIED to the program's text (the seventh form; the later family's looks); each row that meets fmt, with fmt's text TOLD by the authors' own Lean function (tested against real Go, not proved from fmt's source: count such statements apart). THE CARD IS WHAT COUNTS. Prove the row's statement (the work); the ties are given (YtjpahkpfkohfkaaGreatDoorTie.lean); close each card by the builder's one call (the guide's Derived/Test/ToyasCard.lean, 'card_holds'). Laid BY PROGRAM, IN A SANDBOX (cutbox-door.mjs). By AI agents, Wed Nov 11 2026. No macro, syntax, notation, axiom, sorry.
-/
import Derived.Test.YtjpahkpfkohfkaaGreatDoorRows
import GoSem.ClaimSeven
namespace Go.Proofs.YtjpahkpfkohfkaaGreatDoor
namespace Rows

/-- THE TIED CARD OF 'tannoylaw11.AgentFails'. -/
def agentFailsCard : Claim7 := { stood := { row := agentFailsRow, standIns := [], harness := (true, "a7212c81ce44f5488502c002a9f4a73a1595631aff0b247cb2c3c74f1f06a219"), looks := true }, kinds := [], alts := [], laidByText := true, laidKinds := [.data, .data, .data, .data, .data, .pinned], laidTests := true, laidLooks := .later }
def AgentFailsCardSaid : Prop := Claim7.holds Tryz.pinned (.plain (OpenSpec.ofChange agentFailsSpec)) agentFailsCard

/-- THE TIED CARD OF 'tannoylaw11.AgentStays'. -/
def agentStaysCard : Claim7 := { stood := { row := agentStaysRow, standIns := [], harness := (true, "a7212c81ce44f5488502c002a9f4a73a1595631aff0b247cb2c3c74f1f06a219"), looks := true }, kinds := [], alts := [], laidByText := true, laidKinds := [.data, .data, .data, .data, .data, .pinned], laidTests := true, laidLooks := .later }
def AgentStaysCardSaid : Prop := Claim7.holds Tryz.pinned (.plain (OpenSpec.ofChange agentStaysSpec)) agentStaysCard

/-- THE TIED CARD OF 'tannoylaw11.AgentBack'. -/
def agentBackCard : Claim7 := { stood := { row := agentBackRow, standIns := [], harness := (true, "a7212c81ce44f5488502c002a9f4a73a1595631aff0b247cb2c3c74f1f06a219"), looks := true }, kinds := [], alts := [], laidByText := true, laidKinds := [.data, .data, .data, .data, .data, .pinned], laidTests := true, laidLooks := .later }
def AgentBackCardSaid : Prop := Claim7.holds Tryz.pinned (.plain (OpenSpec.ofChange agentBackSpec)) agentBackCard

/-- THE TIED CARD OF 'tannoylaw11.AgentWires'. -/
def agentWiresCard : Claim7 := { stood := { row := agentWiresRow, standIns := [], harness := (true, "a7212c81ce44f5488502c002a9f4a73a1595631aff0b247cb2c3c74f1f06a219"), looks := true }, kinds := [], alts := [], laidByText := true, laidKinds := [.data, .data, .data, .data, .data, .pinned], laidTests := true, laidLooks := .later }
def AgentWiresCardSaid : Prop := Claim7.holds Tryz.pinned (.plain (OpenSpec.ofChange agentWiresSpec)) agentWiresCard

/-- THE TIED CARD OF 'tannoylaw11.AgentAgree'. -/
def agentAgreeCard : Claim7 := { stood := { row := agentAgreeRow, standIns := [], harness := (true, "a7212c81ce44f5488502c002a9f4a73a1595631aff0b247cb2c3c74f1f06a219"), looks := true }, kinds := [], alts := [], laidByText := true, laidKinds := [.data, .data, .data, .data, .data, .pinned], laidTests := true, laidLooks := .later }
def AgentAgreeCardSaid : Prop := Claim7.holds Tryz.pinned (.plain (OpenSpec.ofChange agentAgreeSpec)) agentAgreeCard

/-- THE SECOND FORM's CARD OF 'tannoylaw11.AgentFails'. -/
def agentFailsUptoCard : Claim7 := { stood := { row := agentFailsUptoRow, standIns := [], harness := (true, "a7212c81ce44f5488502c002a9f4a73a1595631aff0b247cb2c3c74f1f06a219"), looks := true }, kinds := [], alts := [], laidByText := true, laidKinds := [.data, .data, .data, .data, .data, .pinned], laidTests := true, laidLooks := .later }
def AgentFailsUptoCardSaid : Prop := Claim7.holds Tryz.pinned (.plain (OpenSpec.upto agentFailsSpec)) agentFailsUptoCard

/-- THE SECOND FORM's CARD OF 'tannoylaw11.AgentStays'. -/
def agentStaysUptoCard : Claim7 := { stood := { row := agentStaysUptoRow, standIns := [], harness := (true, "a7212c81ce44f5488502c002a9f4a73a1595631aff0b247cb2c3c74f1f06a219"), looks := true }, kinds := [], alts := [], laidByText := true, laidKinds := [.data, .data, .data, .data, .data, .pinned], laidTests := true, laidLooks := .later }
def AgentStaysUptoCardSaid : Prop := Claim7.holds Tryz.pinned (.plain (OpenSpec.upto agentStaysSpec)) agentStaysUptoCard

/-- THE SECOND FORM's CARD OF 'tannoylaw11.AgentBack'. -/
def agentBackUptoCard : Claim7 := { stood := { row := agentBackUptoRow, standIns := [], harness := (true, "a7212c81ce44f5488502c002a9f4a73a1595631aff0b247cb2c3c74f1f06a219"), looks := true }, kinds := [], alts := [], laidByText := true, laidKinds := [.data, .data, .data, .data, .data, .pinned], laidTests := true, laidLooks := .later }
def AgentBackUptoCardSaid : Prop := Claim7.holds Tryz.pinned (.plain (OpenSpec.upto agentBackSpec)) agentBackUptoCard

/-- THE SECOND FORM's CARD OF 'tannoylaw11.AgentWires'. -/
def agentWiresUptoCard : Claim7 := { stood := { row := agentWiresUptoRow, standIns := [], harness := (true, "a7212c81ce44f5488502c002a9f4a73a1595631aff0b247cb2c3c74f1f06a219"), looks := true }, kinds := [], alts := [], laidByText := true, laidKinds := [.data, .data, .data, .data, .data, .pinned], laidTests := true, laidLooks := .later }
def AgentWiresUptoCardSaid : Prop := Claim7.holds Tryz.pinned (.plain (OpenSpec.upto agentWiresSpec)) agentWiresUptoCard

/-- THE SECOND FORM's CARD OF 'tannoylaw11.AgentAgree'. -/
def agentAgreeUptoCard : Claim7 := { stood := { row := agentAgreeUptoRow, standIns := [], harness := (true, "a7212c81ce44f5488502c002a9f4a73a1595631aff0b247cb2c3c74f1f06a219"), looks := true }, kinds := [], alts := [], laidByText := true, laidKinds := [.data, .data, .data, .data, .data, .pinned], laidTests := true, laidLooks := .later }
def AgentAgreeUptoCardSaid : Prop := Claim7.holds Tryz.pinned (.plain (OpenSpec.upto agentAgreeSpec)) agentAgreeUptoCard
end Rows
end Go.Proofs.YtjpahkpfkohfkaaGreatDoor
