/-
  DERIVED. GIVEN WITH THE SEED: THE CARDS: each row of YtjdieimefebnfaaGreatDoorRows.lean that lists a variable, with what it lists TIED to the program's text (the seventh form; the later family's looks); each row that meets fmt, with fmt's text TOLD by the authors' own Lean function (tested against real Go, not proved from fmt's source: count such statements apart). THE CARD IS WHAT COUNTS. Prove the row's statement (the work); the ties are given (YtjdieimefebnfaaGreatDoorTie.lean); close each card by the builder's one call (the guide's Derived/Test/ToyasCard.lean, 'card_holds'). Laid BY PROGRAM, IN A SANDBOX (cutbox-door.mjs). By AI agents, Wed Nov 11 2026. No macro, syntax, notation, axiom, sorry.
-/
import Derived.Test.YtjdieimefebnfaaGreatDoorRows
import GoSem.ClaimSeven
namespace Go.Proofs.YtjdieimefebnfaaGreatDoor
namespace Rows

/-- THE TIED CARD OF 'tannoylaw20.HandshakeSteps'. -/
def handshakeStepsCard : Claim7 := { stood := { row := handshakeStepsRow, standIns := [], harness := (true, "481066415f6c6c2da205ca5fc6b9215c6847fcc9a7d3abc9176e6d654e29dc32"), looks := true }, kinds := [], alts := [], laidByText := true, laidKinds := [.data, .pinned], laidTests := true, laidLooks := .later }
def HandshakeStepsCardSaid : Prop := Claim7.holds Tryz.pinned (.plain (OpenSpec.ofChange handshakeStepsSpec)) handshakeStepsCard

/-- THE TIED CARD OF 'tannoylaw20.HandshakeRefuses'. -/
def handshakeRefusesCard : Claim7 := { stood := { row := handshakeRefusesRow, standIns := [], harness := (true, "481066415f6c6c2da205ca5fc6b9215c6847fcc9a7d3abc9176e6d654e29dc32"), looks := true }, kinds := [], alts := [], laidByText := true, laidKinds := [.data, .pinned], laidTests := true, laidLooks := .later }
def HandshakeRefusesCardSaid : Prop := Claim7.holds Tryz.pinned (.plain (OpenSpec.ofChange handshakeRefusesSpec)) handshakeRefusesCard

/-- THE TIED CARD OF 'tannoylaw20.HandshakeTampers'. -/
def handshakeTampersCard : Claim7 := { stood := { row := handshakeTampersRow, standIns := [], harness := (true, "481066415f6c6c2da205ca5fc6b9215c6847fcc9a7d3abc9176e6d654e29dc32"), looks := true }, kinds := [], alts := [], laidByText := true, laidKinds := [.data, .pinned], laidTests := true, laidLooks := .later }
def HandshakeTampersCardSaid : Prop := Claim7.holds Tryz.pinned (.plain (OpenSpec.ofChange handshakeTampersSpec)) handshakeTampersCard

/-- THE TIED CARD OF 'tannoylaw20.HandshakeStays'. -/
def handshakeStaysCard : Claim7 := { stood := { row := handshakeStaysRow, standIns := [], harness := (true, "481066415f6c6c2da205ca5fc6b9215c6847fcc9a7d3abc9176e6d654e29dc32"), looks := true }, kinds := [], alts := [], laidByText := true, laidKinds := [.data, .pinned], laidTests := true, laidLooks := .later }
def HandshakeStaysCardSaid : Prop := Claim7.holds Tryz.pinned (.plain (OpenSpec.ofChange handshakeStaysSpec)) handshakeStaysCard

/-- THE TIED CARD OF 'tannoylaw20.HandshakeChecks'. -/
def handshakeChecksCard : Claim7 := { stood := { row := handshakeChecksRow, standIns := [], harness := (true, "481066415f6c6c2da205ca5fc6b9215c6847fcc9a7d3abc9176e6d654e29dc32"), looks := true }, kinds := [], alts := [], laidByText := true, laidKinds := [.data, .pinned], laidTests := true, laidLooks := .later }
def HandshakeChecksCardSaid : Prop := Claim7.holds Tryz.pinned (.plain (OpenSpec.ofChange handshakeChecksSpec)) handshakeChecksCard

/-- THE TIED CARD OF 'tannoylaw20.HandshakeMeets'. -/
def handshakeMeetsCard : Claim7 := { stood := { row := handshakeMeetsRow, standIns := [], harness := (true, "481066415f6c6c2da205ca5fc6b9215c6847fcc9a7d3abc9176e6d654e29dc32"), looks := true }, kinds := [], alts := [], laidByText := true, laidKinds := [.data, .pinned], laidTests := true, laidLooks := .later }
def HandshakeMeetsCardSaid : Prop := Claim7.holds Tryz.pinned (.plain (OpenSpec.ofChange handshakeMeetsSpec)) handshakeMeetsCard

/-- THE SECOND FORM's CARD OF 'tannoylaw20.HandshakeSteps'. -/
def handshakeStepsUptoCard : Claim7 := { stood := { row := handshakeStepsUptoRow, standIns := [], harness := (true, "481066415f6c6c2da205ca5fc6b9215c6847fcc9a7d3abc9176e6d654e29dc32"), looks := true }, kinds := [], alts := [], laidByText := true, laidKinds := [.data, .pinned], laidTests := true, laidLooks := .later }
def HandshakeStepsUptoCardSaid : Prop := Claim7.holds Tryz.pinned (.plain (OpenSpec.upto handshakeStepsSpec)) handshakeStepsUptoCard

/-- THE SECOND FORM's CARD OF 'tannoylaw20.HandshakeRefuses'. -/
def handshakeRefusesUptoCard : Claim7 := { stood := { row := handshakeRefusesUptoRow, standIns := [], harness := (true, "481066415f6c6c2da205ca5fc6b9215c6847fcc9a7d3abc9176e6d654e29dc32"), looks := true }, kinds := [], alts := [], laidByText := true, laidKinds := [.data, .pinned], laidTests := true, laidLooks := .later }
def HandshakeRefusesUptoCardSaid : Prop := Claim7.holds Tryz.pinned (.plain (OpenSpec.upto handshakeRefusesSpec)) handshakeRefusesUptoCard

/-- THE SECOND FORM's CARD OF 'tannoylaw20.HandshakeTampers'. -/
def handshakeTampersUptoCard : Claim7 := { stood := { row := handshakeTampersUptoRow, standIns := [], harness := (true, "481066415f6c6c2da205ca5fc6b9215c6847fcc9a7d3abc9176e6d654e29dc32"), looks := true }, kinds := [], alts := [], laidByText := true, laidKinds := [.data, .pinned], laidTests := true, laidLooks := .later }
def HandshakeTampersUptoCardSaid : Prop := Claim7.holds Tryz.pinned (.plain (OpenSpec.upto handshakeTampersSpec)) handshakeTampersUptoCard

/-- THE SECOND FORM's CARD OF 'tannoylaw20.HandshakeStays'. -/
def handshakeStaysUptoCard : Claim7 := { stood := { row := handshakeStaysUptoRow, standIns := [], harness := (true, "481066415f6c6c2da205ca5fc6b9215c6847fcc9a7d3abc9176e6d654e29dc32"), looks := true }, kinds := [], alts := [], laidByText := true, laidKinds := [.data, .pinned], laidTests := true, laidLooks := .later }
def HandshakeStaysUptoCardSaid : Prop := Claim7.holds Tryz.pinned (.plain (OpenSpec.upto handshakeStaysSpec)) handshakeStaysUptoCard

/-- THE SECOND FORM's CARD OF 'tannoylaw20.HandshakeChecks'. -/
def handshakeChecksUptoCard : Claim7 := { stood := { row := handshakeChecksUptoRow, standIns := [], harness := (true, "481066415f6c6c2da205ca5fc6b9215c6847fcc9a7d3abc9176e6d654e29dc32"), looks := true }, kinds := [], alts := [], laidByText := true, laidKinds := [.data, .pinned], laidTests := true, laidLooks := .later }
def HandshakeChecksUptoCardSaid : Prop := Claim7.holds Tryz.pinned (.plain (OpenSpec.upto handshakeChecksSpec)) handshakeChecksUptoCard

/-- THE SECOND FORM's CARD OF 'tannoylaw20.HandshakeMeets'. -/
def handshakeMeetsUptoCard : Claim7 := { stood := { row := handshakeMeetsUptoRow, standIns := [], harness := (true, "481066415f6c6c2da205ca5fc6b9215c6847fcc9a7d3abc9176e6d654e29dc32"), looks := true }, kinds := [], alts := [], laidByText := true, laidKinds := [.data, .pinned], laidTests := true, laidLooks := .later }
def HandshakeMeetsUptoCardSaid : Prop := Claim7.holds Tryz.pinned (.plain (OpenSpec.upto handshakeMeetsSpec)) handshakeMeetsUptoCard
end Rows
end Go.Proofs.YtjdieimefebnfaaGreatDoor
