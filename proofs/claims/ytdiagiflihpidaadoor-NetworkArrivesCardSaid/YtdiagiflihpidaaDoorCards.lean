/-
  DERIVED. GIVEN WITH THE SEED: THE CARDS: each row of YtdiagiflihpidaaDoorRows.lean that lists a variable, with what it lists TIED to the program's text (the seventh form; the later family's looks); each row that meets fmt, with fmt's text TOLD by the authors' own Lean function (tested against real Go, not proved from fmt's source: count such statements apart). THE CARD IS WHAT COUNTS. Prove the row's statement (the work); the ties are given (YtdiagiflihpidaaDoorTie.lean); close each card by the builder's one call (the guide's Derived/Test/ToyasCard.lean, 'card_holds'). Laid BY PROGRAM, IN A SANDBOX (cutbox-door.mjs). By AI agents, Wed Nov 11 2026. No macro, syntax, notation, axiom, sorry.
-/
import Derived.Test.YtdiagiflihpidaaDoorRows
import GoSem.ClaimSeven
namespace Go.Proofs.YtdiagiflihpidaaDoor
namespace Rows

/-- THE TIED CARD OF 'tannoylaw13.NatChecks'. -/
def natChecksCard : Claim7 := { stood := { row := natChecksRow, standIns := [], harness := (true, "d9d31fb8dbcb4dca77f16e6eba1af0d680b8feeef2c2c067e149d5f1543ab3eb"), looks := false }, kinds := [], alts := [], laidByText := true, laidKinds := [.funcs], laidTests := true, laidLooks := .later }
def NatChecksCardSaid : Prop := Claim7.holds Tryd.pinned (.plain (OpenSpec.ofChange natChecksSpec)) natChecksCard

/-- THE TIED CARD OF 'tannoylaw13.NatOuts'. -/
def natOutsCard : Claim7 := { stood := { row := natOutsRow, standIns := [], harness := (true, "d9d31fb8dbcb4dca77f16e6eba1af0d680b8feeef2c2c067e149d5f1543ab3eb"), looks := false }, kinds := [], alts := [], laidByText := true, laidKinds := [.funcs], laidTests := true, laidLooks := .later }
def NatOutsCardSaid : Prop := Claim7.holds Tryd.pinned (.plain (OpenSpec.ofChange natOutsSpec)) natOutsCard

/-- THE TIED CARD OF 'tannoylaw13.NatIns'. -/
def natInsCard : Claim7 := { stood := { row := natInsRow, standIns := [], harness := (true, "d9d31fb8dbcb4dca77f16e6eba1af0d680b8feeef2c2c067e149d5f1543ab3eb"), looks := false }, kinds := [], alts := [], laidByText := true, laidKinds := [.funcs], laidTests := true, laidLooks := .later }
def NatInsCardSaid : Prop := Claim7.holds Tryd.pinned (.plain (OpenSpec.ofChange natInsSpec)) natInsCard

/-- THE TIED CARD OF 'tannoylaw13.NatReplies'. -/
def natRepliesCard : Claim7 := { stood := { row := natRepliesRow, standIns := [], harness := (true, "d9d31fb8dbcb4dca77f16e6eba1af0d680b8feeef2c2c067e149d5f1543ab3eb"), looks := false }, kinds := [], alts := [], laidByText := true, laidKinds := [.funcs], laidTests := true, laidLooks := .later }
def NatRepliesCardSaid : Prop := Claim7.holds Tryd.pinned (.plain (OpenSpec.ofChange natRepliesSpec)) natRepliesCard

/-- THE TIED CARD OF 'tannoylaw13.NatKeeps'. -/
def natKeepsCard : Claim7 := { stood := { row := natKeepsRow, standIns := [], harness := (true, "d9d31fb8dbcb4dca77f16e6eba1af0d680b8feeef2c2c067e149d5f1543ab3eb"), looks := false }, kinds := [], alts := [], laidByText := true, laidKinds := [.funcs], laidTests := true, laidLooks := .later }
def NatKeepsCardSaid : Prop := Claim7.holds Tryd.pinned (.plain (OpenSpec.ofChange natKeepsSpec)) natKeepsCard

/-- THE TIED CARD OF 'tannoylaw13.NatFilters'. -/
def natFiltersCard : Claim7 := { stood := { row := natFiltersRow, standIns := [], harness := (true, "d9d31fb8dbcb4dca77f16e6eba1af0d680b8feeef2c2c067e149d5f1543ab3eb"), looks := false }, kinds := [], alts := [], laidByText := true, laidKinds := [.funcs], laidTests := true, laidLooks := .later }
def NatFiltersCardSaid : Prop := Claim7.holds Tryd.pinned (.plain (OpenSpec.ofChange natFiltersSpec)) natFiltersCard

/-- THE TIED CARD OF 'tannoylaw13.NatLoops'. -/
def natLoopsCard : Claim7 := { stood := { row := natLoopsRow, standIns := [], harness := (true, "d9d31fb8dbcb4dca77f16e6eba1af0d680b8feeef2c2c067e149d5f1543ab3eb"), looks := false }, kinds := [], alts := [], laidByText := true, laidKinds := [.funcs], laidTests := true, laidLooks := .later }
def NatLoopsCardSaid : Prop := Claim7.holds Tryd.pinned (.plain (OpenSpec.ofChange natLoopsSpec)) natLoopsCard

/-- THE TIED CARD OF 'tannoylaw13.NatKnown'. -/
def natKnownCard : Claim7 := { stood := { row := natKnownRow, standIns := [], harness := (true, "d9d31fb8dbcb4dca77f16e6eba1af0d680b8feeef2c2c067e149d5f1543ab3eb"), looks := false }, kinds := [], alts := [], laidByText := true, laidKinds := [.funcs], laidTests := true, laidLooks := .later }
def NatKnownCardSaid : Prop := Claim7.holds Tryd.pinned (.plain (OpenSpec.ofChange natKnownSpec)) natKnownCard

/-- THE TIED CARD OF 'tannoylaw14.NetworkArrives'. -/
def networkArrivesCard : Claim7 := { stood := { row := networkArrivesRow, standIns := [], harness := (true, "d9d31fb8dbcb4dca77f16e6eba1af0d680b8feeef2c2c067e149d5f1543ab3eb"), looks := false }, kinds := [], alts := [], laidByText := true, laidKinds := [.funcs], laidTests := true, laidLooks := .later }
def NetworkArrivesCardSaid : Prop := Claim7.holds Tryd.pinned (.plain (OpenSpec.ofChange networkArrivesSpec)) networkArrivesCard

/-- THE TIED CARD OF 'tannoylaw14.NetworkTimes'. -/
def networkTimesCard : Claim7 := { stood := { row := networkTimesRow, standIns := [], harness := (true, "d9d31fb8dbcb4dca77f16e6eba1af0d680b8feeef2c2c067e149d5f1543ab3eb"), looks := false }, kinds := [], alts := [], laidByText := true, laidKinds := [.funcs], laidTests := true, laidLooks := .later }
def NetworkTimesCardSaid : Prop := Claim7.holds Tryd.pinned (.plain (OpenSpec.ofChange networkTimesSpec)) networkTimesCard

/-- THE TIED CARD OF 'tannoylaw14.NetworkSingle'. -/
def networkSingleCard : Claim7 := { stood := { row := networkSingleRow, standIns := [], harness := (true, "d9d31fb8dbcb4dca77f16e6eba1af0d680b8feeef2c2c067e149d5f1543ab3eb"), looks := false }, kinds := [], alts := [], laidByText := true, laidKinds := [.funcs], laidTests := true, laidLooks := .later }
def NetworkSingleCardSaid : Prop := Claim7.holds Tryd.pinned (.plain (OpenSpec.ofChange networkSingleSpec)) networkSingleCard

/-- THE TIED CARD OF 'tannoylaw14.NetworkHides'. -/
def networkHidesCard : Claim7 := { stood := { row := networkHidesRow, standIns := [], harness := (true, "d9d31fb8dbcb4dca77f16e6eba1af0d680b8feeef2c2c067e149d5f1543ab3eb"), looks := false }, kinds := [], alts := [], laidByText := true, laidKinds := [.funcs], laidTests := true, laidLooks := .later }
def NetworkHidesCardSaid : Prop := Claim7.holds Tryd.pinned (.plain (OpenSpec.ofChange networkHidesSpec)) networkHidesCard

/-- THE TIED CARD OF 'tannoylaw14.NetworkKnown'. -/
def networkKnownCard : Claim7 := { stood := { row := networkKnownRow, standIns := [], harness := (true, "d9d31fb8dbcb4dca77f16e6eba1af0d680b8feeef2c2c067e149d5f1543ab3eb"), looks := false }, kinds := [], alts := [], laidByText := true, laidKinds := [.funcs], laidTests := true, laidLooks := .later }
def NetworkKnownCardSaid : Prop := Claim7.holds Tryd.pinned (.plain (OpenSpec.ofChange networkKnownSpec)) networkKnownCard

/-- THE SECOND FORM's CARD OF 'tannoylaw13.NatChecks'. -/
def natChecksUptoCard : Claim7 := { stood := { row := natChecksUptoRow, standIns := [], harness := (true, "d9d31fb8dbcb4dca77f16e6eba1af0d680b8feeef2c2c067e149d5f1543ab3eb"), looks := false }, kinds := [], alts := [], laidByText := true, laidKinds := [.funcs], laidTests := true, laidLooks := .later }
def NatChecksUptoCardSaid : Prop := Claim7.holds Tryd.pinned (.plain (OpenSpec.upto natChecksSpec)) natChecksUptoCard

/-- THE SECOND FORM's CARD OF 'tannoylaw13.NatOuts'. -/
def natOutsUptoCard : Claim7 := { stood := { row := natOutsUptoRow, standIns := [], harness := (true, "d9d31fb8dbcb4dca77f16e6eba1af0d680b8feeef2c2c067e149d5f1543ab3eb"), looks := false }, kinds := [], alts := [], laidByText := true, laidKinds := [.funcs], laidTests := true, laidLooks := .later }
def NatOutsUptoCardSaid : Prop := Claim7.holds Tryd.pinned (.plain (OpenSpec.upto natOutsSpec)) natOutsUptoCard

/-- THE SECOND FORM's CARD OF 'tannoylaw13.NatIns'. -/
def natInsUptoCard : Claim7 := { stood := { row := natInsUptoRow, standIns := [], harness := (true, "d9d31fb8dbcb4dca77f16e6eba1af0d680b8feeef2c2c067e149d5f1543ab3eb"), looks := false }, kinds := [], alts := [], laidByText := true, laidKinds := [.funcs], laidTests := true, laidLooks := .later }
def NatInsUptoCardSaid : Prop := Claim7.holds Tryd.pinned (.plain (OpenSpec.upto natInsSpec)) natInsUptoCard

/-- THE SECOND FORM's CARD OF 'tannoylaw13.NatReplies'. -/
def natRepliesUptoCard : Claim7 := { stood := { row := natRepliesUptoRow, standIns := [], harness := (true, "d9d31fb8dbcb4dca77f16e6eba1af0d680b8feeef2c2c067e149d5f1543ab3eb"), looks := false }, kinds := [], alts := [], laidByText := true, laidKinds := [.funcs], laidTests := true, laidLooks := .later }
def NatRepliesUptoCardSaid : Prop := Claim7.holds Tryd.pinned (.plain (OpenSpec.upto natRepliesSpec)) natRepliesUptoCard

/-- THE SECOND FORM's CARD OF 'tannoylaw13.NatKeeps'. -/
def natKeepsUptoCard : Claim7 := { stood := { row := natKeepsUptoRow, standIns := [], harness := (true, "d9d31fb8dbcb4dca77f16e6eba1af0d680b8feeef2c2c067e149d5f1543ab3eb"), looks := false }, kinds := [], alts := [], laidByText := true, laidKinds := [.funcs], laidTests := true, laidLooks := .later }
def NatKeepsUptoCardSaid : Prop := Claim7.holds Tryd.pinned (.plain (OpenSpec.upto natKeepsSpec)) natKeepsUptoCard

/-- THE SECOND FORM's CARD OF 'tannoylaw13.NatFilters'. -/
def natFiltersUptoCard : Claim7 := { stood := { row := natFiltersUptoRow, standIns := [], harness := (true, "d9d31fb8dbcb4dca77f16e6eba1af0d680b8feeef2c2c067e149d5f1543ab3eb"), looks := false }, kinds := [], alts := [], laidByText := true, laidKinds := [.funcs], laidTests := true, laidLooks := .later }
def NatFiltersUptoCardSaid : Prop := Claim7.holds Tryd.pinned (.plain (OpenSpec.upto natFiltersSpec)) natFiltersUptoCard

/-- THE SECOND FORM's CARD OF 'tannoylaw13.NatLoops'. -/
def natLoopsUptoCard : Claim7 := { stood := { row := natLoopsUptoRow, standIns := [], harness := (true, "d9d31fb8dbcb4dca77f16e6eba1af0d680b8feeef2c2c067e149d5f1543ab3eb"), looks := false }, kinds := [], alts := [], laidByText := true, laidKinds := [.funcs], laidTests := true, laidLooks := .later }
def NatLoopsUptoCardSaid : Prop := Claim7.holds Tryd.pinned (.plain (OpenSpec.upto natLoopsSpec)) natLoopsUptoCard

/-- THE SECOND FORM's CARD OF 'tannoylaw13.NatKnown'. -/
def natKnownUptoCard : Claim7 := { stood := { row := natKnownUptoRow, standIns := [], harness := (true, "d9d31fb8dbcb4dca77f16e6eba1af0d680b8feeef2c2c067e149d5f1543ab3eb"), looks := false }, kinds := [], alts := [], laidByText := true, laidKinds := [.funcs], laidTests := true, laidLooks := .later }
def NatKnownUptoCardSaid : Prop := Claim7.holds Tryd.pinned (.plain (OpenSpec.upto natKnownSpec)) natKnownUptoCard

/-- THE SECOND FORM's CARD OF 'tannoylaw14.NetworkArrives'. -/
def networkArrivesUptoCard : Claim7 := { stood := { row := networkArrivesUptoRow, standIns := [], harness := (true, "d9d31fb8dbcb4dca77f16e6eba1af0d680b8feeef2c2c067e149d5f1543ab3eb"), looks := false }, kinds := [], alts := [], laidByText := true, laidKinds := [.funcs], laidTests := true, laidLooks := .later }
def NetworkArrivesUptoCardSaid : Prop := Claim7.holds Tryd.pinned (.plain (OpenSpec.upto networkArrivesSpec)) networkArrivesUptoCard

/-- THE SECOND FORM's CARD OF 'tannoylaw14.NetworkTimes'. -/
def networkTimesUptoCard : Claim7 := { stood := { row := networkTimesUptoRow, standIns := [], harness := (true, "d9d31fb8dbcb4dca77f16e6eba1af0d680b8feeef2c2c067e149d5f1543ab3eb"), looks := false }, kinds := [], alts := [], laidByText := true, laidKinds := [.funcs], laidTests := true, laidLooks := .later }
def NetworkTimesUptoCardSaid : Prop := Claim7.holds Tryd.pinned (.plain (OpenSpec.upto networkTimesSpec)) networkTimesUptoCard

/-- THE SECOND FORM's CARD OF 'tannoylaw14.NetworkSingle'. -/
def networkSingleUptoCard : Claim7 := { stood := { row := networkSingleUptoRow, standIns := [], harness := (true, "d9d31fb8dbcb4dca77f16e6eba1af0d680b8feeef2c2c067e149d5f1543ab3eb"), looks := false }, kinds := [], alts := [], laidByText := true, laidKinds := [.funcs], laidTests := true, laidLooks := .later }
def NetworkSingleUptoCardSaid : Prop := Claim7.holds Tryd.pinned (.plain (OpenSpec.upto networkSingleSpec)) networkSingleUptoCard

/-- THE SECOND FORM's CARD OF 'tannoylaw14.NetworkHides'. -/
def networkHidesUptoCard : Claim7 := { stood := { row := networkHidesUptoRow, standIns := [], harness := (true, "d9d31fb8dbcb4dca77f16e6eba1af0d680b8feeef2c2c067e149d5f1543ab3eb"), looks := false }, kinds := [], alts := [], laidByText := true, laidKinds := [.funcs], laidTests := true, laidLooks := .later }
def NetworkHidesUptoCardSaid : Prop := Claim7.holds Tryd.pinned (.plain (OpenSpec.upto networkHidesSpec)) networkHidesUptoCard

/-- THE SECOND FORM's CARD OF 'tannoylaw14.NetworkKnown'. -/
def networkKnownUptoCard : Claim7 := { stood := { row := networkKnownUptoRow, standIns := [], harness := (true, "d9d31fb8dbcb4dca77f16e6eba1af0d680b8feeef2c2c067e149d5f1543ab3eb"), looks := false }, kinds := [], alts := [], laidByText := true, laidKinds := [.funcs], laidTests := true, laidLooks := .later }
def NetworkKnownUptoCardSaid : Prop := Claim7.holds Tryd.pinned (.plain (OpenSpec.upto networkKnownSpec)) networkKnownUptoCard
end Rows
end Go.Proofs.YtdiagiflihpidaaDoor
