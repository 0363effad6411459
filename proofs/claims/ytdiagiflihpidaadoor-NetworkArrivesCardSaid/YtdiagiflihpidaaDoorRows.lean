/-
  NARROWER THAN 'FOR EVERY INPUT', by the rows' own cells (each row's printed sentence says how): NatChecks: laid · NatOuts: laid · NatIns: laid · NatReplies: laid · NatKeeps: laid · NatFilters: laid · NatLoops: laid · NatKnown: laid · NetworkArrives: laid · NetworkTimes: laid · NetworkSingle: laid · NetworkHides: laid · NetworkKnown: laid.
  DERIVED. THE GIVEN ROWS OF THIS SEAT. 13 by the template 'for every input the law returns true; each argument reads behind the call as it read before'; 0 by the template 'total and deterministic' (their statements: YtdiagiflihpidaaDoorTotals.lean).
  GIVEN WITH THE SEED: the statements are not yours to turn. If you find one false, say at which input.
  Laid BY PROGRAM, IN A SANDBOX (cutbox-rows.mjs): the forced cells as the released guide's own fill.sh prints them over the translation 1ea7b1d0b1b8b6d6… (all of the seat's roots in one cut). By AI agents, Wed Nov 11 2026. No macro, syntax, notation, axiom, sorry.
-/
import Derived.Test.YtdiagiflihpidaaDoorChecked
import GoSem.Claim
import GoSem.ClaimJoined
import GoSem.ClaimMapViews
import Derived.JoinedTies
import Derived.KernelRfl
namespace Go.Proofs.YtdiagiflihpidaaDoor
/- THE CELL 'sum', in the pinned program and in every row, IS THE sha256 OF THE DUMP (.gsa) THAT YtdiagiflihpidaaDoorProg.lean LOADS. Nothing in Lean hashes anything: it is a label: what it is worth is what the hold of that sum in a sandbox is worth. -/
noncomputable def Tryd.pinned : Pinned := { name := "ytdiagiflihpidaadoor", sum := "1ea7b1d0b1b8b6d63fa8fca6c93d563a439209b4ac512b15516ce51564465746", checked := Tryd.checked }
namespace Rows
def none {H : Type} : Left H := { results := [], args := [] }

/- WHAT THE LISTED PACKAGE-LEVEL VARIABLES READ AS WHEN THE CALL BEGINS. Each datum BY PROGRAM (the guide's laid-datum.mjs) off the statement by which the dump's own 'gosem.cut.vars' lays the variable. In a bare row this is a premise. The card (YtdiagiflihpidaaDoorCards.lean) ties it to the program's text. -/
def laid_tannoy_nat_keys {H : Type} : DataW H := .iface "func table" (.agg [.nil, .iface "func" (.lit (.string [116, 97, 110, 110, 111, 121, 47, 110, 97, 116, 46, 107, 101, 121, 115, 36, 49])), .iface "func" (.lit (.string [116, 97, 110, 110, 111, 121, 47, 110, 97, 116, 46, 107, 101, 121, 115, 36, 50])), .iface "func" (.lit (.string [116, 97, 110, 110, 111, 121, 47, 110, 97, 116, 46, 107, 101, 121, 115, 36, 51]))])

/-- 'tannoylaw13.NatChecks': WHATEVER THE INPUT: true; the input reads as it did. -/
def natChecksSpec : ChangeSpec := { name := "natChecks", fn := fun _ => fun
  | [d1, d2, d3, d4] => { results := [.lit (.bool true)], args := [d1, d2, d3, d4] }
  | _ => none }
def natChecksRow : OpenClaim := { program := "ytdiagiflihpidaadoor", sum := "1ea7b1d0b1b8b6d63fa8fca6c93d563a439209b4ac512b15516ce51564465746", func := "tannoy/tannoylaw13.NatChecks", spec := "natChecks", unfollowed := true, recurses := true, named := ["tannoy/nat.keys"], plainKeys := false, apart := false, laid := [("tannoy/nat.keys", laid_tannoy_nat_keys)] }
def NatChecksSaid : Prop := natChecksRow.holds Tryd.pinned (OpenSpec.ofChange natChecksSpec)

/-- ITS FALSE NEIGHBOUR: 'it returns false'. Refute it at one input. -/
def natChecksWrong : ChangeSpec := { name := "natChecks", fn := fun _ => fun
  | [d1, d2, d3, d4] => { results := [.lit (.bool false)], args := [d1, d2, d3, d4] }
  | _ => none }
def NatChecksWrongFalsely : Prop := natChecksRow.holds Tryd.pinned (OpenSpec.ofChange natChecksWrong)

/-- 'tannoylaw13.NatOuts': WHATEVER THE INPUT: true; the input reads as it did. -/
def natOutsSpec : ChangeSpec := { name := "natOuts", fn := fun _ => fun
  | [d1, d2, d3, d4] => { results := [.lit (.bool true)], args := [d1, d2, d3, d4] }
  | _ => none }
def natOutsRow : OpenClaim := { program := "ytdiagiflihpidaadoor", sum := "1ea7b1d0b1b8b6d63fa8fca6c93d563a439209b4ac512b15516ce51564465746", func := "tannoy/tannoylaw13.NatOuts", spec := "natOuts", unfollowed := true, recurses := true, named := ["tannoy/nat.keys"], plainKeys := false, apart := false, laid := [("tannoy/nat.keys", laid_tannoy_nat_keys)] }
def NatOutsSaid : Prop := natOutsRow.holds Tryd.pinned (OpenSpec.ofChange natOutsSpec)

/-- ITS FALSE NEIGHBOUR: 'it returns false'. Refute it at one input. -/
def natOutsWrong : ChangeSpec := { name := "natOuts", fn := fun _ => fun
  | [d1, d2, d3, d4] => { results := [.lit (.bool false)], args := [d1, d2, d3, d4] }
  | _ => none }
def NatOutsWrongFalsely : Prop := natOutsRow.holds Tryd.pinned (OpenSpec.ofChange natOutsWrong)

/-- 'tannoylaw13.NatIns': WHATEVER THE INPUT: true; the input reads as it did. -/
def natInsSpec : ChangeSpec := { name := "natIns", fn := fun _ => fun
  | [d1, d2, d3, d4, d5] => { results := [.lit (.bool true)], args := [d1, d2, d3, d4, d5] }
  | _ => none }
def natInsRow : OpenClaim := { program := "ytdiagiflihpidaadoor", sum := "1ea7b1d0b1b8b6d63fa8fca6c93d563a439209b4ac512b15516ce51564465746", func := "tannoy/tannoylaw13.NatIns", spec := "natIns", unfollowed := true, recurses := true, named := ["tannoy/nat.keys"], plainKeys := false, apart := false, laid := [("tannoy/nat.keys", laid_tannoy_nat_keys)] }
def NatInsSaid : Prop := natInsRow.holds Tryd.pinned (OpenSpec.ofChange natInsSpec)

/-- ITS FALSE NEIGHBOUR: 'it returns false'. Refute it at one input. -/
def natInsWrong : ChangeSpec := { name := "natIns", fn := fun _ => fun
  | [d1, d2, d3, d4, d5] => { results := [.lit (.bool false)], args := [d1, d2, d3, d4, d5] }
  | _ => none }
def NatInsWrongFalsely : Prop := natInsRow.holds Tryd.pinned (OpenSpec.ofChange natInsWrong)

/-- 'tannoylaw13.NatReplies': WHATEVER THE INPUT: true; the input reads as it did. -/
def natRepliesSpec : ChangeSpec := { name := "natReplies", fn := fun _ => fun
  | [d1, d2, d3] => { results := [.lit (.bool true)], args := [d1, d2, d3] }
  | _ => none }
def natRepliesRow : OpenClaim := { program := "ytdiagiflihpidaadoor", sum := "1ea7b1d0b1b8b6d63fa8fca6c93d563a439209b4ac512b15516ce51564465746", func := "tannoy/tannoylaw13.NatReplies", spec := "natReplies", unfollowed := true, recurses := true, named := ["tannoy/nat.keys"], plainKeys := false, apart := false, laid := [("tannoy/nat.keys", laid_tannoy_nat_keys)] }
def NatRepliesSaid : Prop := natRepliesRow.holds Tryd.pinned (OpenSpec.ofChange natRepliesSpec)

/-- ITS FALSE NEIGHBOUR: 'it returns false'. Refute it at one input. -/
def natRepliesWrong : ChangeSpec := { name := "natReplies", fn := fun _ => fun
  | [d1, d2, d3] => { results := [.lit (.bool false)], args := [d1, d2, d3] }
  | _ => none }
def NatRepliesWrongFalsely : Prop := natRepliesRow.holds Tryd.pinned (OpenSpec.ofChange natRepliesWrong)

/-- 'tannoylaw13.NatKeeps': WHATEVER THE INPUT: true; the input reads as it did. -/
def natKeepsSpec : ChangeSpec := { name := "natKeeps", fn := fun _ => fun
  | [d1, d2, d3] => { results := [.lit (.bool true)], args := [d1, d2, d3] }
  | _ => none }
def natKeepsRow : OpenClaim := { program := "ytdiagiflihpidaadoor", sum := "1ea7b1d0b1b8b6d63fa8fca6c93d563a439209b4ac512b15516ce51564465746", func := "tannoy/tannoylaw13.NatKeeps", spec := "natKeeps", unfollowed := true, recurses := true, named := ["tannoy/nat.keys"], plainKeys := false, apart := false, laid := [("tannoy/nat.keys", laid_tannoy_nat_keys)] }
def NatKeepsSaid : Prop := natKeepsRow.holds Tryd.pinned (OpenSpec.ofChange natKeepsSpec)

/-- ITS FALSE NEIGHBOUR: 'it returns false'. Refute it at one input. -/
def natKeepsWrong : ChangeSpec := { name := "natKeeps", fn := fun _ => fun
  | [d1, d2, d3] => { results := [.lit (.bool false)], args := [d1, d2, d3] }
  | _ => none }
def NatKeepsWrongFalsely : Prop := natKeepsRow.holds Tryd.pinned (OpenSpec.ofChange natKeepsWrong)

/-- 'tannoylaw13.NatFilters': WHATEVER THE INPUT: true; the input reads as it did. -/
def natFiltersSpec : ChangeSpec := { name := "natFilters", fn := fun _ => fun
  | [d1, d2, d3, d4] => { results := [.lit (.bool true)], args := [d1, d2, d3, d4] }
  | _ => none }
def natFiltersRow : OpenClaim := { program := "ytdiagiflihpidaadoor", sum := "1ea7b1d0b1b8b6d63fa8fca6c93d563a439209b4ac512b15516ce51564465746", func := "tannoy/tannoylaw13.NatFilters", spec := "natFilters", unfollowed := true, recurses := true, named := ["tannoy/nat.keys"], plainKeys := false, apart := false, laid := [("tannoy/nat.keys", laid_tannoy_nat_keys)] }
def NatFiltersSaid : Prop := natFiltersRow.holds Tryd.pinned (OpenSpec.ofChange natFiltersSpec)

/-- ITS FALSE NEIGHBOUR: 'it returns false'. Refute it at one input. -/
def natFiltersWrong : ChangeSpec := { name := "natFilters", fn := fun _ => fun
  | [d1, d2, d3, d4] => { results := [.lit (.bool false)], args := [d1, d2, d3, d4] }
  | _ => none }
def NatFiltersWrongFalsely : Prop := natFiltersRow.holds Tryd.pinned (OpenSpec.ofChange natFiltersWrong)

/-- 'tannoylaw13.NatLoops': WHATEVER THE INPUT: true; the input reads as it did. -/
def natLoopsSpec : ChangeSpec := { name := "natLoops", fn := fun _ => fun
  | [d1, d2, d3, d4, d5] => { results := [.lit (.bool true)], args := [d1, d2, d3, d4, d5] }
  | _ => none }
def natLoopsRow : OpenClaim := { program := "ytdiagiflihpidaadoor", sum := "1ea7b1d0b1b8b6d63fa8fca6c93d563a439209b4ac512b15516ce51564465746", func := "tannoy/tannoylaw13.NatLoops", spec := "natLoops", unfollowed := true, recurses := true, named := ["tannoy/nat.keys"], plainKeys := false, apart := false, laid := [("tannoy/nat.keys", laid_tannoy_nat_keys)] }
def NatLoopsSaid : Prop := natLoopsRow.holds Tryd.pinned (OpenSpec.ofChange natLoopsSpec)

/-- ITS FALSE NEIGHBOUR: 'it returns false'. Refute it at one input. -/
def natLoopsWrong : ChangeSpec := { name := "natLoops", fn := fun _ => fun
  | [d1, d2, d3, d4, d5] => { results := [.lit (.bool false)], args := [d1, d2, d3, d4, d5] }
  | _ => none }
def NatLoopsWrongFalsely : Prop := natLoopsRow.holds Tryd.pinned (OpenSpec.ofChange natLoopsWrong)

/-- 'tannoylaw13.NatKnown': WHATEVER THE INPUT: true; the input reads as it did. -/
def natKnownSpec : ChangeSpec := { name := "natKnown", fn := fun _ => fun
  | [] => { results := [.lit (.bool true)], args := [] }
  | _ => none }
def natKnownRow : OpenClaim := { program := "ytdiagiflihpidaadoor", sum := "1ea7b1d0b1b8b6d63fa8fca6c93d563a439209b4ac512b15516ce51564465746", func := "tannoy/tannoylaw13.NatKnown", spec := "natKnown", unfollowed := true, recurses := true, named := ["tannoy/nat.keys"], plainKeys := false, apart := false, laid := [("tannoy/nat.keys", laid_tannoy_nat_keys)] }
def NatKnownSaid : Prop := natKnownRow.holds Tryd.pinned (OpenSpec.ofChange natKnownSpec)

/-- ITS FALSE NEIGHBOUR: 'it returns false'. Refute it at one input. -/
def natKnownWrong : ChangeSpec := { name := "natKnown", fn := fun _ => fun
  | [] => { results := [.lit (.bool false)], args := [] }
  | _ => none }
def NatKnownWrongFalsely : Prop := natKnownRow.holds Tryd.pinned (OpenSpec.ofChange natKnownWrong)

/-- 'tannoylaw14.NetworkArrives': WHATEVER THE INPUT: true; the input reads as it did. -/
def networkArrivesSpec : ChangeSpec := { name := "networkArrives", fn := fun _ => fun
  | [d1, d2] => { results := [.lit (.bool true)], args := [d1, d2] }
  | _ => none }
def networkArrivesRow : OpenClaim := { program := "ytdiagiflihpidaadoor", sum := "1ea7b1d0b1b8b6d63fa8fca6c93d563a439209b4ac512b15516ce51564465746", func := "tannoy/tannoylaw14.NetworkArrives", spec := "networkArrives", unfollowed := true, recurses := true, named := ["tannoy/nat.keys"], plainKeys := false, apart := false, laid := [("tannoy/nat.keys", laid_tannoy_nat_keys)] }
def NetworkArrivesSaid : Prop := networkArrivesRow.holds Tryd.pinned (OpenSpec.ofChange networkArrivesSpec)

/-- ITS FALSE NEIGHBOUR: 'it returns false'. Refute it at one input. -/
def networkArrivesWrong : ChangeSpec := { name := "networkArrives", fn := fun _ => fun
  | [d1, d2] => { results := [.lit (.bool false)], args := [d1, d2] }
  | _ => none }
def NetworkArrivesWrongFalsely : Prop := networkArrivesRow.holds Tryd.pinned (OpenSpec.ofChange networkArrivesWrong)

/-- 'tannoylaw14.NetworkTimes': WHATEVER THE INPUT: true; the input reads as it did. -/
def networkTimesSpec : ChangeSpec := { name := "networkTimes", fn := fun _ => fun
  | [d1, d2, d3] => { results := [.lit (.bool true)], args := [d1, d2, d3] }
  | _ => none }
def networkTimesRow : OpenClaim := { program := "ytdiagiflihpidaadoor", sum := "1ea7b1d0b1b8b6d63fa8fca6c93d563a439209b4ac512b15516ce51564465746", func := "tannoy/tannoylaw14.NetworkTimes", spec := "networkTimes", unfollowed := true, recurses := true, named := ["tannoy/nat.keys"], plainKeys := false, apart := false, laid := [("tannoy/nat.keys", laid_tannoy_nat_keys)] }
def NetworkTimesSaid : Prop := networkTimesRow.holds Tryd.pinned (OpenSpec.ofChange networkTimesSpec)

/-- ITS FALSE NEIGHBOUR: 'it returns false'. Refute it at one input. -/
def networkTimesWrong : ChangeSpec := { name := "networkTimes", fn := fun _ => fun
  | [d1, d2, d3] => { results := [.lit (.bool false)], args := [d1, d2, d3] }
  | _ => none }
def NetworkTimesWrongFalsely : Prop := networkTimesRow.holds Tryd.pinned (OpenSpec.ofChange networkTimesWrong)

/-- 'tannoylaw14.NetworkSingle': WHATEVER THE INPUT: true; the input reads as it did. -/
def networkSingleSpec : ChangeSpec := { name := "networkSingle", fn := fun _ => fun
  | [d] => { results := [.lit (.bool true)], args := [d] }
  | _ => none }
def networkSingleRow : OpenClaim := { program := "ytdiagiflihpidaadoor", sum := "1ea7b1d0b1b8b6d63fa8fca6c93d563a439209b4ac512b15516ce51564465746", func := "tannoy/tannoylaw14.NetworkSingle", spec := "networkSingle", unfollowed := true, recurses := true, named := ["tannoy/nat.keys"], plainKeys := false, apart := false, laid := [("tannoy/nat.keys", laid_tannoy_nat_keys)] }
def NetworkSingleSaid : Prop := networkSingleRow.holds Tryd.pinned (OpenSpec.ofChange networkSingleSpec)

/-- ITS FALSE NEIGHBOUR: 'it returns false'. Refute it at one input. -/
def networkSingleWrong : ChangeSpec := { name := "networkSingle", fn := fun _ => fun
  | [d] => { results := [.lit (.bool false)], args := [d] }
  | _ => none }
def NetworkSingleWrongFalsely : Prop := networkSingleRow.holds Tryd.pinned (OpenSpec.ofChange networkSingleWrong)

/-- 'tannoylaw14.NetworkHides': WHATEVER THE INPUT: true; the input reads as it did. -/
def networkHidesSpec : ChangeSpec := { name := "networkHides", fn := fun _ => fun
  | [d1, d2] => { results := [.lit (.bool true)], args := [d1, d2] }
  | _ => none }
def networkHidesRow : OpenClaim := { program := "ytdiagiflihpidaadoor", sum := "1ea7b1d0b1b8b6d63fa8fca6c93d563a439209b4ac512b15516ce51564465746", func := "tannoy/tannoylaw14.NetworkHides", spec := "networkHides", unfollowed := true, recurses := true, named := ["tannoy/nat.keys"], plainKeys := false, apart := false, laid := [("tannoy/nat.keys", laid_tannoy_nat_keys)] }
def NetworkHidesSaid : Prop := networkHidesRow.holds Tryd.pinned (OpenSpec.ofChange networkHidesSpec)

/-- ITS FALSE NEIGHBOUR: 'it returns false'. Refute it at one input. -/
def networkHidesWrong : ChangeSpec := { name := "networkHides", fn := fun _ => fun
  | [d1, d2] => { results := [.lit (.bool false)], args := [d1, d2] }
  | _ => none }
def NetworkHidesWrongFalsely : Prop := networkHidesRow.holds Tryd.pinned (OpenSpec.ofChange networkHidesWrong)

/-- 'tannoylaw14.NetworkKnown': WHATEVER THE INPUT: true; the input reads as it did. -/
def networkKnownSpec : ChangeSpec := { name := "networkKnown", fn := fun _ => fun
  | [] => { results := [.lit (.bool true)], args := [] }
  | _ => none }
def networkKnownRow : OpenClaim := { program := "ytdiagiflihpidaadoor", sum := "1ea7b1d0b1b8b6d63fa8fca6c93d563a439209b4ac512b15516ce51564465746", func := "tannoy/tannoylaw14.NetworkKnown", spec := "networkKnown", unfollowed := true, recurses := true, named := ["tannoy/nat.keys"], plainKeys := false, apart := false, laid := [("tannoy/nat.keys", laid_tannoy_nat_keys)] }
def NetworkKnownSaid : Prop := networkKnownRow.holds Tryd.pinned (OpenSpec.ofChange networkKnownSpec)

/-- ITS FALSE NEIGHBOUR: 'it returns false'. Refute it at one input. -/
def networkKnownWrong : ChangeSpec := { name := "networkKnown", fn := fun _ => fun
  | [] => { results := [.lit (.bool false)], args := [] }
  | _ => none }
def NetworkKnownWrongFalsely : Prop := networkKnownRow.holds Tryd.pinned (OpenSpec.ofChange networkKnownWrong)

/- THE SECOND FORM. 'bulk': how many values and letters a reading holds, each counted each time it is reached (what is shared counts as often as it is met; a slice's spare places count too). A statement '..UptoSaid' is the law's where the arguments, and the package variables that the reading takes, are together of bulk at most 1048576: NARROWER than '..Said'. Prove '..Said' where nothing that the law and all that it calls make is longer than what came in: it says more and counts as full. Else prove '..UptoSaid'. A law counts once. -/
mutual
def uptoBulk {H : Type} : DataW H → Nat
  | .lit (.string bytes) => bytes.length + 1
  | .lit _ => 1
  | .nil => 1
  | .ptr d => uptoBulk d + 1
  | .slice elems spare => uptoBulkAll elems + uptoBulkAll spare + 1
  | .agg parts => uptoBulkAll parts + 1
  | .iface _ d => uptoBulk d + 1
  | .map entries => uptoBulkEntries entries + 1
  | .held _ => 1
def uptoBulkAll {H : Type} : List (DataW H) → Nat
  | [] => 0
  | d :: r => uptoBulk d + uptoBulkAll r
def uptoBulkEntries {H : Type} : List (Lit × DataW H) → Nat
  | [] => 0
  | x :: r => uptoBulkEntry x + uptoBulkEntries r
def uptoBulkEntry {H : Type} : Lit × DataW H → Nat
  | (.string bytes, d) => bytes.length + uptoBulk d + 1
  | (_, d) => uptoBulk d + 1
 end
def uptoSmall : (H : Type) → List (DataW H) → Bool := fun _ ds => decide (uptoBulkAll ds ≤ 1048576)
def OpenSpec.upto (s : _root_.Go.ChangeSpec) : _root_.Go.OpenSpec := { _root_.Go.OpenSpec.ofChange s with cond := some uptoSmall }

/-- 'tannoylaw13.NatChecks', WHERE WHAT IT READS IS OF BULK AT MOST 1048576: true; the input reads as it did. -/
def natChecksUptoRow : OpenClaim := { program := "ytdiagiflihpidaadoor", sum := "1ea7b1d0b1b8b6d63fa8fca6c93d563a439209b4ac512b15516ce51564465746", func := "tannoy/tannoylaw13.NatChecks", spec := "natChecks", unfollowed := true, recurses := true, named := ["tannoy/nat.keys"], plainKeys := false, apart := false, laid := [("tannoy/nat.keys", laid_tannoy_nat_keys)], narrowed := true }
def NatChecksUptoSaid : Prop := natChecksUptoRow.holds Tryd.pinned (OpenSpec.upto natChecksSpec)

/-- 'tannoylaw13.NatOuts', WHERE WHAT IT READS IS OF BULK AT MOST 1048576: true; the input reads as it did. -/
def natOutsUptoRow : OpenClaim := { program := "ytdiagiflihpidaadoor", sum := "1ea7b1d0b1b8b6d63fa8fca6c93d563a439209b4ac512b15516ce51564465746", func := "tannoy/tannoylaw13.NatOuts", spec := "natOuts", unfollowed := true, recurses := true, named := ["tannoy/nat.keys"], plainKeys := false, apart := false, laid := [("tannoy/nat.keys", laid_tannoy_nat_keys)], narrowed := true }
def NatOutsUptoSaid : Prop := natOutsUptoRow.holds Tryd.pinned (OpenSpec.upto natOutsSpec)

/-- 'tannoylaw13.NatIns', WHERE WHAT IT READS IS OF BULK AT MOST 1048576: true; the input reads as it did. -/
def natInsUptoRow : OpenClaim := { program := "ytdiagiflihpidaadoor", sum := "1ea7b1d0b1b8b6d63fa8fca6c93d563a439209b4ac512b15516ce51564465746", func := "tannoy/tannoylaw13.NatIns", spec := "natIns", unfollowed := true, recurses := true, named := ["tannoy/nat.keys"], plainKeys := false, apart := false, laid := [("tannoy/nat.keys", laid_tannoy_nat_keys)], narrowed := true }
def NatInsUptoSaid : Prop := natInsUptoRow.holds Tryd.pinned (OpenSpec.upto natInsSpec)

/-- 'tannoylaw13.NatReplies', WHERE WHAT IT READS IS OF BULK AT MOST 1048576: true; the input reads as it did. -/
def natRepliesUptoRow : OpenClaim := { program := "ytdiagiflihpidaadoor", sum := "1ea7b1d0b1b8b6d63fa8fca6c93d563a439209b4ac512b15516ce51564465746", func := "tannoy/tannoylaw13.NatReplies", spec := "natReplies", unfollowed := true, recurses := true, named := ["tannoy/nat.keys"], plainKeys := false, apart := false, laid := [("tannoy/nat.keys", laid_tannoy_nat_keys)], narrowed := true }
def NatRepliesUptoSaid : Prop := natRepliesUptoRow.holds Tryd.pinned (OpenSpec.upto natRepliesSpec)

/-- 'tannoylaw13.NatKeeps', WHERE WHAT IT READS IS OF BULK AT MOST 1048576: true; the input reads as it did. -/
def natKeepsUptoRow : OpenClaim := { program := "ytdiagiflihpidaadoor", sum := "1ea7b1d0b1b8b6d63fa8fca6c93d563a439209b4ac512b15516ce51564465746", func := "tannoy/tannoylaw13.NatKeeps", spec := "natKeeps", unfollowed := true, recurses := true, named := ["tannoy/nat.keys"], plainKeys := false, apart := false, laid := [("tannoy/nat.keys", laid_tannoy_nat_keys)], narrowed := true }
def NatKeepsUptoSaid : Prop := natKeepsUptoRow.holds Tryd.pinned (OpenSpec.upto natKeepsSpec)

/-- 'tannoylaw13.NatFilters', WHERE WHAT IT READS IS OF BULK AT MOST 1048576: true; the input reads as it did. -/
def natFiltersUptoRow : OpenClaim := { program := "ytdiagiflihpidaadoor", sum := "1ea7b1d0b1b8b6d63fa8fca6c93d563a439209b4ac512b15516ce51564465746", func := "tannoy/tannoylaw13.NatFilters", spec := "natFilters", unfollowed := true, recurses := true, named := ["tannoy/nat.keys"], plainKeys := false, apart := false, laid := [("tannoy/nat.keys", laid_tannoy_nat_keys)], narrowed := true }
def NatFiltersUptoSaid : Prop := natFiltersUptoRow.holds Tryd.pinned (OpenSpec.upto natFiltersSpec)

/-- 'tannoylaw13.NatLoops', WHERE WHAT IT READS IS OF BULK AT MOST 1048576: true; the input reads as it did. -/
def natLoopsUptoRow : OpenClaim := { program := "ytdiagiflihpidaadoor", sum := "1ea7b1d0b1b8b6d63fa8fca6c93d563a439209b4ac512b15516ce51564465746", func := "tannoy/tannoylaw13.NatLoops", spec := "natLoops", unfollowed := true, recurses := true, named := ["tannoy/nat.keys"], plainKeys := false, apart := false, laid := [("tannoy/nat.keys", laid_tannoy_nat_keys)], narrowed := true }
def NatLoopsUptoSaid : Prop := natLoopsUptoRow.holds Tryd.pinned (OpenSpec.upto natLoopsSpec)

/-- 'tannoylaw13.NatKnown', WHERE WHAT IT READS IS OF BULK AT MOST 1048576: true; the input reads as it did. -/
def natKnownUptoRow : OpenClaim := { program := "ytdiagiflihpidaadoor", sum := "1ea7b1d0b1b8b6d63fa8fca6c93d563a439209b4ac512b15516ce51564465746", func := "tannoy/tannoylaw13.NatKnown", spec := "natKnown", unfollowed := true, recurses := true, named := ["tannoy/nat.keys"], plainKeys := false, apart := false, laid := [("tannoy/nat.keys", laid_tannoy_nat_keys)], narrowed := true }
def NatKnownUptoSaid : Prop := natKnownUptoRow.holds Tryd.pinned (OpenSpec.upto natKnownSpec)

/-- 'tannoylaw14.NetworkArrives', WHERE WHAT IT READS IS OF BULK AT MOST 1048576: true; the input reads as it did. -/
def networkArrivesUptoRow : OpenClaim := { program := "ytdiagiflihpidaadoor", sum := "1ea7b1d0b1b8b6d63fa8fca6c93d563a439209b4ac512b15516ce51564465746", func := "tannoy/tannoylaw14.NetworkArrives", spec := "networkArrives", unfollowed := true, recurses := true, named := ["tannoy/nat.keys"], plainKeys := false, apart := false, laid := [("tannoy/nat.keys", laid_tannoy_nat_keys)], narrowed := true }
def NetworkArrivesUptoSaid : Prop := networkArrivesUptoRow.holds Tryd.pinned (OpenSpec.upto networkArrivesSpec)

/-- 'tannoylaw14.NetworkTimes', WHERE WHAT IT READS IS OF BULK AT MOST 1048576: true; the input reads as it did. -/
def networkTimesUptoRow : OpenClaim := { program := "ytdiagiflihpidaadoor", sum := "1ea7b1d0b1b8b6d63fa8fca6c93d563a439209b4ac512b15516ce51564465746", func := "tannoy/tannoylaw14.NetworkTimes", spec := "networkTimes", unfollowed := true, recurses := true, named := ["tannoy/nat.keys"], plainKeys := false, apart := false, laid := [("tannoy/nat.keys", laid_tannoy_nat_keys)], narrowed := true }
def NetworkTimesUptoSaid : Prop := networkTimesUptoRow.holds Tryd.pinned (OpenSpec.upto networkTimesSpec)

/-- 'tannoylaw14.NetworkSingle', WHERE WHAT IT READS IS OF BULK AT MOST 1048576: true; the input reads as it did. -/
def networkSingleUptoRow : OpenClaim := { program := "ytdiagiflihpidaadoor", sum := "1ea7b1d0b1b8b6d63fa8fca6c93d563a439209b4ac512b15516ce51564465746", func := "tannoy/tannoylaw14.NetworkSingle", spec := "networkSingle", unfollowed := true, recurses := true, named := ["tannoy/nat.keys"], plainKeys := false, apart := false, laid := [("tannoy/nat.keys", laid_tannoy_nat_keys)], narrowed := true }
def NetworkSingleUptoSaid : Prop := networkSingleUptoRow.holds Tryd.pinned (OpenSpec.upto networkSingleSpec)

/-- 'tannoylaw14.NetworkHides', WHERE WHAT IT READS IS OF BULK AT MOST 1048576: true; the input reads as it did. -/
def networkHidesUptoRow : OpenClaim := { program := "ytdiagiflihpidaadoor", sum := "1ea7b1d0b1b8b6d63fa8fca6c93d563a439209b4ac512b15516ce51564465746", func := "tannoy/tannoylaw14.NetworkHides", spec := "networkHides", unfollowed := true, recurses := true, named := ["tannoy/nat.keys"], plainKeys := false, apart := false, laid := [("tannoy/nat.keys", laid_tannoy_nat_keys)], narrowed := true }
def NetworkHidesUptoSaid : Prop := networkHidesUptoRow.holds Tryd.pinned (OpenSpec.upto networkHidesSpec)

/-- 'tannoylaw14.NetworkKnown', WHERE WHAT IT READS IS OF BULK AT MOST 1048576: true; the input reads as it did. -/
def networkKnownUptoRow : OpenClaim := { program := "ytdiagiflihpidaadoor", sum := "1ea7b1d0b1b8b6d63fa8fca6c93d563a439209b4ac512b15516ce51564465746", func := "tannoy/tannoylaw14.NetworkKnown", spec := "networkKnown", unfollowed := true, recurses := true, named := ["tannoy/nat.keys"], plainKeys := false, apart := false, laid := [("tannoy/nat.keys", laid_tannoy_nat_keys)], narrowed := true }
def NetworkKnownUptoSaid : Prop := networkKnownUptoRow.holds Tryd.pinned (OpenSpec.upto networkKnownSpec)

end Rows
end Go.Proofs.YtdiagiflihpidaaDoor
