/-
  NARROWER THAN 'FOR EVERY INPUT', by the rows' own cells (each row's printed sentence says how): HandshakeSteps: laid · HandshakeRefuses: laid · HandshakeTampers: laid · HandshakeStays: laid · HandshakeChecks: laid · HandshakeMeets: laid.
  DERIVED. THE GIVEN ROWS OF THIS SEAT. 6 by the template 'for every input the law returns true; each argument reads behind the call as it read before'; 0 by the template 'total and deterministic' (their statements: YtjdieimefebnfaaGreatDoorTotals.lean).
  GIVEN WITH THE SEED: the statements are not yours to turn. If you find one false, say at which input.
  Laid BY PROGRAM, IN A SANDBOX (cutbox-rows.mjs): the forced cells as the released guide's own fill.sh prints them over the translation 24e26da6aece45bc… (all of the seat's roots in one cut). By AI agents, Wed Nov 11 2026. No macro, syntax, notation, axiom, sorry.
-/
import Derived.Test.YtjdieimefebnfaaGreatDoorChecked
import GoSem.PinnedTables
import GoSem.Claim
import GoSem.ClaimJoined
import GoSem.ClaimMapViews
import Derived.JoinedTies
import Derived.KernelRfl
namespace Go.Proofs.YtjdieimefebnfaaGreatDoor
/- THE CELL 'sum', in the pinned program and in every row, IS THE sha256 OF THE DUMP (.gsa) THAT YtjdieimefebnfaaGreatDoorProg.lean LOADS. Nothing in Lean hashes anything: it is a label: what it is worth is what the hold of that sum in a sandbox is worth. -/
noncomputable def Tryz.pinned : Pinned := { name := "ytjdieimefebnfaagreatdoor", sum := "24e26da6aece45bcc499c3f0a1b6ff9fb6423004da766a243810b353610cbc7b", checked := Tryz.checked }
namespace Rows
def none {H : Type} : Left H := { results := [], args := [] }

/- WHAT THE LISTED PACKAGE-LEVEL VARIABLES READ AS WHEN THE CALL BEGINS. Each datum BY PROGRAM (the guide's laid-datum.mjs) off the statement by which the dump's own 'gosem.cut.vars' lays the variable. In a bare row this is a premise. The card (YtjdieimefebnfaaGreatDoorCards.lean) ties it to the program's text. -/
def laid_unicode_utf8_acceptRanges {H : Type} : DataW H := .agg [.agg [.lit (.int .u8 128), .lit (.int .u8 191)], .agg [.lit (.int .u8 160), .lit (.int .u8 191)], .agg [.lit (.int .u8 128), .lit (.int .u8 159)], .agg [.lit (.int .u8 144), .lit (.int .u8 191)], .agg [.lit (.int .u8 128), .lit (.int .u8 143)], .agg [.lit (.int .u8 0), .lit (.int .u8 0)], .agg [.lit (.int .u8 0), .lit (.int .u8 0)], .agg [.lit (.int .u8 0), .lit (.int .u8 0)], .agg [.lit (.int .u8 0), .lit (.int .u8 0)], .agg [.lit (.int .u8 0), .lit (.int .u8 0)], .agg [.lit (.int .u8 0), .lit (.int .u8 0)], .agg [.lit (.int .u8 0), .lit (.int .u8 0)], .agg [.lit (.int .u8 0), .lit (.int .u8 0)], .agg [.lit (.int .u8 0), .lit (.int .u8 0)], .agg [.lit (.int .u8 0), .lit (.int .u8 0)], .agg [.lit (.int .u8 0), .lit (.int .u8 0)]]
/-- One of Go's own tables, pinned by name: the form's constant. -/
def laid_unicode_utf8_first : DataW Unit := Go.Pinned.utf8First

/-- 'tannoylaw20.HandshakeSteps': WHATEVER THE INPUT: true; the input reads as it did. -/
def handshakeStepsSpec : ChangeSpec := { name := "handshakeSteps", fn := fun _ => fun
  | [d1, d2, d3, d4, d5, d6] => { results := [.lit (.bool true)], args := [d1, d2, d3, d4, d5, d6] }
  | _ => none }
def handshakeStepsRow : OpenClaim := { program := "ytjdieimefebnfaagreatdoor", sum := "24e26da6aece45bcc499c3f0a1b6ff9fb6423004da766a243810b353610cbc7b", func := "tannoy/tannoylaw20.HandshakeSteps", spec := "handshakeSteps", inPlace := ["math/bits.Add64", "internal/bytealg.IndexByteString", "internal/bytealg.IndexString", "internal/abi.NoEscape", "internal/bytealg.MakeNoZero"], unfollowed := true, recurses := true, named := ["unicode/utf8.first", "unicode/utf8.acceptRanges", "internal/bytealg.MaxLen"], plainKeys := false, apart := false, laid := [("unicode/utf8.acceptRanges", laid_unicode_utf8_acceptRanges), ("unicode/utf8.first", laid_unicode_utf8_first)] }
def HandshakeStepsSaid : Prop := handshakeStepsRow.holds Tryz.pinned (OpenSpec.ofChange handshakeStepsSpec)

/-- ITS FALSE NEIGHBOUR: 'it returns false'. Refute it at one input. -/
def handshakeStepsWrong : ChangeSpec := { name := "handshakeSteps", fn := fun _ => fun
  | [d1, d2, d3, d4, d5, d6] => { results := [.lit (.bool false)], args := [d1, d2, d3, d4, d5, d6] }
  | _ => none }
def HandshakeStepsWrongFalsely : Prop := handshakeStepsRow.holds Tryz.pinned (OpenSpec.ofChange handshakeStepsWrong)

/-- 'tannoylaw20.HandshakeRefuses': WHATEVER THE INPUT: true; the input reads as it did. -/
def handshakeRefusesSpec : ChangeSpec := { name := "handshakeRefuses", fn := fun _ => fun
  | [d] => { results := [.lit (.bool true)], args := [d] }
  | _ => none }
def handshakeRefusesRow : OpenClaim := { program := "ytjdieimefebnfaagreatdoor", sum := "24e26da6aece45bcc499c3f0a1b6ff9fb6423004da766a243810b353610cbc7b", func := "tannoy/tannoylaw20.HandshakeRefuses", spec := "handshakeRefuses", inPlace := ["internal/abi.NoEscape", "internal/bytealg.MakeNoZero", "math/bits.Add64", "internal/bytealg.IndexByteString", "internal/bytealg.IndexString"], unfollowed := true, recurses := true, named := ["unicode/utf8.first", "unicode/utf8.acceptRanges", "internal/bytealg.MaxLen"], plainKeys := false, apart := false, laid := [("unicode/utf8.acceptRanges", laid_unicode_utf8_acceptRanges), ("unicode/utf8.first", laid_unicode_utf8_first)] }
def HandshakeRefusesSaid : Prop := handshakeRefusesRow.holds Tryz.pinned (OpenSpec.ofChange handshakeRefusesSpec)

/-- ITS FALSE NEIGHBOUR: 'it returns false'. Refute it at one input. -/
def handshakeRefusesWrong : ChangeSpec := { name := "handshakeRefuses", fn := fun _ => fun
  | [d] => { results := [.lit (.bool false)], args := [d] }
  | _ => none }
def HandshakeRefusesWrongFalsely : Prop := handshakeRefusesRow.holds Tryz.pinned (OpenSpec.ofChange handshakeRefusesWrong)

/-- 'tannoylaw20.HandshakeTampers': WHATEVER THE INPUT: true; the input reads as it did. -/
def handshakeTampersSpec : ChangeSpec := { name := "handshakeTampers", fn := fun _ => fun
  | [d1, d2, d3, d4] => { results := [.lit (.bool true)], args := [d1, d2, d3, d4] }
  | _ => none }
def handshakeTampersRow : OpenClaim := { program := "ytjdieimefebnfaagreatdoor", sum := "24e26da6aece45bcc499c3f0a1b6ff9fb6423004da766a243810b353610cbc7b", func := "tannoy/tannoylaw20.HandshakeTampers", spec := "handshakeTampers", inPlace := ["internal/abi.NoEscape", "internal/bytealg.MakeNoZero", "math/bits.Add64", "internal/bytealg.IndexByteString", "internal/bytealg.IndexString"], unfollowed := true, recurses := true, named := ["unicode/utf8.first", "unicode/utf8.acceptRanges", "internal/bytealg.MaxLen"], plainKeys := false, apart := false, laid := [("unicode/utf8.acceptRanges", laid_unicode_utf8_acceptRanges), ("unicode/utf8.first", laid_unicode_utf8_first)] }
def HandshakeTampersSaid : Prop := handshakeTampersRow.holds Tryz.pinned (OpenSpec.ofChange handshakeTampersSpec)

/-- ITS FALSE NEIGHBOUR: 'it returns false'. Refute it at one input. -/
def handshakeTampersWrong : ChangeSpec := { name := "handshakeTampers", fn := fun _ => fun
  | [d1, d2, d3, d4] => { results := [.lit (.bool false)], args := [d1, d2, d3, d4] }
  | _ => none }
def HandshakeTampersWrongFalsely : Prop := handshakeTampersRow.holds Tryz.pinned (OpenSpec.ofChange handshakeTampersWrong)

/-- 'tannoylaw20.HandshakeStays': WHATEVER THE INPUT: true; the input reads as it did. -/
def handshakeStaysSpec : ChangeSpec := { name := "handshakeStays", fn := fun _ => fun
  | [d1, d2, d3, d4] => { results := [.lit (.bool true)], args := [d1, d2, d3, d4] }
  | _ => none }
def handshakeStaysRow : OpenClaim := { program := "ytjdieimefebnfaagreatdoor", sum := "24e26da6aece45bcc499c3f0a1b6ff9fb6423004da766a243810b353610cbc7b", func := "tannoy/tannoylaw20.HandshakeStays", spec := "handshakeStays", inPlace := ["internal/abi.NoEscape", "internal/bytealg.MakeNoZero", "math/bits.Add64", "internal/bytealg.IndexByteString", "internal/bytealg.IndexString"], unfollowed := true, recurses := true, named := ["unicode/utf8.first", "unicode/utf8.acceptRanges", "internal/bytealg.MaxLen"], plainKeys := false, apart := false, laid := [("unicode/utf8.acceptRanges", laid_unicode_utf8_acceptRanges), ("unicode/utf8.first", laid_unicode_utf8_first)] }
def HandshakeStaysSaid : Prop := handshakeStaysRow.holds Tryz.pinned (OpenSpec.ofChange handshakeStaysSpec)

/-- ITS FALSE NEIGHBOUR: 'it returns false'. Refute it at one input. -/
def handshakeStaysWrong : ChangeSpec := { name := "handshakeStays", fn := fun _ => fun
  | [d1, d2, d3, d4] => { results := [.lit (.bool false)], args := [d1, d2, d3, d4] }
  | _ => none }
def HandshakeStaysWrongFalsely : Prop := handshakeStaysRow.holds Tryz.pinned (OpenSpec.ofChange handshakeStaysWrong)

/-- 'tannoylaw20.HandshakeChecks': WHATEVER THE INPUT: true; the input reads as it did. -/
def handshakeChecksSpec : ChangeSpec := { name := "handshakeChecks", fn := fun _ => fun
  | [d1, d2, d3, d4, d5, d6] => { results := [.lit (.bool true)], args := [d1, d2, d3, d4, d5, d6] }
  | _ => none }
def handshakeChecksRow : OpenClaim := { program := "ytjdieimefebnfaagreatdoor", sum := "24e26da6aece45bcc499c3f0a1b6ff9fb6423004da766a243810b353610cbc7b", func := "tannoy/tannoylaw20.HandshakeChecks", spec := "handshakeChecks", inPlace := ["math/bits.Add64", "internal/bytealg.IndexByteString", "internal/bytealg.IndexString", "internal/abi.NoEscape", "internal/bytealg.MakeNoZero"], unfollowed := true, recurses := true, named := ["unicode/utf8.first", "unicode/utf8.acceptRanges", "internal/bytealg.MaxLen"], plainKeys := false, apart := false, laid := [("unicode/utf8.acceptRanges", laid_unicode_utf8_acceptRanges), ("unicode/utf8.first", laid_unicode_utf8_first)] }
def HandshakeChecksSaid : Prop := handshakeChecksRow.holds Tryz.pinned (OpenSpec.ofChange handshakeChecksSpec)

/-- ITS FALSE NEIGHBOUR: 'it returns false'. Refute it at one input. -/
def handshakeChecksWrong : ChangeSpec := { name := "handshakeChecks", fn := fun _ => fun
  | [d1, d2, d3, d4, d5, d6] => { results := [.lit (.bool false)], args := [d1, d2, d3, d4, d5, d6] }
  | _ => none }
def HandshakeChecksWrongFalsely : Prop := handshakeChecksRow.holds Tryz.pinned (OpenSpec.ofChange handshakeChecksWrong)

/-- 'tannoylaw20.HandshakeMeets': WHATEVER THE INPUT: true; the input reads as it did. -/
def handshakeMeetsSpec : ChangeSpec := { name := "handshakeMeets", fn := fun _ => fun
  | [d1, d2] => { results := [.lit (.bool true)], args := [d1, d2] }
  | _ => none }
def handshakeMeetsRow : OpenClaim := { program := "ytjdieimefebnfaagreatdoor", sum := "24e26da6aece45bcc499c3f0a1b6ff9fb6423004da766a243810b353610cbc7b", func := "tannoy/tannoylaw20.HandshakeMeets", spec := "handshakeMeets", inPlace := ["internal/abi.NoEscape", "internal/bytealg.MakeNoZero", "math/bits.Add64", "internal/bytealg.IndexByteString", "internal/bytealg.IndexString"], unfollowed := true, recurses := true, named := ["unicode/utf8.first", "unicode/utf8.acceptRanges", "internal/bytealg.MaxLen"], plainKeys := false, apart := false, laid := [("unicode/utf8.acceptRanges", laid_unicode_utf8_acceptRanges), ("unicode/utf8.first", laid_unicode_utf8_first)] }
def HandshakeMeetsSaid : Prop := handshakeMeetsRow.holds Tryz.pinned (OpenSpec.ofChange handshakeMeetsSpec)

/-- ITS FALSE NEIGHBOUR: 'it returns false'. Refute it at one input. -/
def handshakeMeetsWrong : ChangeSpec := { name := "handshakeMeets", fn := fun _ => fun
  | [d1, d2] => { results := [.lit (.bool false)], args := [d1, d2] }
  | _ => none }
def HandshakeMeetsWrongFalsely : Prop := handshakeMeetsRow.holds Tryz.pinned (OpenSpec.ofChange handshakeMeetsWrong)

/- THE SECOND FORM. 'bulk': how many values and letters a reading holds, each counted each time it is reached (what is shared counts as often as it is met; a slice's spare places count too). A statement '..UptoSaid' is the law's where the arguments, and the package variables that the reading takes, are together of bulk at most 1048576: NARROWER than '..Said'. Prove '..Said' where nothing that the law and all that it calls make is longer than what came in: it says more and counts as full. Else prove '..UptoSaid'. A law counts once. -/
mutual
def uptoBulk {H : Type} : DataW H → Nat
  | .lit (.string bytes) => bytes.length + 1
  | .lit _ => 1
  | .nil => 1
  | .ptr d => uptoBulk d + 1
  | .slice elems spare => uptoBulkAll elems + uptoBulkAll spare + 1
  | .agg parts => uptoBulkAll parts + 1
  | .iface _ d => uptoBulk d + 1
  | .map entries => uptoBulkEntries entries + 1
  | .held _ => 1
def uptoBulkAll {H : Type} : List (DataW H) → Nat
  | [] => 0
  | d :: r => uptoBulk d + uptoBulkAll r
def uptoBulkEntries {H : Type} : List (Lit × DataW H) → Nat
  | [] => 0
  | x :: r => uptoBulkEntry x + uptoBulkEntries r
def uptoBulkEntry {H : Type} : Lit × DataW H → Nat
  | (.string bytes, d) => bytes.length + uptoBulk d + 1
  | (_, d) => uptoBulk d + 1
 end
def uptoSmall : (H : Type) → List (DataW H) → Bool := fun _ ds => decide (uptoBulkAll ds ≤ 1048576)
def OpenSpec.upto (s : _root_.Go.ChangeSpec) : _root_.Go.OpenSpec := { _root_.Go.OpenSpec.ofChange s with cond := some uptoSmall }

/-- 'tannoylaw20.HandshakeSteps', WHERE WHAT IT READS IS OF BULK AT MOST 1048576: true; the input reads as it did. -/
def handshakeStepsUptoRow : OpenClaim := { program := "ytjdieimefebnfaagreatdoor", sum := "24e26da6aece45bcc499c3f0a1b6ff9fb6423004da766a243810b353610cbc7b", func := "tannoy/tannoylaw20.HandshakeSteps", spec := "handshakeSteps", inPlace := ["math/bits.Add64", "internal/bytealg.IndexByteString", "internal/bytealg.IndexString", "internal/abi.NoEscape", "internal/bytealg.MakeNoZero"], unfollowed := true, recurses := true, named := ["unicode/utf8.first", "unicode/utf8.acceptRanges", "internal/bytealg.MaxLen"], plainKeys := false, apart := false, laid := [("unicode/utf8.acceptRanges", laid_unicode_utf8_acceptRanges), ("unicode/utf8.first", laid_unicode_utf8_first)], narrowed := true }
def HandshakeStepsUptoSaid : Prop := handshakeStepsUptoRow.holds Tryz.pinned (OpenSpec.upto handshakeStepsSpec)

/-- 'tannoylaw20.HandshakeRefuses', WHERE WHAT IT READS IS OF BULK AT MOST 1048576: true; the input reads as it did. -/
def handshakeRefusesUptoRow : OpenClaim := { program := "ytjdieimefebnfaagreatdoor", sum := "24e26da6aece45bcc499c3f0a1b6ff9fb6423004da766a243810b353610cbc7b", func := "tannoy/tannoylaw20.HandshakeRefuses", spec := "handshakeRefuses", inPlace := ["internal/abi.NoEscape", "internal/bytealg.MakeNoZero", "math/bits.Add64", "internal/bytealg.IndexByteString", "internal/bytealg.IndexString"], unfollowed := true, recurses := true, named := ["unicode/utf8.first", "unicode/utf8.acceptRanges", "internal/bytealg.MaxLen"], plainKeys := false, apart := false, laid := [("unicode/utf8.acceptRanges", laid_unicode_utf8_acceptRanges), ("unicode/utf8.first", laid_unicode_utf8_first)], narrowed := true }
def HandshakeRefusesUptoSaid : Prop := handshakeRefusesUptoRow.holds Tryz.pinned (OpenSpec.upto handshakeRefusesSpec)

/-- 'tannoylaw20.HandshakeTampers', WHERE WHAT IT READS IS OF BULK AT MOST 1048576: true; the input reads as it did. -/
def handshakeTampersUptoRow : OpenClaim := { program := "ytjdieimefebnfaagreatdoor", sum := "24e26da6aece45bcc499c3f0a1b6ff9fb6423004da766a243810b353610cbc7b", func := "tannoy/tannoylaw20.HandshakeTampers", spec := "handshakeTampers", inPlace := ["internal/abi.NoEscape", "internal/bytealg.MakeNoZero", "math/bits.Add64", "internal/bytealg.IndexByteString", "internal/bytealg.IndexString"], unfollowed := true, recurses := true, named := ["unicode/utf8.first", "unicode/utf8.acceptRanges", "internal/bytealg.MaxLen"], plainKeys := false, apart := false, laid := [("unicode/utf8.acceptRanges", laid_unicode_utf8_acceptRanges), ("unicode/utf8.first", laid_unicode_utf8_first)], narrowed := true }
def HandshakeTampersUptoSaid : Prop := handshakeTampersUptoRow.holds Tryz.pinned (OpenSpec.upto handshakeTampersSpec)

/-- 'tannoylaw20.HandshakeStays', WHERE WHAT IT READS IS OF BULK AT MOST 1048576: true; the input reads as it did. -/
def handshakeStaysUptoRow : OpenClaim := { program := "ytjdieimefebnfaagreatdoor", sum := "24e26da6aece45bcc499c3f0a1b6ff9fb6423004da766a243810b353610cbc7b", func := "tannoy/tannoylaw20.HandshakeStays", spec := "handshakeStays", inPlace := ["internal/abi.NoEscape", "internal/bytealg.MakeNoZero", "math/bits.Add64", "internal/bytealg.IndexByteString", "internal/bytealg.IndexString"], unfollowed := true, recurses := true, named := ["unicode/utf8.first", "unicode/utf8.acceptRanges", "internal/bytealg.MaxLen"], plainKeys := false, apart := false, laid := [("unicode/utf8.acceptRanges", laid_unicode_utf8_acceptRanges), ("unicode/utf8.first", laid_unicode_utf8_first)], narrowed := true }
def HandshakeStaysUptoSaid : Prop := handshakeStaysUptoRow.holds Tryz.pinned (OpenSpec.upto handshakeStaysSpec)

/-- 'tannoylaw20.HandshakeChecks', WHERE WHAT IT READS IS OF BULK AT MOST 1048576: true; the input reads as it did. -/
def handshakeChecksUptoRow : OpenClaim := { program := "ytjdieimefebnfaagreatdoor", sum := "24e26da6aece45bcc499c3f0a1b6ff9fb6423004da766a243810b353610cbc7b", func := "tannoy/tannoylaw20.HandshakeChecks", spec := "handshakeChecks", inPlace := ["math/bits.Add64", "internal/bytealg.IndexByteString", "internal/bytealg.IndexString", "internal/abi.NoEscape", "internal/bytealg.MakeNoZero"], unfollowed := true, recurses := true, named := ["unicode/utf8.first", "unicode/utf8.acceptRanges", "internal/bytealg.MaxLen"], plainKeys := false, apart := false, laid := [("unicode/utf8.acceptRanges", laid_unicode_utf8_acceptRanges), ("unicode/utf8.first", laid_unicode_utf8_first)], narrowed := true }
def HandshakeChecksUptoSaid : Prop := handshakeChecksUptoRow.holds Tryz.pinned (OpenSpec.upto handshakeChecksSpec)

/-- 'tannoylaw20.HandshakeMeets', WHERE WHAT IT READS IS OF BULK AT MOST 1048576: true; the input reads as it did. -/
def handshakeMeetsUptoRow : OpenClaim := { program := "ytjdieimefebnfaagreatdoor", sum := "24e26da6aece45bcc499c3f0a1b6ff9fb6423004da766a243810b353610cbc7b", func := "tannoy/tannoylaw20.HandshakeMeets", spec := "handshakeMeets", inPlace := ["internal/abi.NoEscape", "internal/bytealg.MakeNoZero", "math/bits.Add64", "internal/bytealg.IndexByteString", "internal/bytealg.IndexString"], unfollowed := true, recurses := true, named := ["unicode/utf8.first", "unicode/utf8.acceptRanges", "internal/bytealg.MaxLen"], plainKeys := false, apart := false, laid := [("unicode/utf8.acceptRanges", laid_unicode_utf8_acceptRanges), ("unicode/utf8.first", laid_unicode_utf8_first)], narrowed := true }
def HandshakeMeetsUptoSaid : Prop := handshakeMeetsUptoRow.holds Tryz.pinned (OpenSpec.upto handshakeMeetsSpec)

end Rows
end Go.Proofs.YtjdieimefebnfaaGreatDoor
