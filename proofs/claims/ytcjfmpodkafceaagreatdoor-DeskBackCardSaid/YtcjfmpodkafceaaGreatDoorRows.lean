/-
  NARROWER THAN 'FOR EVERY INPUT', by the rows' own cells (each row's printed sentence says how): DeskLines: laid · DeskBytes: laid · DeskDigits: laid · DeskBack: laid.
  DERIVED. THE GIVEN ROWS OF THIS SEAT. 4 by the template 'for every input the law returns true; each argument reads behind the call as it read before'; 0 by the template 'total and deterministic' (their statements: YtcjfmpodkafceaaGreatDoorTotals.lean).
  GIVEN WITH THE SEED: the statements are not yours to turn. If you find one false, say at which input.
  Laid BY PROGRAM, IN A SANDBOX (cutbox-rows.mjs): the forced cells as the released guide's own fill.sh prints them over the translation cae787408e51311e… (all of the seat's roots in one cut). By AI agents, Wed Nov 11 2026. No macro, syntax, notation, axiom, sorry.
-/
import Derived.Test.YtcjfmpodkafceaaGreatDoorChecked
import GoSem.PinnedTables
import GoSem.Claim
import GoSem.ClaimJoined
import GoSem.ClaimMapViews
import Derived.JoinedTies
import Derived.KernelRfl
namespace Go.Proofs.YtcjfmpodkafceaaGreatDoor
/- THE CELL 'sum', in the pinned program and in every row, IS THE sha256 OF THE DUMP (.gsa) THAT YtcjfmpodkafceaaGreatDoorProg.lean LOADS. Nothing in Lean hashes anything: it is a label: what it is worth is what the hold of that sum in a sandbox is worth. -/
noncomputable def Tryz.pinned : Pinned := { name := "ytcjfmpodkafceaagreatdoor", sum := "cae787408e51311ee95f822a51aa74d3d594dbe30c8404d3f43495f73e2dcb2a", checked := Tryz.checked }
namespace Rows
def none {H : Type} : Left H := { results := [], args := [] }

/- WHAT THE LISTED PACKAGE-LEVEL VARIABLES READ AS WHEN THE CALL BEGINS. Each datum BY PROGRAM (the guide's laid-datum.mjs) off the statement by which the dump's own 'gosem.cut.vars' lays the variable. In a bare row this is a premise. The card (YtcjfmpodkafceaaGreatDoorCards.lean) ties it to the program's text. -/
def laid_unicode_utf8_acceptRanges {H : Type} : DataW H := .agg [.agg [.lit (.int .u8 128), .lit (.int .u8 191)], .agg [.lit (.int .u8 160), .lit (.int .u8 191)], .agg [.lit (.int .u8 128), .lit (.int .u8 159)], .agg [.lit (.int .u8 144), .lit (.int .u8 191)], .agg [.lit (.int .u8 128), .lit (.int .u8 143)], .agg [.lit (.int .u8 0), .lit (.int .u8 0)], .agg [.lit (.int .u8 0), .lit (.int .u8 0)], .agg [.lit (.int .u8 0), .lit (.int .u8 0)], .agg [.lit (.int .u8 0), .lit (.int .u8 0)], .agg [.lit (.int .u8 0), .lit (.int .u8 0)], .agg [.lit (.int .u8 0), .lit (.int .u8 0)], .agg [.lit (.int .u8 0), .lit (.int .u8 0)], .agg [.lit (.int .u8 0), .lit (.int .u8 0)], .agg [.lit (.int .u8 0), .lit (.int .u8 0)], .agg [.lit (.int .u8 0), .lit (.int .u8 0)], .agg [.lit (.int .u8 0), .lit (.int .u8 0)]]
/-- One of Go's own tables, pinned by name: the form's constant. -/
def laid_unicode_utf8_first : DataW Unit := Go.Pinned.utf8First

/-- 'padlocklaw41.DeskLines': WHATEVER THE INPUT: true; the input reads as it did. -/
def deskLinesSpec : ChangeSpec := { name := "deskLines", fn := fun _ => fun
  | [d1, d2, d3] => { results := [.lit (.bool true)], args := [d1, d2, d3] }
  | _ => none }
def deskLinesRow : OpenClaim := { program := "ytcjfmpodkafceaagreatdoor", sum := "cae787408e51311ee95f822a51aa74d3d594dbe30c8404d3f43495f73e2dcb2a", func := "padlock/padlocklaw41.DeskLines", spec := "deskLines", inPlace := ["internal/abi.NoEscape", "internal/bytealg.MakeNoZero", "internal/bytealg.CountString", "internal/bytealg.IndexByteString", "internal/bytealg.IndexString"], unfollowed := true, recurses := true, named := ["unicode/utf8.first", "unicode/utf8.acceptRanges", "internal/bytealg.MaxLen"], apart := false, laid := [("unicode/utf8.acceptRanges", laid_unicode_utf8_acceptRanges), ("unicode/utf8.first", laid_unicode_utf8_first)] }
def DeskLinesSaid : Prop := deskLinesRow.holds Tryz.pinned (OpenSpec.ofChange deskLinesSpec)

/-- ITS FALSE NEIGHBOUR: 'it returns false'. Refute it at one input. -/
def deskLinesWrong : ChangeSpec := { name := "deskLines", fn := fun _ => fun
  | [d1, d2, d3] => { results := [.lit (.bool false)], args := [d1, d2, d3] }
  | _ => none }
def DeskLinesWrongFalsely : Prop := deskLinesRow.holds Tryz.pinned (OpenSpec.ofChange deskLinesWrong)

/-- 'padlocklaw41.DeskBytes': WHATEVER THE INPUT: true; the input reads as it did. -/
def deskBytesSpec : ChangeSpec := { name := "deskBytes", fn := fun _ => fun
  | [d1, d2] => { results := [.lit (.bool true)], args := [d1, d2] }
  | _ => none }
def deskBytesRow : OpenClaim := { program := "ytcjfmpodkafceaagreatdoor", sum := "cae787408e51311ee95f822a51aa74d3d594dbe30c8404d3f43495f73e2dcb2a", func := "padlock/padlocklaw41.DeskBytes", spec := "deskBytes", inPlace := ["internal/abi.NoEscape", "internal/bytealg.MakeNoZero", "internal/bytealg.CountString", "internal/bytealg.IndexByteString", "internal/bytealg.IndexString"], unfollowed := true, recurses := true, named := ["unicode/utf8.first", "unicode/utf8.acceptRanges", "internal/bytealg.MaxLen"], apart := false, laid := [("unicode/utf8.acceptRanges", laid_unicode_utf8_acceptRanges), ("unicode/utf8.first", laid_unicode_utf8_first)] }
def DeskBytesSaid : Prop := deskBytesRow.holds Tryz.pinned (OpenSpec.ofChange deskBytesSpec)

/-- ITS FALSE NEIGHBOUR: 'it returns false'. Refute it at one input. -/
def deskBytesWrong : ChangeSpec := { name := "deskBytes", fn := fun _ => fun
  | [d1, d2] => { results := [.lit (.bool false)], args := [d1, d2] }
  | _ => none }
def DeskBytesWrongFalsely : Prop := deskBytesRow.holds Tryz.pinned (OpenSpec.ofChange deskBytesWrong)

/-- 'padlocklaw41.DeskDigits': WHATEVER THE INPUT: true; the input reads as it did. -/
def deskDigitsSpec : ChangeSpec := { name := "deskDigits", fn := fun _ => fun
  | [d1, d2] => { results := [.lit (.bool true)], args := [d1, d2] }
  | _ => none }
def deskDigitsRow : OpenClaim := { program := "ytcjfmpodkafceaagreatdoor", sum := "cae787408e51311ee95f822a51aa74d3d594dbe30c8404d3f43495f73e2dcb2a", func := "padlock/padlocklaw41.DeskDigits", spec := "deskDigits", inPlace := ["internal/abi.NoEscape", "internal/bytealg.MakeNoZero", "internal/bytealg.CountString", "internal/bytealg.IndexByteString", "internal/bytealg.IndexString"], unfollowed := true, recurses := true, named := ["unicode/utf8.first", "unicode/utf8.acceptRanges", "internal/bytealg.MaxLen"], apart := false, laid := [("unicode/utf8.acceptRanges", laid_unicode_utf8_acceptRanges), ("unicode/utf8.first", laid_unicode_utf8_first)] }
def DeskDigitsSaid : Prop := deskDigitsRow.holds Tryz.pinned (OpenSpec.ofChange deskDigitsSpec)

/-- ITS FALSE NEIGHBOUR: 'it returns false'. Refute it at one input. -/
def deskDigitsWrong : ChangeSpec := { name := "deskDigits", fn := fun _ => fun
  | [d1, d2] => { results := [.lit (.bool false)], args := [d1, d2] }
  | _ => none }
def DeskDigitsWrongFalsely : Prop := deskDigitsRow.holds Tryz.pinned (OpenSpec.ofChange deskDigitsWrong)

/-- 'padlocklaw41.DeskBack': WHATEVER THE INPUT: true; the input reads as it did. -/
def deskBackSpec : ChangeSpec := { name := "deskBack", fn := fun _ => fun
  | [d1, d2, d3] => { results := [.lit (.bool true)], args := [d1, d2, d3] }
  | _ => none }
def deskBackRow : OpenClaim := { program := "ytcjfmpodkafceaagreatdoor", sum := "cae787408e51311ee95f822a51aa74d3d594dbe30c8404d3f43495f73e2dcb2a", func := "padlock/padlocklaw41.DeskBack", spec := "deskBack", inPlace := ["internal/abi.NoEscape", "internal/bytealg.MakeNoZero", "internal/bytealg.CountString", "internal/bytealg.IndexByteString", "internal/bytealg.IndexString"], unfollowed := true, recurses := true, named := ["unicode/utf8.first", "unicode/utf8.acceptRanges", "internal/bytealg.MaxLen"], apart := false, laid := [("unicode/utf8.acceptRanges", laid_unicode_utf8_acceptRanges), ("unicode/utf8.first", laid_unicode_utf8_first)] }
def DeskBackSaid : Prop := deskBackRow.holds Tryz.pinned (OpenSpec.ofChange deskBackSpec)

/-- ITS FALSE NEIGHBOUR: 'it returns false'. Refute it at one input. -/
def deskBackWrong : ChangeSpec := { name := "deskBack", fn := fun _ => fun
  | [d1, d2, d3] => { results := [.lit (.bool false)], args := [d1, d2, d3] }
  | _ => none }
def DeskBackWrongFalsely : Prop := deskBackRow.holds Tryz.pinned (OpenSpec.ofChange deskBackWrong)

/- THE SECOND FORM. 'bulk': how many values and letters a reading holds, each counted each time it is reached (what is shared counts as often as it is met; a slice's spare places count too). A statement '..UptoSaid' is the law's where the arguments, and the package variables that the reading takes, are together of bulk at most 1048576: NARROWER than '..Said'. Prove '..Said' where nothing that the law and all that it calls make is longer than what came in: it says more and counts as full. Else prove '..UptoSaid'. A law counts once. -/
mutual
def uptoBulk {H : Type} : DataW H → Nat
  | .lit (.string bytes) => bytes.length + 1
  | .lit _ => 1
  | .nil => 1
  | .ptr d => uptoBulk d + 1
  | .slice elems spare => uptoBulkAll elems + uptoBulkAll spare + 1
  | .agg parts => uptoBulkAll parts + 1
  | .iface _ d => uptoBulk d + 1
  | .map entries => uptoBulkEntries entries + 1
  | .held _ => 1
def uptoBulkAll {H : Type} : List (DataW H) → Nat
  | [] => 0
  | d :: r => uptoBulk d + uptoBulkAll r
def uptoBulkEntries {H : Type} : List (Lit × DataW H) → Nat
  | [] => 0
  | x :: r => uptoBulkEntry x + uptoBulkEntries r
def uptoBulkEntry {H : Type} : Lit × DataW H → Nat
  | (.string bytes, d) => bytes.length + uptoBulk d + 1
  | (_, d) => uptoBulk d + 1
 end
def uptoSmall : (H : Type) → List (DataW H) → Bool := fun _ ds => decide (uptoBulkAll ds ≤ 1048576)
def OpenSpec.upto (s : _root_.Go.ChangeSpec) : _root_.Go.OpenSpec := { _root_.Go.OpenSpec.ofChange s with cond := some uptoSmall }

/-- 'padlocklaw41.DeskLines', WHERE WHAT IT READS IS OF BULK AT MOST 1048576: true; the input reads as it did. -/
def deskLinesUptoRow : OpenClaim := { program := "ytcjfmpodkafceaagreatdoor", sum := "cae787408e51311ee95f822a51aa74d3d594dbe30c8404d3f43495f73e2dcb2a", func := "padlock/padlocklaw41.DeskLines", spec := "deskLines", inPlace := ["internal/abi.NoEscape", "internal/bytealg.MakeNoZero", "internal/bytealg.CountString", "internal/bytealg.IndexByteString", "internal/bytealg.IndexString"], unfollowed := true, recurses := true, named := ["unicode/utf8.first", "unicode/utf8.acceptRanges", "internal/bytealg.MaxLen"], apart := false, laid := [("unicode/utf8.acceptRanges", laid_unicode_utf8_acceptRanges), ("unicode/utf8.first", laid_unicode_utf8_first)], narrowed := true }
def DeskLinesUptoSaid : Prop := deskLinesUptoRow.holds Tryz.pinned (OpenSpec.upto deskLinesSpec)

/-- 'padlocklaw41.DeskBytes', WHERE WHAT IT READS IS OF BULK AT MOST 1048576: true; the input reads as it did. -/
def deskBytesUptoRow : OpenClaim := { program := "ytcjfmpodkafceaagreatdoor", sum := "cae787408e51311ee95f822a51aa74d3d594dbe30c8404d3f43495f73e2dcb2a", func := "padlock/padlocklaw41.DeskBytes", spec := "deskBytes", inPlace := ["internal/abi.NoEscape", "internal/bytealg.MakeNoZero", "internal/bytealg.CountString", "internal/bytealg.IndexByteString", "internal/bytealg.IndexString"], unfollowed := true, recurses := true, named := ["unicode/utf8.first", "unicode/utf8.acceptRanges", "internal/bytealg.MaxLen"], apart := false, laid := [("unicode/utf8.acceptRanges", laid_unicode_utf8_acceptRanges), ("unicode/utf8.first", laid_unicode_utf8_first)], narrowed := true }
def DeskBytesUptoSaid : Prop := deskBytesUptoRow.holds Tryz.pinned (OpenSpec.upto deskBytesSpec)

/-- 'padlocklaw41.DeskDigits', WHERE WHAT IT READS IS OF BULK AT MOST 1048576: true; the input reads as it did. -/
def deskDigitsUptoRow : OpenClaim := { program := "ytcjfmpodkafceaagreatdoor", sum := "cae787408e51311ee95f822a51aa74d3d594dbe30c8404d3f43495f73e2dcb2a", func := "padlock/padlocklaw41.DeskDigits", spec := "deskDigits", inPlace := ["internal/abi.NoEscape", "internal/bytealg.MakeNoZero", "internal/bytealg.CountString", "internal/bytealg.IndexByteString", "internal/bytealg.IndexString"], unfollowed := true, recurses := true, named := ["unicode/utf8.first", "unicode/utf8.acceptRanges", "internal/bytealg.MaxLen"], apart := false, laid := [("unicode/utf8.acceptRanges", laid_unicode_utf8_acceptRanges), ("unicode/utf8.first", laid_unicode_utf8_first)], narrowed := true }
def DeskDigitsUptoSaid : Prop := deskDigitsUptoRow.holds Tryz.pinned (OpenSpec.upto deskDigitsSpec)

/-- 'padlocklaw41.DeskBack', WHERE WHAT IT READS IS OF BULK AT MOST 1048576: true; the input reads as it did. -/
def deskBackUptoRow : OpenClaim := { program := "ytcjfmpodkafceaagreatdoor", sum := "cae787408e51311ee95f822a51aa74d3d594dbe30c8404d3f43495f73e2dcb2a", func := "padlock/padlocklaw41.DeskBack", spec := "deskBack", inPlace := ["internal/abi.NoEscape", "internal/bytealg.MakeNoZero", "internal/bytealg.CountString", "internal/bytealg.IndexByteString", "internal/bytealg.IndexString"], unfollowed := true, recurses := true, named := ["unicode/utf8.first", "unicode/utf8.acceptRanges", "internal/bytealg.MaxLen"], apart := false, laid := [("unicode/utf8.acceptRanges", laid_unicode_utf8_acceptRanges), ("unicode/utf8.first", laid_unicode_utf8_first)], narrowed := true }
def DeskBackUptoSaid : Prop := deskBackUptoRow.holds Tryz.pinned (OpenSpec.upto deskBackSpec)

end Rows
end Go.Proofs.YtcjfmpodkafceaaGreatDoor
