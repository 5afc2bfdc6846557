/-
  NARROWER THAN 'FOR EVERY INPUT', by the rows' own cells (each row's printed sentence says how): PlanKnows: laid · PlanNeeds: laid · PlanRefuses: laid · PlanDecides: laid · PlanRights: laid · PlanErrors: laid.
  DERIVED. THE GIVEN ROWS OF THIS SEAT. 6 by the template 'for every input the law returns true; each argument reads behind the call as it read before'; 0 by the template 'total and deterministic' (their statements: YtfocnoaoekkloaaGreatDoorTotals.lean).
  GIVEN WITH THE SEED: the statements are not yours to turn. If you find one false, say at which input.
  Laid BY PROGRAM, IN A SANDBOX (cutbox-rows.mjs): the forced cells as the released guide's own fill.sh prints them over the translation 3359b52ba1998e07… (all of the seat's roots in one cut). By AI agents, Wed Nov 11 2026. No macro, syntax, notation, axiom, sorry.
-/
import Derived.Test.YtfocnoaoekkloaaGreatDoorChecked
import GoSem.PinnedTables
import GoSem.Claim
import GoSem.ClaimJoined
import GoSem.ClaimMapViews
import Derived.JoinedTies
import Derived.KernelRfl
namespace Go.Proofs.YtfocnoaoekkloaaGreatDoor
/- THE CELL 'sum', in the pinned program and in every row, IS THE sha256 OF THE DUMP (.gsa) THAT YtfocnoaoekkloaaGreatDoorProg.lean LOADS. Nothing in Lean hashes anything: it is a label: what it is worth is what the hold of that sum in a sandbox is worth. -/
noncomputable def Tryz.pinned : Pinned := { name := "ytfocnoaoekkloaagreatdoor", sum := "3359b52ba1998e0705cb2217ac26d844b0005509f1008fa1cdafd7b1b5d84591", checked := Tryz.checked }
namespace Rows
def none {H : Type} : Left H := { results := [], args := [] }

/- WHAT THE LISTED PACKAGE-LEVEL VARIABLES READ AS WHEN THE CALL BEGINS. Each datum BY PROGRAM (the guide's laid-datum.mjs) off the statement by which the dump's own 'gosem.cut.vars' lays the variable. In a bare row this is a premise. The card (YtfocnoaoekkloaaGreatDoorCards.lean) ties it to the program's text. -/
def laid_unicode_utf8_acceptRanges {H : Type} : DataW H := .agg [.agg [.lit (.int .u8 128), .lit (.int .u8 191)], .agg [.lit (.int .u8 160), .lit (.int .u8 191)], .agg [.lit (.int .u8 128), .lit (.int .u8 159)], .agg [.lit (.int .u8 144), .lit (.int .u8 191)], .agg [.lit (.int .u8 128), .lit (.int .u8 143)], .agg [.lit (.int .u8 0), .lit (.int .u8 0)], .agg [.lit (.int .u8 0), .lit (.int .u8 0)], .agg [.lit (.int .u8 0), .lit (.int .u8 0)], .agg [.lit (.int .u8 0), .lit (.int .u8 0)], .agg [.lit (.int .u8 0), .lit (.int .u8 0)], .agg [.lit (.int .u8 0), .lit (.int .u8 0)], .agg [.lit (.int .u8 0), .lit (.int .u8 0)], .agg [.lit (.int .u8 0), .lit (.int .u8 0)], .agg [.lit (.int .u8 0), .lit (.int .u8 0)], .agg [.lit (.int .u8 0), .lit (.int .u8 0)], .agg [.lit (.int .u8 0), .lit (.int .u8 0)]]
/-- One of Go's own tables, pinned by name: the form's constant. -/
def laid_unicode_utf8_first : DataW Unit := Go.Pinned.utf8First

/-- 'padlocklaw33.PlanKnows': WHATEVER THE INPUT: true; the input reads as it did. -/
def planKnowsSpec : ChangeSpec := { name := "planKnows", fn := fun _ => fun
  | [d1, d2, d3] => { results := [.lit (.bool true)], args := [d1, d2, d3] }
  | _ => none }
def planKnowsRow : OpenClaim := { program := "ytfocnoaoekkloaagreatdoor", sum := "3359b52ba1998e0705cb2217ac26d844b0005509f1008fa1cdafd7b1b5d84591", func := "padlock/padlocklaw33.PlanKnows", spec := "planKnows", inPlace := ["internal/bytealg.CountString", "internal/bytealg.IndexByteString", "internal/bytealg.IndexString", "internal/abi.NoEscape", "internal/bytealg.MakeNoZero"], unfollowed := true, recurses := true, named := ["unicode/utf8.first", "unicode/utf8.acceptRanges", "internal/bytealg.MaxLen"], apart := false, laid := [("unicode/utf8.acceptRanges", laid_unicode_utf8_acceptRanges), ("unicode/utf8.first", laid_unicode_utf8_first)] }
def PlanKnowsSaid : Prop := planKnowsRow.holds Tryz.pinned (OpenSpec.ofChange planKnowsSpec)

/-- ITS FALSE NEIGHBOUR: 'it returns false'. Refute it at one input. -/
def planKnowsWrong : ChangeSpec := { name := "planKnows", fn := fun _ => fun
  | [d1, d2, d3] => { results := [.lit (.bool false)], args := [d1, d2, d3] }
  | _ => none }
def PlanKnowsWrongFalsely : Prop := planKnowsRow.holds Tryz.pinned (OpenSpec.ofChange planKnowsWrong)

/-- 'padlocklaw33.PlanNeeds': WHATEVER THE INPUT: true; the input reads as it did. -/
def planNeedsSpec : ChangeSpec := { name := "planNeeds", fn := fun _ => fun
  | [d1, d2, d3] => { results := [.lit (.bool true)], args := [d1, d2, d3] }
  | _ => none }
def planNeedsRow : OpenClaim := { program := "ytfocnoaoekkloaagreatdoor", sum := "3359b52ba1998e0705cb2217ac26d844b0005509f1008fa1cdafd7b1b5d84591", func := "padlock/padlocklaw33.PlanNeeds", spec := "planNeeds", inPlace := ["internal/bytealg.CountString", "internal/bytealg.IndexByteString", "internal/bytealg.IndexString", "internal/abi.NoEscape", "internal/bytealg.MakeNoZero"], unfollowed := true, recurses := true, named := ["unicode/utf8.first", "unicode/utf8.acceptRanges", "internal/bytealg.MaxLen"], apart := false, laid := [("unicode/utf8.acceptRanges", laid_unicode_utf8_acceptRanges), ("unicode/utf8.first", laid_unicode_utf8_first)] }
def PlanNeedsSaid : Prop := planNeedsRow.holds Tryz.pinned (OpenSpec.ofChange planNeedsSpec)

/-- ITS FALSE NEIGHBOUR: 'it returns false'. Refute it at one input. -/
def planNeedsWrong : ChangeSpec := { name := "planNeeds", fn := fun _ => fun
  | [d1, d2, d3] => { results := [.lit (.bool false)], args := [d1, d2, d3] }
  | _ => none }
def PlanNeedsWrongFalsely : Prop := planNeedsRow.holds Tryz.pinned (OpenSpec.ofChange planNeedsWrong)

/-- 'padlocklaw33.PlanRefuses': WHATEVER THE INPUT: true; the input reads as it did. -/
def planRefusesSpec : ChangeSpec := { name := "planRefuses", fn := fun _ => fun
  | [d1, d2, d3] => { results := [.lit (.bool true)], args := [d1, d2, d3] }
  | _ => none }
def planRefusesRow : OpenClaim := { program := "ytfocnoaoekkloaagreatdoor", sum := "3359b52ba1998e0705cb2217ac26d844b0005509f1008fa1cdafd7b1b5d84591", func := "padlock/padlocklaw33.PlanRefuses", spec := "planRefuses", inPlace := ["internal/bytealg.CountString", "internal/bytealg.IndexByteString", "internal/bytealg.IndexString", "internal/abi.NoEscape", "internal/bytealg.MakeNoZero"], unfollowed := true, recurses := true, named := ["unicode/utf8.first", "unicode/utf8.acceptRanges", "internal/bytealg.MaxLen"], apart := false, laid := [("unicode/utf8.acceptRanges", laid_unicode_utf8_acceptRanges), ("unicode/utf8.first", laid_unicode_utf8_first)] }
def PlanRefusesSaid : Prop := planRefusesRow.holds Tryz.pinned (OpenSpec.ofChange planRefusesSpec)

/-- ITS FALSE NEIGHBOUR: 'it returns false'. Refute it at one input. -/
def planRefusesWrong : ChangeSpec := { name := "planRefuses", fn := fun _ => fun
  | [d1, d2, d3] => { results := [.lit (.bool false)], args := [d1, d2, d3] }
  | _ => none }
def PlanRefusesWrongFalsely : Prop := planRefusesRow.holds Tryz.pinned (OpenSpec.ofChange planRefusesWrong)

/-- 'padlocklaw33.PlanDecides': WHATEVER THE INPUT: true; the input reads as it did. -/
def planDecidesSpec : ChangeSpec := { name := "planDecides", fn := fun _ => fun
  | [d1, d2, d3] => { results := [.lit (.bool true)], args := [d1, d2, d3] }
  | _ => none }
def planDecidesRow : OpenClaim := { program := "ytfocnoaoekkloaagreatdoor", sum := "3359b52ba1998e0705cb2217ac26d844b0005509f1008fa1cdafd7b1b5d84591", func := "padlock/padlocklaw33.PlanDecides", spec := "planDecides", inPlace := ["internal/bytealg.CountString", "internal/bytealg.IndexByteString", "internal/bytealg.IndexString", "internal/abi.NoEscape", "internal/bytealg.MakeNoZero"], unfollowed := true, recurses := true, named := ["unicode/utf8.first", "unicode/utf8.acceptRanges", "internal/bytealg.MaxLen"], apart := false, laid := [("unicode/utf8.acceptRanges", laid_unicode_utf8_acceptRanges), ("unicode/utf8.first", laid_unicode_utf8_first)] }
def PlanDecidesSaid : Prop := planDecidesRow.holds Tryz.pinned (OpenSpec.ofChange planDecidesSpec)

/-- ITS FALSE NEIGHBOUR: 'it returns false'. Refute it at one input. -/
def planDecidesWrong : ChangeSpec := { name := "planDecides", fn := fun _ => fun
  | [d1, d2, d3] => { results := [.lit (.bool false)], args := [d1, d2, d3] }
  | _ => none }
def PlanDecidesWrongFalsely : Prop := planDecidesRow.holds Tryz.pinned (OpenSpec.ofChange planDecidesWrong)

/-- 'padlocklaw33.PlanRights': WHATEVER THE INPUT: true; the input reads as it did. -/
def planRightsSpec : ChangeSpec := { name := "planRights", fn := fun _ => fun
  | [d1, d2, d3] => { results := [.lit (.bool true)], args := [d1, d2, d3] }
  | _ => none }
def planRightsRow : OpenClaim := { program := "ytfocnoaoekkloaagreatdoor", sum := "3359b52ba1998e0705cb2217ac26d844b0005509f1008fa1cdafd7b1b5d84591", func := "padlock/padlocklaw33.PlanRights", spec := "planRights", inPlace := ["internal/bytealg.CountString", "internal/bytealg.IndexByteString", "internal/bytealg.IndexString", "internal/abi.NoEscape", "internal/bytealg.MakeNoZero"], unfollowed := true, recurses := true, named := ["unicode/utf8.first", "unicode/utf8.acceptRanges", "internal/bytealg.MaxLen"], apart := false, laid := [("unicode/utf8.acceptRanges", laid_unicode_utf8_acceptRanges), ("unicode/utf8.first", laid_unicode_utf8_first)] }
def PlanRightsSaid : Prop := planRightsRow.holds Tryz.pinned (OpenSpec.ofChange planRightsSpec)

/-- ITS FALSE NEIGHBOUR: 'it returns false'. Refute it at one input. -/
def planRightsWrong : ChangeSpec := { name := "planRights", fn := fun _ => fun
  | [d1, d2, d3] => { results := [.lit (.bool false)], args := [d1, d2, d3] }
  | _ => none }
def PlanRightsWrongFalsely : Prop := planRightsRow.holds Tryz.pinned (OpenSpec.ofChange planRightsWrong)

/-- 'padlocklaw33.PlanErrors': WHATEVER THE INPUT: true; the input reads as it did. -/
def planErrorsSpec : ChangeSpec := { name := "planErrors", fn := fun _ => fun
  | [d1, d2, d3] => { results := [.lit (.bool true)], args := [d1, d2, d3] }
  | _ => none }
def planErrorsRow : OpenClaim := { program := "ytfocnoaoekkloaagreatdoor", sum := "3359b52ba1998e0705cb2217ac26d844b0005509f1008fa1cdafd7b1b5d84591", func := "padlock/padlocklaw33.PlanErrors", spec := "planErrors", inPlace := ["internal/bytealg.CountString", "internal/bytealg.IndexByteString", "internal/bytealg.IndexString", "internal/abi.NoEscape", "internal/bytealg.MakeNoZero"], unfollowed := true, recurses := true, named := ["unicode/utf8.first", "unicode/utf8.acceptRanges", "internal/bytealg.MaxLen"], apart := false, laid := [("unicode/utf8.acceptRanges", laid_unicode_utf8_acceptRanges), ("unicode/utf8.first", laid_unicode_utf8_first)] }
def PlanErrorsSaid : Prop := planErrorsRow.holds Tryz.pinned (OpenSpec.ofChange planErrorsSpec)

/-- ITS FALSE NEIGHBOUR: 'it returns false'. Refute it at one input. -/
def planErrorsWrong : ChangeSpec := { name := "planErrors", fn := fun _ => fun
  | [d1, d2, d3] => { results := [.lit (.bool false)], args := [d1, d2, d3] }
  | _ => none }
def PlanErrorsWrongFalsely : Prop := planErrorsRow.holds Tryz.pinned (OpenSpec.ofChange planErrorsWrong)

/- THE SECOND FORM. 'bulk': how many values and letters a reading holds, each counted each time it is reached (what is shared counts as often as it is met; a slice's spare places count too). A statement '..UptoSaid' is the law's where the arguments, and the package variables that the reading takes, are together of bulk at most 1048576: NARROWER than '..Said'. Prove '..Said' where nothing that the law and all that it calls make is longer than what came in: it says more and counts as full. Else prove '..UptoSaid'. A law counts once. -/
mutual
def uptoBulk {H : Type} : DataW H → Nat
  | .lit (.string bytes) => bytes.length + 1
  | .lit _ => 1
  | .nil => 1
  | .ptr d => uptoBulk d + 1
  | .slice elems spare => uptoBulkAll elems + uptoBulkAll spare + 1
  | .agg parts => uptoBulkAll parts + 1
  | .iface _ d => uptoBulk d + 1
  | .map entries => uptoBulkEntries entries + 1
  | .held _ => 1
def uptoBulkAll {H : Type} : List (DataW H) → Nat
  | [] => 0
  | d :: r => uptoBulk d + uptoBulkAll r
def uptoBulkEntries {H : Type} : List (Lit × DataW H) → Nat
  | [] => 0
  | x :: r => uptoBulkEntry x + uptoBulkEntries r
def uptoBulkEntry {H : Type} : Lit × DataW H → Nat
  | (.string bytes, d) => bytes.length + uptoBulk d + 1
  | (_, d) => uptoBulk d + 1
 end
def uptoSmall : (H : Type) → List (DataW H) → Bool := fun _ ds => decide (uptoBulkAll ds ≤ 1048576)
def OpenSpec.upto (s : _root_.Go.ChangeSpec) : _root_.Go.OpenSpec := { _root_.Go.OpenSpec.ofChange s with cond := some uptoSmall }

/-- 'padlocklaw33.PlanKnows', WHERE WHAT IT READS IS OF BULK AT MOST 1048576: true; the input reads as it did. -/
def planKnowsUptoRow : OpenClaim := { program := "ytfocnoaoekkloaagreatdoor", sum := "3359b52ba1998e0705cb2217ac26d844b0005509f1008fa1cdafd7b1b5d84591", func := "padlock/padlocklaw33.PlanKnows", spec := "planKnows", inPlace := ["internal/bytealg.CountString", "internal/bytealg.IndexByteString", "internal/bytealg.IndexString", "internal/abi.NoEscape", "internal/bytealg.MakeNoZero"], unfollowed := true, recurses := true, named := ["unicode/utf8.first", "unicode/utf8.acceptRanges", "internal/bytealg.MaxLen"], apart := false, laid := [("unicode/utf8.acceptRanges", laid_unicode_utf8_acceptRanges), ("unicode/utf8.first", laid_unicode_utf8_first)], narrowed := true }
def PlanKnowsUptoSaid : Prop := planKnowsUptoRow.holds Tryz.pinned (OpenSpec.upto planKnowsSpec)

/-- 'padlocklaw33.PlanNeeds', WHERE WHAT IT READS IS OF BULK AT MOST 1048576: true; the input reads as it did. -/
def planNeedsUptoRow : OpenClaim := { program := "ytfocnoaoekkloaagreatdoor", sum := "3359b52ba1998e0705cb2217ac26d844b0005509f1008fa1cdafd7b1b5d84591", func := "padlock/padlocklaw33.PlanNeeds", spec := "planNeeds", inPlace := ["internal/bytealg.CountString", "internal/bytealg.IndexByteString", "internal/bytealg.IndexString", "internal/abi.NoEscape", "internal/bytealg.MakeNoZero"], unfollowed := true, recurses := true, named := ["unicode/utf8.first", "unicode/utf8.acceptRanges", "internal/bytealg.MaxLen"], apart := false, laid := [("unicode/utf8.acceptRanges", laid_unicode_utf8_acceptRanges), ("unicode/utf8.first", laid_unicode_utf8_first)], narrowed := true }
def PlanNeedsUptoSaid : Prop := planNeedsUptoRow.holds Tryz.pinned (OpenSpec.upto planNeedsSpec)

/-- 'padlocklaw33.PlanRefuses', WHERE WHAT IT READS IS OF BULK AT MOST 1048576: true; the input reads as it did. -/
def planRefusesUptoRow : OpenClaim := { program := "ytfocnoaoekkloaagreatdoor", sum := "3359b52ba1998e0705cb2217ac26d844b0005509f1008fa1cdafd7b1b5d84591", func := "padlock/padlocklaw33.PlanRefuses", spec := "planRefuses", inPlace := ["internal/bytealg.CountString", "internal/bytealg.IndexByteString", "internal/bytealg.IndexString", "internal/abi.NoEscape", "internal/bytealg.MakeNoZero"], unfollowed := true, recurses := true, named := ["unicode/utf8.first", "unicode/utf8.acceptRanges", "internal/bytealg.MaxLen"], apart := false, laid := [("unicode/utf8.acceptRanges", laid_unicode_utf8_acceptRanges), ("unicode/utf8.first", laid_unicode_utf8_first)], narrowed := true }
def PlanRefusesUptoSaid : Prop := planRefusesUptoRow.holds Tryz.pinned (OpenSpec.upto planRefusesSpec)

/-- 'padlocklaw33.PlanDecides', WHERE WHAT IT READS IS OF BULK AT MOST 1048576: true; the input reads as it did. -/
def planDecidesUptoRow : OpenClaim := { program := "ytfocnoaoekkloaagreatdoor", sum := "3359b52ba1998e0705cb2217ac26d844b0005509f1008fa1cdafd7b1b5d84591", func := "padlock/padlocklaw33.PlanDecides", spec := "planDecides", inPlace := ["internal/bytealg.CountString", "internal/bytealg.IndexByteString", "internal/bytealg.IndexString", "internal/abi.NoEscape", "internal/bytealg.MakeNoZero"], unfollowed := true, recurses := true, named := ["unicode/utf8.first", "unicode/utf8.acceptRanges", "internal/bytealg.MaxLen"], apart := false, laid := [("unicode/utf8.acceptRanges", laid_unicode_utf8_acceptRanges), ("unicode/utf8.first", laid_unicode_utf8_first)], narrowed := true }
def PlanDecidesUptoSaid : Prop := planDecidesUptoRow.holds Tryz.pinned (OpenSpec.upto planDecidesSpec)

/-- 'padlocklaw33.PlanRights', WHERE WHAT IT READS IS OF BULK AT MOST 1048576: true; the input reads as it did. -/
def planRightsUptoRow : OpenClaim := { program := "ytfocnoaoekkloaagreatdoor", sum := "3359b52ba1998e0705cb2217ac26d844b0005509f1008fa1cdafd7b1b5d84591", func := "padlock/padlocklaw33.PlanRights", spec := "planRights", inPlace := ["internal/bytealg.CountString", "internal/bytealg.IndexByteString", "internal/bytealg.IndexString", "internal/abi.NoEscape", "internal/bytealg.MakeNoZero"], unfollowed := true, recurses := true, named := ["unicode/utf8.first", "unicode/utf8.acceptRanges", "internal/bytealg.MaxLen"], apart := false, laid := [("unicode/utf8.acceptRanges", laid_unicode_utf8_acceptRanges), ("unicode/utf8.first", laid_unicode_utf8_first)], narrowed := true }
def PlanRightsUptoSaid : Prop := planRightsUptoRow.holds Tryz.pinned (OpenSpec.upto planRightsSpec)

/-- 'padlocklaw33.PlanErrors', WHERE WHAT IT READS IS OF BULK AT MOST 1048576: true; the input reads as it did. -/
def planErrorsUptoRow : OpenClaim := { program := "ytfocnoaoekkloaagreatdoor", sum := "3359b52ba1998e0705cb2217ac26d844b0005509f1008fa1cdafd7b1b5d84591", func := "padlock/padlocklaw33.PlanErrors", spec := "planErrors", inPlace := ["internal/bytealg.CountString", "internal/bytealg.IndexByteString", "internal/bytealg.IndexString", "internal/abi.NoEscape", "internal/bytealg.MakeNoZero"], unfollowed := true, recurses := true, named := ["unicode/utf8.first", "unicode/utf8.acceptRanges", "internal/bytealg.MaxLen"], apart := false, laid := [("unicode/utf8.acceptRanges", laid_unicode_utf8_acceptRanges), ("unicode/utf8.first", laid_unicode_utf8_first)], narrowed := true }
def PlanErrorsUptoSaid : Prop := planErrorsUptoRow.holds Tryz.pinned (OpenSpec.upto planErrorsSpec)

end Rows
end Go.Proofs.YtfocnoaoekkloaaGreatDoor
