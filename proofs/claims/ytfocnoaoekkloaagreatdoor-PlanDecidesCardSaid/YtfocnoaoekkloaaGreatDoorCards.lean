/-
  DERIVED. GIVEN WITH THE SEED: THE CARDS: each row of YtfocnoaoekkloaaGreatDoorRows.lean that lists a variable, with what it lists TIED to the program's text (the seventh form; the later family's looks); each row that meets fmt, with fmt's text TOLD by the authors' own Lean function (tested against real Go, not proved from fmt's source: count such statements apart). THE CARD IS WHAT COUNTS. Prove the row's statement (the work); the ties are given (YtfocnoaoekkloaaGreatDoorTie.lean); close each card by the builder's one call (the guide's Derived/Test/ToyasCard.lean, 'card_holds'). Laid BY PROGRAM, IN A SANDBOX (cutbox-door.mjs). By AI agents, Wed Nov 11 2026. No macro, syntax, notation, axiom, sorry.
-/
import Derived.Test.YtfocnoaoekkloaaGreatDoorRows
import GoSem.ClaimSeven
namespace Go.Proofs.YtfocnoaoekkloaaGreatDoor
namespace Rows

/-- THE TIED CARD OF 'padlocklaw33.PlanKnows'. -/
def planKnowsCard : Claim7 := { stood := { row := planKnowsRow, standIns := [], harness := (true, "0ebc8b233e261d59a19aea0f1dfd981c97af90118aa6f0363261a8f307667d4d"), looks := false }, kinds := [], alts := [], laidByText := true, laidKinds := [.data, .pinned], laidTests := true, laidLooks := .later }
def PlanKnowsCardSaid : Prop := Claim7.holds Tryz.pinned (.plain (OpenSpec.ofChange planKnowsSpec)) planKnowsCard

/-- THE TIED CARD OF 'padlocklaw33.PlanNeeds'. -/
def planNeedsCard : Claim7 := { stood := { row := planNeedsRow, standIns := [], harness := (true, "0ebc8b233e261d59a19aea0f1dfd981c97af90118aa6f0363261a8f307667d4d"), looks := false }, kinds := [], alts := [], laidByText := true, laidKinds := [.data, .pinned], laidTests := true, laidLooks := .later }
def PlanNeedsCardSaid : Prop := Claim7.holds Tryz.pinned (.plain (OpenSpec.ofChange planNeedsSpec)) planNeedsCard

/-- THE TIED CARD OF 'padlocklaw33.PlanRefuses'. -/
def planRefusesCard : Claim7 := { stood := { row := planRefusesRow, standIns := [], harness := (true, "0ebc8b233e261d59a19aea0f1dfd981c97af90118aa6f0363261a8f307667d4d"), looks := false }, kinds := [], alts := [], laidByText := true, laidKinds := [.data, .pinned], laidTests := true, laidLooks := .later }
def PlanRefusesCardSaid : Prop := Claim7.holds Tryz.pinned (.plain (OpenSpec.ofChange planRefusesSpec)) planRefusesCard

/-- THE TIED CARD OF 'padlocklaw33.PlanDecides'. -/
def planDecidesCard : Claim7 := { stood := { row := planDecidesRow, standIns := [], harness := (true, "0ebc8b233e261d59a19aea0f1dfd981c97af90118aa6f0363261a8f307667d4d"), looks := false }, kinds := [], alts := [], laidByText := true, laidKinds := [.data, .pinned], laidTests := true, laidLooks := .later }
def PlanDecidesCardSaid : Prop := Claim7.holds Tryz.pinned (.plain (OpenSpec.ofChange planDecidesSpec)) planDecidesCard

/-- THE TIED CARD OF 'padlocklaw33.PlanRights'. -/
def planRightsCard : Claim7 := { stood := { row := planRightsRow, standIns := [], harness := (true, "0ebc8b233e261d59a19aea0f1dfd981c97af90118aa6f0363261a8f307667d4d"), looks := false }, kinds := [], alts := [], laidByText := true, laidKinds := [.data, .pinned], laidTests := true, laidLooks := .later }
def PlanRightsCardSaid : Prop := Claim7.holds Tryz.pinned (.plain (OpenSpec.ofChange planRightsSpec)) planRightsCard

/-- THE TIED CARD OF 'padlocklaw33.PlanErrors'. -/
def planErrorsCard : Claim7 := { stood := { row := planErrorsRow, standIns := [], harness := (true, "0ebc8b233e261d59a19aea0f1dfd981c97af90118aa6f0363261a8f307667d4d"), looks := false }, kinds := [], alts := [], laidByText := true, laidKinds := [.data, .pinned], laidTests := true, laidLooks := .later }
def PlanErrorsCardSaid : Prop := Claim7.holds Tryz.pinned (.plain (OpenSpec.ofChange planErrorsSpec)) planErrorsCard

/-- THE SECOND FORM's CARD OF 'padlocklaw33.PlanKnows'. -/
def planKnowsUptoCard : Claim7 := { stood := { row := planKnowsUptoRow, standIns := [], harness := (true, "0ebc8b233e261d59a19aea0f1dfd981c97af90118aa6f0363261a8f307667d4d"), looks := false }, kinds := [], alts := [], laidByText := true, laidKinds := [.data, .pinned], laidTests := true, laidLooks := .later }
def PlanKnowsUptoCardSaid : Prop := Claim7.holds Tryz.pinned (.plain (OpenSpec.upto planKnowsSpec)) planKnowsUptoCard

/-- THE SECOND FORM's CARD OF 'padlocklaw33.PlanNeeds'. -/
def planNeedsUptoCard : Claim7 := { stood := { row := planNeedsUptoRow, standIns := [], harness := (true, "0ebc8b233e261d59a19aea0f1dfd981c97af90118aa6f0363261a8f307667d4d"), looks := false }, kinds := [], alts := [], laidByText := true, laidKinds := [.data, .pinned], laidTests := true, laidLooks := .later }
def PlanNeedsUptoCardSaid : Prop := Claim7.holds Tryz.pinned (.plain (OpenSpec.upto planNeedsSpec)) planNeedsUptoCard

/-- THE SECOND FORM's CARD OF 'padlocklaw33.PlanRefuses'. -/
def planRefusesUptoCard : Claim7 := { stood := { row := planRefusesUptoRow, standIns := [], harness := (true, "0ebc8b233e261d59a19aea0f1dfd981c97af90118aa6f0363261a8f307667d4d"), looks := false }, kinds := [], alts := [], laidByText := true, laidKinds := [.data, .pinned], laidTests := true, laidLooks := .later }
def PlanRefusesUptoCardSaid : Prop := Claim7.holds Tryz.pinned (.plain (OpenSpec.upto planRefusesSpec)) planRefusesUptoCard

/-- THE SECOND FORM's CARD OF 'padlocklaw33.PlanDecides'. -/
def planDecidesUptoCard : Claim7 := { stood := { row := planDecidesUptoRow, standIns := [], harness := (true, "0ebc8b233e261d59a19aea0f1dfd981c97af90118aa6f0363261a8f307667d4d"), looks := false }, kinds := [], alts := [], laidByText := true, laidKinds := [.data, .pinned], laidTests := true, laidLooks := .later }
def PlanDecidesUptoCardSaid : Prop := Claim7.holds Tryz.pinned (.plain (OpenSpec.upto planDecidesSpec)) planDecidesUptoCard

/-- THE SECOND FORM's CARD OF 'padlocklaw33.PlanRights'. -/
def planRightsUptoCard : Claim7 := { stood := { row := planRightsUptoRow, standIns := [], harness := (true, "0ebc8b233e261d59a19aea0f1dfd981c97af90118aa6f0363261a8f307667d4d"), looks := false }, kinds := [], alts := [], laidByText := true, laidKinds := [.data, .pinned], laidTests := true, laidLooks := .later }
def PlanRightsUptoCardSaid : Prop := Claim7.holds Tryz.pinned (.plain (OpenSpec.upto planRightsSpec)) planRightsUptoCard

/-- THE SECOND FORM's CARD OF 'padlocklaw33.PlanErrors'. -/
def planErrorsUptoCard : Claim7 := { stood := { row := planErrorsUptoRow, standIns := [], harness := (true, "0ebc8b233e261d59a19aea0f1dfd981c97af90118aa6f0363261a8f307667d4d"), looks := false }, kinds := [], alts := [], laidByText := true, laidKinds := [.data, .pinned], laidTests := true, laidLooks := .later }
def PlanErrorsUptoCardSaid : Prop := Claim7.holds Tryz.pinned (.plain (OpenSpec.upto planErrorsSpec)) planErrorsUptoCard
end Rows
end Go.Proofs.YtfocnoaoekkloaaGreatDoor
