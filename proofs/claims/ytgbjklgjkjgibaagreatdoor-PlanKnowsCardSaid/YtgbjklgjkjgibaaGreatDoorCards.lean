/-
  DERIVED. GIVEN WITH THE SEED: THE CARDS: each row of YtgbjklgjkjgibaaGreatDoorRows.lean that lists a variable, with what it lists TIED to the program's text (the seventh form; the later family's looks); each row that meets fmt, with fmt's text TOLD by the authors' own Lean function (tested against real Go, not proved from fmt's source: count such statements apart). THE CARD IS WHAT COUNTS. Prove the row's statement (the work); the ties are given (YtgbjklgjkjgibaaGreatDoorTie.lean); close each card by the builder's one call (the guide's Derived/Test/ToyasCard.lean, 'card_holds'). Laid BY PROGRAM, IN A SANDBOX (cutbox-door.mjs). By AI agents, Wed Nov 11 2026. No macro, syntax, notation, axiom, sorry.
-/
import Derived.Test.YtgbjklgjkjgibaaGreatDoorRows
import GoSem.ClaimSeven
namespace Go.Proofs.YtgbjklgjkjgibaaGreatDoor
namespace Rows

/-- THE TIED CARD OF 'padlocklaw33.PlanKnows'. -/
def planKnowsCard : Claim7 := { stood := { row := planKnowsRow, standIns := [], harness := (true, "06805c8f4ad359b8e2e3bed87325acd78f930c7999b5c087355f97c5e304a496"), looks := false }, kinds := [], alts := [], laidByText := true, laidKinds := [.data, .pinned], laidTests := true, laidLooks := .later }
def PlanKnowsCardSaid : Prop := Claim7.holds Tryz.pinned (.plain (OpenSpec.ofChange planKnowsSpec)) planKnowsCard

/-- THE SECOND FORM's CARD OF 'padlocklaw33.PlanKnows'. -/
def planKnowsUptoCard : Claim7 := { stood := { row := planKnowsUptoRow, standIns := [], harness := (true, "06805c8f4ad359b8e2e3bed87325acd78f930c7999b5c087355f97c5e304a496"), looks := false }, kinds := [], alts := [], laidByText := true, laidKinds := [.data, .pinned], laidTests := true, laidLooks := .later }
def PlanKnowsUptoCardSaid : Prop := Claim7.holds Tryz.pinned (.plain (OpenSpec.upto planKnowsSpec)) planKnowsUptoCard
end Rows
end Go.Proofs.YtgbjklgjkjgibaaGreatDoor
