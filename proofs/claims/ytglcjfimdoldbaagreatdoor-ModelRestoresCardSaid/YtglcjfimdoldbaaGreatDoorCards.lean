/-
  DERIVED. GIVEN WITH THE SEED: THE CARDS: each row of YtglcjfimdoldbaaGreatDoorRows.lean that lists a variable, with what it lists TIED to the program's text (the seventh form; the later family's looks); each row that meets fmt, with fmt's text TOLD by the authors' own Lean function (tested against real Go, not proved from fmt's source: count such statements apart). THE CARD IS WHAT COUNTS. Prove the row's statement (the work); the ties are given (YtglcjfimdoldbaaGreatDoorTie.lean); close each card by the builder's one call (the guide's Derived/Test/ToyasCard.lean, 'card_holds'). Laid BY PROGRAM, IN A SANDBOX (cutbox-door.mjs). By AI agents, Wed Nov 11 2026. No macro, syntax, notation, axiom, sorry.
-/
import Derived.Test.YtglcjfimdoldbaaGreatDoorRows
import GoSem.ClaimSeven
namespace Go.Proofs.YtglcjfimdoldbaaGreatDoor
namespace Rows

/-- THE TIED CARD OF 'padlocklaw34.ModelRestores'. -/
def modelRestoresCard : Claim7 := { stood := { row := modelRestoresRow, standIns := [], harness := (true, "e3edd3f116595e7f3f1683f1250f78d7284bb79060f111ef82d6a94d68576ac6"), looks := false }, kinds := [], alts := [], laidByText := true, laidKinds := [.data, .pinned], laidTests := true, laidLooks := .later }
def ModelRestoresCardSaid : Prop := Claim7.holds Tryz.pinned (.plain (OpenSpec.ofChange modelRestoresSpec)) modelRestoresCard

/-- THE SECOND FORM's CARD OF 'padlocklaw34.ModelRestores'. -/
def modelRestoresUptoCard : Claim7 := { stood := { row := modelRestoresUptoRow, standIns := [], harness := (true, "e3edd3f116595e7f3f1683f1250f78d7284bb79060f111ef82d6a94d68576ac6"), looks := false }, kinds := [], alts := [], laidByText := true, laidKinds := [.data, .pinned], laidTests := true, laidLooks := .later }
def ModelRestoresUptoCardSaid : Prop := Claim7.holds Tryz.pinned (.plain (OpenSpec.upto modelRestoresSpec)) modelRestoresUptoCard
end Rows
end Go.Proofs.YtglcjfimdoldbaaGreatDoor
