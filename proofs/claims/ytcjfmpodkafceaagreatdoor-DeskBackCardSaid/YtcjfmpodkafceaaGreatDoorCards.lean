/-
  DERIVED. GIVEN WITH THE SEED: THE CARDS: each row of YtcjfmpodkafceaaGreatDoorRows.lean that lists a variable, with what it lists TIED to the program's text (the seventh form; the later family's looks); each row that meets fmt, with fmt's text TOLD by the authors' own Lean function (tested against real Go, not proved from fmt's source: count such statements apart). THE CARD IS WHAT COUNTS. Prove the row's statement (the work); the ties are given (YtcjfmpodkafceaaGreatDoorTie.lean); close each card by the builder's one call (the guide's Derived/Test/ToyasCard.lean, 'card_holds'). Laid BY PROGRAM, IN A SANDBOX (cutbox-door.mjs). By AI agents, Wed Nov 11 2026. No macro, syntax, notation, axiom, sorry.
-/
import Derived.Test.YtcjfmpodkafceaaGreatDoorRows
import GoSem.ClaimSeven
namespace Go.Proofs.YtcjfmpodkafceaaGreatDoor
namespace Rows

/-- THE TIED CARD OF 'padlocklaw41.DeskLines'. -/
def deskLinesCard : Claim7 := { stood := { row := deskLinesRow, standIns := [], harness := (true, "c1578a0b61088c2bca8da9e5f9a6fe0ed39073bb0daf8218013cd3147c9a117f"), looks := true }, kinds := [], alts := [], laidByText := true, laidKinds := [.data, .pinned], laidTests := true, laidLooks := .later }
def DeskLinesCardSaid : Prop := Claim7.holds Tryz.pinned (.plain (OpenSpec.ofChange deskLinesSpec)) deskLinesCard

/-- THE TIED CARD OF 'padlocklaw41.DeskBytes'. -/
def deskBytesCard : Claim7 := { stood := { row := deskBytesRow, standIns := [], harness := (true, "c1578a0b61088c2bca8da9e5f9a6fe0ed39073bb0daf8218013cd3147c9a117f"), looks := true }, kinds := [], alts := [], laidByText := true, laidKinds := [.data, .pinned], laidTests := true, laidLooks := .later }
def DeskBytesCardSaid : Prop := Claim7.holds Tryz.pinned (.plain (OpenSpec.ofChange deskBytesSpec)) deskBytesCard

/-- THE TIED CARD OF 'padlocklaw41.DeskDigits'. -/
def deskDigitsCard : Claim7 := { stood := { row := deskDigitsRow, standIns := [], harness := (true, "c1578a0b61088c2bca8da9e5f9a6fe0ed39073bb0daf8218013cd3147c9a117f"), looks := true }, kinds := [], alts := [], laidByText := true, laidKinds := [.data, .pinned], laidTests := true, laidLooks := .later }
def DeskDigitsCardSaid : Prop := Claim7.holds Tryz.pinned (.plain (OpenSpec.ofChange deskDigitsSpec)) deskDigitsCard

/-- THE TIED CARD OF 'padlocklaw41.DeskBack'. -/
def deskBackCard : Claim7 := { stood := { row := deskBackRow, standIns := [], harness := (true, "c1578a0b61088c2bca8da9e5f9a6fe0ed39073bb0daf8218013cd3147c9a117f"), looks := true }, kinds := [], alts := [], laidByText := true, laidKinds := [.data, .pinned], laidTests := true, laidLooks := .later }
def DeskBackCardSaid : Prop := Claim7.holds Tryz.pinned (.plain (OpenSpec.ofChange deskBackSpec)) deskBackCard

/-- THE SECOND FORM's CARD OF 'padlocklaw41.DeskLines'. -/
def deskLinesUptoCard : Claim7 := { stood := { row := deskLinesUptoRow, standIns := [], harness := (true, "c1578a0b61088c2bca8da9e5f9a6fe0ed39073bb0daf8218013cd3147c9a117f"), looks := true }, kinds := [], alts := [], laidByText := true, laidKinds := [.data, .pinned], laidTests := true, laidLooks := .later }
def DeskLinesUptoCardSaid : Prop := Claim7.holds Tryz.pinned (.plain (OpenSpec.upto deskLinesSpec)) deskLinesUptoCard

/-- THE SECOND FORM's CARD OF 'padlocklaw41.DeskBytes'. -/
def deskBytesUptoCard : Claim7 := { stood := { row := deskBytesUptoRow, standIns := [], harness := (true, "c1578a0b61088c2bca8da9e5f9a6fe0ed39073bb0daf8218013cd3147c9a117f"), looks := true }, kinds := [], alts := [], laidByText := true, laidKinds := [.data, .pinned], laidTests := true, laidLooks := .later }
def DeskBytesUptoCardSaid : Prop := Claim7.holds Tryz.pinned (.plain (OpenSpec.upto deskBytesSpec)) deskBytesUptoCard

/-- THE SECOND FORM's CARD OF 'padlocklaw41.DeskDigits'. -/
def deskDigitsUptoCard : Claim7 := { stood := { row := deskDigitsUptoRow, standIns := [], harness := (true, "c1578a0b61088c2bca8da9e5f9a6fe0ed39073bb0daf8218013cd3147c9a117f"), looks := true }, kinds := [], alts := [], laidByText := true, laidKinds := [.data, .pinned], laidTests := true, laidLooks := .later }
def DeskDigitsUptoCardSaid : Prop := Claim7.holds Tryz.pinned (.plain (OpenSpec.upto deskDigitsSpec)) deskDigitsUptoCard

/-- THE SECOND FORM's CARD OF 'padlocklaw41.DeskBack'. -/
def deskBackUptoCard : Claim7 := { stood := { row := deskBackUptoRow, standIns := [], harness := (true, "c1578a0b61088c2bca8da9e5f9a6fe0ed39073bb0daf8218013cd3147c9a117f"), looks := true }, kinds := [], alts := [], laidByText := true, laidKinds := [.data, .pinned], laidTests := true, laidLooks := .later }
def DeskBackUptoCardSaid : Prop := Claim7.holds Tryz.pinned (.plain (OpenSpec.upto deskBackSpec)) deskBackUptoCard
end Rows
end Go.Proofs.YtcjfmpodkafceaaGreatDoor
