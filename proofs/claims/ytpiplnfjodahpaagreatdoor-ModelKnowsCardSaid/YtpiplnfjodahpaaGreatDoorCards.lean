/-
  DERIVED. GIVEN WITH THE SEED: THE CARDS: each row of YtpiplnfjodahpaaGreatDoorRows.lean that lists a variable, with what it lists TIED to the program's text (the seventh form; the later family's looks); each row that meets fmt, with fmt's text TOLD by the authors' own Lean function (tested against real Go, not proved from fmt's source: count such statements apart). THE CARD IS WHAT COUNTS. Prove the row's statement (the work); the ties are given (YtpiplnfjodahpaaGreatDoorTie.lean); close each card by the builder's one call (the guide's Derived/Test/ToyasCard.lean, 'card_holds'). Laid BY PROGRAM, IN A SANDBOX (cutbox-door.mjs). By AI agents, Wed Nov 11 2026. No macro, syntax, notation, axiom, sorry.
-/
import Derived.Test.YtpiplnfjodahpaaGreatDoorRows
import GoSem.ClaimSeven
namespace Go.Proofs.YtpiplnfjodahpaaGreatDoor
namespace Rows

/-- THE TIED CARD OF 'padlocklaw34.ModelSeals'. -/
def modelSealsCard : Claim7 := { stood := { row := modelSealsRow, standIns := [], harness := (true, "85e4e4317c74b9cea0ff3a56d5425a4aa399e31e240cfe576406b5da1af0ec43"), looks := false }, kinds := [], alts := [], laidByText := true, laidKinds := [.data, .pinned], laidTests := true, laidLooks := .later }
def ModelSealsCardSaid : Prop := Claim7.holds Tryz.pinned (.plain (OpenSpec.ofChange modelSealsSpec)) modelSealsCard

/-- THE TIED CARD OF 'padlocklaw34.ModelFits'. -/
def modelFitsCard : Claim7 := { stood := { row := modelFitsRow, standIns := [], harness := (true, "85e4e4317c74b9cea0ff3a56d5425a4aa399e31e240cfe576406b5da1af0ec43"), looks := false }, kinds := [], alts := [], laidByText := true, laidKinds := [.data, .pinned], laidTests := true, laidLooks := .later }
def ModelFitsCardSaid : Prop := Claim7.holds Tryz.pinned (.plain (OpenSpec.ofChange modelFitsSpec)) modelFitsCard

/-- THE TIED CARD OF 'padlocklaw34.ModelErrors'. -/
def modelErrorsCard : Claim7 := { stood := { row := modelErrorsRow, standIns := [], harness := (true, "85e4e4317c74b9cea0ff3a56d5425a4aa399e31e240cfe576406b5da1af0ec43"), looks := false }, kinds := [], alts := [], laidByText := true, laidKinds := [.data, .pinned], laidTests := true, laidLooks := .later }
def ModelErrorsCardSaid : Prop := Claim7.holds Tryz.pinned (.plain (OpenSpec.ofChange modelErrorsSpec)) modelErrorsCard

/-- THE TIED CARD OF 'padlocklaw34.ModelReads'. -/
def modelReadsCard : Claim7 := { stood := { row := modelReadsRow, standIns := [], harness := (true, "85e4e4317c74b9cea0ff3a56d5425a4aa399e31e240cfe576406b5da1af0ec43"), looks := false }, kinds := [], alts := [], laidByText := true, laidKinds := [.data, .pinned], laidTests := true, laidLooks := .later }
def ModelReadsCardSaid : Prop := Claim7.holds Tryz.pinned (.plain (OpenSpec.ofChange modelReadsSpec)) modelReadsCard

/-- THE TIED CARD OF 'padlocklaw34.ModelKnows'. -/
def modelKnowsCard : Claim7 := { stood := { row := modelKnowsRow, standIns := [], harness := (true, "85e4e4317c74b9cea0ff3a56d5425a4aa399e31e240cfe576406b5da1af0ec43"), looks := false }, kinds := [], alts := [], laidByText := true, laidKinds := [.data, .pinned], laidTests := true, laidLooks := .later }
def ModelKnowsCardSaid : Prop := Claim7.holds Tryz.pinned (.plain (OpenSpec.ofChange modelKnowsSpec)) modelKnowsCard

/-- THE SECOND FORM's CARD OF 'padlocklaw34.ModelSeals'. -/
def modelSealsUptoCard : Claim7 := { stood := { row := modelSealsUptoRow, standIns := [], harness := (true, "85e4e4317c74b9cea0ff3a56d5425a4aa399e31e240cfe576406b5da1af0ec43"), looks := false }, kinds := [], alts := [], laidByText := true, laidKinds := [.data, .pinned], laidTests := true, laidLooks := .later }
def ModelSealsUptoCardSaid : Prop := Claim7.holds Tryz.pinned (.plain (OpenSpec.upto modelSealsSpec)) modelSealsUptoCard

/-- THE SECOND FORM's CARD OF 'padlocklaw34.ModelFits'. -/
def modelFitsUptoCard : Claim7 := { stood := { row := modelFitsUptoRow, standIns := [], harness := (true, "85e4e4317c74b9cea0ff3a56d5425a4aa399e31e240cfe576406b5da1af0ec43"), looks := false }, kinds := [], alts := [], laidByText := true, laidKinds := [.data, .pinned], laidTests := true, laidLooks := .later }
def ModelFitsUptoCardSaid : Prop := Claim7.holds Tryz.pinned (.plain (OpenSpec.upto modelFitsSpec)) modelFitsUptoCard

/-- THE SECOND FORM's CARD OF 'padlocklaw34.ModelErrors'. -/
def modelErrorsUptoCard : Claim7 := { stood := { row := modelErrorsUptoRow, standIns := [], harness := (true, "85e4e4317c74b9cea0ff3a56d5425a4aa399e31e240cfe576406b5da1af0ec43"), looks := false }, kinds := [], alts := [], laidByText := true, laidKinds := [.data, .pinned], laidTests := true, laidLooks := .later }
def ModelErrorsUptoCardSaid : Prop := Claim7.holds Tryz.pinned (.plain (OpenSpec.upto modelErrorsSpec)) modelErrorsUptoCard

/-- THE SECOND FORM's CARD OF 'padlocklaw34.ModelReads'. -/
def modelReadsUptoCard : Claim7 := { stood := { row := modelReadsUptoRow, standIns := [], harness := (true, "85e4e4317c74b9cea0ff3a56d5425a4aa399e31e240cfe576406b5da1af0ec43"), looks := false }, kinds := [], alts := [], laidByText := true, laidKinds := [.data, .pinned], laidTests := true, laidLooks := .later }
def ModelReadsUptoCardSaid : Prop := Claim7.holds Tryz.pinned (.plain (OpenSpec.upto modelReadsSpec)) modelReadsUptoCard

/-- THE SECOND FORM's CARD OF 'padlocklaw34.ModelKnows'. -/
def modelKnowsUptoCard : Claim7 := { stood := { row := modelKnowsUptoRow, standIns := [], harness := (true, "85e4e4317c74b9cea0ff3a56d5425a4aa399e31e240cfe576406b5da1af0ec43"), looks := false }, kinds := [], alts := [], laidByText := true, laidKinds := [.data, .pinned], laidTests := true, laidLooks := .later }
def ModelKnowsUptoCardSaid : Prop := Claim7.holds Tryz.pinned (.plain (OpenSpec.upto modelKnowsSpec)) modelKnowsUptoCard
end Rows
end Go.Proofs.YtpiplnfjodahpaaGreatDoor
