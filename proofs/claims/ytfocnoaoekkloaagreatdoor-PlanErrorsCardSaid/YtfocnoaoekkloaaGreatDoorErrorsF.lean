/-
  A part of the proof of PlanErrors: closed facts of the given row and program, one theorem each.
-/
import Derived.Test.YtfocnoaoekkloaaGreatDoorCards
import Derived.JoinedCond
import Derived.KernelRfl
namespace Go.Proofs.YtfocnoaoekkloaaGreatDoor.planErrors
open Go
set_option maxRecDepth 100000

theorem facts1 : Rows.planErrorsRow.inPlace = Tryz.prog.inPlace 8 := by kernel_rfl
theorem facts2 : Rows.planErrorsRow.unfollowed = Tryz.prog.unfollowed 8 := by kernel_rfl
theorem facts3 : Rows.planErrorsRow.recurses = Tryz.prog.recurses 8 := by kernel_rfl
theorem facts4 : Rows.planErrorsRow.named = Tryz.prog.varsNamed 8 := by kernel_rfl
theorem facts : joinedFacts Tryz.prog 8 Tryz.f8 (OpenSpec.ofChange Rows.planErrorsSpec).bare Rows.planErrorsRow = true := by
  unfold joinedFacts
  rw [← facts1, ← facts2, ← facts3, ← facts4]
  kernel_rfl
end Go.Proofs.YtfocnoaoekkloaaGreatDoor.planErrors
