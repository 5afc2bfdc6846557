/-
  A part of the proof of PlanNeeds: closed facts of the given row and program, one theorem each.
-/
import Derived.Test.YtfocnoaoekkloaaGreatDoorCards
import Derived.JoinedCond
import Derived.KernelRfl
namespace Go.Proofs.YtfocnoaoekkloaaGreatDoor.planNeeds
open Go
set_option maxRecDepth 100000

theorem facts1 : Rows.planNeedsRow.inPlace = Tryz.prog.inPlace 4 := by kernel_rfl
theorem facts2 : Rows.planNeedsRow.unfollowed = Tryz.prog.unfollowed 4 := by kernel_rfl
theorem facts3 : Rows.planNeedsRow.recurses = Tryz.prog.recurses 4 := by kernel_rfl
theorem facts4 : Rows.planNeedsRow.named = Tryz.prog.varsNamed 4 := by kernel_rfl
theorem facts : joinedFacts Tryz.prog 4 Tryz.f4 (OpenSpec.ofChange Rows.planNeedsSpec).bare Rows.planNeedsRow = true := by
  unfold joinedFacts
  rw [← facts1, ← facts2, ← facts3, ← facts4]
  kernel_rfl
end Go.Proofs.YtfocnoaoekkloaaGreatDoor.planNeeds
