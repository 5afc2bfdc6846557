/-
  A part of the proof of PlanRefuses: closed facts of the given row and program, one theorem each.
-/
import Derived.Test.YtfocnoaoekkloaaGreatDoorCards
import Derived.JoinedCond
import Derived.KernelRfl
namespace Go.Proofs.YtfocnoaoekkloaaGreatDoor.planRefuses
open Go
set_option maxRecDepth 100000

theorem facts1 : Rows.planRefusesRow.inPlace = Tryz.prog.inPlace 5 := by kernel_rfl
theorem facts2 : Rows.planRefusesRow.unfollowed = Tryz.prog.unfollowed 5 := by kernel_rfl
theorem facts3 : Rows.planRefusesRow.recurses = Tryz.prog.recurses 5 := by kernel_rfl
theorem facts4 : Rows.planRefusesRow.named = Tryz.prog.varsNamed 5 := by kernel_rfl
theorem facts : joinedFacts Tryz.prog 5 Tryz.f5 (OpenSpec.ofChange Rows.planRefusesSpec).bare Rows.planRefusesRow = true := by
  unfold joinedFacts
  rw [← facts1, ← facts2, ← facts3, ← facts4]
  kernel_rfl
end Go.Proofs.YtfocnoaoekkloaaGreatDoor.planRefuses
