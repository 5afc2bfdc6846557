/-
  A part of the proof of PlanDecides: closed facts of the given row and program, one theorem each.
-/
import Derived.Test.YtfocnoaoekkloaaGreatDoorCards
import Derived.JoinedCond
import Derived.KernelRfl
namespace Go.Proofs.YtfocnoaoekkloaaGreatDoor.planDecides
open Go
set_option maxRecDepth 100000

theorem facts1 : Rows.planDecidesRow.inPlace = Tryz.prog.inPlace 6 := by kernel_rfl
theorem facts2 : Rows.planDecidesRow.unfollowed = Tryz.prog.unfollowed 6 := by kernel_rfl
theorem facts3 : Rows.planDecidesRow.recurses = Tryz.prog.recurses 6 := by kernel_rfl
theorem facts4 : Rows.planDecidesRow.named = Tryz.prog.varsNamed 6 := by kernel_rfl
theorem facts : joinedFacts Tryz.prog 6 Tryz.f6 (OpenSpec.ofChange Rows.planDecidesSpec).bare Rows.planDecidesRow = true := by
  unfold joinedFacts
  rw [← facts1, ← facts2, ← facts3, ← facts4]
  kernel_rfl
end Go.Proofs.YtfocnoaoekkloaaGreatDoor.planDecides
