/-
  A part of the proof of PlanRights: closed facts of the given row and program, one theorem each.
-/
import Derived.Test.YtfocnoaoekkloaaGreatDoorCards
import Derived.JoinedCond
import Derived.KernelRfl
namespace Go.Proofs.YtfocnoaoekkloaaGreatDoor.planRights
open Go
set_option maxRecDepth 100000

theorem facts1 : Rows.planRightsRow.inPlace = Tryz.prog.inPlace 7 := by kernel_rfl
theorem facts2 : Rows.planRightsRow.unfollowed = Tryz.prog.unfollowed 7 := by kernel_rfl
theorem facts3 : Rows.planRightsRow.recurses = Tryz.prog.recurses 7 := by kernel_rfl
theorem facts4 : Rows.planRightsRow.named = Tryz.prog.varsNamed 7 := by kernel_rfl
theorem facts : joinedFacts Tryz.prog 7 Tryz.f7 (OpenSpec.ofChange Rows.planRightsSpec).bare Rows.planRightsRow = true := by
  unfold joinedFacts
  rw [← facts1, ← facts2, ← facts3, ← facts4]
  kernel_rfl
end Go.Proofs.YtfocnoaoekkloaaGreatDoor.planRights
