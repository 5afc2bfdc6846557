/-
  A part of the proof of ModelKnows: closed facts of the given row and program, one theorem each.
-/
import Derived.Test.YtpiplnfjodahpaaGreatDoorCards
import Derived.JoinedCond
import Derived.KernelRfl
namespace Go.Proofs.YtpiplnfjodahpaaGreatDoor.modelKnows
open Go
set_option maxRecDepth 100000

theorem facts1 : Rows.modelKnowsRow.inPlace = Tryz.prog.inPlace 7 := by kernel_rfl
theorem facts2 : Rows.modelKnowsRow.unfollowed = Tryz.prog.unfollowed 7 := by kernel_rfl
theorem facts3 : Rows.modelKnowsRow.recurses = Tryz.prog.recurses 7 := by kernel_rfl
theorem facts4 : Rows.modelKnowsRow.named = Tryz.prog.varsNamed 7 := by kernel_rfl
theorem facts : joinedFacts Tryz.prog 7 Tryz.f7 (OpenSpec.ofChange Rows.modelKnowsSpec).bare Rows.modelKnowsRow = true := by
  unfold joinedFacts
  rw [← facts1, ← facts2, ← facts3, ← facts4]
  kernel_rfl
end Go.Proofs.YtpiplnfjodahpaaGreatDoor.modelKnows
