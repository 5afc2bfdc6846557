/-
  A part of the proof of ModelFits: closed facts of the given row and program, one theorem each.
-/
import Derived.Test.YtpiplnfjodahpaaGreatDoorCards
import Derived.JoinedCond
import Derived.KernelRfl
namespace Go.Proofs.YtpiplnfjodahpaaGreatDoor.modelFits
open Go
set_option maxRecDepth 100000

theorem facts1 : Rows.modelFitsRow.inPlace = Tryz.prog.inPlace 4 := by kernel_rfl
theorem facts2 : Rows.modelFitsRow.unfollowed = Tryz.prog.unfollowed 4 := by kernel_rfl
theorem facts3 : Rows.modelFitsRow.recurses = Tryz.prog.recurses 4 := by kernel_rfl
theorem facts4 : Rows.modelFitsRow.named = Tryz.prog.varsNamed 4 := by kernel_rfl
theorem facts : joinedFacts Tryz.prog 4 Tryz.f4 (OpenSpec.ofChange Rows.modelFitsSpec).bare Rows.modelFitsRow = true := by
  unfold joinedFacts
  rw [← facts1, ← facts2, ← facts3, ← facts4]
  kernel_rfl
end Go.Proofs.YtpiplnfjodahpaaGreatDoor.modelFits
