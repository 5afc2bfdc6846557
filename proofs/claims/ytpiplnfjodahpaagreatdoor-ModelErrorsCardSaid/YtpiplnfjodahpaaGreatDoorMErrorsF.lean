/-
  A part of the proof of ModelErrors: closed facts of the given row and program, one theorem each.
-/
import Derived.Test.YtpiplnfjodahpaaGreatDoorCards
import Derived.JoinedCond
import Derived.KernelRfl
namespace Go.Proofs.YtpiplnfjodahpaaGreatDoor.modelErrors
open Go
set_option maxRecDepth 100000

theorem facts1 : Rows.modelErrorsRow.inPlace = Tryz.prog.inPlace 5 := by kernel_rfl
theorem facts2 : Rows.modelErrorsRow.unfollowed = Tryz.prog.unfollowed 5 := by kernel_rfl
theorem facts3 : Rows.modelErrorsRow.recurses = Tryz.prog.recurses 5 := by kernel_rfl
theorem facts4 : Rows.modelErrorsRow.named = Tryz.prog.varsNamed 5 := by kernel_rfl
theorem facts : joinedFacts Tryz.prog 5 Tryz.f5 (OpenSpec.ofChange Rows.modelErrorsSpec).bare Rows.modelErrorsRow = true := by
  unfold joinedFacts
  rw [← facts1, ← facts2, ← facts3, ← facts4]
  kernel_rfl
end Go.Proofs.YtpiplnfjodahpaaGreatDoor.modelErrors
