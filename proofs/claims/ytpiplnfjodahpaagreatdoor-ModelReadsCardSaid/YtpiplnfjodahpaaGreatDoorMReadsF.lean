/-
  A part of the proof of ModelReads: closed facts of the given row and program, one theorem each.
-/
import Derived.Test.YtpiplnfjodahpaaGreatDoorCards
import Derived.JoinedCond
import Derived.KernelRfl
namespace Go.Proofs.YtpiplnfjodahpaaGreatDoor.modelReads
open Go
set_option maxRecDepth 100000

theorem facts1 : Rows.modelReadsRow.inPlace = Tryz.prog.inPlace 6 := by kernel_rfl
theorem facts2 : Rows.modelReadsRow.unfollowed = Tryz.prog.unfollowed 6 := by kernel_rfl
theorem facts3 : Rows.modelReadsRow.recurses = Tryz.prog.recurses 6 := by kernel_rfl
theorem facts4 : Rows.modelReadsRow.named = Tryz.prog.varsNamed 6 := by kernel_rfl
theorem facts : joinedFacts Tryz.prog 6 Tryz.f6 (OpenSpec.ofChange Rows.modelReadsSpec).bare Rows.modelReadsRow = true := by
  unfold joinedFacts
  rw [← facts1, ← facts2, ← facts3, ← facts4]
  kernel_rfl
end Go.Proofs.YtpiplnfjodahpaaGreatDoor.modelReads
