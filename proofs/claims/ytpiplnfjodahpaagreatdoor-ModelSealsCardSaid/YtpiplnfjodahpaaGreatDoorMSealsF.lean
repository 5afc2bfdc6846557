/-
  A part of the proof of ModelSeals: closed facts of the given row and program, one theorem each.
-/
import Derived.Test.YtpiplnfjodahpaaGreatDoorCards
import Derived.JoinedCond
import Derived.KernelRfl
namespace Go.Proofs.YtpiplnfjodahpaaGreatDoor.modelSeals
open Go
set_option maxRecDepth 100000

theorem facts1 : Rows.modelSealsRow.inPlace = Tryz.prog.inPlace 3 := by kernel_rfl
theorem facts2 : Rows.modelSealsRow.unfollowed = Tryz.prog.unfollowed 3 := by kernel_rfl
theorem facts3 : Rows.modelSealsRow.recurses = Tryz.prog.recurses 3 := by kernel_rfl
theorem facts4 : Rows.modelSealsRow.named = Tryz.prog.varsNamed 3 := by kernel_rfl
theorem facts : joinedFacts Tryz.prog 3 Tryz.f3 (OpenSpec.ofChange Rows.modelSealsSpec).bare Rows.modelSealsRow = true := by
  unfold joinedFacts
  rw [← facts1, ← facts2, ← facts3, ← facts4]
  kernel_rfl
end Go.Proofs.YtpiplnfjodahpaaGreatDoor.modelSeals
