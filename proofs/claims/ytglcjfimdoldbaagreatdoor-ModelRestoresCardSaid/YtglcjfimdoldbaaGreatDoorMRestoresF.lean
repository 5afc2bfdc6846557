/-
  A part of the proof of ModelRestores: closed facts of the given row and program, one theorem each.
-/
import Derived.Test.YtglcjfimdoldbaaGreatDoorCards
import Derived.JoinedCond
import Derived.KernelRfl
namespace Go.Proofs.YtglcjfimdoldbaaGreatDoor.modelRestores
open Go
set_option maxRecDepth 100000

theorem facts1 : Rows.modelRestoresRow.inPlace = Tryz.prog.inPlace 3 := by kernel_rfl
theorem facts2 : Rows.modelRestoresRow.unfollowed = Tryz.prog.unfollowed 3 := by kernel_rfl
theorem facts3 : Rows.modelRestoresRow.recurses = Tryz.prog.recurses 3 := by kernel_rfl
theorem facts4 : Rows.modelRestoresRow.named = Tryz.prog.varsNamed 3 := by kernel_rfl
theorem facts : joinedFacts Tryz.prog 3 Tryz.f3 (OpenSpec.ofChange Rows.modelRestoresSpec).bare Rows.modelRestoresRow = true := by
  unfold joinedFacts
  rw [← facts1, ← facts2, ← facts3, ← facts4]
  kernel_rfl
end Go.Proofs.YtglcjfimdoldbaaGreatDoor.modelRestores
