/-
  A part of the proof of ModelRestores: the program starts no goroutine that the row would have to tell of.
-/
import Derived.Test.YtglcjfimdoldbaaGreatDoorCards
import Derived.JoinedCond
import Derived.KernelRfl
namespace Go.Proofs.YtglcjfimdoldbaaGreatDoor.modelRestores
open Go
set_option maxRecDepth 100000

theorem goes : false = Rows.modelRestoresRow.goesBy Tryz.pinned.checked.prog := by kernel_rfl
end Go.Proofs.YtglcjfimdoldbaaGreatDoor.modelRestores
