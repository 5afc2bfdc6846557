/-
  A part of the proof of PlanDecides: the program starts no goroutine that the row would have to tell of.
-/
import Derived.Test.YtfocnoaoekkloaaGreatDoorCards
import Derived.JoinedCond
import Derived.KernelRfl
namespace Go.Proofs.YtfocnoaoekkloaaGreatDoor.planDecides
open Go
set_option maxRecDepth 100000

theorem goes : false = Rows.planDecidesRow.goesBy Tryz.pinned.checked.prog := by kernel_rfl
end Go.Proofs.YtfocnoaoekkloaaGreatDoor.planDecides
