/-
  A part of the proof of ModelFits: the program starts no goroutine that the row would have to tell of.
-/
import Derived.Test.YtpiplnfjodahpaaGreatDoorCards
import Derived.JoinedCond
import Derived.KernelRfl
namespace Go.Proofs.YtpiplnfjodahpaaGreatDoor.modelFits
open Go
set_option maxRecDepth 100000

theorem goes : false = Rows.modelFitsRow.goesBy Tryz.pinned.checked.prog := by kernel_rfl
end Go.Proofs.YtpiplnfjodahpaaGreatDoor.modelFits
