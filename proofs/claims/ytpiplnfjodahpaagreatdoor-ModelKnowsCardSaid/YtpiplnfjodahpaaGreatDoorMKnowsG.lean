/-
  A part of the proof of ModelKnows: the program starts no goroutine that the row would have to tell of.
-/
import Derived.Test.YtpiplnfjodahpaaGreatDoorCards
import Derived.JoinedCond
import Derived.KernelRfl
namespace Go.Proofs.YtpiplnfjodahpaaGreatDoor.modelKnows
open Go
set_option maxRecDepth 100000

theorem goes : false = Rows.modelKnowsRow.goesBy Tryz.pinned.checked.prog := by kernel_rfl
end Go.Proofs.YtpiplnfjodahpaaGreatDoor.modelKnows
