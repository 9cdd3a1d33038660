/-
  PROVED: a closed fact about the program's variables, by the kernel. No condition.
-/
import Derived.Test.YtcponehlpgdmjaaGreatDoorRows
import Derived.LaidByTextLater
import Derived.SevenTiedAt
import Derived.LaidOnce
namespace Go.Proofs.YtcponehlpgdmjaaGreatDoor
open Go
set_option maxRecDepth 100000
theorem tie_hw2 : Tryz.prog.worded (varsWordLater !true) = false := by kernel_rfl
end Go.Proofs.YtcponehlpgdmjaaGreatDoor
