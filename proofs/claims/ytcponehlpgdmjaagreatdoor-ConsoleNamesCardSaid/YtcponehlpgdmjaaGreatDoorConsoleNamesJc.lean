/-
  PROVED: closed facts of the row of 'ConsoleNames' and the program. No condition.
-/
import Derived.Test.YtcponehlpgdmjaaGreatDoorChecked
import Derived.Test.YtcponehlpgdmjaaGreatDoorRows
import Derived.JoinedCond
import Derived.KernelRfl
namespace Go.Proofs.YtcponehlpgdmjaaGreatDoor.consoleNames
theorem jRecurses : (Rows.consoleNamesRow.recurses == Tryz.prog.recurses 3) = true := by kernel_rfl
end Go.Proofs.YtcponehlpgdmjaaGreatDoor.consoleNames
