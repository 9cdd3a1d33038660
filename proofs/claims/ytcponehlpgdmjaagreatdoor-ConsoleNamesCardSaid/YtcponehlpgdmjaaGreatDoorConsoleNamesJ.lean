/-
  PROVED: closed facts of the row of 'ConsoleNames' and the program. No condition.
-/
import Derived.Test.YtcponehlpgdmjaaGreatDoorChecked
import Derived.Test.YtcponehlpgdmjaaGreatDoorRows
import Derived.Test.YtcponehlpgdmjaaGreatDoorConsoleNamesJa
import Derived.Test.YtcponehlpgdmjaaGreatDoorConsoleNamesJb
import Derived.Test.YtcponehlpgdmjaaGreatDoorConsoleNamesJc
import Derived.Test.YtcponehlpgdmjaaGreatDoorConsoleNamesJd
import Derived.Test.YtcponehlpgdmjaaGreatDoorConsoleNamesJe
import Derived.Test.YtcponehlpgdmjaaGreatDoorConsoleNamesJf
import Derived.Test.YtcponehlpgdmjaaGreatDoorConsoleNamesJg
import Derived.JoinedCond
import Derived.KernelRfl
namespace Go.Proofs.YtcponehlpgdmjaaGreatDoor.consoleNames
theorem closed : joinedFacts Tryz.prog 3 Tryz.f3 (OpenSpec.ofChange Rows.consoleNamesSpec).bare Rows.consoleNamesRow = true := by
  unfold joinedFacts
  rw [jWf, jLaid, jMaps, jTie, jInPlace, jUnfollowed, jRecurses, jNamed, jPlain, jHeard, jEnter, jLift, jMake]
  kernel_rfl
end Go.Proofs.YtcponehlpgdmjaaGreatDoor.consoleNames
