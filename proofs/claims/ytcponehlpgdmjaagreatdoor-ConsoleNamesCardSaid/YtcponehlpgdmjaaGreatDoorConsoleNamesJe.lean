/-
  PROVED: closed facts of the row of 'ConsoleNames' and the program. No condition.
-/
import Derived.Test.YtcponehlpgdmjaaGreatDoorChecked
import Derived.Test.YtcponehlpgdmjaaGreatDoorRows
import Derived.JoinedCond
import Derived.KernelRfl
namespace Go.Proofs.YtcponehlpgdmjaaGreatDoor.consoleNames
theorem jWf : Rows.consoleNamesRow.wf (OpenSpec.ofChange (OpenSpec.ofChange Rows.consoleNamesSpec).bare) = true := by kernel_rfl
theorem jTie : namedTie Tryz.prog Rows.consoleNamesRow.named (OpenSpec.ofChange Rows.consoleNamesSpec).bare.vars = true := by kernel_rfl
end Go.Proofs.YtcponehlpgdmjaaGreatDoor.consoleNames
