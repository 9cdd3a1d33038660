/-
  PROVED: closed facts of the row of 'ConsoleNames' and the program. No condition.
-/
import Derived.Test.YtcponehlpgdmjaaGreatDoorChecked
import Derived.Test.YtcponehlpgdmjaaGreatDoorRows
import Derived.JoinedCond
import Derived.KernelRfl
namespace Go.Proofs.YtcponehlpgdmjaaGreatDoor.consoleNames
theorem jPlain : (Rows.consoleNamesRow.plainKeys == Tryz.prog.plainKeys) = true := by kernel_rfl
theorem jHeard : Tryz.prog.stopsHeard = true := by kernel_rfl
theorem jEnter : Tryz.prog.mayEnter = true := by kernel_rfl
theorem jLift : (Rows.consoleNamesRow.lifted == Tryz.prog.liftsFinal) = true := by kernel_rfl
theorem jMake : (Tryz.prog.make == some Rows.consoleNamesRow.make) = true := by kernel_rfl
end Go.Proofs.YtcponehlpgdmjaaGreatDoor.consoleNames
