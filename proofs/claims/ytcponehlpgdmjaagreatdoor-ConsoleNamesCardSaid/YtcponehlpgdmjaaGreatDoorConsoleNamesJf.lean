/-
  PROVED: closed facts of the row of 'ConsoleNames' and the program. No condition.
-/
import Derived.Test.YtcponehlpgdmjaaGreatDoorChecked
import Derived.Test.YtcponehlpgdmjaaGreatDoorRows
import Derived.Test.YtcponehlpgdmjaaGreatDoorConsoleNamesJk
import Derived.Test.YtcponehlpgdmjaaGreatDoorConsoleNamesJl
import Derived.Test.YtcponehlpgdmjaaGreatDoorConsoleNamesJm
import Derived.JoinedCond
import Derived.KernelRfl
namespace Go.Proofs.YtcponehlpgdmjaaGreatDoor.consoleNames
theorem rowsAll : (List.range Tryz.prog.types.size).all (rowFine Tryz.prog) = true := by
  have hs : Tryz.prog.types.size = 778 := by kernel_rfl
  have hr : List.range 778 = List.range' 0 260 ++ (List.range' 260 260 ++ List.range' 520 258) := by kernel_rfl
  rw [hs, hr, List.all_append, List.all_append, rows0, rows1, rows2]
  rfl
theorem jGlobals : (Tryz.prog.globals.all fun g => decide (g.type < Tryz.prog.types.size)) = true := by kernel_rfl
theorem jParams : (Tryz.prog.funcs.all fun f => f.params.all fun t => decide (t < Tryz.prog.types.size)) = true := by kernel_rfl
theorem jLaid : laidOutB Tryz.prog = true := by
  unfold laidOutB
  rw [rowsAll, jGlobals, jParams]
  rfl
theorem jMaps : mapsRowed Tryz.prog = true := by kernel_rfl
end Go.Proofs.YtcponehlpgdmjaaGreatDoor.consoleNames
