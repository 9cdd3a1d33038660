/-
  PROVED: closed facts of the row of 'MoveNames' and the program. No condition.
-/
import Derived.Test.YtdeccneggkhggaaGreatDoorChecked
import Derived.Test.YtdeccneggkhggaaGreatDoorRows
import Derived.JoinedCond
import Derived.KernelRfl
namespace Go.Proofs.YtdeccneggkhggaaGreatDoor.moveNames
theorem jRecurses : (Rows.moveNamesRow.recurses == Tryz.prog.recurses 3) = true := by kernel_rfl
end Go.Proofs.YtdeccneggkhggaaGreatDoor.moveNames
