/-
  PROVED: closed facts of the row of 'MoveNames' and the program. No condition.
-/
import Derived.Test.YtdeccneggkhggaaGreatDoorChecked
import Derived.Test.YtdeccneggkhggaaGreatDoorRows
import Derived.Test.YtdeccneggkhggaaGreatDoorMoveNamesJa
import Derived.Test.YtdeccneggkhggaaGreatDoorMoveNamesJb
import Derived.Test.YtdeccneggkhggaaGreatDoorMoveNamesJc
import Derived.Test.YtdeccneggkhggaaGreatDoorMoveNamesJd
import Derived.JoinedCond
import Derived.KernelRfl
namespace Go.Proofs.YtdeccneggkhggaaGreatDoor.moveNames
theorem closed : joinedFacts Tryz.prog 3 Tryz.f3 (OpenSpec.ofChange Rows.moveNamesSpec).bare Rows.moveNamesRow = true := by
  unfold joinedFacts
  rw [jInPlace, jUnfollowed, jRecurses, jNamed]
  kernel_rfl
end Go.Proofs.YtdeccneggkhggaaGreatDoor.moveNames
