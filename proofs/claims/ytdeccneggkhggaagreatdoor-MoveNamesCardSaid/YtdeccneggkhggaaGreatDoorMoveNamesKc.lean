/-
  PROVED: a closed fact of the card of 'MoveNames' and the program. No condition.
-/
import Derived.Test.YtdeccneggkhggaaGreatDoorCards
import Derived.Test.YtdeccneggkhggaaGreatDoorChecked
import Derived.SevenTiedAt
import Derived.KernelRfl
import Derived.WalkKit
import Derived.ProofKit
namespace Go.Proofs.YtdeccneggkhggaaGreatDoor.moveNames
open Go.ChangeShapes Go.WideShapes Go.ChangeAt Go.RowKit
theorem mains : Tryz.pinned.checked.prog.mainIs = some (Rows.moveNamesCard.stood.harness.1, Rows.moveNamesCard.stood.harness.2.toList) := by kernel_rfl
end Go.Proofs.YtdeccneggkhggaaGreatDoor.moveNames
