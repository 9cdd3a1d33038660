/-
  PROVED: a closed fact of the card of 'MoveNames' and the program. No condition.
-/
import Derived.Test.YtdeccneggkhggaaGreatDoorCards
import Derived.Test.YtdeccneggkhggaaGreatDoorChecked
import Derived.SevenTiedAt
import Derived.KernelRfl
import Derived.WalkKit
import Derived.ProofKit
namespace Go.Proofs.YtdeccneggkhggaaGreatDoor.moveNames
open Go.ChangeShapes Go.WideShapes Go.ChangeAt Go.RowKit
theorem words : Rows.moveNamesRow.wfByText (OpenSpec.ofChange Rows.moveNamesSpec) = true := by kernel_rfl
end Go.Proofs.YtdeccneggkhggaaGreatDoor.moveNames
