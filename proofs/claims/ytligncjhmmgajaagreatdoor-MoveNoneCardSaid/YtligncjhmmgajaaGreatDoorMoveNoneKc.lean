/-
 PROVED: a closed fact of the card of 'MoveNone' and the program. No condition.
-/
import Derived.Test.YtligncjhmmgajaaGreatDoorCards
import Derived.Test.YtligncjhmmgajaaGreatDoorChecked
import Derived.SevenTiedAt
import Derived.KernelRfl
import Derived.WalkKit
import Derived.ProofKit
set_option linter.unusedVariables false
namespace Go.Proofs.YtligncjhmmgajaaGreatDoor.moveNone
open Go.ChangeShapes Go.WideShapes Go.ChangeAt Go.RowKit
theorem mains:Tryz.pinned.checked.prog.mainIs=some (Rows.moveNoneCard.stood.harness.1,Rows.moveNoneCard.stood.harness.2.toList):=by kernel_rfl
end Go.Proofs.YtligncjhmmgajaaGreatDoor.moveNone
