/-
 PROVED: a closed fact of the card of 'MoveNone' and the program. No condition.
-/
import Derived.Test.YtligncjhmmgajaaGreatDoorCards
import Derived.Test.YtligncjhmmgajaaGreatDoorChecked
import Derived.SevenTiedAt
import Derived.KernelRfl
import Derived.WalkKit
import Derived.ProofKit
set_option linter.unusedVariables false
namespace Go.Proofs.YtligncjhmmgajaaGreatDoor.moveNone
open Go.ChangeShapes Go.WideShapes Go.ChangeAt Go.RowKit
theorem words:Rows.moveNoneRow.wfByText (OpenSpec.ofChange Rows.moveNoneSpec)=true:=by kernel_rfl
end Go.Proofs.YtligncjhmmgajaaGreatDoor.moveNone
