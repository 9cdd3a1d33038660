/-
 PROVED: closed facts of the row of 'MoveNone' and the program. No condition.
-/
import Derived.Test.YtligncjhmmgajaaGreatDoorChecked
import Derived.Test.YtligncjhmmgajaaGreatDoorRows
import Derived.JoinedCond
import Derived.KernelRfl
set_option linter.unusedVariables false
namespace Go.Proofs.YtligncjhmmgajaaGreatDoor.moveNone
theorem rows0:((List.range' 0 219).all (rowFine Tryz.prog))=true:=by kernel_rfl
end Go.Proofs.YtligncjhmmgajaaGreatDoor.moveNone
