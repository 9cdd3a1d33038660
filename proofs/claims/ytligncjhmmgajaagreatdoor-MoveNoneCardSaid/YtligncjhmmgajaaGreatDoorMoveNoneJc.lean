/-
 PROVED: closed facts of the row of 'MoveNone' and the program. No condition.
-/
import Derived.Test.YtligncjhmmgajaaGreatDoorChecked
import Derived.Test.YtligncjhmmgajaaGreatDoorRows
import Derived.JoinedCond
import Derived.KernelRfl
set_option linter.unusedVariables false
namespace Go.Proofs.YtligncjhmmgajaaGreatDoor.moveNone
theorem jRecurses:(Rows.moveNoneRow.recurses == Tryz.prog.recurses 3)=true:=by kernel_rfl
end Go.Proofs.YtligncjhmmgajaaGreatDoor.moveNone
