/-
 PROVED: closed facts of the row of 'MoveNone' and the program. No condition.
-/
import Derived.Test.YtligncjhmmgajaaGreatDoorChecked
import Derived.Test.YtligncjhmmgajaaGreatDoorRows
import Derived.JoinedCond
import Derived.KernelRfl
set_option linter.unusedVariables false
namespace Go.Proofs.YtligncjhmmgajaaGreatDoor.moveNone
theorem jWf:Rows.moveNoneRow.wf (OpenSpec.ofChange (OpenSpec.ofChange Rows.moveNoneSpec).bare)=true:=by kernel_rfl
theorem jTie:namedTie Tryz.prog Rows.moveNoneRow.named (OpenSpec.ofChange Rows.moveNoneSpec).bare.vars=true:=by kernel_rfl
end Go.Proofs.YtligncjhmmgajaaGreatDoor.moveNone
