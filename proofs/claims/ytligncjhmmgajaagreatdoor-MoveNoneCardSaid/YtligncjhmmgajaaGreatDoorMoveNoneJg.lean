/-
 PROVED: closed facts of the row of 'MoveNone' and the program. No condition.
-/
import Derived.Test.YtligncjhmmgajaaGreatDoorChecked
import Derived.Test.YtligncjhmmgajaaGreatDoorRows
import Derived.JoinedCond
import Derived.KernelRfl
set_option linter.unusedVariables false
namespace Go.Proofs.YtligncjhmmgajaaGreatDoor.moveNone
theorem jPlain:(Rows.moveNoneRow.plainKeys == Tryz.prog.plainKeys)=true:=by kernel_rfl
theorem jHeard:Tryz.prog.stopsHeard=true:=by kernel_rfl
theorem jEnter:Tryz.prog.mayEnter=true:=by kernel_rfl
theorem jLift:(Rows.moveNoneRow.lifted == Tryz.prog.liftsFinal)=true:=by kernel_rfl
theorem jMake:(Tryz.prog.make == some Rows.moveNoneRow.make)=true:=by kernel_rfl
end Go.Proofs.YtligncjhmmgajaaGreatDoor.moveNone
