/-
 PROVED: closed facts of the row of 'MoveNone' and the program. No condition.
-/
import Derived.Test.YtligncjhmmgajaaGreatDoorChecked
import Derived.Test.YtligncjhmmgajaaGreatDoorRows
import Derived.Test.YtligncjhmmgajaaGreatDoorMoveNoneJa
import Derived.Test.YtligncjhmmgajaaGreatDoorMoveNoneJb
import Derived.Test.YtligncjhmmgajaaGreatDoorMoveNoneJc
import Derived.Test.YtligncjhmmgajaaGreatDoorMoveNoneJd
import Derived.Test.YtligncjhmmgajaaGreatDoorMoveNoneJe
import Derived.Test.YtligncjhmmgajaaGreatDoorMoveNoneJf
import Derived.Test.YtligncjhmmgajaaGreatDoorMoveNoneJg
import Derived.JoinedCond
import Derived.KernelRfl
set_option linter.unusedVariables false
namespace Go.Proofs.YtligncjhmmgajaaGreatDoor.moveNone
theorem closed:joinedFacts Tryz.prog 3 Tryz.f3 (OpenSpec.ofChange Rows.moveNoneSpec).bare Rows.moveNoneRow=true:=by unfold joinedFacts;rw[jWf,jLaid,jMaps,jTie,jInPlace,jC5,jRecurses,jNamed,jPlain,jHeard,jEnter,jLift,jMake];kernel_rfl
end Go.Proofs.YtligncjhmmgajaaGreatDoor.moveNone
