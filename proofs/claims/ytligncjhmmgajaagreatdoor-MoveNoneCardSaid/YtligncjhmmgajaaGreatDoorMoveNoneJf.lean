/-
 PROVED: closed facts of the row of 'MoveNone' and the program. No condition.
-/
import Derived.Test.YtligncjhmmgajaaGreatDoorChecked
import Derived.Test.YtligncjhmmgajaaGreatDoorRows
import Derived.Test.YtligncjhmmgajaaGreatDoorMoveNoneJk
import Derived.Test.YtligncjhmmgajaaGreatDoorMoveNoneJl
import Derived.Test.YtligncjhmmgajaaGreatDoorMoveNoneJm
import Derived.JoinedCond
import Derived.KernelRfl
set_option linter.unusedVariables false
namespace Go.Proofs.YtligncjhmmgajaaGreatDoor.moveNone
theorem rowsAll:(List.range Tryz.prog.types.size).all (rowFine Tryz.prog)=true:=by
 have hs:Tryz.prog.types.size=656:=by kernel_rfl
 have hr:List.range 656=List.range' 0 219++(List.range' 219 219++List.range' 438 218):=by kernel_rfl
 rw[hs,hr,List.all_append,List.all_append,rows0,rows1,rows2];rfl
theorem jGlobals:(Tryz.prog.globals.all λg=>decide (g.type<Tryz.prog.types.size))=true:=by kernel_rfl
theorem jParams:(Tryz.prog.funcs.all λf=>f.params.all λt=>decide (t<Tryz.prog.types.size))=true:=by kernel_rfl
theorem jLaid:laidOutB Tryz.prog=true:=by unfold laidOutB;rw[rowsAll,jGlobals,jParams];rfl
theorem jMaps:mapsRowed Tryz.prog=true:=by kernel_rfl
end Go.Proofs.YtligncjhmmgajaaGreatDoor.moveNone
