/-
 PROVED: a closed fact about the program's variables,by the kernel. No condition.
-/
import Derived.Test.YtligncjhmmgajaaGreatDoorRows
import Derived.LaidByTextLater
import Derived.SevenTiedAt
import Derived.LaidOnce
set_option maxRecDepth 100000
set_option linter.unusedVariables false
namespace Go.Proofs.YtligncjhmmgajaaGreatDoor
open Go
theorem tie_hw2:Tryz.prog.worded (varsWordLater !true)=false:=by kernel_rfl
end Go.Proofs.YtligncjhmmgajaaGreatDoor
