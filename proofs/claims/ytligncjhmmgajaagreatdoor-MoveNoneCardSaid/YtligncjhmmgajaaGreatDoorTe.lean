/-
 PROVED: a closed fact about the program's variables,by the kernel. No condition.
-/
import Derived.Test.YtligncjhmmgajaaGreatDoorRows
import Derived.LaidByTextLater
import Derived.SevenTiedAt
import Derived.LaidOnce
set_option maxRecDepth 100000
set_option linter.unusedVariables false
namespace Go.Proofs.YtligncjhmmgajaaGreatDoor
open Go
theorem tie_hn:varsNamedLaterB Tryz.prog (varsId Tryz.prog) [("math/bits.deBruijn64tab",Rows.laid_math_bits_deBruijn64tab),("errors.errorType",Rows.laid_errors_errorType)]=true:=by kernel_rfl
end Go.Proofs.YtligncjhmmgajaaGreatDoor
