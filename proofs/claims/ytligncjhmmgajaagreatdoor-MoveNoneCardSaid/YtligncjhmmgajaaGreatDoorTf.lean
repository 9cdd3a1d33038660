/-
 PROVED: a closed fact about the program's variables,by the kernel. No condition.
-/
import Derived.Test.YtligncjhmmgajaaGreatDoorRows
import Derived.LaidByTextLater
import Derived.SevenTiedAt
import Derived.LaidOnce
set_option maxRecDepth 100000
set_option linter.unusedVariables false
namespace Go.Proofs.YtligncjhmmgajaaGreatDoor
open Go
theorem tie_hrun:∀os tape,doorLeaves Tryz.prog 21 8 65 [("math/bits.deBruijn64tab",Rows.laid_math_bits_deBruijn64tab),("errors.errorType",Rows.laid_errors_errorType)] os tape=some (([("math/bits.deBruijn64tab",Rows.laid_math_bits_deBruijn64tab),("errors.errorType",Rows.laid_errors_errorType)]:List (String × DataW Unit)).filter λx=>x.2.handleName?.isNone,(funcsListed [("math/bits.deBruijn64tab",Rows.laid_math_bits_deBruijn64tab),("errors.errorType",Rows.laid_errors_errorType)]).map (·.2.funcsOut)):=λ_ _=>by kernel_rfl
end Go.Proofs.YtligncjhmmgajaaGreatDoor
