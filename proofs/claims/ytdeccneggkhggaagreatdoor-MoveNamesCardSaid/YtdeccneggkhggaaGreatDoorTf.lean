/-
  PROVED: a closed fact about the program's variables, by the kernel. No condition.
-/
import Derived.Test.YtdeccneggkhggaaGreatDoorRows
import Derived.LaidByTextLater
import Derived.SevenTiedAt
import Derived.LaidOnce
namespace Go.Proofs.YtdeccneggkhggaaGreatDoor
open Go
set_option maxRecDepth 100000
theorem tie_hrun : ∀ os tape, doorLeaves Tryz.prog 21 8 65 [("math/bits.deBruijn64tab", Rows.laid_math_bits_deBruijn64tab), ("errors.errorType", Rows.laid_errors_errorType)] os tape = some (([("math/bits.deBruijn64tab", Rows.laid_math_bits_deBruijn64tab), ("errors.errorType", Rows.laid_errors_errorType)] : List (String × DataW Unit)).filter fun x => x.2.handleName?.isNone, (funcsListed [("math/bits.deBruijn64tab", Rows.laid_math_bits_deBruijn64tab), ("errors.errorType", Rows.laid_errors_errorType)]).map (·.2.funcsOut)) := fun _ _ => by kernel_rfl
end Go.Proofs.YtdeccneggkhggaaGreatDoor
