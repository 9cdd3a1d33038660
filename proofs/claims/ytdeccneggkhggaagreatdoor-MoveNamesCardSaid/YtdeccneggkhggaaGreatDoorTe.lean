/-
  PROVED: a closed fact about the program's variables, by the kernel. No condition.
-/
import Derived.Test.YtdeccneggkhggaaGreatDoorRows
import Derived.LaidByTextLater
import Derived.SevenTiedAt
import Derived.LaidOnce
namespace Go.Proofs.YtdeccneggkhggaaGreatDoor
open Go
set_option maxRecDepth 100000
theorem tie_hn : varsNamedLaterB Tryz.prog (varsId Tryz.prog) [("math/bits.deBruijn64tab", Rows.laid_math_bits_deBruijn64tab), ("errors.errorType", Rows.laid_errors_errorType)] = true := by kernel_rfl
end Go.Proofs.YtdeccneggkhggaaGreatDoor
