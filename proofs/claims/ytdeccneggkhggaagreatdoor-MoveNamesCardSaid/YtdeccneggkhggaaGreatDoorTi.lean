/-
  PROVED: what the rows lay is what the program's text lays, from the six facts ahead. No condition.
-/
import Derived.Test.YtdeccneggkhggaaGreatDoorRows
import Derived.Test.YtdeccneggkhggaaGreatDoorTa
import Derived.Test.YtdeccneggkhggaaGreatDoorTb
import Derived.Test.YtdeccneggkhggaaGreatDoorTc
import Derived.Test.YtdeccneggkhggaaGreatDoorTd
import Derived.Test.YtdeccneggkhggaaGreatDoorTe
import Derived.Test.YtdeccneggkhggaaGreatDoorTf
import Derived.LaidByTextLater
import Derived.SevenTiedAt
import Derived.LaidOnce
namespace Go.Proofs.YtdeccneggkhggaaGreatDoor
open Go
set_option maxRecDepth 100000
theorem noOwnUnsafe : Tryz.pinned.checked.prog.headLifts.contains "ownunsafe" = false := by kernel_rfl
theorem tie : Tryz.prog.laidByTextLater [("math/bits.deBruijn64tab", Rows.laid_math_bits_deBruijn64tab), ("errors.errorType", Rows.laid_errors_errorType)] [.data, .handle] true :=
  Program.laidByTextLater_by_one 21 8 65 tie_hw tie_hw2 tie_hroot (by kernel_rfl) tie_hg tie_hn tie_hrun
theorem moveNames_row_tie : Rows.moveNamesRow.laidByTextAt .later Tryz.pinned [.data, .handle] true :=
  OpenClaim.laidByTextAt_later rfl rfl tie noOwnUnsafe
end Go.Proofs.YtdeccneggkhggaaGreatDoor
