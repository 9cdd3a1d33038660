/-
  PROVED: a closed fact about the program's variables, by the kernel. No condition.
-/
import Derived.Test.YtdeccneggkhggaaGreatDoorRows
import Derived.LaidByTextLater
import Derived.SevenTiedAt
import Derived.LaidOnce
namespace Go.Proofs.YtdeccneggkhggaaGreatDoor
open Go
set_option maxRecDepth 100000
theorem tie_hroot : Tryz.prog.worded rootWordLater = true := by kernel_rfl
end Go.Proofs.YtdeccneggkhggaaGreatDoor
