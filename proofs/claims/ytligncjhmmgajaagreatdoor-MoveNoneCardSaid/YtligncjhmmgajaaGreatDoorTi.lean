/-
 PROVED: what the rows lay is what the program's text lays,from the six facts ahead. No condition.
-/
import Derived.Test.YtligncjhmmgajaaGreatDoorRows
import Derived.Test.YtligncjhmmgajaaGreatDoorTa
import Derived.Test.YtligncjhmmgajaaGreatDoorTb
import Derived.Test.YtligncjhmmgajaaGreatDoorTc
import Derived.Test.YtligncjhmmgajaaGreatDoorTd
import Derived.Test.YtligncjhmmgajaaGreatDoorTe
import Derived.Test.YtligncjhmmgajaaGreatDoorTf
import Derived.LaidByTextLater
import Derived.SevenTiedAt
import Derived.LaidOnce
set_option maxRecDepth 100000
set_option linter.unusedVariables false
namespace Go.Proofs.YtligncjhmmgajaaGreatDoor
open Go
theorem jCv:Tryz.pinned.checked.prog.headLifts.contains "ownunsafe"=false:=by kernel_rfl
theorem tie:Tryz.prog.laidByTextLater [("math/bits.deBruijn64tab",Rows.laid_math_bits_deBruijn64tab),("errors.errorType",Rows.laid_errors_errorType)] [.data,.handle] true :=
 Program.laidByTextLater_by_one 21 8 65 tie_hw tie_hw2 tie_hroot (by kernel_rfl) tie_hg tie_hn tie_hrun
theorem qPm:Rows.moveNoneRow.laidByTextAt .later Tryz.pinned [.data,.handle] true :=
 OpenClaim.laidByTextAt_later rfl rfl tie jCv
end Go.Proofs.YtligncjhmmgajaaGreatDoor
