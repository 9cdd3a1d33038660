/-
  PROVED: what the rows lay is what the program's text lays, from the facts ahead. No condition.
-/
import Derived.Test.YtcponehlpgdmjaaGreatDoorRows
import Derived.Test.YtcponehlpgdmjaaGreatDoorTa
import Derived.Test.YtcponehlpgdmjaaGreatDoorTb
import Derived.Test.YtcponehlpgdmjaaGreatDoorTc
import Derived.Test.YtcponehlpgdmjaaGreatDoorTd
import Derived.Test.YtcponehlpgdmjaaGreatDoorTe
import Derived.Test.YtcponehlpgdmjaaGreatDoorTf
import Derived.Test.YtcponehlpgdmjaaGreatDoorTg
import Derived.Test.YtcponehlpgdmjaaGreatDoorTh
import Derived.LaidByTextLater
import Derived.SevenTiedAt
import Derived.LaidOnce
namespace Go.Proofs.YtcponehlpgdmjaaGreatDoor
open Go
set_option maxRecDepth 100000
theorem tie : Tryz.prog.laidByTextLater [("math/bits.deBruijn64tab", Rows.laid_math_bits_deBruijn64tab), ("errors.errorType", Rows.laid_errors_errorType), ("internal/strconv.uint64pow10", Rows.laid_internal_strconv_uint64pow10), ("math/bits.deBruijn32tab", Rows.laid_math_bits_deBruijn32tab), ("unicode/utf8.acceptRanges", Rows.laid_unicode_utf8_acceptRanges)] [.data, .handle, .data, .data, .data] true :=
  Program.laidByTextLater_by_one 400 8 65 tie_hw tie_hw2 tie_hroot (by kernel_rfl) tie_hg tie_hn tie_hrun
theorem consoleNames_row_tie : Rows.consoleNamesRow.laidByTextAt .later Tryz.pinned [.data, .handle, .data, .data, .pinned, .data] true :=
  OpenClaim.laidByTextAt_pinned rfl rfl tie rfl rfl rfl rfl (fun y hy _e => by
    simp only [Rows.consoleNamesRow, List.zip_cons_cons, List.zip_nil_right, List.mem_cons, List.mem_nil_iff, or_false] at hy
    rcases hy with rfl | rfl | rfl | rfl | rfl | rfl
    · cases _e
    · cases _e
    · cases _e
    · cases _e
    · exact ⟨tie_pin, by kernel_rfl⟩
    · cases _e) fits1
end Go.Proofs.YtcponehlpgdmjaaGreatDoor
