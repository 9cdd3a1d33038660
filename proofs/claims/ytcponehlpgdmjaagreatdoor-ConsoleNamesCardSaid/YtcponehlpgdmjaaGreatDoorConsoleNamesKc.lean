/-
  PROVED: a closed fact of the card of 'ConsoleNames' and the program. No condition.
-/
import Derived.Test.YtcponehlpgdmjaaGreatDoorCards
import Derived.Test.YtcponehlpgdmjaaGreatDoorChecked
import Derived.SevenTiedAt
import Derived.KernelRfl
import Derived.WalkKit
import Derived.ProofKit
namespace Go.Proofs.YtcponehlpgdmjaaGreatDoor.consoleNames
open Go.ChangeShapes Go.WideShapes Go.ChangeAt Go.RowKit
theorem mains : Tryz.pinned.checked.prog.mainIs = some (Rows.consoleNamesCard.stood.harness.1, Rows.consoleNamesCard.stood.harness.2.toList) := by kernel_rfl
end Go.Proofs.YtcponehlpgdmjaaGreatDoor.consoleNames
