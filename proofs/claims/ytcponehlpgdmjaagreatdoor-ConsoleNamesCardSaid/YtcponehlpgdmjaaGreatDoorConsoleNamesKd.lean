/-
  PROVED: a closed fact of the card of 'ConsoleNames' and the program. No condition.
-/
import Derived.Test.YtcponehlpgdmjaaGreatDoorCards
import Derived.Test.YtcponehlpgdmjaaGreatDoorChecked
import Derived.SevenTiedAt
import Derived.KernelRfl
import Derived.WalkKit
import Derived.ProofKit
namespace Go.Proofs.YtcponehlpgdmjaaGreatDoor.consoleNames
open Go.ChangeShapes Go.WideShapes Go.ChangeAt Go.RowKit
theorem words : Rows.consoleNamesRow.wfByText (OpenSpec.ofChange Rows.consoleNamesSpec) = true := by kernel_rfl
end Go.Proofs.YtcponehlpgdmjaaGreatDoor.consoleNames
