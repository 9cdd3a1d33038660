/-
  PROVED: the law 'ConsoleNames' returns true, from every world that fits its row (the row lays the table math/bits.deBruijn64tab); its card. Conditions: none but the row's own.
-/
import Derived.Test.YtcponehlpgdmjaaGreatDoorConsoleNamesS
import Derived.Test.YtcponehlpgdmjaaGreatDoorConsoleNamesKa
import Derived.Test.YtcponehlpgdmjaaGreatDoorConsoleNamesKb
import Derived.Test.YtcponehlpgdmjaaGreatDoorConsoleNamesKc
import Derived.Test.YtcponehlpgdmjaaGreatDoorConsoleNamesKd
import Derived.Test.YtcponehlpgdmjaaGreatDoorCards
import Derived.Test.YtcponehlpgdmjaaGreatDoorTi
import Derived.WalkKit
import Derived.ProofKit
import Derived.OpenShut
import Derived.Deep.DeepHandedRow
import Derived.Lib.LaidTab
import Derived.LaidLaws
import Derived.LaidHandle
namespace Go.Proofs.YtcponehlpgdmjaaGreatDoor.consoleNames
open Go.ChangeShapes Go.WideShapes Go.ChangeAt Go.RowKit
set_option linter.unusedVariables false
theorem card : Rows.ConsoleNamesCardSaid :=
  Claim7.holds_tied_plain_at .later [] _ _ _ _ said (fun _ h => by cases h) words (fun _ h => by cases h) consoleNames_row_tie rfl ⟨rfl, rfl⟩ mains rfl plain goes
#print axioms card
end Go.Proofs.YtcponehlpgdmjaaGreatDoor.consoleNames
