/-
  PROVED: the law 'MoveNames' returns true, from every world that fits its row (the row lays the table math/bits.deBruijn64tab); its card. Conditions: none but the row's own.
-/
import Derived.Test.YtdeccneggkhggaaGreatDoorMoveNamesS
import Derived.Test.YtdeccneggkhggaaGreatDoorMoveNamesKa
import Derived.Test.YtdeccneggkhggaaGreatDoorMoveNamesKb
import Derived.Test.YtdeccneggkhggaaGreatDoorMoveNamesKc
import Derived.Test.YtdeccneggkhggaaGreatDoorMoveNamesKd
import Derived.Test.YtdeccneggkhggaaGreatDoorCards
import Derived.Test.YtdeccneggkhggaaGreatDoorTi
import Derived.WalkKit
import Derived.ProofKit
import Derived.OpenShut
import Derived.Deep.DeepHandedRow
import Derived.Lib.LaidTab
import Derived.LaidLaws
import Derived.LaidHandle
namespace Go.Proofs.YtdeccneggkhggaaGreatDoor.moveNames
open Go.ChangeShapes Go.WideShapes Go.ChangeAt Go.RowKit
set_option linter.unusedVariables false
theorem card : Rows.MoveNamesCardSaid :=
  Claim7.holds_tied_plain_at .later [] _ _ _ _ said (fun _ h => by cases h) words (fun _ h => by cases h) moveNames_row_tie rfl ⟨rfl, rfl⟩ mains rfl plain goes
#print axioms card
end Go.Proofs.YtdeccneggkhggaaGreatDoor.moveNames
