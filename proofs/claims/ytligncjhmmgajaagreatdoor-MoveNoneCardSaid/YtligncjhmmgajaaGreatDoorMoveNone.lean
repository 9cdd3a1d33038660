/-
 PROVED: the law 'MoveNone' returns true,from every world that fits its row (the row lays the table math/bits.deBruijn64tab);its card. Conditions: none but the row's own.
-/
import Derived.Test.YtligncjhmmgajaaGreatDoorMoveNoneS
import Derived.Test.YtligncjhmmgajaaGreatDoorMoveNoneKa
import Derived.Test.YtligncjhmmgajaaGreatDoorMoveNoneKb
import Derived.Test.YtligncjhmmgajaaGreatDoorMoveNoneKc
import Derived.Test.YtligncjhmmgajaaGreatDoorMoveNoneKd
set_option linter.unusedVariables false
set_option linter.unusedSimpArgs false
set_option maxRecDepth 100000
namespace Go.Proofs.YtligncjhmmgajaaGreatDoor.moveNone
open Go.ChangeShapes Go.WideShapes Go.ChangeAt Go.RowKit
theorem card:Rows.MoveNoneCardSaid :=
 Claim7.holds_tied_plain_at .later [] _ _ _ _ said (λ_ h=>by cases h) words (λ_ h=>by cases h) qPm rfl ⟨rfl,rfl⟩ mains rfl plain goes
#print axioms card
end Go.Proofs.YtligncjhmmgajaaGreatDoor.moveNone
