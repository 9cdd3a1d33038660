/-
  PROVED: closed facts of the row of 'BetreeNames' and the program. No condition.
-/
import Derived.Test.YtgnigjhlplghkaaGreatDoorChecked
import Derived.Test.YtgnigjhlplghkaaGreatDoorRows
import Derived.JoinedCond
import Derived.KernelRfl
namespace Go.Proofs.YtgnigjhlplghkaaGreatDoor.betreeNames
theorem jInPlace : (Rows.betreeNamesRow.inPlace == Tryz.prog.inPlace 3) = true := by kernel_rfl
theorem jUnfollowed : (Rows.betreeNamesRow.unfollowed == Tryz.prog.unfollowed 3) = true := by kernel_rfl
theorem jRecurses : (Rows.betreeNamesRow.recurses == Tryz.prog.recurses 3) = true := by kernel_rfl
theorem jNamed : (Rows.betreeNamesRow.named == Tryz.prog.varsNamed 3) = true := by kernel_rfl
theorem closed : joinedFacts Tryz.prog 3 Tryz.f3 (OpenSpec.ofChange Rows.betreeNamesSpec).bare Rows.betreeNamesRow = true := by
  unfold joinedFacts
  rw [jInPlace, jUnfollowed, jRecurses, jNamed]
  kernel_rfl
end Go.Proofs.YtgnigjhlplghkaaGreatDoor.betreeNames
