/-
  PROVED: closed facts of the row of 'CheckNames' and the program. No condition.
-/
import Derived.Test.YthfennkaigbbcaaGreatDoorChecked
import Derived.Test.YthfennkaigbbcaaGreatDoorRows
import Derived.JoinedCond
import Derived.KernelRfl
namespace Go.Proofs.YthfennkaigbbcaaGreatDoor.checkNames
theorem jInPlace : (Rows.checkNamesRow.inPlace == Tryz.prog.inPlace 3) = true := by kernel_rfl
theorem jUnfollowed : (Rows.checkNamesRow.unfollowed == Tryz.prog.unfollowed 3) = true := by kernel_rfl
theorem jRecurses : (Rows.checkNamesRow.recurses == Tryz.prog.recurses 3) = true := by kernel_rfl
theorem jNamed : (Rows.checkNamesRow.named == Tryz.prog.varsNamed 3) = true := by kernel_rfl
theorem closed : joinedFacts Tryz.prog 3 Tryz.f3 (OpenSpec.ofChange Rows.checkNamesSpec).bare Rows.checkNamesRow = true := by
  unfold joinedFacts
  rw [jInPlace, jUnfollowed, jRecurses, jNamed]
  kernel_rfl
end Go.Proofs.YthfennkaigbbcaaGreatDoor.checkNames
