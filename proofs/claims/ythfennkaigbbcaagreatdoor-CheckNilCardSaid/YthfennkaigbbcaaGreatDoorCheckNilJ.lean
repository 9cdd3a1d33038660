/-
  PROVED: closed facts of the row of 'CheckNil' and the program. No condition.
-/
import Derived.Test.YthfennkaigbbcaaGreatDoorChecked
import Derived.Test.YthfennkaigbbcaaGreatDoorRows
import Derived.JoinedCond
import Derived.KernelRfl
namespace Go.Proofs.YthfennkaigbbcaaGreatDoor.checkNil
theorem jInPlace : (Rows.checkNilRow.inPlace == Tryz.prog.inPlace 4) = true := by kernel_rfl
theorem jUnfollowed : (Rows.checkNilRow.unfollowed == Tryz.prog.unfollowed 4) = true := by kernel_rfl
theorem jRecurses : (Rows.checkNilRow.recurses == Tryz.prog.recurses 4) = true := by kernel_rfl
theorem jNamed : (Rows.checkNilRow.named == Tryz.prog.varsNamed 4) = true := by kernel_rfl
theorem closed : joinedFacts Tryz.prog 4 Tryz.f4 (OpenSpec.ofChange Rows.checkNilSpec).bare Rows.checkNilRow = true := by
  unfold joinedFacts
  rw [jInPlace, jUnfollowed, jRecurses, jNamed]
  kernel_rfl
end Go.Proofs.YthfennkaigbbcaaGreatDoor.checkNil
