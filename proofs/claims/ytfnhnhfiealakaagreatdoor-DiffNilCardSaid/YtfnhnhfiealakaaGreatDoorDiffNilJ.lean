/-
  PROVED: closed facts of the row of 'DiffNil' and the program. No condition.
-/
import Derived.Test.YtfnhnhfiealakaaGreatDoorChecked
import Derived.Test.YtfnhnhfiealakaaGreatDoorRows
import Derived.JoinedCond
import Derived.KernelRfl
namespace Go.Proofs.YtfnhnhfiealakaaGreatDoor.diffNil
theorem jInPlace : (Rows.diffNilRow.inPlace == Tryz.prog.inPlace 3) = true := by kernel_rfl
theorem jUnfollowed : (Rows.diffNilRow.unfollowed == Tryz.prog.unfollowed 3) = true := by kernel_rfl
theorem jRecurses : (Rows.diffNilRow.recurses == Tryz.prog.recurses 3) = true := by kernel_rfl
theorem jNamed : (Rows.diffNilRow.named == Tryz.prog.varsNamed 3) = true := by kernel_rfl
theorem closed : joinedFacts Tryz.prog 3 Tryz.f3 (OpenSpec.ofChange Rows.diffNilSpec).bare Rows.diffNilRow = true := by
  unfold joinedFacts
  rw [jInPlace, jUnfollowed, jRecurses, jNamed]
  kernel_rfl
end Go.Proofs.YtfnhnhfiealakaaGreatDoor.diffNil
