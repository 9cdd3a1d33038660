/-
  PROVED: closed facts of the row of 'BtreeNil' and the program. No condition.
-/
import Derived.Test.YtghpkpddmicleaaGreatDoorChecked
import Derived.Test.YtghpkpddmicleaaGreatDoorRows
import Derived.JoinedCond
import Derived.KernelRfl
namespace Go.Proofs.YtghpkpddmicleaaGreatDoor.btreeNil
theorem jInPlace : (Rows.btreeNilRow.inPlace == Tryz.prog.inPlace 3) = true := by kernel_rfl
theorem jUnfollowed : (Rows.btreeNilRow.unfollowed == Tryz.prog.unfollowed 3) = true := by kernel_rfl
theorem jRecurses : (Rows.btreeNilRow.recurses == Tryz.prog.recurses 3) = true := by kernel_rfl
theorem jNamed : (Rows.btreeNilRow.named == Tryz.prog.varsNamed 3) = true := by kernel_rfl
theorem closed : joinedFacts Tryz.prog 3 Tryz.f3 (OpenSpec.ofChange Rows.btreeNilSpec).bare Rows.btreeNilRow = true := by
  unfold joinedFacts
  rw [jInPlace, jUnfollowed, jRecurses, jNamed]
  kernel_rfl
end Go.Proofs.YtghpkpddmicleaaGreatDoor.btreeNil
