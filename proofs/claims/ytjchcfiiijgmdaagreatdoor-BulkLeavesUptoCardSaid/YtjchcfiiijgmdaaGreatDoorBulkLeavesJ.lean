/-
  PROVED: closed facts of the row of 'BulkLeaves' and the program. No condition.
-/
import Derived.Test.YtjchcfiiijgmdaaGreatDoorChecked
import Derived.Test.YtjchcfiiijgmdaaGreatDoorRows
import Derived.JoinedCond
import Derived.KernelRfl
namespace Go.Proofs.YtjchcfiiijgmdaaGreatDoor.bulkLeaves
theorem jInPlace : (Rows.bulkLeavesUptoRow.inPlace == Tryz.prog.inPlace 3) = true := by kernel_rfl
theorem jUnfollowed : (Rows.bulkLeavesUptoRow.unfollowed == Tryz.prog.unfollowed 3) = true := by kernel_rfl
theorem jRecurses : (Rows.bulkLeavesUptoRow.recurses == Tryz.prog.recurses 3) = true := by kernel_rfl
theorem jNamed : (Rows.bulkLeavesUptoRow.named == Tryz.prog.varsNamed 3) = true := by kernel_rfl
theorem closed : joinedFacts Tryz.prog 3 Tryz.f3 (Rows.OpenSpec.upto Rows.bulkLeavesSpec).bare Rows.bulkLeavesUptoRow = true := by
  unfold joinedFacts
  rw [jInPlace, jUnfollowed, jRecurses, jNamed]
  kernel_rfl
end Go.Proofs.YtjchcfiiijgmdaaGreatDoor.bulkLeaves
