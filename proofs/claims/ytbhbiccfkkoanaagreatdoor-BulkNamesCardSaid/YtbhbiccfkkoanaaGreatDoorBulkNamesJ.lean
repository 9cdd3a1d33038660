/-
  PROVED: closed facts of the row of 'BulkNames' and the program. No condition.
-/
import Derived.Test.YtbhbiccfkkoanaaGreatDoorChecked
import Derived.Test.YtbhbiccfkkoanaaGreatDoorRows
import Derived.JoinedCond
import Derived.KernelRfl
namespace Go.Proofs.YtbhbiccfkkoanaaGreatDoor.bulkNames
theorem jInPlace : (Rows.bulkNamesRow.inPlace == Tryz.prog.inPlace 3) = true := by kernel_rfl
theorem jUnfollowed : (Rows.bulkNamesRow.unfollowed == Tryz.prog.unfollowed 3) = true := by kernel_rfl
theorem jRecurses : (Rows.bulkNamesRow.recurses == Tryz.prog.recurses 3) = true := by kernel_rfl
theorem jNamed : (Rows.bulkNamesRow.named == Tryz.prog.varsNamed 3) = true := by kernel_rfl
theorem closed : joinedFacts Tryz.prog 3 Tryz.f3 (OpenSpec.ofChange Rows.bulkNamesSpec).bare Rows.bulkNamesRow = true := by
  unfold joinedFacts
  rw [jInPlace, jUnfollowed, jRecurses, jNamed]
  kernel_rfl
end Go.Proofs.YtbhbiccfkkoanaaGreatDoor.bulkNames
