/-
  PROVED: closed facts of the row of 'BulkArgs' and the program. No condition.
-/
import Derived.Test.YtbhbiccfkkoanaaGreatDoorChecked
import Derived.Test.YtbhbiccfkkoanaaGreatDoorRows
import Derived.JoinedCond
import Derived.KernelRfl
namespace Go.Proofs.YtbhbiccfkkoanaaGreatDoor.bulkArgs
theorem jInPlace : (Rows.bulkArgsRow.inPlace == Tryz.prog.inPlace 4) = true := by kernel_rfl
theorem jUnfollowed : (Rows.bulkArgsRow.unfollowed == Tryz.prog.unfollowed 4) = true := by kernel_rfl
theorem jRecurses : (Rows.bulkArgsRow.recurses == Tryz.prog.recurses 4) = true := by kernel_rfl
theorem jNamed : (Rows.bulkArgsRow.named == Tryz.prog.varsNamed 4) = true := by kernel_rfl
theorem closed : joinedFacts Tryz.prog 4 Tryz.f4 (OpenSpec.ofChange Rows.bulkArgsSpec).bare Rows.bulkArgsRow = true := by
  unfold joinedFacts
  rw [jInPlace, jUnfollowed, jRecurses, jNamed]
  kernel_rfl
end Go.Proofs.YtbhbiccfkkoanaaGreatDoor.bulkArgs
