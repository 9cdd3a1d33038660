/-
  PROVED: closed facts of the row of 'EngineNames' and the program. No condition.
-/
import Derived.Test.YtccpfaommgclkaaGreatDoorChecked
import Derived.Test.YtccpfaommgclkaaGreatDoorRows
import Derived.JoinedCond
import Derived.KernelRfl
namespace Go.Proofs.YtccpfaommgclkaaGreatDoor.engineNames
theorem jInPlace : (Rows.engineNamesRow.inPlace == Tryz.prog.inPlace 3) = true := by kernel_rfl
theorem jUnfollowed : (Rows.engineNamesRow.unfollowed == Tryz.prog.unfollowed 3) = true := by kernel_rfl
theorem jRecurses : (Rows.engineNamesRow.recurses == Tryz.prog.recurses 3) = true := by kernel_rfl
theorem jNamed : (Rows.engineNamesRow.named == Tryz.prog.varsNamed 3) = true := by kernel_rfl
theorem closed : joinedFacts Tryz.prog 3 Tryz.f3 (OpenSpec.ofChange Rows.engineNamesSpec).bare Rows.engineNamesRow = true := by
  unfold joinedFacts
  rw [jInPlace, jUnfollowed, jRecurses, jNamed]
  kernel_rfl
end Go.Proofs.YtccpfaommgclkaaGreatDoor.engineNames
