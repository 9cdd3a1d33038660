/-
  PROVED: closed facts of the row of 'EngineNil' and the program. No condition.
-/
import Derived.Test.YtccpfaommgclkaaGreatDoorChecked
import Derived.Test.YtccpfaommgclkaaGreatDoorRows
import Derived.JoinedCond
import Derived.KernelRfl
namespace Go.Proofs.YtccpfaommgclkaaGreatDoor.engineNil
theorem jInPlace : (Rows.engineNilRow.inPlace == Tryz.prog.inPlace 4) = true := by kernel_rfl
theorem jUnfollowed : (Rows.engineNilRow.unfollowed == Tryz.prog.unfollowed 4) = true := by kernel_rfl
theorem jRecurses : (Rows.engineNilRow.recurses == Tryz.prog.recurses 4) = true := by kernel_rfl
theorem jNamed : (Rows.engineNilRow.named == Tryz.prog.varsNamed 4) = true := by kernel_rfl
theorem closed : joinedFacts Tryz.prog 4 Tryz.f4 (OpenSpec.ofChange Rows.engineNilSpec).bare Rows.engineNilRow = true := by
  unfold joinedFacts
  rw [jInPlace, jUnfollowed, jRecurses, jNamed]
  kernel_rfl
end Go.Proofs.YtccpfaommgclkaaGreatDoor.engineNil
