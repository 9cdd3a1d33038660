/-
  PROVED: a closed fact of the card of 'ConsoleNames' and the program. No condition.
-/
import Derived.Test.YtcponehlpgdmjaaGreatDoorCards
import Derived.Test.YtcponehlpgdmjaaGreatDoorChecked
import Derived.SevenTiedAt
import Derived.KernelRfl
import Derived.WalkKit
import Derived.ProofKit
namespace Go.Proofs.YtcponehlpgdmjaaGreatDoor.consoleNames
open Go.ChangeShapes Go.WideShapes Go.ChangeAt Go.RowKit
theorem plain (f : FuncId) (fn : Func) (hf : Tryz.pinned.checked.prog.funcNamed "banyan/banyanlaw23.ConsoleNames" = some f) (hfn : Tryz.pinned.checked.prog.funcs[f]? = some fn) :
    true = Tryz.pinned.checked.prog.looks [] ∧ ∀ (j : Nat) t, fn.params[j]? = some t → Tryz.pinned.checked.prog.wantsStandIn t = false := by
  obtain rfl : f = 3 := Option.some.inj ((show Tryz.prog.funcNamed "banyan/banyanlaw23.ConsoleNames" = some 3 by kernel_rfl).symm.trans hf) |>.symm
  obtain rfl : fn = Tryz.f3 := (Option.some.inj (Tryz.func3.symm.trans hfn)).symm
  refine ⟨by kernel_rfl, fun j t ht => ?_⟩
  rw [Tryz.params3] at ht
  simp at ht

end Go.Proofs.YtcponehlpgdmjaaGreatDoor.consoleNames
