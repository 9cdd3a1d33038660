/-
 PROVED: a closed fact of the card of 'MoveNone' and the program. No condition.
-/
import Derived.Test.YtligncjhmmgajaaGreatDoorCards
import Derived.Test.YtligncjhmmgajaaGreatDoorChecked
import Derived.SevenTiedAt
import Derived.KernelRfl
import Derived.WalkKit
import Derived.ProofKit
set_option linter.unusedVariables false
namespace Go.Proofs.YtligncjhmmgajaaGreatDoor.moveNone
open Go.ChangeShapes Go.WideShapes Go.ChangeAt Go.RowKit
theorem wants3:Tryz.prog.wantsStandIn 3=false:=by kernel_rfl
theorem wants25:Tryz.prog.wantsStandIn 25=false:=by kernel_rfl
theorem wants26:Tryz.prog.wantsStandIn 26=false:=by kernel_rfl
theorem wants27:Tryz.prog.wantsStandIn 27=false:=by kernel_rfl
theorem plain (f:FuncId) (fn:Func) (hf:Tryz.pinned.checked.prog.funcNamed "banyan/banyanlaw21.MoveNone"=some f) (hfn:Tryz.pinned.checked.prog.funcs[f]?=some fn) :
  true=Tryz.pinned.checked.prog.looks []/\∀(j:Nat) t,fn.params[j]?=some t->Tryz.pinned.checked.prog.wantsStandIn t=false:=by
 obtain rfl:f=3:=Option.some.inj ((show Tryz.prog.funcNamed "banyan/banyanlaw21.MoveNone"=some 3 by kernel_rfl).symm.trans hf) |>.symm;obtain rfl:fn=Tryz.f3:=(Option.some.inj (Tryz.func3.symm.trans hfn)).symm;refine⟨by kernel_rfl,λj t ht=>?_⟩;rw[Tryz.params3] at ht
 have:t=3∨t=25∨t=26∨t=27:=by rcases j with _ | _ | _ | _ | _ | j <;> simp at ht <;> simp[<- ht]
 rcases this with rfl | rfl | rfl | rfl
 .exact wants3
 .exact wants25
 .exact wants26
 .exact wants27

end Go.Proofs.YtligncjhmmgajaaGreatDoor.moveNone
