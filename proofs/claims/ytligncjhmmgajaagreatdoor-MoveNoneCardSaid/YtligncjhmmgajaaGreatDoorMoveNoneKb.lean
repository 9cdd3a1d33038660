/-
 PROVED: a closed fact of the card of 'MoveNone' and the program. No condition.
-/
import Derived.Test.YtligncjhmmgajaaGreatDoorCards
import Derived.Test.YtligncjhmmgajaaGreatDoorChecked
import Derived.SevenTiedAt
import Derived.KernelRfl
set_option linter.unusedVariables false
open List renaming mem_of_getElem? -> zC0
namespace Go.Proofs.YtligncjhmmgajaaGreatDoor.moveNone
open Go
theorem goes_none {P:Program} (h:(P.funcs.toList.any Func.goes)=false) (f:FuncId):P.goes f=false:=by
 have key:∀g:FuncId,(P.funcs[g]?).any Func.goes=false:=λg=>by
  cases hg:P.funcs[g]? with
  | none=>rfl
  | some fn =>
   have hm:fn∈P.funcs.toList:=by rw[<- Array.getElem?_toList] at hg;exact zC0 hg
   cases hb:Func.goes fn with
   | false=>exact hb
   | true =>
    have:=List.any_eq_true.2 ⟨fn,hm,hb⟩
    rw[h] at this;cases this
 unfold Program.goes;have h1:((P.closure f).any λg=>(P.funcs[g]?).any Func.goes)=false:=by rw[show (λg:FuncId=>(P.funcs[g]?).any Func.goes)=λ_=>false from funext key];simp
 have h2:P.funcs.any Func.goes=false:=by rw[<- Array.any_toList];exact h
 rw[h1,h2,Bool.and_false,Bool.or_false]
theorem noneGoes:(Tryz.prog.funcs.toList.any Func.goes)=false:=by kernel_rfl
theorem jC7 {P:Program} (h:∀f,P.goes f=false) (func:String):P.goesAt .entering func=false:=by
 unfold Program.goesAt Program.goesFrom;cases P.funcNamed func with
 | none=>rfl
 | some f=>show (P.goes f || false)=false;rw[h];rfl
theorem pinGoes:∀f,Tryz.pinned.checked.prog.goes f=false:=goes_none (P:=Tryz.pinned.checked.prog) noneGoes
theorem goes:false=Rows.moveNoneRow.goesBy Tryz.pinned.checked.prog:=(jC7 pinGoes Rows.moveNoneRow.func).symm
end Go.Proofs.YtligncjhmmgajaaGreatDoor.moveNone
