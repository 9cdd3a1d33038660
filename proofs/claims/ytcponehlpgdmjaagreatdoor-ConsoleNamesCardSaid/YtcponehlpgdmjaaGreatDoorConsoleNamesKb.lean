/-
  PROVED: a closed fact of the card of 'ConsoleNames' and the program. No condition.
-/
import Derived.Test.YtcponehlpgdmjaaGreatDoorCards
import Derived.Test.YtcponehlpgdmjaaGreatDoorChecked
import Derived.SevenTiedAt
import Derived.KernelRfl
namespace Go.Proofs.YtcponehlpgdmjaaGreatDoor.consoleNames
open Go
theorem goes_none {P : Program} (h : (P.funcs.toList.any Func.goes) = false) (f : FuncId) : P.goes f = false := by
  have key : ∀ g : FuncId, (P.funcs[g]?).any Func.goes = false := fun g => by
    cases hg : P.funcs[g]? with
    | none => rfl
    | some fn =>
      have hm : fn ∈ P.funcs.toList := by
        rw [← Array.getElem?_toList] at hg
        exact List.mem_of_getElem? hg
      cases hb : Func.goes fn with
      | false => exact hb
      | true =>
        have := List.any_eq_true.2 ⟨fn, hm, hb⟩
        rw [h] at this; cases this
  unfold Program.goes
  have h1 : ((P.closure f).any fun g => (P.funcs[g]?).any Func.goes) = false := by
    rw [show (fun g : FuncId => (P.funcs[g]?).any Func.goes) = fun _ => false from funext key]
    simp
  have h2 : P.funcs.any Func.goes = false := by rw [← Array.any_toList]; exact h
  rw [h1, h2, Bool.and_false, Bool.or_false]
theorem noneGoes : (Tryz.prog.funcs.toList.any Func.goes) = false := by kernel_rfl
theorem goesAt_none {P : Program} (h : ∀ f, P.goes f = false) (func : String) : P.goesAt .entering func = false := by
  unfold Program.goesAt Program.goesFrom
  cases P.funcNamed func with
  | none => rfl
  | some f => show (P.goes f || false) = false; rw [h]; rfl
theorem pinGoes : ∀ f, Tryz.pinned.checked.prog.goes f = false := goes_none (P := Tryz.pinned.checked.prog) noneGoes
theorem goes : false = Rows.consoleNamesRow.goesBy Tryz.pinned.checked.prog := (goesAt_none pinGoes Rows.consoleNamesRow.func).symm
end Go.Proofs.YtcponehlpgdmjaaGreatDoor.consoleNames
