/-
  PROVED: calls that were run over abstract values, one by one: what each reads, writes, makes and answers. No condition.
-/
import Derived.Test.YtacmamkpecmboaaGreatDoorY1
set_option linter.unusedVariables false
set_option maxRecDepth 1000000
namespace Go.Proofs.YtacmamkpecmboaaGreatDoor.Cut
open Go.X
theorem ok21_0 : entOk Tryz.prog hints S10 5000 60 21 E21_0 = true := by decide +kernel
theorem ok21_1 : entOk Tryz.prog hints S10 5000 60 21 E21_1 = true := by decide +kernel
theorem ok21_2 : entOk Tryz.prog hints S10 5000 60 21 E21_2 = true := by decide +kernel
theorem ok21_3 : entOk Tryz.prog hints S10 5000 60 21 E21_3 = true := by decide +kernel
theorem ok21_4 : entOk Tryz.prog hints S10 5000 60 21 E21_4 = true := by decide +kernel
theorem ok21_5 : entOk Tryz.prog hints S10 5000 60 21 E21_5 = true := by decide +kernel
theorem ok21 : ∀ e, e ∈ E21 → entOk Tryz.prog hints S10 5000 60 21 e = true := List.forall_mem_cons.2 ⟨ok21_0, List.forall_mem_cons.2 ⟨ok21_1, List.forall_mem_cons.2 ⟨ok21_2, List.forall_mem_cons.2 ⟨ok21_3, List.forall_mem_cons.2 ⟨ok21_4, List.forall_mem_cons.2 ⟨ok21_5, List.forall_mem_nil _⟩⟩⟩⟩⟩⟩
theorem ok23_0 : entOk Tryz.prog hints S11 5000 60 23 E23_0 = true := by decide +kernel
theorem ok23_1 : entOk Tryz.prog hints S11 5000 60 23 E23_1 = true := by decide +kernel
theorem ok23_2 : entOk Tryz.prog hints S11 5000 60 23 E23_2 = true := by decide +kernel
theorem ok23_3 : entOk Tryz.prog hints S11 5000 60 23 E23_3 = true := by decide +kernel
theorem ok23_4 : entOk Tryz.prog hints S11 5000 60 23 E23_4 = true := by decide +kernel
theorem ok23_5 : entOk Tryz.prog hints S11 5000 60 23 E23_5 = true := by decide +kernel
theorem ok23 : ∀ e, e ∈ E23 → entOk Tryz.prog hints S11 5000 60 23 e = true := List.forall_mem_cons.2 ⟨ok23_0, List.forall_mem_cons.2 ⟨ok23_1, List.forall_mem_cons.2 ⟨ok23_2, List.forall_mem_cons.2 ⟨ok23_3, List.forall_mem_cons.2 ⟨ok23_4, List.forall_mem_cons.2 ⟨ok23_5, List.forall_mem_nil _⟩⟩⟩⟩⟩⟩
end Go.Proofs.YtacmamkpecmboaaGreatDoor.Cut
