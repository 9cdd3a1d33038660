/-
  PROVED: calls that were run over abstract values, one by one: what each reads, writes, makes and answers. No condition.
-/
import Derived.Test.YtacmamkpecmboaaGreatDoorY1
set_option linter.unusedVariables false
set_option maxRecDepth 1000000
namespace Go.Proofs.YtacmamkpecmboaaGreatDoor.Cut
open Go.X
theorem ok35_0 : entOk Tryz.prog hints S20 5000 60 35 E35_0 = true := by decide +kernel
theorem ok35_1 : entOk Tryz.prog hints S20 5000 60 35 E35_1 = true := by decide +kernel
theorem ok35_2 : entOk Tryz.prog hints S20 5000 60 35 E35_2 = true := by decide +kernel
theorem ok35_3 : entOk Tryz.prog hints S20 5000 60 35 E35_3 = true := by decide +kernel
theorem ok35 : ∀ e, e ∈ E35 → entOk Tryz.prog hints S20 5000 60 35 e = true := List.forall_mem_cons.2 ⟨ok35_0, List.forall_mem_cons.2 ⟨ok35_1, List.forall_mem_cons.2 ⟨ok35_2, List.forall_mem_cons.2 ⟨ok35_3, List.forall_mem_nil _⟩⟩⟩⟩
theorem ok63_0 : entOk Tryz.prog hints S21 5000 60 63 E63_0 = true := by decide +kernel
theorem ok63_1 : entOk Tryz.prog hints S21 5000 60 63 E63_1 = true := by decide +kernel
theorem ok63_2 : entOk Tryz.prog hints S21 5000 60 63 E63_2 = true := by decide +kernel
theorem ok63 : ∀ e, e ∈ E63 → entOk Tryz.prog hints S21 5000 60 63 e = true := List.forall_mem_cons.2 ⟨ok63_0, List.forall_mem_cons.2 ⟨ok63_1, List.forall_mem_cons.2 ⟨ok63_2, List.forall_mem_nil _⟩⟩⟩
theorem ok28_0 : entOk Tryz.prog hints S22 5000 60 28 E28_0 = true := by decide +kernel
theorem ok28 : ∀ e, e ∈ E28 → entOk Tryz.prog hints S22 5000 60 28 e = true := List.forall_mem_cons.2 ⟨ok28_0, List.forall_mem_nil _⟩
theorem ok24_0 : entOk Tryz.prog hints S23 5000 60 24 E24_0 = true := by decide +kernel
theorem ok24_1 : entOk Tryz.prog hints S23 5000 60 24 E24_1 = true := by decide +kernel
theorem ok24 : ∀ e, e ∈ E24 → entOk Tryz.prog hints S23 5000 60 24 e = true := List.forall_mem_cons.2 ⟨ok24_0, List.forall_mem_cons.2 ⟨ok24_1, List.forall_mem_nil _⟩⟩
end Go.Proofs.YtacmamkpecmboaaGreatDoor.Cut
