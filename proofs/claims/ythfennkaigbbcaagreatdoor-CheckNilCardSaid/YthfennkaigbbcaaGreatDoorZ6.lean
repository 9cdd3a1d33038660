/-
  PROVED: calls that were run over abstract values, one by one: what each reads, writes, makes and answers. No condition.
-/
import Derived.Test.YthfennkaigbbcaaGreatDoorY2
set_option linter.unusedVariables false
set_option maxRecDepth 1000000
namespace Go.Proofs.YthfennkaigbbcaaGreatDoor.Cut
open Go.X
theorem ok149_0 : entOk Tryz.prog hints S6 5000 60 149 E149_0 = true := by decide +kernel
theorem ok149_1 : entOk Tryz.prog hints S6 5000 60 149 E149_1 = true := by decide +kernel
theorem ok149_2 : entOk Tryz.prog hints S6 5000 60 149 E149_2 = true := by decide +kernel
theorem ok149_3 : entOk Tryz.prog hints S6 5000 60 149 E149_3 = true := by decide +kernel
theorem ok149_4 : entOk Tryz.prog hints S6 5000 60 149 E149_4 = true := by decide +kernel
theorem ok149_5 : entOk Tryz.prog hints S6 5000 60 149 E149_5 = true := by decide +kernel
theorem ok149 : ∀ e, e ∈ E149 → entOk Tryz.prog hints S6 5000 60 149 e = true := List.forall_mem_cons.2 ⟨ok149_0, List.forall_mem_cons.2 ⟨ok149_1, List.forall_mem_cons.2 ⟨ok149_2, List.forall_mem_cons.2 ⟨ok149_3, List.forall_mem_cons.2 ⟨ok149_4, List.forall_mem_cons.2 ⟨ok149_5, List.forall_mem_nil _⟩⟩⟩⟩⟩⟩
theorem ok253_0 : entOk Tryz.prog hints S7 5000 60 253 E253_0 = true := by decide +kernel
theorem ok253_1 : entOk Tryz.prog hints S7 5000 60 253 E253_1 = true := by decide +kernel
theorem ok253_2 : entOk Tryz.prog hints S7 5000 60 253 E253_2 = true := by decide +kernel
theorem ok253_3 : entOk Tryz.prog hints S7 5000 60 253 E253_3 = true := by decide +kernel
theorem ok253_4 : entOk Tryz.prog hints S7 5000 60 253 E253_4 = true := by decide +kernel
theorem ok253_5 : entOk Tryz.prog hints S7 5000 60 253 E253_5 = true := by decide +kernel
theorem ok253 : ∀ e, e ∈ E253 → entOk Tryz.prog hints S7 5000 60 253 e = true := List.forall_mem_cons.2 ⟨ok253_0, List.forall_mem_cons.2 ⟨ok253_1, List.forall_mem_cons.2 ⟨ok253_2, List.forall_mem_cons.2 ⟨ok253_3, List.forall_mem_cons.2 ⟨ok253_4, List.forall_mem_cons.2 ⟨ok253_5, List.forall_mem_nil _⟩⟩⟩⟩⟩⟩
end Go.Proofs.YthfennkaigbbcaaGreatDoor.Cut
