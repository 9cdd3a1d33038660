/-
  PROVED: calls that were run over abstract values, one by one: what each reads, writes, makes and answers. No condition.
-/
import Derived.Test.YthfennkaigbbcaaGreatDoorY2
set_option linter.unusedVariables false
set_option maxRecDepth 1000000
namespace Go.Proofs.YthfennkaigbbcaaGreatDoor.Cut
open Go.X
theorem ok95_0 : entOk Tryz.prog hints S4 5000 60 95 E95_0 = true := by decide +kernel
theorem ok95_1 : entOk Tryz.prog hints S4 5000 60 95 E95_1 = true := by decide +kernel
theorem ok95_2 : entOk Tryz.prog hints S4 5000 60 95 E95_2 = true := by decide +kernel
theorem ok95_3 : entOk Tryz.prog hints S4 5000 60 95 E95_3 = true := by decide +kernel
theorem ok95_4 : entOk Tryz.prog hints S4 5000 60 95 E95_4 = true := by decide +kernel
theorem ok95_5 : entOk Tryz.prog hints S4 5000 60 95 E95_5 = true := by decide +kernel
theorem ok95_6 : entOk Tryz.prog hints S4 5000 60 95 E95_6 = true := by decide +kernel
theorem ok95_7 : entOk Tryz.prog hints S4 5000 60 95 E95_7 = true := by decide +kernel
theorem ok95_8 : entOk Tryz.prog hints S4 5000 60 95 E95_8 = true := by decide +kernel
theorem ok95_9 : entOk Tryz.prog hints S4 5000 60 95 E95_9 = true := by decide +kernel
theorem ok95 : ∀ e, e ∈ E95 → entOk Tryz.prog hints S4 5000 60 95 e = true := List.forall_mem_cons.2 ⟨ok95_0, List.forall_mem_cons.2 ⟨ok95_1, List.forall_mem_cons.2 ⟨ok95_2, List.forall_mem_cons.2 ⟨ok95_3, List.forall_mem_cons.2 ⟨ok95_4, List.forall_mem_cons.2 ⟨ok95_5, List.forall_mem_cons.2 ⟨ok95_6, List.forall_mem_cons.2 ⟨ok95_7, List.forall_mem_cons.2 ⟨ok95_8, List.forall_mem_cons.2 ⟨ok95_9, List.forall_mem_nil _⟩⟩⟩⟩⟩⟩⟩⟩⟩⟩
end Go.Proofs.YthfennkaigbbcaaGreatDoor.Cut
