/-
  PROVED: calls that were run over abstract values, one by one: what each reads, writes, makes and answers. No condition.
-/
import Derived.Test.YthfennkaigbbcaaGreatDoorY2
set_option linter.unusedVariables false
set_option maxRecDepth 1000000
namespace Go.Proofs.YthfennkaigbbcaaGreatDoor.Cut
open Go.X
theorem ok34_0 : entOk Tryz.prog hints S40 5000 60 34 E34_0 = true := by decide +kernel
theorem ok34 : ∀ e, e ∈ E34 → entOk Tryz.prog hints S40 5000 60 34 e = true := List.forall_mem_cons.2 ⟨ok34_0, List.forall_mem_nil _⟩
theorem ok36_0 : entOk Tryz.prog hints S41 5000 60 36 E36_0 = true := by decide +kernel
theorem ok36_1 : entOk Tryz.prog hints S41 5000 60 36 E36_1 = true := by decide +kernel
theorem ok36_2 : entOk Tryz.prog hints S41 5000 60 36 E36_2 = true := by decide +kernel
theorem ok36_3 : entOk Tryz.prog hints S41 5000 60 36 E36_3 = true := by decide +kernel
theorem ok36_4 : entOk Tryz.prog hints S41 5000 60 36 E36_4 = true := by decide +kernel
theorem ok36_5 : entOk Tryz.prog hints S41 5000 60 36 E36_5 = true := by decide +kernel
theorem ok36_6 : entOk Tryz.prog hints S41 5000 60 36 E36_6 = true := by decide +kernel
theorem ok36_7 : entOk Tryz.prog hints S41 5000 60 36 E36_7 = true := by decide +kernel
theorem ok36 : ∀ e, e ∈ E36 → entOk Tryz.prog hints S41 5000 60 36 e = true := List.forall_mem_cons.2 ⟨ok36_0, List.forall_mem_cons.2 ⟨ok36_1, List.forall_mem_cons.2 ⟨ok36_2, List.forall_mem_cons.2 ⟨ok36_3, List.forall_mem_cons.2 ⟨ok36_4, List.forall_mem_cons.2 ⟨ok36_5, List.forall_mem_cons.2 ⟨ok36_6, List.forall_mem_cons.2 ⟨ok36_7, List.forall_mem_nil _⟩⟩⟩⟩⟩⟩⟩⟩
theorem ok38_0 : entOk Tryz.prog hints S42 5000 60 38 E38_0 = true := by decide +kernel
theorem ok38_1 : entOk Tryz.prog hints S42 5000 60 38 E38_1 = true := by decide +kernel
theorem ok38_2 : entOk Tryz.prog hints S42 5000 60 38 E38_2 = true := by decide +kernel
theorem ok38_3 : entOk Tryz.prog hints S42 5000 60 38 E38_3 = true := by decide +kernel
theorem ok38_4 : entOk Tryz.prog hints S42 5000 60 38 E38_4 = true := by decide +kernel
theorem ok38 : ∀ e, e ∈ E38 → entOk Tryz.prog hints S42 5000 60 38 e = true := List.forall_mem_cons.2 ⟨ok38_0, List.forall_mem_cons.2 ⟨ok38_1, List.forall_mem_cons.2 ⟨ok38_2, List.forall_mem_cons.2 ⟨ok38_3, List.forall_mem_cons.2 ⟨ok38_4, List.forall_mem_nil _⟩⟩⟩⟩⟩
end Go.Proofs.YthfennkaigbbcaaGreatDoor.Cut
