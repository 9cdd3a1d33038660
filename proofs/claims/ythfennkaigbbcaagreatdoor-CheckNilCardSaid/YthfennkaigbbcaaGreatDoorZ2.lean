/-
  PROVED: calls that were run over abstract values, one by one: what each reads, writes, makes and answers. No condition.
-/
import Derived.Test.YthfennkaigbbcaaGreatDoorY2
set_option linter.unusedVariables false
set_option maxRecDepth 1000000
namespace Go.Proofs.YthfennkaigbbcaaGreatDoor.Cut
open Go.X
theorem ok206_0 : entOk Tryz.prog hints S2 5000 60 206 E206_0 = true := by decide +kernel
theorem ok206_1 : entOk Tryz.prog hints S2 5000 60 206 E206_1 = true := by decide +kernel
theorem ok206_2 : entOk Tryz.prog hints S2 5000 60 206 E206_2 = true := by decide +kernel
theorem ok206_3 : entOk Tryz.prog hints S2 5000 60 206 E206_3 = true := by decide +kernel
theorem ok206_4 : entOk Tryz.prog hints S2 5000 60 206 E206_4 = true := by decide +kernel
theorem ok206_5 : entOk Tryz.prog hints S2 5000 60 206 E206_5 = true := by decide +kernel
theorem ok206_6 : entOk Tryz.prog hints S2 5000 60 206 E206_6 = true := by decide +kernel
theorem ok206_7 : entOk Tryz.prog hints S2 5000 60 206 E206_7 = true := by decide +kernel
theorem ok206_8 : entOk Tryz.prog hints S2 5000 60 206 E206_8 = true := by decide +kernel
theorem ok206_9 : entOk Tryz.prog hints S2 5000 60 206 E206_9 = true := by decide +kernel
theorem ok206_10 : entOk Tryz.prog hints S2 5000 60 206 E206_10 = true := by decide +kernel
theorem ok206_11 : entOk Tryz.prog hints S2 5000 60 206 E206_11 = true := by decide +kernel
theorem ok206_12 : entOk Tryz.prog hints S2 5000 60 206 E206_12 = true := by decide +kernel
theorem ok206_13 : entOk Tryz.prog hints S2 5000 60 206 E206_13 = true := by decide +kernel
theorem ok206_14 : entOk Tryz.prog hints S2 5000 60 206 E206_14 = true := by decide +kernel
theorem ok206_15 : entOk Tryz.prog hints S2 5000 60 206 E206_15 = true := by decide +kernel
theorem ok206 : ∀ e, e ∈ E206 → entOk Tryz.prog hints S2 5000 60 206 e = true := List.forall_mem_cons.2 ⟨ok206_0, List.forall_mem_cons.2 ⟨ok206_1, List.forall_mem_cons.2 ⟨ok206_2, List.forall_mem_cons.2 ⟨ok206_3, List.forall_mem_cons.2 ⟨ok206_4, List.forall_mem_cons.2 ⟨ok206_5, List.forall_mem_cons.2 ⟨ok206_6, List.forall_mem_cons.2 ⟨ok206_7, List.forall_mem_cons.2 ⟨ok206_8, List.forall_mem_cons.2 ⟨ok206_9, List.forall_mem_cons.2 ⟨ok206_10, List.forall_mem_cons.2 ⟨ok206_11, List.forall_mem_cons.2 ⟨ok206_12, List.forall_mem_cons.2 ⟨ok206_13, List.forall_mem_cons.2 ⟨ok206_14, List.forall_mem_cons.2 ⟨ok206_15, List.forall_mem_nil _⟩⟩⟩⟩⟩⟩⟩⟩⟩⟩⟩⟩⟩⟩⟩⟩
end Go.Proofs.YthfennkaigbbcaaGreatDoor.Cut
