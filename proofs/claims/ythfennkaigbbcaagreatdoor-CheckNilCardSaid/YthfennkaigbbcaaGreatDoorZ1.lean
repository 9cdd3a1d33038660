/-
  PROVED: calls that were run over abstract values, one by one: what each reads, writes, makes and answers. No condition.
-/
import Derived.Test.YthfennkaigbbcaaGreatDoorY2
set_option linter.unusedVariables false
set_option maxRecDepth 1000000
namespace Go.Proofs.YthfennkaigbbcaaGreatDoor.Cut
open Go.X
theorem ok251_0 : entOk Tryz.prog hints S1 5000 60 251 E251_0 = true := by decide +kernel
theorem ok251_1 : entOk Tryz.prog hints S1 5000 60 251 E251_1 = true := by decide +kernel
theorem ok251_2 : entOk Tryz.prog hints S1 5000 60 251 E251_2 = true := by decide +kernel
theorem ok251_3 : entOk Tryz.prog hints S1 5000 60 251 E251_3 = true := by decide +kernel
theorem ok251_4 : entOk Tryz.prog hints S1 5000 60 251 E251_4 = true := by decide +kernel
theorem ok251_5 : entOk Tryz.prog hints S1 5000 60 251 E251_5 = true := by decide +kernel
theorem ok251_6 : entOk Tryz.prog hints S1 5000 60 251 E251_6 = true := by decide +kernel
theorem ok251_7 : entOk Tryz.prog hints S1 5000 60 251 E251_7 = true := by decide +kernel
theorem ok251_8 : entOk Tryz.prog hints S1 5000 60 251 E251_8 = true := by decide +kernel
theorem ok251_9 : entOk Tryz.prog hints S1 5000 60 251 E251_9 = true := by decide +kernel
theorem ok251_10 : entOk Tryz.prog hints S1 5000 60 251 E251_10 = true := by decide +kernel
theorem ok251_11 : entOk Tryz.prog hints S1 5000 60 251 E251_11 = true := by decide +kernel
theorem ok251_12 : entOk Tryz.prog hints S1 5000 60 251 E251_12 = true := by decide +kernel
theorem ok251_13 : entOk Tryz.prog hints S1 5000 60 251 E251_13 = true := by decide +kernel
theorem ok251_14 : entOk Tryz.prog hints S1 5000 60 251 E251_14 = true := by decide +kernel
theorem ok251_15 : entOk Tryz.prog hints S1 5000 60 251 E251_15 = true := by decide +kernel
theorem ok251 : ∀ e, e ∈ E251 → entOk Tryz.prog hints S1 5000 60 251 e = true := List.forall_mem_cons.2 ⟨ok251_0, List.forall_mem_cons.2 ⟨ok251_1, List.forall_mem_cons.2 ⟨ok251_2, List.forall_mem_cons.2 ⟨ok251_3, List.forall_mem_cons.2 ⟨ok251_4, List.forall_mem_cons.2 ⟨ok251_5, List.forall_mem_cons.2 ⟨ok251_6, List.forall_mem_cons.2 ⟨ok251_7, List.forall_mem_cons.2 ⟨ok251_8, List.forall_mem_cons.2 ⟨ok251_9, List.forall_mem_cons.2 ⟨ok251_10, List.forall_mem_cons.2 ⟨ok251_11, List.forall_mem_cons.2 ⟨ok251_12, List.forall_mem_cons.2 ⟨ok251_13, List.forall_mem_cons.2 ⟨ok251_14, List.forall_mem_cons.2 ⟨ok251_15, List.forall_mem_nil _⟩⟩⟩⟩⟩⟩⟩⟩⟩⟩⟩⟩⟩⟩⟩⟩
end Go.Proofs.YthfennkaigbbcaaGreatDoor.Cut
