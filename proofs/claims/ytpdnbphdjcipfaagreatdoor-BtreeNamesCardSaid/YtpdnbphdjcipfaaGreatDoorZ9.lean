/-
  PROVED: calls that were run over abstract values, one by one: what each reads, writes, makes and answers. No condition.
-/
import Derived.Test.YtpdnbphdjcipfaaGreatDoorY3
set_option linter.unusedVariables false
set_option maxRecDepth 1000000
namespace Go.Proofs.YtpdnbphdjcipfaaGreatDoor.Cut
open Go.X
theorem ok49_0 : entOk Tryz.prog hints S9 5000 60 49 E49_0 = true := by decide +kernel
theorem ok49_1 : entOk Tryz.prog hints S9 5000 60 49 E49_1 = true := by decide +kernel
theorem ok49_2 : entOk Tryz.prog hints S9 5000 60 49 E49_2 = true := by decide +kernel
theorem ok49_3 : entOk Tryz.prog hints S9 5000 60 49 E49_3 = true := by decide +kernel
theorem ok49_4 : entOk Tryz.prog hints S9 5000 60 49 E49_4 = true := by decide +kernel
theorem ok49_5 : entOk Tryz.prog hints S9 5000 60 49 E49_5 = true := by decide +kernel
theorem ok49_6 : entOk Tryz.prog hints S9 5000 60 49 E49_6 = true := by decide +kernel
theorem ok49_7 : entOk Tryz.prog hints S9 5000 60 49 E49_7 = true := by decide +kernel
theorem ok49_8 : entOk Tryz.prog hints S9 5000 60 49 E49_8 = true := by decide +kernel
theorem ok49_9 : entOk Tryz.prog hints S9 5000 60 49 E49_9 = true := by decide +kernel
theorem ok49_10 : entOk Tryz.prog hints S9 5000 60 49 E49_10 = true := by decide +kernel
theorem ok49_11 : entOk Tryz.prog hints S9 5000 60 49 E49_11 = true := by decide +kernel
theorem ok49_12 : entOk Tryz.prog hints S9 5000 60 49 E49_12 = true := by decide +kernel
theorem ok49_13 : entOk Tryz.prog hints S9 5000 60 49 E49_13 = true := by decide +kernel
theorem ok49_14 : entOk Tryz.prog hints S9 5000 60 49 E49_14 = true := by decide +kernel
theorem ok49_15 : entOk Tryz.prog hints S9 5000 60 49 E49_15 = true := by decide +kernel
theorem ok49_16 : entOk Tryz.prog hints S9 5000 60 49 E49_16 = true := by decide +kernel
theorem ok49_17 : entOk Tryz.prog hints S9 5000 60 49 E49_17 = true := by decide +kernel
theorem ok49 : ∀ e, e ∈ E49 → entOk Tryz.prog hints S9 5000 60 49 e = true := List.forall_mem_cons.2 ⟨ok49_0, List.forall_mem_cons.2 ⟨ok49_1, List.forall_mem_cons.2 ⟨ok49_2, List.forall_mem_cons.2 ⟨ok49_3, List.forall_mem_cons.2 ⟨ok49_4, List.forall_mem_cons.2 ⟨ok49_5, List.forall_mem_cons.2 ⟨ok49_6, List.forall_mem_cons.2 ⟨ok49_7, List.forall_mem_cons.2 ⟨ok49_8, List.forall_mem_cons.2 ⟨ok49_9, List.forall_mem_cons.2 ⟨ok49_10, List.forall_mem_cons.2 ⟨ok49_11, List.forall_mem_cons.2 ⟨ok49_12, List.forall_mem_cons.2 ⟨ok49_13, List.forall_mem_cons.2 ⟨ok49_14, List.forall_mem_cons.2 ⟨ok49_15, List.forall_mem_cons.2 ⟨ok49_16, List.forall_mem_cons.2 ⟨ok49_17, List.forall_mem_nil _⟩⟩⟩⟩⟩⟩⟩⟩⟩⟩⟩⟩⟩⟩⟩⟩⟩⟩
end Go.Proofs.YtpdnbphdjcipfaaGreatDoor.Cut
