/-
  PROVED: calls that were run over abstract values, one by one: what each reads, writes, makes and answers. No condition.
-/
import Derived.Test.YtpdnbphdjcipfaaGreatDoorY3
set_option linter.unusedVariables false
set_option maxRecDepth 1000000
namespace Go.Proofs.YtpdnbphdjcipfaaGreatDoor.Cut
open Go.X
theorem ok121_0 : entOk Tryz.prog hints S8 5000 60 121 E121_0 = true := by decide +kernel
theorem ok121_1 : entOk Tryz.prog hints S8 5000 60 121 E121_1 = true := by decide +kernel
theorem ok121_2 : entOk Tryz.prog hints S8 5000 60 121 E121_2 = true := by decide +kernel
theorem ok121_3 : entOk Tryz.prog hints S8 5000 60 121 E121_3 = true := by decide +kernel
theorem ok121_4 : entOk Tryz.prog hints S8 5000 60 121 E121_4 = true := by decide +kernel
theorem ok121_5 : entOk Tryz.prog hints S8 5000 60 121 E121_5 = true := by decide +kernel
theorem ok121_6 : entOk Tryz.prog hints S8 5000 60 121 E121_6 = true := by decide +kernel
theorem ok121_7 : entOk Tryz.prog hints S8 5000 60 121 E121_7 = true := by decide +kernel
theorem ok121_8 : entOk Tryz.prog hints S8 5000 60 121 E121_8 = true := by decide +kernel
theorem ok121_9 : entOk Tryz.prog hints S8 5000 60 121 E121_9 = true := by decide +kernel
theorem ok121_10 : entOk Tryz.prog hints S8 5000 60 121 E121_10 = true := by decide +kernel
theorem ok121_11 : entOk Tryz.prog hints S8 5000 60 121 E121_11 = true := by decide +kernel
theorem ok121_12 : entOk Tryz.prog hints S8 5000 60 121 E121_12 = true := by decide +kernel
theorem ok121_13 : entOk Tryz.prog hints S8 5000 60 121 E121_13 = true := by decide +kernel
theorem ok121_14 : entOk Tryz.prog hints S8 5000 60 121 E121_14 = true := by decide +kernel
theorem ok121_15 : entOk Tryz.prog hints S8 5000 60 121 E121_15 = true := by decide +kernel
theorem ok121_16 : entOk Tryz.prog hints S8 5000 60 121 E121_16 = true := by decide +kernel
theorem ok121_17 : entOk Tryz.prog hints S8 5000 60 121 E121_17 = true := by decide +kernel
theorem ok121_18 : entOk Tryz.prog hints S8 5000 60 121 E121_18 = true := by decide +kernel
theorem ok121_19 : entOk Tryz.prog hints S8 5000 60 121 E121_19 = true := by decide +kernel
theorem ok121_20 : entOk Tryz.prog hints S8 5000 60 121 E121_20 = true := by decide +kernel
theorem ok121_21 : entOk Tryz.prog hints S8 5000 60 121 E121_21 = true := by decide +kernel
theorem ok121_22 : entOk Tryz.prog hints S8 5000 60 121 E121_22 = true := by decide +kernel
theorem ok121_23 : entOk Tryz.prog hints S8 5000 60 121 E121_23 = true := by decide +kernel
theorem ok121_24 : entOk Tryz.prog hints S8 5000 60 121 E121_24 = true := by decide +kernel
theorem ok121_25 : entOk Tryz.prog hints S8 5000 60 121 E121_25 = true := by decide +kernel
theorem ok121_26 : entOk Tryz.prog hints S8 5000 60 121 E121_26 = true := by decide +kernel
theorem ok121_27 : entOk Tryz.prog hints S8 5000 60 121 E121_27 = true := by decide +kernel
theorem ok121 : ∀ e, e ∈ E121 → entOk Tryz.prog hints S8 5000 60 121 e = true := List.forall_mem_cons.2 ⟨ok121_0, List.forall_mem_cons.2 ⟨ok121_1, List.forall_mem_cons.2 ⟨ok121_2, List.forall_mem_cons.2 ⟨ok121_3, List.forall_mem_cons.2 ⟨ok121_4, List.forall_mem_cons.2 ⟨ok121_5, List.forall_mem_cons.2 ⟨ok121_6, List.forall_mem_cons.2 ⟨ok121_7, List.forall_mem_cons.2 ⟨ok121_8, List.forall_mem_cons.2 ⟨ok121_9, List.forall_mem_cons.2 ⟨ok121_10, List.forall_mem_cons.2 ⟨ok121_11, List.forall_mem_cons.2 ⟨ok121_12, List.forall_mem_cons.2 ⟨ok121_13, List.forall_mem_cons.2 ⟨ok121_14, List.forall_mem_cons.2 ⟨ok121_15, List.forall_mem_cons.2 ⟨ok121_16, List.forall_mem_cons.2 ⟨ok121_17, List.forall_mem_cons.2 ⟨ok121_18, List.forall_mem_cons.2 ⟨ok121_19, List.forall_mem_cons.2 ⟨ok121_20, List.forall_mem_cons.2 ⟨ok121_21, List.forall_mem_cons.2 ⟨ok121_22, List.forall_mem_cons.2 ⟨ok121_23, List.forall_mem_cons.2 ⟨ok121_24, List.forall_mem_cons.2 ⟨ok121_25, List.forall_mem_cons.2 ⟨ok121_26, List.forall_mem_cons.2 ⟨ok121_27, List.forall_mem_nil _⟩⟩⟩⟩⟩⟩⟩⟩⟩⟩⟩⟩⟩⟩⟩⟩⟩⟩⟩⟩⟩⟩⟩⟩⟩⟩⟩⟩
end Go.Proofs.YtpdnbphdjcipfaaGreatDoor.Cut
