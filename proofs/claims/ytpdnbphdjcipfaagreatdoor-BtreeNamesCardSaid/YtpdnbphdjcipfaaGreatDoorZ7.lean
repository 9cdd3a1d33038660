/-
  PROVED: calls that were run over abstract values, one by one: what each reads, writes, makes and answers. No condition.
-/
import Derived.Test.YtpdnbphdjcipfaaGreatDoorY3
set_option linter.unusedVariables false
set_option maxRecDepth 1000000
namespace Go.Proofs.YtpdnbphdjcipfaaGreatDoor.Cut
open Go.X
theorem ok162_0 : entOk Tryz.prog hints S7 5000 60 162 E162_0 = true := by decide +kernel
theorem ok162_1 : entOk Tryz.prog hints S7 5000 60 162 E162_1 = true := by decide +kernel
theorem ok162_2 : entOk Tryz.prog hints S7 5000 60 162 E162_2 = true := by decide +kernel
theorem ok162_3 : entOk Tryz.prog hints S7 5000 60 162 E162_3 = true := by decide +kernel
theorem ok162_4 : entOk Tryz.prog hints S7 5000 60 162 E162_4 = true := by decide +kernel
theorem ok162_5 : entOk Tryz.prog hints S7 5000 60 162 E162_5 = true := by decide +kernel
theorem ok162_6 : entOk Tryz.prog hints S7 5000 60 162 E162_6 = true := by decide +kernel
theorem ok162_7 : entOk Tryz.prog hints S7 5000 60 162 E162_7 = true := by decide +kernel
theorem ok162_8 : entOk Tryz.prog hints S7 5000 60 162 E162_8 = true := by decide +kernel
theorem ok162_9 : entOk Tryz.prog hints S7 5000 60 162 E162_9 = true := by decide +kernel
theorem ok162_10 : entOk Tryz.prog hints S7 5000 60 162 E162_10 = true := by decide +kernel
theorem ok162_11 : entOk Tryz.prog hints S7 5000 60 162 E162_11 = true := by decide +kernel
theorem ok162_12 : entOk Tryz.prog hints S7 5000 60 162 E162_12 = true := by decide +kernel
theorem ok162_13 : entOk Tryz.prog hints S7 5000 60 162 E162_13 = true := by decide +kernel
theorem ok162_14 : entOk Tryz.prog hints S7 5000 60 162 E162_14 = true := by decide +kernel
theorem ok162_15 : entOk Tryz.prog hints S7 5000 60 162 E162_15 = true := by decide +kernel
theorem ok162_16 : entOk Tryz.prog hints S7 5000 60 162 E162_16 = true := by decide +kernel
theorem ok162_17 : entOk Tryz.prog hints S7 5000 60 162 E162_17 = true := by decide +kernel
theorem ok162_18 : entOk Tryz.prog hints S7 5000 60 162 E162_18 = true := by decide +kernel
theorem ok162_19 : entOk Tryz.prog hints S7 5000 60 162 E162_19 = true := by decide +kernel
theorem ok162_20 : entOk Tryz.prog hints S7 5000 60 162 E162_20 = true := by decide +kernel
theorem ok162_21 : entOk Tryz.prog hints S7 5000 60 162 E162_21 = true := by decide +kernel
theorem ok162_22 : entOk Tryz.prog hints S7 5000 60 162 E162_22 = true := by decide +kernel
theorem ok162_23 : entOk Tryz.prog hints S7 5000 60 162 E162_23 = true := by decide +kernel
theorem ok162_24 : entOk Tryz.prog hints S7 5000 60 162 E162_24 = true := by decide +kernel
theorem ok162_25 : entOk Tryz.prog hints S7 5000 60 162 E162_25 = true := by decide +kernel
theorem ok162_26 : entOk Tryz.prog hints S7 5000 60 162 E162_26 = true := by decide +kernel
theorem ok162_27 : entOk Tryz.prog hints S7 5000 60 162 E162_27 = true := by decide +kernel
theorem ok162 : ∀ e, e ∈ E162 → entOk Tryz.prog hints S7 5000 60 162 e = true := List.forall_mem_cons.2 ⟨ok162_0, List.forall_mem_cons.2 ⟨ok162_1, List.forall_mem_cons.2 ⟨ok162_2, List.forall_mem_cons.2 ⟨ok162_3, List.forall_mem_cons.2 ⟨ok162_4, List.forall_mem_cons.2 ⟨ok162_5, List.forall_mem_cons.2 ⟨ok162_6, List.forall_mem_cons.2 ⟨ok162_7, List.forall_mem_cons.2 ⟨ok162_8, List.forall_mem_cons.2 ⟨ok162_9, List.forall_mem_cons.2 ⟨ok162_10, List.forall_mem_cons.2 ⟨ok162_11, List.forall_mem_cons.2 ⟨ok162_12, List.forall_mem_cons.2 ⟨ok162_13, List.forall_mem_cons.2 ⟨ok162_14, List.forall_mem_cons.2 ⟨ok162_15, List.forall_mem_cons.2 ⟨ok162_16, List.forall_mem_cons.2 ⟨ok162_17, List.forall_mem_cons.2 ⟨ok162_18, List.forall_mem_cons.2 ⟨ok162_19, List.forall_mem_cons.2 ⟨ok162_20, List.forall_mem_cons.2 ⟨ok162_21, List.forall_mem_cons.2 ⟨ok162_22, List.forall_mem_cons.2 ⟨ok162_23, List.forall_mem_cons.2 ⟨ok162_24, List.forall_mem_cons.2 ⟨ok162_25, List.forall_mem_cons.2 ⟨ok162_26, List.forall_mem_cons.2 ⟨ok162_27, List.forall_mem_nil _⟩⟩⟩⟩⟩⟩⟩⟩⟩⟩⟩⟩⟩⟩⟩⟩⟩⟩⟩⟩⟩⟩⟩⟩⟩⟩⟩⟩
end Go.Proofs.YtpdnbphdjcipfaaGreatDoor.Cut
