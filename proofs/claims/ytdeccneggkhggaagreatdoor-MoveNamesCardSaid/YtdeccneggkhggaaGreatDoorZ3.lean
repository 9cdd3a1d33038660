/-
  PROVED: calls that were run over abstract values, one by one: what each reads, writes, makes and answers. No condition.
-/
import Derived.Test.YtdeccneggkhggaaGreatDoorY2
set_option linter.unusedVariables false
set_option maxRecDepth 1000000
namespace Go.Proofs.YtdeccneggkhggaaGreatDoor.Cut
open Go.X
theorem ok41_0 : entOk Tryz.prog hints S6 5000 60 41 E41_0 = true := by decide +kernel
theorem ok41_1 : entOk Tryz.prog hints S6 5000 60 41 E41_1 = true := by decide +kernel
theorem ok41_2 : entOk Tryz.prog hints S6 5000 60 41 E41_2 = true := by decide +kernel
theorem ok41_3 : entOk Tryz.prog hints S6 5000 60 41 E41_3 = true := by decide +kernel
theorem ok41_4 : entOk Tryz.prog hints S6 5000 60 41 E41_4 = true := by decide +kernel
theorem ok41_5 : entOk Tryz.prog hints S6 5000 60 41 E41_5 = true := by decide +kernel
theorem ok41_6 : entOk Tryz.prog hints S6 5000 60 41 E41_6 = true := by decide +kernel
theorem ok41_7 : entOk Tryz.prog hints S6 5000 60 41 E41_7 = true := by decide +kernel
theorem ok41_8 : entOk Tryz.prog hints S6 5000 60 41 E41_8 = true := by decide +kernel
theorem ok41_9 : entOk Tryz.prog hints S6 5000 60 41 E41_9 = true := by decide +kernel
theorem ok41_10 : entOk Tryz.prog hints S6 5000 60 41 E41_10 = true := by decide +kernel
theorem ok41_11 : entOk Tryz.prog hints S6 5000 60 41 E41_11 = true := by decide +kernel
theorem ok41_12 : entOk Tryz.prog hints S6 5000 60 41 E41_12 = true := by decide +kernel
theorem ok41_13 : entOk Tryz.prog hints S6 5000 60 41 E41_13 = true := by decide +kernel
theorem ok41 : ∀ e, e ∈ E41 → entOk Tryz.prog hints S6 5000 60 41 e = true := List.forall_mem_cons.2 ⟨ok41_0, List.forall_mem_cons.2 ⟨ok41_1, List.forall_mem_cons.2 ⟨ok41_2, List.forall_mem_cons.2 ⟨ok41_3, List.forall_mem_cons.2 ⟨ok41_4, List.forall_mem_cons.2 ⟨ok41_5, List.forall_mem_cons.2 ⟨ok41_6, List.forall_mem_cons.2 ⟨ok41_7, List.forall_mem_cons.2 ⟨ok41_8, List.forall_mem_cons.2 ⟨ok41_9, List.forall_mem_cons.2 ⟨ok41_10, List.forall_mem_cons.2 ⟨ok41_11, List.forall_mem_cons.2 ⟨ok41_12, List.forall_mem_cons.2 ⟨ok41_13, List.forall_mem_nil _⟩⟩⟩⟩⟩⟩⟩⟩⟩⟩⟩⟩⟩⟩
theorem ok309_0 : entOk Tryz.prog hints S7 5000 60 309 E309_0 = true := by decide +kernel
theorem ok309_1 : entOk Tryz.prog hints S7 5000 60 309 E309_1 = true := by decide +kernel
theorem ok309_2 : entOk Tryz.prog hints S7 5000 60 309 E309_2 = true := by decide +kernel
theorem ok309_3 : entOk Tryz.prog hints S7 5000 60 309 E309_3 = true := by decide +kernel
theorem ok309_4 : entOk Tryz.prog hints S7 5000 60 309 E309_4 = true := by decide +kernel
theorem ok309_5 : entOk Tryz.prog hints S7 5000 60 309 E309_5 = true := by decide +kernel
theorem ok309_6 : entOk Tryz.prog hints S7 5000 60 309 E309_6 = true := by decide +kernel
theorem ok309_7 : entOk Tryz.prog hints S7 5000 60 309 E309_7 = true := by decide +kernel
theorem ok309_8 : entOk Tryz.prog hints S7 5000 60 309 E309_8 = true := by decide +kernel
theorem ok309_9 : entOk Tryz.prog hints S7 5000 60 309 E309_9 = true := by decide +kernel
theorem ok309_10 : entOk Tryz.prog hints S7 5000 60 309 E309_10 = true := by decide +kernel
theorem ok309_11 : entOk Tryz.prog hints S7 5000 60 309 E309_11 = true := by decide +kernel
theorem ok309_12 : entOk Tryz.prog hints S7 5000 60 309 E309_12 = true := by decide +kernel
theorem ok309_13 : entOk Tryz.prog hints S7 5000 60 309 E309_13 = true := by decide +kernel
theorem ok309_14 : entOk Tryz.prog hints S7 5000 60 309 E309_14 = true := by decide +kernel
theorem ok309_15 : entOk Tryz.prog hints S7 5000 60 309 E309_15 = true := by decide +kernel
theorem ok309_16 : entOk Tryz.prog hints S7 5000 60 309 E309_16 = true := by decide +kernel
theorem ok309_17 : entOk Tryz.prog hints S7 5000 60 309 E309_17 = true := by decide +kernel
theorem ok309_18 : entOk Tryz.prog hints S7 5000 60 309 E309_18 = true := by decide +kernel
theorem ok309_19 : entOk Tryz.prog hints S7 5000 60 309 E309_19 = true := by decide +kernel
theorem ok309_20 : entOk Tryz.prog hints S7 5000 60 309 E309_20 = true := by decide +kernel
theorem ok309_21 : entOk Tryz.prog hints S7 5000 60 309 E309_21 = true := by decide +kernel
theorem ok309_22 : entOk Tryz.prog hints S7 5000 60 309 E309_22 = true := by decide +kernel
theorem ok309_23 : entOk Tryz.prog hints S7 5000 60 309 E309_23 = true := by decide +kernel
theorem ok309_24 : entOk Tryz.prog hints S7 5000 60 309 E309_24 = true := by decide +kernel
theorem ok309_25 : entOk Tryz.prog hints S7 5000 60 309 E309_25 = true := by decide +kernel
theorem ok309_26 : entOk Tryz.prog hints S7 5000 60 309 E309_26 = true := by decide +kernel
theorem ok309_27 : entOk Tryz.prog hints S7 5000 60 309 E309_27 = true := by decide +kernel
theorem ok309_28 : entOk Tryz.prog hints S7 5000 60 309 E309_28 = true := by decide +kernel
theorem ok309_29 : entOk Tryz.prog hints S7 5000 60 309 E309_29 = true := by decide +kernel
theorem ok309_30 : entOk Tryz.prog hints S7 5000 60 309 E309_30 = true := by decide +kernel
theorem ok309_31 : entOk Tryz.prog hints S7 5000 60 309 E309_31 = true := by decide +kernel
theorem ok309_32 : entOk Tryz.prog hints S7 5000 60 309 E309_32 = true := by decide +kernel
theorem ok309_33 : entOk Tryz.prog hints S7 5000 60 309 E309_33 = true := by decide +kernel
theorem ok309_34 : entOk Tryz.prog hints S7 5000 60 309 E309_34 = true := by decide +kernel
theorem ok309_35 : entOk Tryz.prog hints S7 5000 60 309 E309_35 = true := by decide +kernel
theorem ok309_36 : entOk Tryz.prog hints S7 5000 60 309 E309_36 = true := by decide +kernel
theorem ok309_37 : entOk Tryz.prog hints S7 5000 60 309 E309_37 = true := by decide +kernel
theorem ok309_38 : entOk Tryz.prog hints S7 5000 60 309 E309_38 = true := by decide +kernel
theorem ok309 : ∀ e, e ∈ E309 → entOk Tryz.prog hints S7 5000 60 309 e = true := List.forall_mem_cons.2 ⟨ok309_0, List.forall_mem_cons.2 ⟨ok309_1, List.forall_mem_cons.2 ⟨ok309_2, List.forall_mem_cons.2 ⟨ok309_3, List.forall_mem_cons.2 ⟨ok309_4, List.forall_mem_cons.2 ⟨ok309_5, List.forall_mem_cons.2 ⟨ok309_6, List.forall_mem_cons.2 ⟨ok309_7, List.forall_mem_cons.2 ⟨ok309_8, List.forall_mem_cons.2 ⟨ok309_9, List.forall_mem_cons.2 ⟨ok309_10, List.forall_mem_cons.2 ⟨ok309_11, List.forall_mem_cons.2 ⟨ok309_12, List.forall_mem_cons.2 ⟨ok309_13, List.forall_mem_cons.2 ⟨ok309_14, List.forall_mem_cons.2 ⟨ok309_15, List.forall_mem_cons.2 ⟨ok309_16, List.forall_mem_cons.2 ⟨ok309_17, List.forall_mem_cons.2 ⟨ok309_18, List.forall_mem_cons.2 ⟨ok309_19, List.forall_mem_cons.2 ⟨ok309_20, List.forall_mem_cons.2 ⟨ok309_21, List.forall_mem_cons.2 ⟨ok309_22, List.forall_mem_cons.2 ⟨ok309_23, List.forall_mem_cons.2 ⟨ok309_24, List.forall_mem_cons.2 ⟨ok309_25, List.forall_mem_cons.2 ⟨ok309_26, List.forall_mem_cons.2 ⟨ok309_27, List.forall_mem_cons.2 ⟨ok309_28, List.forall_mem_cons.2 ⟨ok309_29, List.forall_mem_cons.2 ⟨ok309_30, List.forall_mem_cons.2 ⟨ok309_31, List.forall_mem_cons.2 ⟨ok309_32, List.forall_mem_cons.2 ⟨ok309_33, List.forall_mem_cons.2 ⟨ok309_34, List.forall_mem_cons.2 ⟨ok309_35, List.forall_mem_cons.2 ⟨ok309_36, List.forall_mem_cons.2 ⟨ok309_37, List.forall_mem_cons.2 ⟨ok309_38, List.forall_mem_nil _⟩⟩⟩⟩⟩⟩⟩⟩⟩⟩⟩⟩⟩⟩⟩⟩⟩⟩⟩⟩⟩⟩⟩⟩⟩⟩⟩⟩⟩⟩⟩⟩⟩⟩⟩⟩⟩⟩⟩
end Go.Proofs.YtdeccneggkhggaaGreatDoor.Cut
