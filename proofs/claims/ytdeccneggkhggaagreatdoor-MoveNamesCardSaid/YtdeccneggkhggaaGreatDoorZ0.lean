/-
  PROVED: calls that were run over abstract values, one by one: what each reads, writes, makes and answers. No condition.
-/
import Derived.Test.YtdeccneggkhggaaGreatDoorY2
set_option linter.unusedVariables false
set_option maxRecDepth 1000000
namespace Go.Proofs.YtdeccneggkhggaaGreatDoor.Cut
open Go.X
theorem ok63_0 : entOk Tryz.prog hints S0 5000 60 63 E63_0 = true := by decide +kernel
theorem ok63_1 : entOk Tryz.prog hints S0 5000 60 63 E63_1 = true := by decide +kernel
theorem ok63_2 : entOk Tryz.prog hints S0 5000 60 63 E63_2 = true := by decide +kernel
theorem ok63_3 : entOk Tryz.prog hints S0 5000 60 63 E63_3 = true := by decide +kernel
theorem ok63 : ∀ e, e ∈ E63 → entOk Tryz.prog hints S0 5000 60 63 e = true := List.forall_mem_cons.2 ⟨ok63_0, List.forall_mem_cons.2 ⟨ok63_1, List.forall_mem_cons.2 ⟨ok63_2, List.forall_mem_cons.2 ⟨ok63_3, List.forall_mem_nil _⟩⟩⟩⟩
theorem ok30_0 : entOk Tryz.prog hints S1 5000 60 30 E30_0 = true := by decide +kernel
theorem ok30_1 : entOk Tryz.prog hints S1 5000 60 30 E30_1 = true := by decide +kernel
theorem ok30_2 : entOk Tryz.prog hints S1 5000 60 30 E30_2 = true := by decide +kernel
theorem ok30_3 : entOk Tryz.prog hints S1 5000 60 30 E30_3 = true := by decide +kernel
theorem ok30 : ∀ e, e ∈ E30 → entOk Tryz.prog hints S1 5000 60 30 e = true := List.forall_mem_cons.2 ⟨ok30_0, List.forall_mem_cons.2 ⟨ok30_1, List.forall_mem_cons.2 ⟨ok30_2, List.forall_mem_cons.2 ⟨ok30_3, List.forall_mem_nil _⟩⟩⟩⟩
theorem ok88_0 : entOk Tryz.prog hints S2 5000 60 88 E88_0 = true := by decide +kernel
theorem ok88_1 : entOk Tryz.prog hints S2 5000 60 88 E88_1 = true := by decide +kernel
theorem ok88 : ∀ e, e ∈ E88 → entOk Tryz.prog hints S2 5000 60 88 e = true := List.forall_mem_cons.2 ⟨ok88_0, List.forall_mem_cons.2 ⟨ok88_1, List.forall_mem_nil _⟩⟩
theorem ok207_0 : entOk Tryz.prog hints S3 5000 60 207 E207_0 = true := by decide +kernel
theorem ok207_1 : entOk Tryz.prog hints S3 5000 60 207 E207_1 = true := by decide +kernel
theorem ok207_2 : entOk Tryz.prog hints S3 5000 60 207 E207_2 = true := by decide +kernel
theorem ok207_3 : entOk Tryz.prog hints S3 5000 60 207 E207_3 = true := by decide +kernel
theorem ok207_4 : entOk Tryz.prog hints S3 5000 60 207 E207_4 = true := by decide +kernel
theorem ok207_5 : entOk Tryz.prog hints S3 5000 60 207 E207_5 = true := by decide +kernel
theorem ok207_6 : entOk Tryz.prog hints S3 5000 60 207 E207_6 = true := by decide +kernel
theorem ok207_7 : entOk Tryz.prog hints S3 5000 60 207 E207_7 = true := by decide +kernel
theorem ok207_8 : entOk Tryz.prog hints S3 5000 60 207 E207_8 = true := by decide +kernel
theorem ok207_9 : entOk Tryz.prog hints S3 5000 60 207 E207_9 = true := by decide +kernel
theorem ok207_10 : entOk Tryz.prog hints S3 5000 60 207 E207_10 = true := by decide +kernel
theorem ok207_11 : entOk Tryz.prog hints S3 5000 60 207 E207_11 = true := by decide +kernel
theorem ok207_12 : entOk Tryz.prog hints S3 5000 60 207 E207_12 = true := by decide +kernel
theorem ok207_13 : entOk Tryz.prog hints S3 5000 60 207 E207_13 = true := by decide +kernel
theorem ok207_14 : entOk Tryz.prog hints S3 5000 60 207 E207_14 = true := by decide +kernel
theorem ok207_15 : entOk Tryz.prog hints S3 5000 60 207 E207_15 = true := by decide +kernel
theorem ok207_16 : entOk Tryz.prog hints S3 5000 60 207 E207_16 = true := by decide +kernel
theorem ok207_17 : entOk Tryz.prog hints S3 5000 60 207 E207_17 = true := by decide +kernel
theorem ok207_18 : entOk Tryz.prog hints S3 5000 60 207 E207_18 = true := by decide +kernel
theorem ok207_19 : entOk Tryz.prog hints S3 5000 60 207 E207_19 = true := by decide +kernel
theorem ok207_20 : entOk Tryz.prog hints S3 5000 60 207 E207_20 = true := by decide +kernel
theorem ok207_21 : entOk Tryz.prog hints S3 5000 60 207 E207_21 = true := by decide +kernel
theorem ok207_22 : entOk Tryz.prog hints S3 5000 60 207 E207_22 = true := by decide +kernel
theorem ok207_23 : entOk Tryz.prog hints S3 5000 60 207 E207_23 = true := by decide +kernel
theorem ok207_24 : entOk Tryz.prog hints S3 5000 60 207 E207_24 = true := by decide +kernel
theorem ok207_25 : entOk Tryz.prog hints S3 5000 60 207 E207_25 = true := by decide +kernel
theorem ok207_26 : entOk Tryz.prog hints S3 5000 60 207 E207_26 = true := by decide +kernel
theorem ok207_27 : entOk Tryz.prog hints S3 5000 60 207 E207_27 = true := by decide +kernel
theorem ok207_28 : entOk Tryz.prog hints S3 5000 60 207 E207_28 = true := by decide +kernel
theorem ok207_29 : entOk Tryz.prog hints S3 5000 60 207 E207_29 = true := by decide +kernel
theorem ok207_30 : entOk Tryz.prog hints S3 5000 60 207 E207_30 = true := by decide +kernel
theorem ok207_31 : entOk Tryz.prog hints S3 5000 60 207 E207_31 = true := by decide +kernel
theorem ok207_32 : entOk Tryz.prog hints S3 5000 60 207 E207_32 = true := by decide +kernel
theorem ok207_33 : entOk Tryz.prog hints S3 5000 60 207 E207_33 = true := by decide +kernel
theorem ok207_34 : entOk Tryz.prog hints S3 5000 60 207 E207_34 = true := by decide +kernel
theorem ok207_35 : entOk Tryz.prog hints S3 5000 60 207 E207_35 = true := by decide +kernel
theorem ok207_36 : entOk Tryz.prog hints S3 5000 60 207 E207_36 = true := by decide +kernel
theorem ok207 : ∀ e, e ∈ E207 → entOk Tryz.prog hints S3 5000 60 207 e = true := List.forall_mem_cons.2 ⟨ok207_0, List.forall_mem_cons.2 ⟨ok207_1, List.forall_mem_cons.2 ⟨ok207_2, List.forall_mem_cons.2 ⟨ok207_3, List.forall_mem_cons.2 ⟨ok207_4, List.forall_mem_cons.2 ⟨ok207_5, List.forall_mem_cons.2 ⟨ok207_6, List.forall_mem_cons.2 ⟨ok207_7, List.forall_mem_cons.2 ⟨ok207_8, List.forall_mem_cons.2 ⟨ok207_9, List.forall_mem_cons.2 ⟨ok207_10, List.forall_mem_cons.2 ⟨ok207_11, List.forall_mem_cons.2 ⟨ok207_12, List.forall_mem_cons.2 ⟨ok207_13, List.forall_mem_cons.2 ⟨ok207_14, List.forall_mem_cons.2 ⟨ok207_15, List.forall_mem_cons.2 ⟨ok207_16, List.forall_mem_cons.2 ⟨ok207_17, List.forall_mem_cons.2 ⟨ok207_18, List.forall_mem_cons.2 ⟨ok207_19, List.forall_mem_cons.2 ⟨ok207_20, List.forall_mem_cons.2 ⟨ok207_21, List.forall_mem_cons.2 ⟨ok207_22, List.forall_mem_cons.2 ⟨ok207_23, List.forall_mem_cons.2 ⟨ok207_24, List.forall_mem_cons.2 ⟨ok207_25, List.forall_mem_cons.2 ⟨ok207_26, List.forall_mem_cons.2 ⟨ok207_27, List.forall_mem_cons.2 ⟨ok207_28, List.forall_mem_cons.2 ⟨ok207_29, List.forall_mem_cons.2 ⟨ok207_30, List.forall_mem_cons.2 ⟨ok207_31, List.forall_mem_cons.2 ⟨ok207_32, List.forall_mem_cons.2 ⟨ok207_33, List.forall_mem_cons.2 ⟨ok207_34, List.forall_mem_cons.2 ⟨ok207_35, List.forall_mem_cons.2 ⟨ok207_36, List.forall_mem_nil _⟩⟩⟩⟩⟩⟩⟩⟩⟩⟩⟩⟩⟩⟩⟩⟩⟩⟩⟩⟩⟩⟩⟩⟩⟩⟩⟩⟩⟩⟩⟩⟩⟩⟩⟩⟩⟩
end Go.Proofs.YtdeccneggkhggaaGreatDoor.Cut
