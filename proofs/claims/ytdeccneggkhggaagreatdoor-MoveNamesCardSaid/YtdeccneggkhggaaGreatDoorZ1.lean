/-
  PROVED: calls that were run over abstract values, one by one: what each reads, writes, makes and answers. No condition.
-/
import Derived.Test.YtdeccneggkhggaaGreatDoorY2
set_option linter.unusedVariables false
set_option maxRecDepth 1000000
namespace Go.Proofs.YtdeccneggkhggaaGreatDoor.Cut
open Go.X
theorem ok137_0 : entOk Tryz.prog hints S4 5000 60 137 E137_0 = true := by decide +kernel
theorem ok137_1 : entOk Tryz.prog hints S4 5000 60 137 E137_1 = true := by decide +kernel
theorem ok137_2 : entOk Tryz.prog hints S4 5000 60 137 E137_2 = true := by decide +kernel
theorem ok137_3 : entOk Tryz.prog hints S4 5000 60 137 E137_3 = true := by decide +kernel
theorem ok137_4 : entOk Tryz.prog hints S4 5000 60 137 E137_4 = true := by decide +kernel
theorem ok137_5 : entOk Tryz.prog hints S4 5000 60 137 E137_5 = true := by decide +kernel
theorem ok137_6 : entOk Tryz.prog hints S4 5000 60 137 E137_6 = true := by decide +kernel
theorem ok137_7 : entOk Tryz.prog hints S4 5000 60 137 E137_7 = true := by decide +kernel
theorem ok137_8 : entOk Tryz.prog hints S4 5000 60 137 E137_8 = true := by decide +kernel
theorem ok137_9 : entOk Tryz.prog hints S4 5000 60 137 E137_9 = true := by decide +kernel
theorem ok137_10 : entOk Tryz.prog hints S4 5000 60 137 E137_10 = true := by decide +kernel
theorem ok137_11 : entOk Tryz.prog hints S4 5000 60 137 E137_11 = true := by decide +kernel
theorem ok137_12 : entOk Tryz.prog hints S4 5000 60 137 E137_12 = true := by decide +kernel
theorem ok137_13 : entOk Tryz.prog hints S4 5000 60 137 E137_13 = true := by decide +kernel
theorem ok137_14 : entOk Tryz.prog hints S4 5000 60 137 E137_14 = true := by decide +kernel
theorem ok137_15 : entOk Tryz.prog hints S4 5000 60 137 E137_15 = true := by decide +kernel
theorem ok137_16 : entOk Tryz.prog hints S4 5000 60 137 E137_16 = true := by decide +kernel
theorem ok137_17 : entOk Tryz.prog hints S4 5000 60 137 E137_17 = true := by decide +kernel
theorem ok137_18 : entOk Tryz.prog hints S4 5000 60 137 E137_18 = true := by decide +kernel
theorem ok137_19 : entOk Tryz.prog hints S4 5000 60 137 E137_19 = true := by decide +kernel
theorem ok137_20 : entOk Tryz.prog hints S4 5000 60 137 E137_20 = true := by decide +kernel
theorem ok137_21 : entOk Tryz.prog hints S4 5000 60 137 E137_21 = true := by decide +kernel
theorem ok137_22 : entOk Tryz.prog hints S4 5000 60 137 E137_22 = true := by decide +kernel
theorem ok137_23 : entOk Tryz.prog hints S4 5000 60 137 E137_23 = true := by decide +kernel
theorem ok137_24 : entOk Tryz.prog hints S4 5000 60 137 E137_24 = true := by decide +kernel
theorem ok137_25 : entOk Tryz.prog hints S4 5000 60 137 E137_25 = true := by decide +kernel
theorem ok137_26 : entOk Tryz.prog hints S4 5000 60 137 E137_26 = true := by decide +kernel
theorem ok137_27 : entOk Tryz.prog hints S4 5000 60 137 E137_27 = true := by decide +kernel
theorem ok137_28 : entOk Tryz.prog hints S4 5000 60 137 E137_28 = true := by decide +kernel
theorem ok137_29 : entOk Tryz.prog hints S4 5000 60 137 E137_29 = true := by decide +kernel
theorem ok137_30 : entOk Tryz.prog hints S4 5000 60 137 E137_30 = true := by decide +kernel
theorem ok137_31 : entOk Tryz.prog hints S4 5000 60 137 E137_31 = true := by decide +kernel
theorem ok137_32 : entOk Tryz.prog hints S4 5000 60 137 E137_32 = true := by decide +kernel
theorem ok137_33 : entOk Tryz.prog hints S4 5000 60 137 E137_33 = true := by decide +kernel
theorem ok137_34 : entOk Tryz.prog hints S4 5000 60 137 E137_34 = true := by decide +kernel
theorem ok137_35 : entOk Tryz.prog hints S4 5000 60 137 E137_35 = true := by decide +kernel
theorem ok137_36 : entOk Tryz.prog hints S4 5000 60 137 E137_36 = true := by decide +kernel
theorem ok137 : ∀ e, e ∈ E137 → entOk Tryz.prog hints S4 5000 60 137 e = true := List.forall_mem_cons.2 ⟨ok137_0, List.forall_mem_cons.2 ⟨ok137_1, List.forall_mem_cons.2 ⟨ok137_2, List.forall_mem_cons.2 ⟨ok137_3, List.forall_mem_cons.2 ⟨ok137_4, List.forall_mem_cons.2 ⟨ok137_5, List.forall_mem_cons.2 ⟨ok137_6, List.forall_mem_cons.2 ⟨ok137_7, List.forall_mem_cons.2 ⟨ok137_8, List.forall_mem_cons.2 ⟨ok137_9, List.forall_mem_cons.2 ⟨ok137_10, List.forall_mem_cons.2 ⟨ok137_11, List.forall_mem_cons.2 ⟨ok137_12, List.forall_mem_cons.2 ⟨ok137_13, List.forall_mem_cons.2 ⟨ok137_14, List.forall_mem_cons.2 ⟨ok137_15, List.forall_mem_cons.2 ⟨ok137_16, List.forall_mem_cons.2 ⟨ok137_17, List.forall_mem_cons.2 ⟨ok137_18, List.forall_mem_cons.2 ⟨ok137_19, List.forall_mem_cons.2 ⟨ok137_20, List.forall_mem_cons.2 ⟨ok137_21, List.forall_mem_cons.2 ⟨ok137_22, List.forall_mem_cons.2 ⟨ok137_23, List.forall_mem_cons.2 ⟨ok137_24, List.forall_mem_cons.2 ⟨ok137_25, List.forall_mem_cons.2 ⟨ok137_26, List.forall_mem_cons.2 ⟨ok137_27, List.forall_mem_cons.2 ⟨ok137_28, List.forall_mem_cons.2 ⟨ok137_29, List.forall_mem_cons.2 ⟨ok137_30, List.forall_mem_cons.2 ⟨ok137_31, List.forall_mem_cons.2 ⟨ok137_32, List.forall_mem_cons.2 ⟨ok137_33, List.forall_mem_cons.2 ⟨ok137_34, List.forall_mem_cons.2 ⟨ok137_35, List.forall_mem_cons.2 ⟨ok137_36, List.forall_mem_nil _⟩⟩⟩⟩⟩⟩⟩⟩⟩⟩⟩⟩⟩⟩⟩⟩⟩⟩⟩⟩⟩⟩⟩⟩⟩⟩⟩⟩⟩⟩⟩⟩⟩⟩⟩⟩⟩
end Go.Proofs.YtdeccneggkhggaaGreatDoor.Cut
