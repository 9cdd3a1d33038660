/-
  PROVED: calls that were run over abstract values, one by one: what each reads, writes, makes and answers. No condition.
-/
import Derived.Test.YtjchcfiiijgmdaaGreatDoorY0
set_option linter.unusedVariables false
set_option maxRecDepth 1000000
namespace Go.Proofs.YtjchcfiiijgmdaaGreatDoor.Cut
open Go.X
theorem ok70_0 : entOk Tryz.prog hints S0 5000 60 70 E70_0 = true := by decide +kernel
theorem ok70_1 : entOk Tryz.prog hints S0 5000 60 70 E70_1 = true := by decide +kernel
theorem ok70_2 : entOk Tryz.prog hints S0 5000 60 70 E70_2 = true := by decide +kernel
theorem ok70_3 : entOk Tryz.prog hints S0 5000 60 70 E70_3 = true := by decide +kernel
theorem ok70_4 : entOk Tryz.prog hints S0 5000 60 70 E70_4 = true := by decide +kernel
theorem ok70_5 : entOk Tryz.prog hints S0 5000 60 70 E70_5 = true := by decide +kernel
theorem ok70_6 : entOk Tryz.prog hints S0 5000 60 70 E70_6 = true := by decide +kernel
theorem ok70_7 : entOk Tryz.prog hints S0 5000 60 70 E70_7 = true := by decide +kernel
theorem ok70_8 : entOk Tryz.prog hints S0 5000 60 70 E70_8 = true := by decide +kernel
theorem ok70_9 : entOk Tryz.prog hints S0 5000 60 70 E70_9 = true := by decide +kernel
theorem ok70_10 : entOk Tryz.prog hints S0 5000 60 70 E70_10 = true := by decide +kernel
theorem ok70_11 : entOk Tryz.prog hints S0 5000 60 70 E70_11 = true := by decide +kernel
theorem ok70_12 : entOk Tryz.prog hints S0 5000 60 70 E70_12 = true := by decide +kernel
theorem ok70_13 : entOk Tryz.prog hints S0 5000 60 70 E70_13 = true := by decide +kernel
theorem ok70_14 : entOk Tryz.prog hints S0 5000 60 70 E70_14 = true := by decide +kernel
theorem ok70_15 : entOk Tryz.prog hints S0 5000 60 70 E70_15 = true := by decide +kernel
theorem ok70_16 : entOk Tryz.prog hints S0 5000 60 70 E70_16 = true := by decide +kernel
theorem ok70_17 : entOk Tryz.prog hints S0 5000 60 70 E70_17 = true := by decide +kernel
theorem ok70_18 : entOk Tryz.prog hints S0 5000 60 70 E70_18 = true := by decide +kernel
theorem ok70_19 : entOk Tryz.prog hints S0 5000 60 70 E70_19 = true := by decide +kernel
theorem ok70_20 : entOk Tryz.prog hints S0 5000 60 70 E70_20 = true := by decide +kernel
theorem ok70_21 : entOk Tryz.prog hints S0 5000 60 70 E70_21 = true := by decide +kernel
theorem ok70_22 : entOk Tryz.prog hints S0 5000 60 70 E70_22 = true := by decide +kernel
theorem ok70_23 : entOk Tryz.prog hints S0 5000 60 70 E70_23 = true := by decide +kernel
theorem ok70_24 : entOk Tryz.prog hints S0 5000 60 70 E70_24 = true := by decide +kernel
theorem ok70_25 : entOk Tryz.prog hints S0 5000 60 70 E70_25 = true := by decide +kernel
theorem ok70_26 : entOk Tryz.prog hints S0 5000 60 70 E70_26 = true := by decide +kernel
theorem ok70_27 : entOk Tryz.prog hints S0 5000 60 70 E70_27 = true := by decide +kernel
theorem ok70_28 : entOk Tryz.prog hints S0 5000 60 70 E70_28 = true := by decide +kernel
theorem ok70_29 : entOk Tryz.prog hints S0 5000 60 70 E70_29 = true := by decide +kernel
theorem ok70_30 : entOk Tryz.prog hints S0 5000 60 70 E70_30 = true := by decide +kernel
theorem ok70_31 : entOk Tryz.prog hints S0 5000 60 70 E70_31 = true := by decide +kernel
theorem ok70_32 : entOk Tryz.prog hints S0 5000 60 70 E70_32 = true := by decide +kernel
theorem ok70_33 : entOk Tryz.prog hints S0 5000 60 70 E70_33 = true := by decide +kernel
theorem ok70_34 : entOk Tryz.prog hints S0 5000 60 70 E70_34 = true := by decide +kernel
theorem ok70_35 : entOk Tryz.prog hints S0 5000 60 70 E70_35 = true := by decide +kernel
theorem ok70_36 : entOk Tryz.prog hints S0 5000 60 70 E70_36 = true := by decide +kernel
theorem ok70_37 : entOk Tryz.prog hints S0 5000 60 70 E70_37 = true := by decide +kernel
theorem ok70_38 : entOk Tryz.prog hints S0 5000 60 70 E70_38 = true := by decide +kernel
theorem ok70_39 : entOk Tryz.prog hints S0 5000 60 70 E70_39 = true := by decide +kernel
theorem ok70_40 : entOk Tryz.prog hints S0 5000 60 70 E70_40 = true := by decide +kernel
theorem ok70_41 : entOk Tryz.prog hints S0 5000 60 70 E70_41 = true := by decide +kernel
theorem ok70_42 : entOk Tryz.prog hints S0 5000 60 70 E70_42 = true := by decide +kernel
theorem ok70_43 : entOk Tryz.prog hints S0 5000 60 70 E70_43 = true := by decide +kernel
theorem ok70_44 : entOk Tryz.prog hints S0 5000 60 70 E70_44 = true := by decide +kernel
theorem ok70_45 : entOk Tryz.prog hints S0 5000 60 70 E70_45 = true := by decide +kernel
theorem ok70_46 : entOk Tryz.prog hints S0 5000 60 70 E70_46 = true := by decide +kernel
theorem ok70_47 : entOk Tryz.prog hints S0 5000 60 70 E70_47 = true := by decide +kernel
theorem ok70_48 : entOk Tryz.prog hints S0 5000 60 70 E70_48 = true := by decide +kernel
theorem ok70 : ∀ e, e ∈ E70 → entOk Tryz.prog hints S0 5000 60 70 e = true := List.forall_mem_cons.2 ⟨ok70_0, List.forall_mem_cons.2 ⟨ok70_1, List.forall_mem_cons.2 ⟨ok70_2, List.forall_mem_cons.2 ⟨ok70_3, List.forall_mem_cons.2 ⟨ok70_4, List.forall_mem_cons.2 ⟨ok70_5, List.forall_mem_cons.2 ⟨ok70_6, List.forall_mem_cons.2 ⟨ok70_7, List.forall_mem_cons.2 ⟨ok70_8, List.forall_mem_cons.2 ⟨ok70_9, List.forall_mem_cons.2 ⟨ok70_10, List.forall_mem_cons.2 ⟨ok70_11, List.forall_mem_cons.2 ⟨ok70_12, List.forall_mem_cons.2 ⟨ok70_13, List.forall_mem_cons.2 ⟨ok70_14, List.forall_mem_cons.2 ⟨ok70_15, List.forall_mem_cons.2 ⟨ok70_16, List.forall_mem_cons.2 ⟨ok70_17, List.forall_mem_cons.2 ⟨ok70_18, List.forall_mem_cons.2 ⟨ok70_19, List.forall_mem_cons.2 ⟨ok70_20, List.forall_mem_cons.2 ⟨ok70_21, List.forall_mem_cons.2 ⟨ok70_22, List.forall_mem_cons.2 ⟨ok70_23, List.forall_mem_cons.2 ⟨ok70_24, List.forall_mem_cons.2 ⟨ok70_25, List.forall_mem_cons.2 ⟨ok70_26, List.forall_mem_cons.2 ⟨ok70_27, List.forall_mem_cons.2 ⟨ok70_28, List.forall_mem_cons.2 ⟨ok70_29, List.forall_mem_cons.2 ⟨ok70_30, List.forall_mem_cons.2 ⟨ok70_31, List.forall_mem_cons.2 ⟨ok70_32, List.forall_mem_cons.2 ⟨ok70_33, List.forall_mem_cons.2 ⟨ok70_34, List.forall_mem_cons.2 ⟨ok70_35, List.forall_mem_cons.2 ⟨ok70_36, List.forall_mem_cons.2 ⟨ok70_37, List.forall_mem_cons.2 ⟨ok70_38, List.forall_mem_cons.2 ⟨ok70_39, List.forall_mem_cons.2 ⟨ok70_40, List.forall_mem_cons.2 ⟨ok70_41, List.forall_mem_cons.2 ⟨ok70_42, List.forall_mem_cons.2 ⟨ok70_43, List.forall_mem_cons.2 ⟨ok70_44, List.forall_mem_cons.2 ⟨ok70_45, List.forall_mem_cons.2 ⟨ok70_46, List.forall_mem_cons.2 ⟨ok70_47, List.forall_mem_cons.2 ⟨ok70_48, List.forall_mem_nil _⟩⟩⟩⟩⟩⟩⟩⟩⟩⟩⟩⟩⟩⟩⟩⟩⟩⟩⟩⟩⟩⟩⟩⟩⟩⟩⟩⟩⟩⟩⟩⟩⟩⟩⟩⟩⟩⟩⟩⟩⟩⟩⟩⟩⟩⟩⟩⟩⟩
end Go.Proofs.YtjchcfiiijgmdaaGreatDoor.Cut
