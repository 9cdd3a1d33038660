/-
  PROVED: calls that were run over abstract values, one by one: what each reads, writes, makes and answers. No condition.
-/
import Derived.Test.YtdeccneggkhggaaGreatDoorY2
set_option linter.unusedVariables false
set_option maxRecDepth 1000000
namespace Go.Proofs.YtdeccneggkhggaaGreatDoor.Cut
open Go.X
theorem ok89_0 : entOk Tryz.prog hints S5 5000 60 89 E89_0 = true := by decide +kernel
theorem ok89_1 : entOk Tryz.prog hints S5 5000 60 89 E89_1 = true := by decide +kernel
theorem ok89_2 : entOk Tryz.prog hints S5 5000 60 89 E89_2 = true := by decide +kernel
theorem ok89_3 : entOk Tryz.prog hints S5 5000 60 89 E89_3 = true := by decide +kernel
theorem ok89_4 : entOk Tryz.prog hints S5 5000 60 89 E89_4 = true := by decide +kernel
theorem ok89_5 : entOk Tryz.prog hints S5 5000 60 89 E89_5 = true := by decide +kernel
theorem ok89_6 : entOk Tryz.prog hints S5 5000 60 89 E89_6 = true := by decide +kernel
theorem ok89_7 : entOk Tryz.prog hints S5 5000 60 89 E89_7 = true := by decide +kernel
theorem ok89_8 : entOk Tryz.prog hints S5 5000 60 89 E89_8 = true := by decide +kernel
theorem ok89_9 : entOk Tryz.prog hints S5 5000 60 89 E89_9 = true := by decide +kernel
theorem ok89_10 : entOk Tryz.prog hints S5 5000 60 89 E89_10 = true := by decide +kernel
theorem ok89_11 : entOk Tryz.prog hints S5 5000 60 89 E89_11 = true := by decide +kernel
theorem ok89_12 : entOk Tryz.prog hints S5 5000 60 89 E89_12 = true := by decide +kernel
theorem ok89_13 : entOk Tryz.prog hints S5 5000 60 89 E89_13 = true := by decide +kernel
theorem ok89_14 : entOk Tryz.prog hints S5 5000 60 89 E89_14 = true := by decide +kernel
theorem ok89_15 : entOk Tryz.prog hints S5 5000 60 89 E89_15 = true := by decide +kernel
theorem ok89_16 : entOk Tryz.prog hints S5 5000 60 89 E89_16 = true := by decide +kernel
theorem ok89_17 : entOk Tryz.prog hints S5 5000 60 89 E89_17 = true := by decide +kernel
theorem ok89_18 : entOk Tryz.prog hints S5 5000 60 89 E89_18 = true := by decide +kernel
theorem ok89_19 : entOk Tryz.prog hints S5 5000 60 89 E89_19 = true := by decide +kernel
theorem ok89_20 : entOk Tryz.prog hints S5 5000 60 89 E89_20 = true := by decide +kernel
theorem ok89_21 : entOk Tryz.prog hints S5 5000 60 89 E89_21 = true := by decide +kernel
theorem ok89_22 : entOk Tryz.prog hints S5 5000 60 89 E89_22 = true := by decide +kernel
theorem ok89_23 : entOk Tryz.prog hints S5 5000 60 89 E89_23 = true := by decide +kernel
theorem ok89_24 : entOk Tryz.prog hints S5 5000 60 89 E89_24 = true := by decide +kernel
theorem ok89_25 : entOk Tryz.prog hints S5 5000 60 89 E89_25 = true := by decide +kernel
theorem ok89_26 : entOk Tryz.prog hints S5 5000 60 89 E89_26 = true := by decide +kernel
theorem ok89_27 : entOk Tryz.prog hints S5 5000 60 89 E89_27 = true := by decide +kernel
theorem ok89_28 : entOk Tryz.prog hints S5 5000 60 89 E89_28 = true := by decide +kernel
theorem ok89_29 : entOk Tryz.prog hints S5 5000 60 89 E89_29 = true := by decide +kernel
theorem ok89_30 : entOk Tryz.prog hints S5 5000 60 89 E89_30 = true := by decide +kernel
theorem ok89_31 : entOk Tryz.prog hints S5 5000 60 89 E89_31 = true := by decide +kernel
theorem ok89_32 : entOk Tryz.prog hints S5 5000 60 89 E89_32 = true := by decide +kernel
theorem ok89 : ∀ e, e ∈ E89 → entOk Tryz.prog hints S5 5000 60 89 e = true := List.forall_mem_cons.2 ⟨ok89_0, List.forall_mem_cons.2 ⟨ok89_1, List.forall_mem_cons.2 ⟨ok89_2, List.forall_mem_cons.2 ⟨ok89_3, List.forall_mem_cons.2 ⟨ok89_4, List.forall_mem_cons.2 ⟨ok89_5, List.forall_mem_cons.2 ⟨ok89_6, List.forall_mem_cons.2 ⟨ok89_7, List.forall_mem_cons.2 ⟨ok89_8, List.forall_mem_cons.2 ⟨ok89_9, List.forall_mem_cons.2 ⟨ok89_10, List.forall_mem_cons.2 ⟨ok89_11, List.forall_mem_cons.2 ⟨ok89_12, List.forall_mem_cons.2 ⟨ok89_13, List.forall_mem_cons.2 ⟨ok89_14, List.forall_mem_cons.2 ⟨ok89_15, List.forall_mem_cons.2 ⟨ok89_16, List.forall_mem_cons.2 ⟨ok89_17, List.forall_mem_cons.2 ⟨ok89_18, List.forall_mem_cons.2 ⟨ok89_19, List.forall_mem_cons.2 ⟨ok89_20, List.forall_mem_cons.2 ⟨ok89_21, List.forall_mem_cons.2 ⟨ok89_22, List.forall_mem_cons.2 ⟨ok89_23, List.forall_mem_cons.2 ⟨ok89_24, List.forall_mem_cons.2 ⟨ok89_25, List.forall_mem_cons.2 ⟨ok89_26, List.forall_mem_cons.2 ⟨ok89_27, List.forall_mem_cons.2 ⟨ok89_28, List.forall_mem_cons.2 ⟨ok89_29, List.forall_mem_cons.2 ⟨ok89_30, List.forall_mem_cons.2 ⟨ok89_31, List.forall_mem_cons.2 ⟨ok89_32, List.forall_mem_nil _⟩⟩⟩⟩⟩⟩⟩⟩⟩⟩⟩⟩⟩⟩⟩⟩⟩⟩⟩⟩⟩⟩⟩⟩⟩⟩⟩⟩⟩⟩⟩⟩⟩
end Go.Proofs.YtdeccneggkhggaaGreatDoor.Cut
