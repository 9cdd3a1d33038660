/-
  PROVED: calls that were run over abstract values, one by one: what each reads, writes, makes and answers. No condition.
-/
import Derived.Test.YtdeccneggkhggaaGreatDoorY2
set_option linter.unusedVariables false
set_option maxRecDepth 1000000
namespace Go.Proofs.YtdeccneggkhggaaGreatDoor.Cut
open Go.X
theorem ok247_0 : entOk Tryz.prog hints S8 5000 60 247 E247_0 = true := by decide +kernel
theorem ok247_1 : entOk Tryz.prog hints S8 5000 60 247 E247_1 = true := by decide +kernel
theorem ok247_2 : entOk Tryz.prog hints S8 5000 60 247 E247_2 = true := by decide +kernel
theorem ok247_3 : entOk Tryz.prog hints S8 5000 60 247 E247_3 = true := by decide +kernel
theorem ok247_4 : entOk Tryz.prog hints S8 5000 60 247 E247_4 = true := by decide +kernel
theorem ok247_5 : entOk Tryz.prog hints S8 5000 60 247 E247_5 = true := by decide +kernel
theorem ok247_6 : entOk Tryz.prog hints S8 5000 60 247 E247_6 = true := by decide +kernel
theorem ok247_7 : entOk Tryz.prog hints S8 5000 60 247 E247_7 = true := by decide +kernel
theorem ok247_8 : entOk Tryz.prog hints S8 5000 60 247 E247_8 = true := by decide +kernel
theorem ok247_9 : entOk Tryz.prog hints S8 5000 60 247 E247_9 = true := by decide +kernel
theorem ok247_10 : entOk Tryz.prog hints S8 5000 60 247 E247_10 = true := by decide +kernel
theorem ok247_11 : entOk Tryz.prog hints S8 5000 60 247 E247_11 = true := by decide +kernel
theorem ok247_12 : entOk Tryz.prog hints S8 5000 60 247 E247_12 = true := by decide +kernel
theorem ok247_13 : entOk Tryz.prog hints S8 5000 60 247 E247_13 = true := by decide +kernel
theorem ok247_14 : entOk Tryz.prog hints S8 5000 60 247 E247_14 = true := by decide +kernel
theorem ok247_15 : entOk Tryz.prog hints S8 5000 60 247 E247_15 = true := by decide +kernel
theorem ok247_16 : entOk Tryz.prog hints S8 5000 60 247 E247_16 = true := by decide +kernel
theorem ok247_17 : entOk Tryz.prog hints S8 5000 60 247 E247_17 = true := by decide +kernel
theorem ok247_18 : entOk Tryz.prog hints S8 5000 60 247 E247_18 = true := by decide +kernel
theorem ok247_19 : entOk Tryz.prog hints S8 5000 60 247 E247_19 = true := by decide +kernel
theorem ok247_20 : entOk Tryz.prog hints S8 5000 60 247 E247_20 = true := by decide +kernel
theorem ok247_21 : entOk Tryz.prog hints S8 5000 60 247 E247_21 = true := by decide +kernel
theorem ok247_22 : entOk Tryz.prog hints S8 5000 60 247 E247_22 = true := by decide +kernel
theorem ok247_23 : entOk Tryz.prog hints S8 5000 60 247 E247_23 = true := by decide +kernel
theorem ok247_24 : entOk Tryz.prog hints S8 5000 60 247 E247_24 = true := by decide +kernel
theorem ok247_25 : entOk Tryz.prog hints S8 5000 60 247 E247_25 = true := by decide +kernel
theorem ok247_26 : entOk Tryz.prog hints S8 5000 60 247 E247_26 = true := by decide +kernel
theorem ok247_27 : entOk Tryz.prog hints S8 5000 60 247 E247_27 = true := by decide +kernel
theorem ok247_28 : entOk Tryz.prog hints S8 5000 60 247 E247_28 = true := by decide +kernel
theorem ok247_29 : entOk Tryz.prog hints S8 5000 60 247 E247_29 = true := by decide +kernel
theorem ok247_30 : entOk Tryz.prog hints S8 5000 60 247 E247_30 = true := by decide +kernel
theorem ok247_31 : entOk Tryz.prog hints S8 5000 60 247 E247_31 = true := by decide +kernel
theorem ok247_32 : entOk Tryz.prog hints S8 5000 60 247 E247_32 = true := by decide +kernel
theorem ok247_33 : entOk Tryz.prog hints S8 5000 60 247 E247_33 = true := by decide +kernel
theorem ok247_34 : entOk Tryz.prog hints S8 5000 60 247 E247_34 = true := by decide +kernel
theorem ok247_35 : entOk Tryz.prog hints S8 5000 60 247 E247_35 = true := by decide +kernel
theorem ok247_36 : entOk Tryz.prog hints S8 5000 60 247 E247_36 = true := by decide +kernel
theorem ok247_37 : entOk Tryz.prog hints S8 5000 60 247 E247_37 = true := by decide +kernel
theorem ok247_38 : entOk Tryz.prog hints S8 5000 60 247 E247_38 = true := by decide +kernel
theorem ok247 : ∀ e, e ∈ E247 → entOk Tryz.prog hints S8 5000 60 247 e = true := List.forall_mem_cons.2 ⟨ok247_0, List.forall_mem_cons.2 ⟨ok247_1, List.forall_mem_cons.2 ⟨ok247_2, List.forall_mem_cons.2 ⟨ok247_3, List.forall_mem_cons.2 ⟨ok247_4, List.forall_mem_cons.2 ⟨ok247_5, List.forall_mem_cons.2 ⟨ok247_6, List.forall_mem_cons.2 ⟨ok247_7, List.forall_mem_cons.2 ⟨ok247_8, List.forall_mem_cons.2 ⟨ok247_9, List.forall_mem_cons.2 ⟨ok247_10, List.forall_mem_cons.2 ⟨ok247_11, List.forall_mem_cons.2 ⟨ok247_12, List.forall_mem_cons.2 ⟨ok247_13, List.forall_mem_cons.2 ⟨ok247_14, List.forall_mem_cons.2 ⟨ok247_15, List.forall_mem_cons.2 ⟨ok247_16, List.forall_mem_cons.2 ⟨ok247_17, List.forall_mem_cons.2 ⟨ok247_18, List.forall_mem_cons.2 ⟨ok247_19, List.forall_mem_cons.2 ⟨ok247_20, List.forall_mem_cons.2 ⟨ok247_21, List.forall_mem_cons.2 ⟨ok247_22, List.forall_mem_cons.2 ⟨ok247_23, List.forall_mem_cons.2 ⟨ok247_24, List.forall_mem_cons.2 ⟨ok247_25, List.forall_mem_cons.2 ⟨ok247_26, List.forall_mem_cons.2 ⟨ok247_27, List.forall_mem_cons.2 ⟨ok247_28, List.forall_mem_cons.2 ⟨ok247_29, List.forall_mem_cons.2 ⟨ok247_30, List.forall_mem_cons.2 ⟨ok247_31, List.forall_mem_cons.2 ⟨ok247_32, List.forall_mem_cons.2 ⟨ok247_33, List.forall_mem_cons.2 ⟨ok247_34, List.forall_mem_cons.2 ⟨ok247_35, List.forall_mem_cons.2 ⟨ok247_36, List.forall_mem_cons.2 ⟨ok247_37, List.forall_mem_cons.2 ⟨ok247_38, List.forall_mem_nil _⟩⟩⟩⟩⟩⟩⟩⟩⟩⟩⟩⟩⟩⟩⟩⟩⟩⟩⟩⟩⟩⟩⟩⟩⟩⟩⟩⟩⟩⟩⟩⟩⟩⟩⟩⟩⟩⟩⟩
end Go.Proofs.YtdeccneggkhggaaGreatDoor.Cut
