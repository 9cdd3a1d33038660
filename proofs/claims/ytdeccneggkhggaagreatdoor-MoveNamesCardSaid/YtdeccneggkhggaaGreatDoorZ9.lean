/-
  PROVED: calls that were run over abstract values, one by one: what each reads, writes, makes and answers. No condition.
-/
import Derived.Test.YtdeccneggkhggaaGreatDoorY2
set_option linter.unusedVariables false
set_option maxRecDepth 1000000
namespace Go.Proofs.YtdeccneggkhggaaGreatDoor.Cut
open Go.X
theorem ok160_0 : entOk Tryz.prog hints S17 5000 60 160 E160_0 = true := by decide +kernel
theorem ok160_1 : entOk Tryz.prog hints S17 5000 60 160 E160_1 = true := by decide +kernel
theorem ok160_2 : entOk Tryz.prog hints S17 5000 60 160 E160_2 = true := by decide +kernel
theorem ok160_3 : entOk Tryz.prog hints S17 5000 60 160 E160_3 = true := by decide +kernel
theorem ok160_4 : entOk Tryz.prog hints S17 5000 60 160 E160_4 = true := by decide +kernel
theorem ok160_5 : entOk Tryz.prog hints S17 5000 60 160 E160_5 = true := by decide +kernel
theorem ok160_6 : entOk Tryz.prog hints S17 5000 60 160 E160_6 = true := by decide +kernel
theorem ok160_7 : entOk Tryz.prog hints S17 5000 60 160 E160_7 = true := by decide +kernel
theorem ok160_8 : entOk Tryz.prog hints S17 5000 60 160 E160_8 = true := by decide +kernel
theorem ok160_9 : entOk Tryz.prog hints S17 5000 60 160 E160_9 = true := by decide +kernel
theorem ok160_10 : entOk Tryz.prog hints S17 5000 60 160 E160_10 = true := by decide +kernel
theorem ok160_11 : entOk Tryz.prog hints S17 5000 60 160 E160_11 = true := by decide +kernel
theorem ok160_12 : entOk Tryz.prog hints S17 5000 60 160 E160_12 = true := by decide +kernel
theorem ok160_13 : entOk Tryz.prog hints S17 5000 60 160 E160_13 = true := by decide +kernel
theorem ok160_14 : entOk Tryz.prog hints S17 5000 60 160 E160_14 = true := by decide +kernel
theorem ok160_15 : entOk Tryz.prog hints S17 5000 60 160 E160_15 = true := by decide +kernel
theorem ok160_16 : entOk Tryz.prog hints S17 5000 60 160 E160_16 = true := by decide +kernel
theorem ok160_17 : entOk Tryz.prog hints S17 5000 60 160 E160_17 = true := by decide +kernel
theorem ok160_18 : entOk Tryz.prog hints S17 5000 60 160 E160_18 = true := by decide +kernel
theorem ok160_19 : entOk Tryz.prog hints S17 5000 60 160 E160_19 = true := by decide +kernel
theorem ok160_20 : entOk Tryz.prog hints S17 5000 60 160 E160_20 = true := by decide +kernel
theorem ok160_21 : entOk Tryz.prog hints S17 5000 60 160 E160_21 = true := by decide +kernel
theorem ok160_22 : entOk Tryz.prog hints S17 5000 60 160 E160_22 = true := by decide +kernel
theorem ok160_23 : entOk Tryz.prog hints S17 5000 60 160 E160_23 = true := by decide +kernel
theorem ok160_24 : entOk Tryz.prog hints S17 5000 60 160 E160_24 = true := by decide +kernel
theorem ok160_25 : entOk Tryz.prog hints S17 5000 60 160 E160_25 = true := by decide +kernel
theorem ok160_26 : entOk Tryz.prog hints S17 5000 60 160 E160_26 = true := by decide +kernel
theorem ok160 : ∀ e, e ∈ E160 → entOk Tryz.prog hints S17 5000 60 160 e = true := List.forall_mem_cons.2 ⟨ok160_0, List.forall_mem_cons.2 ⟨ok160_1, List.forall_mem_cons.2 ⟨ok160_2, List.forall_mem_cons.2 ⟨ok160_3, List.forall_mem_cons.2 ⟨ok160_4, List.forall_mem_cons.2 ⟨ok160_5, List.forall_mem_cons.2 ⟨ok160_6, List.forall_mem_cons.2 ⟨ok160_7, List.forall_mem_cons.2 ⟨ok160_8, List.forall_mem_cons.2 ⟨ok160_9, List.forall_mem_cons.2 ⟨ok160_10, List.forall_mem_cons.2 ⟨ok160_11, List.forall_mem_cons.2 ⟨ok160_12, List.forall_mem_cons.2 ⟨ok160_13, List.forall_mem_cons.2 ⟨ok160_14, List.forall_mem_cons.2 ⟨ok160_15, List.forall_mem_cons.2 ⟨ok160_16, List.forall_mem_cons.2 ⟨ok160_17, List.forall_mem_cons.2 ⟨ok160_18, List.forall_mem_cons.2 ⟨ok160_19, List.forall_mem_cons.2 ⟨ok160_20, List.forall_mem_cons.2 ⟨ok160_21, List.forall_mem_cons.2 ⟨ok160_22, List.forall_mem_cons.2 ⟨ok160_23, List.forall_mem_cons.2 ⟨ok160_24, List.forall_mem_cons.2 ⟨ok160_25, List.forall_mem_cons.2 ⟨ok160_26, List.forall_mem_nil _⟩⟩⟩⟩⟩⟩⟩⟩⟩⟩⟩⟩⟩⟩⟩⟩⟩⟩⟩⟩⟩⟩⟩⟩⟩⟩⟩
end Go.Proofs.YtdeccneggkhggaaGreatDoor.Cut
