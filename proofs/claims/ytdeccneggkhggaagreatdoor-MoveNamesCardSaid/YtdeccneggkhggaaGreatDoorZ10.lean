/-
  PROVED: calls that were run over abstract values, one by one: what each reads, writes, makes and answers. No condition.
-/
import Derived.Test.YtdeccneggkhggaaGreatDoorY2
set_option linter.unusedVariables false
set_option maxRecDepth 1000000
namespace Go.Proofs.YtdeccneggkhggaaGreatDoor.Cut
open Go.X
theorem ok99_0 : entOk Tryz.prog hints S18 5000 60 99 E99_0 = true := by decide +kernel
theorem ok99_1 : entOk Tryz.prog hints S18 5000 60 99 E99_1 = true := by decide +kernel
theorem ok99_2 : entOk Tryz.prog hints S18 5000 60 99 E99_2 = true := by decide +kernel
theorem ok99_3 : entOk Tryz.prog hints S18 5000 60 99 E99_3 = true := by decide +kernel
theorem ok99_4 : entOk Tryz.prog hints S18 5000 60 99 E99_4 = true := by decide +kernel
theorem ok99_5 : entOk Tryz.prog hints S18 5000 60 99 E99_5 = true := by decide +kernel
theorem ok99_6 : entOk Tryz.prog hints S18 5000 60 99 E99_6 = true := by decide +kernel
theorem ok99_7 : entOk Tryz.prog hints S18 5000 60 99 E99_7 = true := by decide +kernel
theorem ok99_8 : entOk Tryz.prog hints S18 5000 60 99 E99_8 = true := by decide +kernel
theorem ok99_9 : entOk Tryz.prog hints S18 5000 60 99 E99_9 = true := by decide +kernel
theorem ok99_10 : entOk Tryz.prog hints S18 5000 60 99 E99_10 = true := by decide +kernel
theorem ok99_11 : entOk Tryz.prog hints S18 5000 60 99 E99_11 = true := by decide +kernel
theorem ok99_12 : entOk Tryz.prog hints S18 5000 60 99 E99_12 = true := by decide +kernel
theorem ok99_13 : entOk Tryz.prog hints S18 5000 60 99 E99_13 = true := by decide +kernel
theorem ok99_14 : entOk Tryz.prog hints S18 5000 60 99 E99_14 = true := by decide +kernel
theorem ok99_15 : entOk Tryz.prog hints S18 5000 60 99 E99_15 = true := by decide +kernel
theorem ok99_16 : entOk Tryz.prog hints S18 5000 60 99 E99_16 = true := by decide +kernel
theorem ok99_17 : entOk Tryz.prog hints S18 5000 60 99 E99_17 = true := by decide +kernel
theorem ok99_18 : entOk Tryz.prog hints S18 5000 60 99 E99_18 = true := by decide +kernel
theorem ok99_19 : entOk Tryz.prog hints S18 5000 60 99 E99_19 = true := by decide +kernel
theorem ok99_20 : entOk Tryz.prog hints S18 5000 60 99 E99_20 = true := by decide +kernel
theorem ok99_21 : entOk Tryz.prog hints S18 5000 60 99 E99_21 = true := by decide +kernel
theorem ok99_22 : entOk Tryz.prog hints S18 5000 60 99 E99_22 = true := by decide +kernel
theorem ok99_23 : entOk Tryz.prog hints S18 5000 60 99 E99_23 = true := by decide +kernel
theorem ok99_24 : entOk Tryz.prog hints S18 5000 60 99 E99_24 = true := by decide +kernel
theorem ok99_25 : entOk Tryz.prog hints S18 5000 60 99 E99_25 = true := by decide +kernel
theorem ok99_26 : entOk Tryz.prog hints S18 5000 60 99 E99_26 = true := by decide +kernel
theorem ok99 : ∀ e, e ∈ E99 → entOk Tryz.prog hints S18 5000 60 99 e = true := List.forall_mem_cons.2 ⟨ok99_0, List.forall_mem_cons.2 ⟨ok99_1, List.forall_mem_cons.2 ⟨ok99_2, List.forall_mem_cons.2 ⟨ok99_3, List.forall_mem_cons.2 ⟨ok99_4, List.forall_mem_cons.2 ⟨ok99_5, List.forall_mem_cons.2 ⟨ok99_6, List.forall_mem_cons.2 ⟨ok99_7, List.forall_mem_cons.2 ⟨ok99_8, List.forall_mem_cons.2 ⟨ok99_9, List.forall_mem_cons.2 ⟨ok99_10, List.forall_mem_cons.2 ⟨ok99_11, List.forall_mem_cons.2 ⟨ok99_12, List.forall_mem_cons.2 ⟨ok99_13, List.forall_mem_cons.2 ⟨ok99_14, List.forall_mem_cons.2 ⟨ok99_15, List.forall_mem_cons.2 ⟨ok99_16, List.forall_mem_cons.2 ⟨ok99_17, List.forall_mem_cons.2 ⟨ok99_18, List.forall_mem_cons.2 ⟨ok99_19, List.forall_mem_cons.2 ⟨ok99_20, List.forall_mem_cons.2 ⟨ok99_21, List.forall_mem_cons.2 ⟨ok99_22, List.forall_mem_cons.2 ⟨ok99_23, List.forall_mem_cons.2 ⟨ok99_24, List.forall_mem_cons.2 ⟨ok99_25, List.forall_mem_cons.2 ⟨ok99_26, List.forall_mem_nil _⟩⟩⟩⟩⟩⟩⟩⟩⟩⟩⟩⟩⟩⟩⟩⟩⟩⟩⟩⟩⟩⟩⟩⟩⟩⟩⟩
end Go.Proofs.YtdeccneggkhggaaGreatDoor.Cut
