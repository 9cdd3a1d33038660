/-
  PROVED: calls that were run over abstract values, one by one: what each reads, writes, makes and answers. No condition.
-/
import Derived.Test.YtdeccneggkhggaaGreatDoorY2
set_option linter.unusedVariables false
set_option maxRecDepth 1000000
namespace Go.Proofs.YtdeccneggkhggaaGreatDoor.Cut
open Go.X
theorem ok193_0 : entOk Tryz.prog hints S15 5000 60 193 E193_0 = true := by decide +kernel
theorem ok193_1 : entOk Tryz.prog hints S15 5000 60 193 E193_1 = true := by decide +kernel
theorem ok193_2 : entOk Tryz.prog hints S15 5000 60 193 E193_2 = true := by decide +kernel
theorem ok193_3 : entOk Tryz.prog hints S15 5000 60 193 E193_3 = true := by decide +kernel
theorem ok193_4 : entOk Tryz.prog hints S15 5000 60 193 E193_4 = true := by decide +kernel
theorem ok193_5 : entOk Tryz.prog hints S15 5000 60 193 E193_5 = true := by decide +kernel
theorem ok193_6 : entOk Tryz.prog hints S15 5000 60 193 E193_6 = true := by decide +kernel
theorem ok193_7 : entOk Tryz.prog hints S15 5000 60 193 E193_7 = true := by decide +kernel
theorem ok193_8 : entOk Tryz.prog hints S15 5000 60 193 E193_8 = true := by decide +kernel
theorem ok193_9 : entOk Tryz.prog hints S15 5000 60 193 E193_9 = true := by decide +kernel
theorem ok193_10 : entOk Tryz.prog hints S15 5000 60 193 E193_10 = true := by decide +kernel
theorem ok193_11 : entOk Tryz.prog hints S15 5000 60 193 E193_11 = true := by decide +kernel
theorem ok193_12 : entOk Tryz.prog hints S15 5000 60 193 E193_12 = true := by decide +kernel
theorem ok193_13 : entOk Tryz.prog hints S15 5000 60 193 E193_13 = true := by decide +kernel
theorem ok193_14 : entOk Tryz.prog hints S15 5000 60 193 E193_14 = true := by decide +kernel
theorem ok193_15 : entOk Tryz.prog hints S15 5000 60 193 E193_15 = true := by decide +kernel
theorem ok193_16 : entOk Tryz.prog hints S15 5000 60 193 E193_16 = true := by decide +kernel
theorem ok193_17 : entOk Tryz.prog hints S15 5000 60 193 E193_17 = true := by decide +kernel
theorem ok193_18 : entOk Tryz.prog hints S15 5000 60 193 E193_18 = true := by decide +kernel
theorem ok193_19 : entOk Tryz.prog hints S15 5000 60 193 E193_19 = true := by decide +kernel
theorem ok193_20 : entOk Tryz.prog hints S15 5000 60 193 E193_20 = true := by decide +kernel
theorem ok193_21 : entOk Tryz.prog hints S15 5000 60 193 E193_21 = true := by decide +kernel
theorem ok193_22 : entOk Tryz.prog hints S15 5000 60 193 E193_22 = true := by decide +kernel
theorem ok193_23 : entOk Tryz.prog hints S15 5000 60 193 E193_23 = true := by decide +kernel
theorem ok193_24 : entOk Tryz.prog hints S15 5000 60 193 E193_24 = true := by decide +kernel
theorem ok193 : ∀ e, e ∈ E193 → entOk Tryz.prog hints S15 5000 60 193 e = true := List.forall_mem_cons.2 ⟨ok193_0, List.forall_mem_cons.2 ⟨ok193_1, List.forall_mem_cons.2 ⟨ok193_2, List.forall_mem_cons.2 ⟨ok193_3, List.forall_mem_cons.2 ⟨ok193_4, List.forall_mem_cons.2 ⟨ok193_5, List.forall_mem_cons.2 ⟨ok193_6, List.forall_mem_cons.2 ⟨ok193_7, List.forall_mem_cons.2 ⟨ok193_8, List.forall_mem_cons.2 ⟨ok193_9, List.forall_mem_cons.2 ⟨ok193_10, List.forall_mem_cons.2 ⟨ok193_11, List.forall_mem_cons.2 ⟨ok193_12, List.forall_mem_cons.2 ⟨ok193_13, List.forall_mem_cons.2 ⟨ok193_14, List.forall_mem_cons.2 ⟨ok193_15, List.forall_mem_cons.2 ⟨ok193_16, List.forall_mem_cons.2 ⟨ok193_17, List.forall_mem_cons.2 ⟨ok193_18, List.forall_mem_cons.2 ⟨ok193_19, List.forall_mem_cons.2 ⟨ok193_20, List.forall_mem_cons.2 ⟨ok193_21, List.forall_mem_cons.2 ⟨ok193_22, List.forall_mem_cons.2 ⟨ok193_23, List.forall_mem_cons.2 ⟨ok193_24, List.forall_mem_nil _⟩⟩⟩⟩⟩⟩⟩⟩⟩⟩⟩⟩⟩⟩⟩⟩⟩⟩⟩⟩⟩⟩⟩⟩⟩
end Go.Proofs.YtdeccneggkhggaaGreatDoor.Cut
