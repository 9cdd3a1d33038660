/-
  PROVED: calls that were run over abstract values, one by one: what each reads, writes, makes and answers. No condition.
-/
import Derived.Test.YtgnigjhlplghkaaGreatDoorY2
set_option linter.unusedVariables false
set_option maxRecDepth 1000000
namespace Go.Proofs.YtgnigjhlplghkaaGreatDoor.Cut
open Go.X
theorem ok95_0 : entOk Tryz.prog hints S20 5000 60 95 E95_0 = true := by decide +kernel
theorem ok95_1 : entOk Tryz.prog hints S20 5000 60 95 E95_1 = true := by decide +kernel
theorem ok95_2 : entOk Tryz.prog hints S20 5000 60 95 E95_2 = true := by decide +kernel
theorem ok95_3 : entOk Tryz.prog hints S20 5000 60 95 E95_3 = true := by decide +kernel
theorem ok95_4 : entOk Tryz.prog hints S20 5000 60 95 E95_4 = true := by decide +kernel
theorem ok95_5 : entOk Tryz.prog hints S20 5000 60 95 E95_5 = true := by decide +kernel
theorem ok95_6 : entOk Tryz.prog hints S20 5000 60 95 E95_6 = true := by decide +kernel
theorem ok95_7 : entOk Tryz.prog hints S20 5000 60 95 E95_7 = true := by decide +kernel
theorem ok95_8 : entOk Tryz.prog hints S20 5000 60 95 E95_8 = true := by decide +kernel
theorem ok95_9 : entOk Tryz.prog hints S20 5000 60 95 E95_9 = true := by decide +kernel
theorem ok95_10 : entOk Tryz.prog hints S20 5000 60 95 E95_10 = true := by decide +kernel
theorem ok95_11 : entOk Tryz.prog hints S20 5000 60 95 E95_11 = true := by decide +kernel
theorem ok95_12 : entOk Tryz.prog hints S20 5000 60 95 E95_12 = true := by decide +kernel
theorem ok95_13 : entOk Tryz.prog hints S20 5000 60 95 E95_13 = true := by decide +kernel
theorem ok95_14 : entOk Tryz.prog hints S20 5000 60 95 E95_14 = true := by decide +kernel
theorem ok95_15 : entOk Tryz.prog hints S20 5000 60 95 E95_15 = true := by decide +kernel
theorem ok95_16 : entOk Tryz.prog hints S20 5000 60 95 E95_16 = true := by decide +kernel
theorem ok95_17 : entOk Tryz.prog hints S20 5000 60 95 E95_17 = true := by decide +kernel
theorem ok95_18 : entOk Tryz.prog hints S20 5000 60 95 E95_18 = true := by decide +kernel
theorem ok95_19 : entOk Tryz.prog hints S20 5000 60 95 E95_19 = true := by decide +kernel
theorem ok95_20 : entOk Tryz.prog hints S20 5000 60 95 E95_20 = true := by decide +kernel
theorem ok95_21 : entOk Tryz.prog hints S20 5000 60 95 E95_21 = true := by decide +kernel
theorem ok95_22 : entOk Tryz.prog hints S20 5000 60 95 E95_22 = true := by decide +kernel
theorem ok95 : ∀ e, e ∈ E95 → entOk Tryz.prog hints S20 5000 60 95 e = true := List.forall_mem_cons.2 ⟨ok95_0, List.forall_mem_cons.2 ⟨ok95_1, List.forall_mem_cons.2 ⟨ok95_2, List.forall_mem_cons.2 ⟨ok95_3, List.forall_mem_cons.2 ⟨ok95_4, List.forall_mem_cons.2 ⟨ok95_5, List.forall_mem_cons.2 ⟨ok95_6, List.forall_mem_cons.2 ⟨ok95_7, List.forall_mem_cons.2 ⟨ok95_8, List.forall_mem_cons.2 ⟨ok95_9, List.forall_mem_cons.2 ⟨ok95_10, List.forall_mem_cons.2 ⟨ok95_11, List.forall_mem_cons.2 ⟨ok95_12, List.forall_mem_cons.2 ⟨ok95_13, List.forall_mem_cons.2 ⟨ok95_14, List.forall_mem_cons.2 ⟨ok95_15, List.forall_mem_cons.2 ⟨ok95_16, List.forall_mem_cons.2 ⟨ok95_17, List.forall_mem_cons.2 ⟨ok95_18, List.forall_mem_cons.2 ⟨ok95_19, List.forall_mem_cons.2 ⟨ok95_20, List.forall_mem_cons.2 ⟨ok95_21, List.forall_mem_cons.2 ⟨ok95_22, List.forall_mem_nil _⟩⟩⟩⟩⟩⟩⟩⟩⟩⟩⟩⟩⟩⟩⟩⟩⟩⟩⟩⟩⟩⟩⟩
end Go.Proofs.YtgnigjhlplghkaaGreatDoor.Cut
