/-
  PROVED: calls that were run over abstract values, one by one: what each reads, writes, makes and answers. No condition.
-/
import Derived.Test.YtgnigjhlplghkaaGreatDoorY2
set_option linter.unusedVariables false
set_option maxRecDepth 1000000
namespace Go.Proofs.YtgnigjhlplghkaaGreatDoor.Cut
open Go.X
theorem ok46_0 : entOk Tryz.prog hints S21 5000 60 46 E46_0 = true := by decide +kernel
theorem ok46_1 : entOk Tryz.prog hints S21 5000 60 46 E46_1 = true := by decide +kernel
theorem ok46_2 : entOk Tryz.prog hints S21 5000 60 46 E46_2 = true := by decide +kernel
theorem ok46_3 : entOk Tryz.prog hints S21 5000 60 46 E46_3 = true := by decide +kernel
theorem ok46_4 : entOk Tryz.prog hints S21 5000 60 46 E46_4 = true := by decide +kernel
theorem ok46_5 : entOk Tryz.prog hints S21 5000 60 46 E46_5 = true := by decide +kernel
theorem ok46_6 : entOk Tryz.prog hints S21 5000 60 46 E46_6 = true := by decide +kernel
theorem ok46_7 : entOk Tryz.prog hints S21 5000 60 46 E46_7 = true := by decide +kernel
theorem ok46_8 : entOk Tryz.prog hints S21 5000 60 46 E46_8 = true := by decide +kernel
theorem ok46_9 : entOk Tryz.prog hints S21 5000 60 46 E46_9 = true := by decide +kernel
theorem ok46_10 : entOk Tryz.prog hints S21 5000 60 46 E46_10 = true := by decide +kernel
theorem ok46_11 : entOk Tryz.prog hints S21 5000 60 46 E46_11 = true := by decide +kernel
theorem ok46_12 : entOk Tryz.prog hints S21 5000 60 46 E46_12 = true := by decide +kernel
theorem ok46_13 : entOk Tryz.prog hints S21 5000 60 46 E46_13 = true := by decide +kernel
theorem ok46_14 : entOk Tryz.prog hints S21 5000 60 46 E46_14 = true := by decide +kernel
theorem ok46_15 : entOk Tryz.prog hints S21 5000 60 46 E46_15 = true := by decide +kernel
theorem ok46_16 : entOk Tryz.prog hints S21 5000 60 46 E46_16 = true := by decide +kernel
theorem ok46_17 : entOk Tryz.prog hints S21 5000 60 46 E46_17 = true := by decide +kernel
theorem ok46_18 : entOk Tryz.prog hints S21 5000 60 46 E46_18 = true := by decide +kernel
theorem ok46_19 : entOk Tryz.prog hints S21 5000 60 46 E46_19 = true := by decide +kernel
theorem ok46 : ∀ e, e ∈ E46 → entOk Tryz.prog hints S21 5000 60 46 e = true := List.forall_mem_cons.2 ⟨ok46_0, List.forall_mem_cons.2 ⟨ok46_1, List.forall_mem_cons.2 ⟨ok46_2, List.forall_mem_cons.2 ⟨ok46_3, List.forall_mem_cons.2 ⟨ok46_4, List.forall_mem_cons.2 ⟨ok46_5, List.forall_mem_cons.2 ⟨ok46_6, List.forall_mem_cons.2 ⟨ok46_7, List.forall_mem_cons.2 ⟨ok46_8, List.forall_mem_cons.2 ⟨ok46_9, List.forall_mem_cons.2 ⟨ok46_10, List.forall_mem_cons.2 ⟨ok46_11, List.forall_mem_cons.2 ⟨ok46_12, List.forall_mem_cons.2 ⟨ok46_13, List.forall_mem_cons.2 ⟨ok46_14, List.forall_mem_cons.2 ⟨ok46_15, List.forall_mem_cons.2 ⟨ok46_16, List.forall_mem_cons.2 ⟨ok46_17, List.forall_mem_cons.2 ⟨ok46_18, List.forall_mem_cons.2 ⟨ok46_19, List.forall_mem_nil _⟩⟩⟩⟩⟩⟩⟩⟩⟩⟩⟩⟩⟩⟩⟩⟩⟩⟩⟩⟩
end Go.Proofs.YtgnigjhlplghkaaGreatDoor.Cut
