/-
  PROVED: calls that were run over abstract values, one by one: what each reads, writes, makes and answers. No condition.
-/
import Derived.Test.YtgnigjhlplghkaaGreatDoorY2
set_option linter.unusedVariables false
set_option maxRecDepth 1000000
namespace Go.Proofs.YtgnigjhlplghkaaGreatDoor.Cut
open Go.X
theorem ok259_0 : entOk Tryz.prog hints S5 5000 60 259 E259_0 = true := by decide +kernel
theorem ok259_1 : entOk Tryz.prog hints S5 5000 60 259 E259_1 = true := by decide +kernel
theorem ok259_2 : entOk Tryz.prog hints S5 5000 60 259 E259_2 = true := by decide +kernel
theorem ok259_3 : entOk Tryz.prog hints S5 5000 60 259 E259_3 = true := by decide +kernel
theorem ok259_4 : entOk Tryz.prog hints S5 5000 60 259 E259_4 = true := by decide +kernel
theorem ok259_5 : entOk Tryz.prog hints S5 5000 60 259 E259_5 = true := by decide +kernel
theorem ok259_6 : entOk Tryz.prog hints S5 5000 60 259 E259_6 = true := by decide +kernel
theorem ok259_7 : entOk Tryz.prog hints S5 5000 60 259 E259_7 = true := by decide +kernel
theorem ok259_8 : entOk Tryz.prog hints S5 5000 60 259 E259_8 = true := by decide +kernel
theorem ok259_9 : entOk Tryz.prog hints S5 5000 60 259 E259_9 = true := by decide +kernel
theorem ok259_10 : entOk Tryz.prog hints S5 5000 60 259 E259_10 = true := by decide +kernel
theorem ok259_11 : entOk Tryz.prog hints S5 5000 60 259 E259_11 = true := by decide +kernel
theorem ok259_12 : entOk Tryz.prog hints S5 5000 60 259 E259_12 = true := by decide +kernel
theorem ok259_13 : entOk Tryz.prog hints S5 5000 60 259 E259_13 = true := by decide +kernel
theorem ok259_14 : entOk Tryz.prog hints S5 5000 60 259 E259_14 = true := by decide +kernel
theorem ok259_15 : entOk Tryz.prog hints S5 5000 60 259 E259_15 = true := by decide +kernel
theorem ok259_16 : entOk Tryz.prog hints S5 5000 60 259 E259_16 = true := by decide +kernel
theorem ok259_17 : entOk Tryz.prog hints S5 5000 60 259 E259_17 = true := by decide +kernel
theorem ok259_18 : entOk Tryz.prog hints S5 5000 60 259 E259_18 = true := by decide +kernel
theorem ok259_19 : entOk Tryz.prog hints S5 5000 60 259 E259_19 = true := by decide +kernel
theorem ok259_20 : entOk Tryz.prog hints S5 5000 60 259 E259_20 = true := by decide +kernel
theorem ok259 : ∀ e, e ∈ E259 → entOk Tryz.prog hints S5 5000 60 259 e = true := List.forall_mem_cons.2 ⟨ok259_0, List.forall_mem_cons.2 ⟨ok259_1, List.forall_mem_cons.2 ⟨ok259_2, List.forall_mem_cons.2 ⟨ok259_3, List.forall_mem_cons.2 ⟨ok259_4, List.forall_mem_cons.2 ⟨ok259_5, List.forall_mem_cons.2 ⟨ok259_6, List.forall_mem_cons.2 ⟨ok259_7, List.forall_mem_cons.2 ⟨ok259_8, List.forall_mem_cons.2 ⟨ok259_9, List.forall_mem_cons.2 ⟨ok259_10, List.forall_mem_cons.2 ⟨ok259_11, List.forall_mem_cons.2 ⟨ok259_12, List.forall_mem_cons.2 ⟨ok259_13, List.forall_mem_cons.2 ⟨ok259_14, List.forall_mem_cons.2 ⟨ok259_15, List.forall_mem_cons.2 ⟨ok259_16, List.forall_mem_cons.2 ⟨ok259_17, List.forall_mem_cons.2 ⟨ok259_18, List.forall_mem_cons.2 ⟨ok259_19, List.forall_mem_cons.2 ⟨ok259_20, List.forall_mem_nil _⟩⟩⟩⟩⟩⟩⟩⟩⟩⟩⟩⟩⟩⟩⟩⟩⟩⟩⟩⟩⟩
end Go.Proofs.YtgnigjhlplghkaaGreatDoor.Cut
