/-
  PROVED: calls that were run over abstract values, one by one: what each reads, writes, makes and answers. No condition.
-/
import Derived.Test.YtgnigjhlplghkaaGreatDoorY2
set_option linter.unusedVariables false
set_option maxRecDepth 1000000
namespace Go.Proofs.YtgnigjhlplghkaaGreatDoor.Cut
open Go.X
theorem ok43_0 : entOk Tryz.prog hints S3 5000 60 43 E43_0 = true := by decide +kernel
theorem ok43_1 : entOk Tryz.prog hints S3 5000 60 43 E43_1 = true := by decide +kernel
theorem ok43_2 : entOk Tryz.prog hints S3 5000 60 43 E43_2 = true := by decide +kernel
theorem ok43 : ∀ e, e ∈ E43 → entOk Tryz.prog hints S3 5000 60 43 e = true := List.forall_mem_cons.2 ⟨ok43_0, List.forall_mem_cons.2 ⟨ok43_1, List.forall_mem_cons.2 ⟨ok43_2, List.forall_mem_nil _⟩⟩⟩
theorem ok303_0 : entOk Tryz.prog hints S4 5000 60 303 E303_0 = true := by decide +kernel
theorem ok303_1 : entOk Tryz.prog hints S4 5000 60 303 E303_1 = true := by decide +kernel
theorem ok303_2 : entOk Tryz.prog hints S4 5000 60 303 E303_2 = true := by decide +kernel
theorem ok303_3 : entOk Tryz.prog hints S4 5000 60 303 E303_3 = true := by decide +kernel
theorem ok303_4 : entOk Tryz.prog hints S4 5000 60 303 E303_4 = true := by decide +kernel
theorem ok303_5 : entOk Tryz.prog hints S4 5000 60 303 E303_5 = true := by decide +kernel
theorem ok303_6 : entOk Tryz.prog hints S4 5000 60 303 E303_6 = true := by decide +kernel
theorem ok303_7 : entOk Tryz.prog hints S4 5000 60 303 E303_7 = true := by decide +kernel
theorem ok303_8 : entOk Tryz.prog hints S4 5000 60 303 E303_8 = true := by decide +kernel
theorem ok303_9 : entOk Tryz.prog hints S4 5000 60 303 E303_9 = true := by decide +kernel
theorem ok303_10 : entOk Tryz.prog hints S4 5000 60 303 E303_10 = true := by decide +kernel
theorem ok303_11 : entOk Tryz.prog hints S4 5000 60 303 E303_11 = true := by decide +kernel
theorem ok303_12 : entOk Tryz.prog hints S4 5000 60 303 E303_12 = true := by decide +kernel
theorem ok303_13 : entOk Tryz.prog hints S4 5000 60 303 E303_13 = true := by decide +kernel
theorem ok303_14 : entOk Tryz.prog hints S4 5000 60 303 E303_14 = true := by decide +kernel
theorem ok303_15 : entOk Tryz.prog hints S4 5000 60 303 E303_15 = true := by decide +kernel
theorem ok303_16 : entOk Tryz.prog hints S4 5000 60 303 E303_16 = true := by decide +kernel
theorem ok303_17 : entOk Tryz.prog hints S4 5000 60 303 E303_17 = true := by decide +kernel
theorem ok303_18 : entOk Tryz.prog hints S4 5000 60 303 E303_18 = true := by decide +kernel
theorem ok303_19 : entOk Tryz.prog hints S4 5000 60 303 E303_19 = true := by decide +kernel
theorem ok303_20 : entOk Tryz.prog hints S4 5000 60 303 E303_20 = true := by decide +kernel
theorem ok303 : ∀ e, e ∈ E303 → entOk Tryz.prog hints S4 5000 60 303 e = true := List.forall_mem_cons.2 ⟨ok303_0, List.forall_mem_cons.2 ⟨ok303_1, List.forall_mem_cons.2 ⟨ok303_2, List.forall_mem_cons.2 ⟨ok303_3, List.forall_mem_cons.2 ⟨ok303_4, List.forall_mem_cons.2 ⟨ok303_5, List.forall_mem_cons.2 ⟨ok303_6, List.forall_mem_cons.2 ⟨ok303_7, List.forall_mem_cons.2 ⟨ok303_8, List.forall_mem_cons.2 ⟨ok303_9, List.forall_mem_cons.2 ⟨ok303_10, List.forall_mem_cons.2 ⟨ok303_11, List.forall_mem_cons.2 ⟨ok303_12, List.forall_mem_cons.2 ⟨ok303_13, List.forall_mem_cons.2 ⟨ok303_14, List.forall_mem_cons.2 ⟨ok303_15, List.forall_mem_cons.2 ⟨ok303_16, List.forall_mem_cons.2 ⟨ok303_17, List.forall_mem_cons.2 ⟨ok303_18, List.forall_mem_cons.2 ⟨ok303_19, List.forall_mem_cons.2 ⟨ok303_20, List.forall_mem_nil _⟩⟩⟩⟩⟩⟩⟩⟩⟩⟩⟩⟩⟩⟩⟩⟩⟩⟩⟩⟩⟩
end Go.Proofs.YtgnigjhlplghkaaGreatDoor.Cut
