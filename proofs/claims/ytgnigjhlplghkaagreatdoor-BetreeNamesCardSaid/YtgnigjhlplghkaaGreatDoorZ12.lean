/-
  PROVED: calls that were run over abstract values, one by one: what each reads, writes, makes and answers. No condition.
-/
import Derived.Test.YtgnigjhlplghkaaGreatDoorY2
set_option linter.unusedVariables false
set_option maxRecDepth 1000000
namespace Go.Proofs.YtgnigjhlplghkaaGreatDoor.Cut
open Go.X
theorem ok61_0 : entOk Tryz.prog hints S32 5000 60 61 E61_0 = true := by decide +kernel
theorem ok61_1 : entOk Tryz.prog hints S32 5000 60 61 E61_1 = true := by decide +kernel
theorem ok61_2 : entOk Tryz.prog hints S32 5000 60 61 E61_2 = true := by decide +kernel
theorem ok61_3 : entOk Tryz.prog hints S32 5000 60 61 E61_3 = true := by decide +kernel
theorem ok61_4 : entOk Tryz.prog hints S32 5000 60 61 E61_4 = true := by decide +kernel
theorem ok61_5 : entOk Tryz.prog hints S32 5000 60 61 E61_5 = true := by decide +kernel
theorem ok61_6 : entOk Tryz.prog hints S32 5000 60 61 E61_6 = true := by decide +kernel
theorem ok61_7 : entOk Tryz.prog hints S32 5000 60 61 E61_7 = true := by decide +kernel
theorem ok61_8 : entOk Tryz.prog hints S32 5000 60 61 E61_8 = true := by decide +kernel
theorem ok61_9 : entOk Tryz.prog hints S32 5000 60 61 E61_9 = true := by decide +kernel
theorem ok61_10 : entOk Tryz.prog hints S32 5000 60 61 E61_10 = true := by decide +kernel
theorem ok61_11 : entOk Tryz.prog hints S32 5000 60 61 E61_11 = true := by decide +kernel
theorem ok61_12 : entOk Tryz.prog hints S32 5000 60 61 E61_12 = true := by decide +kernel
theorem ok61_13 : entOk Tryz.prog hints S32 5000 60 61 E61_13 = true := by decide +kernel
theorem ok61_14 : entOk Tryz.prog hints S32 5000 60 61 E61_14 = true := by decide +kernel
theorem ok61 : ∀ e, e ∈ E61 → entOk Tryz.prog hints S32 5000 60 61 e = true := List.forall_mem_cons.2 ⟨ok61_0, List.forall_mem_cons.2 ⟨ok61_1, List.forall_mem_cons.2 ⟨ok61_2, List.forall_mem_cons.2 ⟨ok61_3, List.forall_mem_cons.2 ⟨ok61_4, List.forall_mem_cons.2 ⟨ok61_5, List.forall_mem_cons.2 ⟨ok61_6, List.forall_mem_cons.2 ⟨ok61_7, List.forall_mem_cons.2 ⟨ok61_8, List.forall_mem_cons.2 ⟨ok61_9, List.forall_mem_cons.2 ⟨ok61_10, List.forall_mem_cons.2 ⟨ok61_11, List.forall_mem_cons.2 ⟨ok61_12, List.forall_mem_cons.2 ⟨ok61_13, List.forall_mem_cons.2 ⟨ok61_14, List.forall_mem_nil _⟩⟩⟩⟩⟩⟩⟩⟩⟩⟩⟩⟩⟩⟩⟩
end Go.Proofs.YtgnigjhlplghkaaGreatDoor.Cut
