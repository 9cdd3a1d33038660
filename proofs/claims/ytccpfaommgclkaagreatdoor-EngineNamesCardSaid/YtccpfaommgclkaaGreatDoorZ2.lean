/-
  PROVED: calls that were run over abstract values, one by one: what each reads, writes, makes and answers. No condition.
-/
import Derived.Test.YtccpfaommgclkaaGreatDoorY1
set_option linter.unusedVariables false
set_option maxRecDepth 1000000
namespace Go.Proofs.YtccpfaommgclkaaGreatDoor.Cut
open Go.X
theorem ok39_0 : entOk Tryz.prog hints S6 5000 60 39 E39_0 = true := by decide +kernel
theorem ok39_1 : entOk Tryz.prog hints S6 5000 60 39 E39_1 = true := by decide +kernel
theorem ok39_2 : entOk Tryz.prog hints S6 5000 60 39 E39_2 = true := by decide +kernel
theorem ok39_3 : entOk Tryz.prog hints S6 5000 60 39 E39_3 = true := by decide +kernel
theorem ok39_4 : entOk Tryz.prog hints S6 5000 60 39 E39_4 = true := by decide +kernel
theorem ok39_5 : entOk Tryz.prog hints S6 5000 60 39 E39_5 = true := by decide +kernel
theorem ok39_6 : entOk Tryz.prog hints S6 5000 60 39 E39_6 = true := by decide +kernel
theorem ok39_7 : entOk Tryz.prog hints S6 5000 60 39 E39_7 = true := by decide +kernel
theorem ok39 : ∀ e, e ∈ E39 → entOk Tryz.prog hints S6 5000 60 39 e = true := List.forall_mem_cons.2 ⟨ok39_0, List.forall_mem_cons.2 ⟨ok39_1, List.forall_mem_cons.2 ⟨ok39_2, List.forall_mem_cons.2 ⟨ok39_3, List.forall_mem_cons.2 ⟨ok39_4, List.forall_mem_cons.2 ⟨ok39_5, List.forall_mem_cons.2 ⟨ok39_6, List.forall_mem_cons.2 ⟨ok39_7, List.forall_mem_nil _⟩⟩⟩⟩⟩⟩⟩⟩
theorem ok204_0 : entOk Tryz.prog hints S7 5000 60 204 E204_0 = true := by decide +kernel
theorem ok204_1 : entOk Tryz.prog hints S7 5000 60 204 E204_1 = true := by decide +kernel
theorem ok204_2 : entOk Tryz.prog hints S7 5000 60 204 E204_2 = true := by decide +kernel
theorem ok204_3 : entOk Tryz.prog hints S7 5000 60 204 E204_3 = true := by decide +kernel
theorem ok204_4 : entOk Tryz.prog hints S7 5000 60 204 E204_4 = true := by decide +kernel
theorem ok204_5 : entOk Tryz.prog hints S7 5000 60 204 E204_5 = true := by decide +kernel
theorem ok204_6 : entOk Tryz.prog hints S7 5000 60 204 E204_6 = true := by decide +kernel
theorem ok204_7 : entOk Tryz.prog hints S7 5000 60 204 E204_7 = true := by decide +kernel
theorem ok204_8 : entOk Tryz.prog hints S7 5000 60 204 E204_8 = true := by decide +kernel
theorem ok204_9 : entOk Tryz.prog hints S7 5000 60 204 E204_9 = true := by decide +kernel
theorem ok204_10 : entOk Tryz.prog hints S7 5000 60 204 E204_10 = true := by decide +kernel
theorem ok204_11 : entOk Tryz.prog hints S7 5000 60 204 E204_11 = true := by decide +kernel
theorem ok204 : ∀ e, e ∈ E204 → entOk Tryz.prog hints S7 5000 60 204 e = true := List.forall_mem_cons.2 ⟨ok204_0, List.forall_mem_cons.2 ⟨ok204_1, List.forall_mem_cons.2 ⟨ok204_2, List.forall_mem_cons.2 ⟨ok204_3, List.forall_mem_cons.2 ⟨ok204_4, List.forall_mem_cons.2 ⟨ok204_5, List.forall_mem_cons.2 ⟨ok204_6, List.forall_mem_cons.2 ⟨ok204_7, List.forall_mem_cons.2 ⟨ok204_8, List.forall_mem_cons.2 ⟨ok204_9, List.forall_mem_cons.2 ⟨ok204_10, List.forall_mem_cons.2 ⟨ok204_11, List.forall_mem_nil _⟩⟩⟩⟩⟩⟩⟩⟩⟩⟩⟩⟩
end Go.Proofs.YtccpfaommgclkaaGreatDoor.Cut
