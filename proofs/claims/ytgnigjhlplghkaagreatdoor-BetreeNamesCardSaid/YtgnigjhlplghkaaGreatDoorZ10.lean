/-
  PROVED: calls that were run over abstract values, one by one: what each reads, writes, makes and answers. No condition.
-/
import Derived.Test.YtgnigjhlplghkaaGreatDoorY2
set_option linter.unusedVariables false
set_option maxRecDepth 1000000
namespace Go.Proofs.YtgnigjhlplghkaaGreatDoor.Cut
open Go.X
theorem ok59_0 : entOk Tryz.prog hints S30 5000 60 59 E59_0 = true := by decide +kernel
theorem ok59_1 : entOk Tryz.prog hints S30 5000 60 59 E59_1 = true := by decide +kernel
theorem ok59_2 : entOk Tryz.prog hints S30 5000 60 59 E59_2 = true := by decide +kernel
theorem ok59_3 : entOk Tryz.prog hints S30 5000 60 59 E59_3 = true := by decide +kernel
theorem ok59_4 : entOk Tryz.prog hints S30 5000 60 59 E59_4 = true := by decide +kernel
theorem ok59_5 : entOk Tryz.prog hints S30 5000 60 59 E59_5 = true := by decide +kernel
theorem ok59_6 : entOk Tryz.prog hints S30 5000 60 59 E59_6 = true := by decide +kernel
theorem ok59_7 : entOk Tryz.prog hints S30 5000 60 59 E59_7 = true := by decide +kernel
theorem ok59_8 : entOk Tryz.prog hints S30 5000 60 59 E59_8 = true := by decide +kernel
theorem ok59_9 : entOk Tryz.prog hints S30 5000 60 59 E59_9 = true := by decide +kernel
theorem ok59_10 : entOk Tryz.prog hints S30 5000 60 59 E59_10 = true := by decide +kernel
theorem ok59_11 : entOk Tryz.prog hints S30 5000 60 59 E59_11 = true := by decide +kernel
theorem ok59_12 : entOk Tryz.prog hints S30 5000 60 59 E59_12 = true := by decide +kernel
theorem ok59_13 : entOk Tryz.prog hints S30 5000 60 59 E59_13 = true := by decide +kernel
theorem ok59_14 : entOk Tryz.prog hints S30 5000 60 59 E59_14 = true := by decide +kernel
theorem ok59 : ∀ e, e ∈ E59 → entOk Tryz.prog hints S30 5000 60 59 e = true := List.forall_mem_cons.2 ⟨ok59_0, List.forall_mem_cons.2 ⟨ok59_1, List.forall_mem_cons.2 ⟨ok59_2, List.forall_mem_cons.2 ⟨ok59_3, List.forall_mem_cons.2 ⟨ok59_4, List.forall_mem_cons.2 ⟨ok59_5, List.forall_mem_cons.2 ⟨ok59_6, List.forall_mem_cons.2 ⟨ok59_7, List.forall_mem_cons.2 ⟨ok59_8, List.forall_mem_cons.2 ⟨ok59_9, List.forall_mem_cons.2 ⟨ok59_10, List.forall_mem_cons.2 ⟨ok59_11, List.forall_mem_cons.2 ⟨ok59_12, List.forall_mem_cons.2 ⟨ok59_13, List.forall_mem_cons.2 ⟨ok59_14, List.forall_mem_nil _⟩⟩⟩⟩⟩⟩⟩⟩⟩⟩⟩⟩⟩⟩⟩
end Go.Proofs.YtgnigjhlplghkaaGreatDoor.Cut
