/-
  PROVED: calls that were run over abstract values, one by one: what each reads, writes, makes and answers. No condition.
-/
import Derived.Test.YtgnigjhlplghkaaGreatDoorY2
set_option linter.unusedVariables false
set_option maxRecDepth 1000000
namespace Go.Proofs.YtgnigjhlplghkaaGreatDoor.Cut
open Go.X
theorem ok26_0 : entOk Tryz.prog hints S33 5000 60 26 E26_0 = true := by decide +kernel
theorem ok26_1 : entOk Tryz.prog hints S33 5000 60 26 E26_1 = true := by decide +kernel
theorem ok26_2 : entOk Tryz.prog hints S33 5000 60 26 E26_2 = true := by decide +kernel
theorem ok26_3 : entOk Tryz.prog hints S33 5000 60 26 E26_3 = true := by decide +kernel
theorem ok26_4 : entOk Tryz.prog hints S33 5000 60 26 E26_4 = true := by decide +kernel
theorem ok26_5 : entOk Tryz.prog hints S33 5000 60 26 E26_5 = true := by decide +kernel
theorem ok26_6 : entOk Tryz.prog hints S33 5000 60 26 E26_6 = true := by decide +kernel
theorem ok26_7 : entOk Tryz.prog hints S33 5000 60 26 E26_7 = true := by decide +kernel
theorem ok26_8 : entOk Tryz.prog hints S33 5000 60 26 E26_8 = true := by decide +kernel
theorem ok26_9 : entOk Tryz.prog hints S33 5000 60 26 E26_9 = true := by decide +kernel
theorem ok26_10 : entOk Tryz.prog hints S33 5000 60 26 E26_10 = true := by decide +kernel
theorem ok26_11 : entOk Tryz.prog hints S33 5000 60 26 E26_11 = true := by decide +kernel
theorem ok26_12 : entOk Tryz.prog hints S33 5000 60 26 E26_12 = true := by decide +kernel
theorem ok26_13 : entOk Tryz.prog hints S33 5000 60 26 E26_13 = true := by decide +kernel
theorem ok26_14 : entOk Tryz.prog hints S33 5000 60 26 E26_14 = true := by decide +kernel
theorem ok26 : ∀ e, e ∈ E26 → entOk Tryz.prog hints S33 5000 60 26 e = true := List.forall_mem_cons.2 ⟨ok26_0, List.forall_mem_cons.2 ⟨ok26_1, List.forall_mem_cons.2 ⟨ok26_2, List.forall_mem_cons.2 ⟨ok26_3, List.forall_mem_cons.2 ⟨ok26_4, List.forall_mem_cons.2 ⟨ok26_5, List.forall_mem_cons.2 ⟨ok26_6, List.forall_mem_cons.2 ⟨ok26_7, List.forall_mem_cons.2 ⟨ok26_8, List.forall_mem_cons.2 ⟨ok26_9, List.forall_mem_cons.2 ⟨ok26_10, List.forall_mem_cons.2 ⟨ok26_11, List.forall_mem_cons.2 ⟨ok26_12, List.forall_mem_cons.2 ⟨ok26_13, List.forall_mem_cons.2 ⟨ok26_14, List.forall_mem_nil _⟩⟩⟩⟩⟩⟩⟩⟩⟩⟩⟩⟩⟩⟩⟩
end Go.Proofs.YtgnigjhlplghkaaGreatDoor.Cut
