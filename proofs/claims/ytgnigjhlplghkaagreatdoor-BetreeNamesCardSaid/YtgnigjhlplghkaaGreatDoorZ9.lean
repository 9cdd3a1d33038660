/-
  PROVED: calls that were run over abstract values, one by one: what each reads, writes, makes and answers. No condition.
-/
import Derived.Test.YtgnigjhlplghkaaGreatDoorY2
set_option linter.unusedVariables false
set_option maxRecDepth 1000000
namespace Go.Proofs.YtgnigjhlplghkaaGreatDoor.Cut
open Go.X
theorem ok120_0 : entOk Tryz.prog hints S29 5000 60 120 E120_0 = true := by decide +kernel
theorem ok120_1 : entOk Tryz.prog hints S29 5000 60 120 E120_1 = true := by decide +kernel
theorem ok120_2 : entOk Tryz.prog hints S29 5000 60 120 E120_2 = true := by decide +kernel
theorem ok120_3 : entOk Tryz.prog hints S29 5000 60 120 E120_3 = true := by decide +kernel
theorem ok120_4 : entOk Tryz.prog hints S29 5000 60 120 E120_4 = true := by decide +kernel
theorem ok120_5 : entOk Tryz.prog hints S29 5000 60 120 E120_5 = true := by decide +kernel
theorem ok120_6 : entOk Tryz.prog hints S29 5000 60 120 E120_6 = true := by decide +kernel
theorem ok120_7 : entOk Tryz.prog hints S29 5000 60 120 E120_7 = true := by decide +kernel
theorem ok120_8 : entOk Tryz.prog hints S29 5000 60 120 E120_8 = true := by decide +kernel
theorem ok120_9 : entOk Tryz.prog hints S29 5000 60 120 E120_9 = true := by decide +kernel
theorem ok120_10 : entOk Tryz.prog hints S29 5000 60 120 E120_10 = true := by decide +kernel
theorem ok120_11 : entOk Tryz.prog hints S29 5000 60 120 E120_11 = true := by decide +kernel
theorem ok120_12 : entOk Tryz.prog hints S29 5000 60 120 E120_12 = true := by decide +kernel
theorem ok120_13 : entOk Tryz.prog hints S29 5000 60 120 E120_13 = true := by decide +kernel
theorem ok120_14 : entOk Tryz.prog hints S29 5000 60 120 E120_14 = true := by decide +kernel
theorem ok120 : ∀ e, e ∈ E120 → entOk Tryz.prog hints S29 5000 60 120 e = true := List.forall_mem_cons.2 ⟨ok120_0, List.forall_mem_cons.2 ⟨ok120_1, List.forall_mem_cons.2 ⟨ok120_2, List.forall_mem_cons.2 ⟨ok120_3, List.forall_mem_cons.2 ⟨ok120_4, List.forall_mem_cons.2 ⟨ok120_5, List.forall_mem_cons.2 ⟨ok120_6, List.forall_mem_cons.2 ⟨ok120_7, List.forall_mem_cons.2 ⟨ok120_8, List.forall_mem_cons.2 ⟨ok120_9, List.forall_mem_cons.2 ⟨ok120_10, List.forall_mem_cons.2 ⟨ok120_11, List.forall_mem_cons.2 ⟨ok120_12, List.forall_mem_cons.2 ⟨ok120_13, List.forall_mem_cons.2 ⟨ok120_14, List.forall_mem_nil _⟩⟩⟩⟩⟩⟩⟩⟩⟩⟩⟩⟩⟩⟩⟩
end Go.Proofs.YtgnigjhlplghkaaGreatDoor.Cut
