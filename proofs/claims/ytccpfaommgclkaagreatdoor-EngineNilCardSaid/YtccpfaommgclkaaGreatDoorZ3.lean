/-
  PROVED: calls that were run over abstract values, one by one: what each reads, writes, makes and answers. No condition.
-/
import Derived.Test.YtccpfaommgclkaaGreatDoorY0
set_option linter.unusedVariables false
set_option maxRecDepth 1000000
namespace Go.Proofs.YtccpfaommgclkaaGreatDoor.Cut
open Go.X
theorem ok119_0 : entOk Tryz.prog hints S8 5000 60 119 E119_0 = true := by decide +kernel
theorem ok119_1 : entOk Tryz.prog hints S8 5000 60 119 E119_1 = true := by decide +kernel
theorem ok119_2 : entOk Tryz.prog hints S8 5000 60 119 E119_2 = true := by decide +kernel
theorem ok119_3 : entOk Tryz.prog hints S8 5000 60 119 E119_3 = true := by decide +kernel
theorem ok119_4 : entOk Tryz.prog hints S8 5000 60 119 E119_4 = true := by decide +kernel
theorem ok119_5 : entOk Tryz.prog hints S8 5000 60 119 E119_5 = true := by decide +kernel
theorem ok119_6 : entOk Tryz.prog hints S8 5000 60 119 E119_6 = true := by decide +kernel
theorem ok119_7 : entOk Tryz.prog hints S8 5000 60 119 E119_7 = true := by decide +kernel
theorem ok119_8 : entOk Tryz.prog hints S8 5000 60 119 E119_8 = true := by decide +kernel
theorem ok119_9 : entOk Tryz.prog hints S8 5000 60 119 E119_9 = true := by decide +kernel
theorem ok119_10 : entOk Tryz.prog hints S8 5000 60 119 E119_10 = true := by decide +kernel
theorem ok119_11 : entOk Tryz.prog hints S8 5000 60 119 E119_11 = true := by decide +kernel
theorem ok119_12 : entOk Tryz.prog hints S8 5000 60 119 E119_12 = true := by decide +kernel
theorem ok119_13 : entOk Tryz.prog hints S8 5000 60 119 E119_13 = true := by decide +kernel
theorem ok119_14 : entOk Tryz.prog hints S8 5000 60 119 E119_14 = true := by decide +kernel
theorem ok119_15 : entOk Tryz.prog hints S8 5000 60 119 E119_15 = true := by decide +kernel
theorem ok119_16 : entOk Tryz.prog hints S8 5000 60 119 E119_16 = true := by decide +kernel
theorem ok119_17 : entOk Tryz.prog hints S8 5000 60 119 E119_17 = true := by decide +kernel
theorem ok119_18 : entOk Tryz.prog hints S8 5000 60 119 E119_18 = true := by decide +kernel
theorem ok119_19 : entOk Tryz.prog hints S8 5000 60 119 E119_19 = true := by decide +kernel
theorem ok119_20 : entOk Tryz.prog hints S8 5000 60 119 E119_20 = true := by decide +kernel
theorem ok119_21 : entOk Tryz.prog hints S8 5000 60 119 E119_21 = true := by decide +kernel
theorem ok119_22 : entOk Tryz.prog hints S8 5000 60 119 E119_22 = true := by decide +kernel
theorem ok119_23 : entOk Tryz.prog hints S8 5000 60 119 E119_23 = true := by decide +kernel
theorem ok119_24 : entOk Tryz.prog hints S8 5000 60 119 E119_24 = true := by decide +kernel
theorem ok119_25 : entOk Tryz.prog hints S8 5000 60 119 E119_25 = true := by decide +kernel
theorem ok119_26 : entOk Tryz.prog hints S8 5000 60 119 E119_26 = true := by decide +kernel
theorem ok119 : ∀ e, e ∈ E119 → entOk Tryz.prog hints S8 5000 60 119 e = true := List.forall_mem_cons.2 ⟨ok119_0, List.forall_mem_cons.2 ⟨ok119_1, List.forall_mem_cons.2 ⟨ok119_2, List.forall_mem_cons.2 ⟨ok119_3, List.forall_mem_cons.2 ⟨ok119_4, List.forall_mem_cons.2 ⟨ok119_5, List.forall_mem_cons.2 ⟨ok119_6, List.forall_mem_cons.2 ⟨ok119_7, List.forall_mem_cons.2 ⟨ok119_8, List.forall_mem_cons.2 ⟨ok119_9, List.forall_mem_cons.2 ⟨ok119_10, List.forall_mem_cons.2 ⟨ok119_11, List.forall_mem_cons.2 ⟨ok119_12, List.forall_mem_cons.2 ⟨ok119_13, List.forall_mem_cons.2 ⟨ok119_14, List.forall_mem_cons.2 ⟨ok119_15, List.forall_mem_cons.2 ⟨ok119_16, List.forall_mem_cons.2 ⟨ok119_17, List.forall_mem_cons.2 ⟨ok119_18, List.forall_mem_cons.2 ⟨ok119_19, List.forall_mem_cons.2 ⟨ok119_20, List.forall_mem_cons.2 ⟨ok119_21, List.forall_mem_cons.2 ⟨ok119_22, List.forall_mem_cons.2 ⟨ok119_23, List.forall_mem_cons.2 ⟨ok119_24, List.forall_mem_cons.2 ⟨ok119_25, List.forall_mem_cons.2 ⟨ok119_26, List.forall_mem_nil _⟩⟩⟩⟩⟩⟩⟩⟩⟩⟩⟩⟩⟩⟩⟩⟩⟩⟩⟩⟩⟩⟩⟩⟩⟩⟩⟩
end Go.Proofs.YtccpfaommgclkaaGreatDoor.Cut
