/-
  PROVED: calls that were run over abstract values, one by one: what each reads, writes, makes and answers. No condition.
-/
import Derived.Test.YtgnigjhlplghkaaGreatDoorY2
set_option linter.unusedVariables false
set_option maxRecDepth 1000000
namespace Go.Proofs.YtgnigjhlplghkaaGreatDoor.Cut
open Go.X
theorem ok169_0 : entOk Tryz.prog hints S22 5000 60 169 E169_0 = true := by decide +kernel
theorem ok169_1 : entOk Tryz.prog hints S22 5000 60 169 E169_1 = true := by decide +kernel
theorem ok169_2 : entOk Tryz.prog hints S22 5000 60 169 E169_2 = true := by decide +kernel
theorem ok169_3 : entOk Tryz.prog hints S22 5000 60 169 E169_3 = true := by decide +kernel
theorem ok169_4 : entOk Tryz.prog hints S22 5000 60 169 E169_4 = true := by decide +kernel
theorem ok169 : ∀ e, e ∈ E169 → entOk Tryz.prog hints S22 5000 60 169 e = true := List.forall_mem_cons.2 ⟨ok169_0, List.forall_mem_cons.2 ⟨ok169_1, List.forall_mem_cons.2 ⟨ok169_2, List.forall_mem_cons.2 ⟨ok169_3, List.forall_mem_cons.2 ⟨ok169_4, List.forall_mem_nil _⟩⟩⟩⟩⟩
theorem ok102_0 : entOk Tryz.prog hints S23 5000 60 102 E102_0 = true := by decide +kernel
theorem ok102 : ∀ e, e ∈ E102 → entOk Tryz.prog hints S23 5000 60 102 e = true := List.forall_mem_cons.2 ⟨ok102_0, List.forall_mem_nil _⟩
theorem ok47_0 : entOk Tryz.prog hints S24 5000 60 47 E47_0 = true := by decide +kernel
theorem ok47 : ∀ e, e ∈ E47 → entOk Tryz.prog hints S24 5000 60 47 e = true := List.forall_mem_cons.2 ⟨ok47_0, List.forall_mem_nil _⟩
theorem ok15_0 : entOk Tryz.prog hints S25 5000 60 15 E15_0 = true := by decide +kernel
theorem ok15 : ∀ e, e ∈ E15 → entOk Tryz.prog hints S25 5000 60 15 e = true := List.forall_mem_cons.2 ⟨ok15_0, List.forall_mem_nil _⟩
theorem ok5_0 : entOk Tryz.prog hints S26 5000 60 5 E5_0 = true := by decide +kernel
theorem ok5 : ∀ e, e ∈ E5 → entOk Tryz.prog hints S26 5000 60 5 e = true := List.forall_mem_cons.2 ⟨ok5_0, List.forall_mem_nil _⟩
theorem ok119_0 : entOk Tryz.prog hints S27 5000 60 119 E119_0 = true := by decide +kernel
theorem ok119_1 : entOk Tryz.prog hints S27 5000 60 119 E119_1 = true := by decide +kernel
theorem ok119_2 : entOk Tryz.prog hints S27 5000 60 119 E119_2 = true := by decide +kernel
theorem ok119_3 : entOk Tryz.prog hints S27 5000 60 119 E119_3 = true := by decide +kernel
theorem ok119_4 : entOk Tryz.prog hints S27 5000 60 119 E119_4 = true := by decide +kernel
theorem ok119_5 : entOk Tryz.prog hints S27 5000 60 119 E119_5 = true := by decide +kernel
theorem ok119_6 : entOk Tryz.prog hints S27 5000 60 119 E119_6 = true := by decide +kernel
theorem ok119_7 : entOk Tryz.prog hints S27 5000 60 119 E119_7 = true := by decide +kernel
theorem ok119_8 : entOk Tryz.prog hints S27 5000 60 119 E119_8 = true := by decide +kernel
theorem ok119_9 : entOk Tryz.prog hints S27 5000 60 119 E119_9 = true := by decide +kernel
theorem ok119_10 : entOk Tryz.prog hints S27 5000 60 119 E119_10 = true := by decide +kernel
theorem ok119_11 : entOk Tryz.prog hints S27 5000 60 119 E119_11 = true := by decide +kernel
theorem ok119_12 : entOk Tryz.prog hints S27 5000 60 119 E119_12 = true := by decide +kernel
theorem ok119_13 : entOk Tryz.prog hints S27 5000 60 119 E119_13 = true := by decide +kernel
theorem ok119_14 : entOk Tryz.prog hints S27 5000 60 119 E119_14 = true := by decide +kernel
theorem ok119 : ∀ e, e ∈ E119 → entOk Tryz.prog hints S27 5000 60 119 e = true := List.forall_mem_cons.2 ⟨ok119_0, List.forall_mem_cons.2 ⟨ok119_1, List.forall_mem_cons.2 ⟨ok119_2, List.forall_mem_cons.2 ⟨ok119_3, List.forall_mem_cons.2 ⟨ok119_4, List.forall_mem_cons.2 ⟨ok119_5, List.forall_mem_cons.2 ⟨ok119_6, List.forall_mem_cons.2 ⟨ok119_7, List.forall_mem_cons.2 ⟨ok119_8, List.forall_mem_cons.2 ⟨ok119_9, List.forall_mem_cons.2 ⟨ok119_10, List.forall_mem_cons.2 ⟨ok119_11, List.forall_mem_cons.2 ⟨ok119_12, List.forall_mem_cons.2 ⟨ok119_13, List.forall_mem_cons.2 ⟨ok119_14, List.forall_mem_nil _⟩⟩⟩⟩⟩⟩⟩⟩⟩⟩⟩⟩⟩⟩⟩
end Go.Proofs.YtgnigjhlplghkaaGreatDoor.Cut
