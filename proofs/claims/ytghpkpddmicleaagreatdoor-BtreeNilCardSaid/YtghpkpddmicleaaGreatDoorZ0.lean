/-
  PROVED: calls that were run over abstract values, one by one: what each reads, writes, makes and answers. No condition.
-/
import Derived.Test.YtghpkpddmicleaaGreatDoorY0
set_option linter.unusedVariables false
set_option maxRecDepth 1000000
namespace Go.Proofs.YtghpkpddmicleaaGreatDoor.Cut
open Go.X
theorem ok172_0 : entOk Tryz.prog hints S0 5000 60 172 E172_0 = true := by decide +kernel
theorem ok172 : ∀ e, e ∈ E172 → entOk Tryz.prog hints S0 5000 60 172 e = true := List.forall_mem_cons.2 ⟨ok172_0, List.forall_mem_nil _⟩
theorem ok7_0 : entOk Tryz.prog hints S1 5000 60 7 E7_0 = true := by decide +kernel
theorem ok7 : ∀ e, e ∈ E7 → entOk Tryz.prog hints S1 5000 60 7 e = true := List.forall_mem_cons.2 ⟨ok7_0, List.forall_mem_nil _⟩
theorem ok8_0 : entOk Tryz.prog hints S2 5000 60 8 E8_0 = true := by decide +kernel
theorem ok8 : ∀ e, e ∈ E8 → entOk Tryz.prog hints S2 5000 60 8 e = true := List.forall_mem_cons.2 ⟨ok8_0, List.forall_mem_nil _⟩
theorem ok5_0 : entOk Tryz.prog hints S3 5000 60 5 E5_0 = true := by decide +kernel
theorem ok5 : ∀ e, e ∈ E5 → entOk Tryz.prog hints S3 5000 60 5 e = true := List.forall_mem_cons.2 ⟨ok5_0, List.forall_mem_nil _⟩
theorem ok13_0 : entOk Tryz.prog hints S4 5000 60 13 E13_0 = true := by decide +kernel
theorem ok13_1 : entOk Tryz.prog hints S4 5000 60 13 E13_1 = true := by decide +kernel
theorem ok13_2 : entOk Tryz.prog hints S4 5000 60 13 E13_2 = true := by decide +kernel
theorem ok13_3 : entOk Tryz.prog hints S4 5000 60 13 E13_3 = true := by decide +kernel
theorem ok13 : ∀ e, e ∈ E13 → entOk Tryz.prog hints S4 5000 60 13 e = true := List.forall_mem_cons.2 ⟨ok13_0, List.forall_mem_cons.2 ⟨ok13_1, List.forall_mem_cons.2 ⟨ok13_2, List.forall_mem_cons.2 ⟨ok13_3, List.forall_mem_nil _⟩⟩⟩⟩
theorem ok14_0 : entOk Tryz.prog hints S5 5000 60 14 E14_0 = true := by decide +kernel
theorem ok14 : ∀ e, e ∈ E14 → entOk Tryz.prog hints S5 5000 60 14 e = true := List.forall_mem_cons.2 ⟨ok14_0, List.forall_mem_nil _⟩
theorem ok15_0 : entOk Tryz.prog hints S6 5000 60 15 E15_0 = true := by decide +kernel
theorem ok15 : ∀ e, e ∈ E15 → entOk Tryz.prog hints S6 5000 60 15 e = true := List.forall_mem_cons.2 ⟨ok15_0, List.forall_mem_nil _⟩
end Go.Proofs.YtghpkpddmicleaaGreatDoor.Cut
