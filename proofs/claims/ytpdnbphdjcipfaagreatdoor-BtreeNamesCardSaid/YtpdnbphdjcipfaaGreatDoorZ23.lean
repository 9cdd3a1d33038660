/-
  PROVED: calls that were run over abstract values, one by one: what each reads, writes, makes and answers. No condition.
-/
import Derived.Test.YtpdnbphdjcipfaaGreatDoorY3
set_option linter.unusedVariables false
set_option maxRecDepth 1000000
namespace Go.Proofs.YtpdnbphdjcipfaaGreatDoor.Cut
open Go.X
theorem ok10_0 : entOk Tryz.prog hints S49 5000 60 10 E10_0 = true := by decide +kernel
theorem ok10 : ∀ e, e ∈ E10 → entOk Tryz.prog hints S49 5000 60 10 e = true := List.forall_mem_cons.2 ⟨ok10_0, List.forall_mem_nil _⟩
theorem ok14_0 : entOk Tryz.prog hints S50 5000 60 14 E14_0 = true := by decide +kernel
theorem ok14 : ∀ e, e ∈ E14 → entOk Tryz.prog hints S50 5000 60 14 e = true := List.forall_mem_cons.2 ⟨ok14_0, List.forall_mem_nil _⟩
theorem ok39_0 : entOk Tryz.prog hints S51 5000 60 39 E39_0 = true := by decide +kernel
theorem ok39_1 : entOk Tryz.prog hints S51 5000 60 39 E39_1 = true := by decide +kernel
theorem ok39_2 : entOk Tryz.prog hints S51 5000 60 39 E39_2 = true := by decide +kernel
theorem ok39_3 : entOk Tryz.prog hints S51 5000 60 39 E39_3 = true := by decide +kernel
theorem ok39 : ∀ e, e ∈ E39 → entOk Tryz.prog hints S51 5000 60 39 e = true := List.forall_mem_cons.2 ⟨ok39_0, List.forall_mem_cons.2 ⟨ok39_1, List.forall_mem_cons.2 ⟨ok39_2, List.forall_mem_cons.2 ⟨ok39_3, List.forall_mem_nil _⟩⟩⟩⟩
theorem ok106_0 : entOk Tryz.prog hints S52 5000 60 106 E106_0 = true := by decide +kernel
theorem ok106 : ∀ e, e ∈ E106 → entOk Tryz.prog hints S52 5000 60 106 e = true := List.forall_mem_cons.2 ⟨ok106_0, List.forall_mem_nil _⟩
theorem ok67_0 : entOk Tryz.prog hints S53 5000 60 67 E67_0 = true := by decide +kernel
theorem ok67_1 : entOk Tryz.prog hints S53 5000 60 67 E67_1 = true := by decide +kernel
theorem ok67_2 : entOk Tryz.prog hints S53 5000 60 67 E67_2 = true := by decide +kernel
theorem ok67_3 : entOk Tryz.prog hints S53 5000 60 67 E67_3 = true := by decide +kernel
theorem ok67 : ∀ e, e ∈ E67 → entOk Tryz.prog hints S53 5000 60 67 e = true := List.forall_mem_cons.2 ⟨ok67_0, List.forall_mem_cons.2 ⟨ok67_1, List.forall_mem_cons.2 ⟨ok67_2, List.forall_mem_cons.2 ⟨ok67_3, List.forall_mem_nil _⟩⟩⟩⟩
end Go.Proofs.YtpdnbphdjcipfaaGreatDoor.Cut
