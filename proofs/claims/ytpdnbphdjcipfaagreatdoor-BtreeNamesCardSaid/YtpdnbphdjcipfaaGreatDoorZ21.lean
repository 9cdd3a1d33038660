/-
  PROVED: calls that were run over abstract values, one by one: what each reads, writes, makes and answers. No condition.
-/
import Derived.Test.YtpdnbphdjcipfaaGreatDoorY3
set_option linter.unusedVariables false
set_option maxRecDepth 1000000
namespace Go.Proofs.YtpdnbphdjcipfaaGreatDoor.Cut
open Go.X
theorem ok45_0 : entOk Tryz.prog hints S35 5000 60 45 E45_0 = true := by decide +kernel
theorem ok45 : ∀ e, e ∈ E45 → entOk Tryz.prog hints S35 5000 60 45 e = true := List.forall_mem_cons.2 ⟨ok45_0, List.forall_mem_nil _⟩
theorem ok18_0 : entOk Tryz.prog hints S36 5000 60 18 E18_0 = true := by decide +kernel
theorem ok18 : ∀ e, e ∈ E18 → entOk Tryz.prog hints S36 5000 60 18 e = true := List.forall_mem_cons.2 ⟨ok18_0, List.forall_mem_nil _⟩
theorem ok7_0 : entOk Tryz.prog hints S37 5000 60 7 E7_0 = true := by decide +kernel
theorem ok7 : ∀ e, e ∈ E7 → entOk Tryz.prog hints S37 5000 60 7 e = true := List.forall_mem_cons.2 ⟨ok7_0, List.forall_mem_nil _⟩
theorem ok51_0 : entOk Tryz.prog hints S38 5000 60 51 E51_0 = true := by decide +kernel
theorem ok51_1 : entOk Tryz.prog hints S38 5000 60 51 E51_1 = true := by decide +kernel
theorem ok51 : ∀ e, e ∈ E51 → entOk Tryz.prog hints S38 5000 60 51 e = true := List.forall_mem_cons.2 ⟨ok51_0, List.forall_mem_cons.2 ⟨ok51_1, List.forall_mem_nil _⟩⟩
theorem ok22_0 : entOk Tryz.prog hints S39 5000 60 22 E22_0 = true := by decide +kernel
theorem ok22 : ∀ e, e ∈ E22 → entOk Tryz.prog hints S39 5000 60 22 e = true := List.forall_mem_cons.2 ⟨ok22_0, List.forall_mem_nil _⟩
theorem ok26_0 : entOk Tryz.prog hints S40 5000 60 26 E26_0 = true := by decide +kernel
theorem ok26_1 : entOk Tryz.prog hints S40 5000 60 26 E26_1 = true := by decide +kernel
theorem ok26_2 : entOk Tryz.prog hints S40 5000 60 26 E26_2 = true := by decide +kernel
theorem ok26 : ∀ e, e ∈ E26 → entOk Tryz.prog hints S40 5000 60 26 e = true := List.forall_mem_cons.2 ⟨ok26_0, List.forall_mem_cons.2 ⟨ok26_1, List.forall_mem_cons.2 ⟨ok26_2, List.forall_mem_nil _⟩⟩⟩
end Go.Proofs.YtpdnbphdjcipfaaGreatDoor.Cut
