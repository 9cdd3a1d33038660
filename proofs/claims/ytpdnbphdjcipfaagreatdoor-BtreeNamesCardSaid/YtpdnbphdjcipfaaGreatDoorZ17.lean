/-
  PROVED: calls that were run over abstract values, one by one: what each reads, writes, makes and answers. No condition.
-/
import Derived.Test.YtpdnbphdjcipfaaGreatDoorY3
set_option linter.unusedVariables false
set_option maxRecDepth 1000000
namespace Go.Proofs.YtpdnbphdjcipfaaGreatDoor.Cut
open Go.X
theorem ok61_0 : entOk Tryz.prog hints S22 5000 60 61 E61_0 = true := by decide +kernel
theorem ok61_1 : entOk Tryz.prog hints S22 5000 60 61 E61_1 = true := by decide +kernel
theorem ok61_2 : entOk Tryz.prog hints S22 5000 60 61 E61_2 = true := by decide +kernel
theorem ok61_3 : entOk Tryz.prog hints S22 5000 60 61 E61_3 = true := by decide +kernel
theorem ok61_4 : entOk Tryz.prog hints S22 5000 60 61 E61_4 = true := by decide +kernel
theorem ok61_5 : entOk Tryz.prog hints S22 5000 60 61 E61_5 = true := by decide +kernel
theorem ok61_6 : entOk Tryz.prog hints S22 5000 60 61 E61_6 = true := by decide +kernel
theorem ok61_7 : entOk Tryz.prog hints S22 5000 60 61 E61_7 = true := by decide +kernel
theorem ok61_8 : entOk Tryz.prog hints S22 5000 60 61 E61_8 = true := by decide +kernel
theorem ok61 : ∀ e, e ∈ E61 → entOk Tryz.prog hints S22 5000 60 61 e = true := List.forall_mem_cons.2 ⟨ok61_0, List.forall_mem_cons.2 ⟨ok61_1, List.forall_mem_cons.2 ⟨ok61_2, List.forall_mem_cons.2 ⟨ok61_3, List.forall_mem_cons.2 ⟨ok61_4, List.forall_mem_cons.2 ⟨ok61_5, List.forall_mem_cons.2 ⟨ok61_6, List.forall_mem_cons.2 ⟨ok61_7, List.forall_mem_cons.2 ⟨ok61_8, List.forall_mem_nil _⟩⟩⟩⟩⟩⟩⟩⟩⟩
end Go.Proofs.YtpdnbphdjcipfaaGreatDoor.Cut
