/-
  PROVED: calls that were run over abstract values, one by one: what each reads, writes, makes and answers. No condition.
-/
import Derived.Test.YtpdnbphdjcipfaaGreatDoorY3
set_option linter.unusedVariables false
set_option maxRecDepth 1000000
namespace Go.Proofs.YtpdnbphdjcipfaaGreatDoor.Cut
open Go.X
theorem ok147_0 : entOk Tryz.prog hints S11 5000 60 147 E147_0 = true := by decide +kernel
theorem ok147_1 : entOk Tryz.prog hints S11 5000 60 147 E147_1 = true := by decide +kernel
theorem ok147_2 : entOk Tryz.prog hints S11 5000 60 147 E147_2 = true := by decide +kernel
theorem ok147_3 : entOk Tryz.prog hints S11 5000 60 147 E147_3 = true := by decide +kernel
theorem ok147_4 : entOk Tryz.prog hints S11 5000 60 147 E147_4 = true := by decide +kernel
theorem ok147 : ∀ e, e ∈ E147 → entOk Tryz.prog hints S11 5000 60 147 e = true := List.forall_mem_cons.2 ⟨ok147_0, List.forall_mem_cons.2 ⟨ok147_1, List.forall_mem_cons.2 ⟨ok147_2, List.forall_mem_cons.2 ⟨ok147_3, List.forall_mem_cons.2 ⟨ok147_4, List.forall_mem_nil _⟩⟩⟩⟩⟩
theorem ok101_0 : entOk Tryz.prog hints S12 5000 60 101 E101_0 = true := by decide +kernel
theorem ok101_1 : entOk Tryz.prog hints S12 5000 60 101 E101_1 = true := by decide +kernel
theorem ok101_2 : entOk Tryz.prog hints S12 5000 60 101 E101_2 = true := by decide +kernel
theorem ok101_3 : entOk Tryz.prog hints S12 5000 60 101 E101_3 = true := by decide +kernel
theorem ok101_4 : entOk Tryz.prog hints S12 5000 60 101 E101_4 = true := by decide +kernel
theorem ok101_5 : entOk Tryz.prog hints S12 5000 60 101 E101_5 = true := by decide +kernel
theorem ok101_6 : entOk Tryz.prog hints S12 5000 60 101 E101_6 = true := by decide +kernel
theorem ok101 : ∀ e, e ∈ E101 → entOk Tryz.prog hints S12 5000 60 101 e = true := List.forall_mem_cons.2 ⟨ok101_0, List.forall_mem_cons.2 ⟨ok101_1, List.forall_mem_cons.2 ⟨ok101_2, List.forall_mem_cons.2 ⟨ok101_3, List.forall_mem_cons.2 ⟨ok101_4, List.forall_mem_cons.2 ⟨ok101_5, List.forall_mem_cons.2 ⟨ok101_6, List.forall_mem_nil _⟩⟩⟩⟩⟩⟩⟩
end Go.Proofs.YtpdnbphdjcipfaaGreatDoor.Cut
