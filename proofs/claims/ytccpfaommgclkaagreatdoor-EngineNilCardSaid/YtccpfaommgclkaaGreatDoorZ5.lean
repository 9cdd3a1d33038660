/-
  PROVED: calls that were run over abstract values, one by one: what each reads, writes, makes and answers. No condition.
-/
import Derived.Test.YtccpfaommgclkaaGreatDoorY0
set_option linter.unusedVariables false
set_option maxRecDepth 1000000
namespace Go.Proofs.YtccpfaommgclkaaGreatDoor.Cut
open Go.X
theorem ok170_0 : entOk Tryz.prog hints S12 5000 60 170 E170_0 = true := by decide +kernel
theorem ok170_1 : entOk Tryz.prog hints S12 5000 60 170 E170_1 = true := by decide +kernel
theorem ok170_2 : entOk Tryz.prog hints S12 5000 60 170 E170_2 = true := by decide +kernel
theorem ok170 : ∀ e, e ∈ E170 → entOk Tryz.prog hints S12 5000 60 170 e = true := List.forall_mem_cons.2 ⟨ok170_0, List.forall_mem_cons.2 ⟨ok170_1, List.forall_mem_cons.2 ⟨ok170_2, List.forall_mem_nil _⟩⟩⟩
theorem ok124_0 : entOk Tryz.prog hints S13 5000 60 124 E124_0 = true := by decide +kernel
theorem ok124_1 : entOk Tryz.prog hints S13 5000 60 124 E124_1 = true := by decide +kernel
theorem ok124_2 : entOk Tryz.prog hints S13 5000 60 124 E124_2 = true := by decide +kernel
theorem ok124 : ∀ e, e ∈ E124 → entOk Tryz.prog hints S13 5000 60 124 e = true := List.forall_mem_cons.2 ⟨ok124_0, List.forall_mem_cons.2 ⟨ok124_1, List.forall_mem_cons.2 ⟨ok124_2, List.forall_mem_nil _⟩⟩⟩
theorem ok71_0 : entOk Tryz.prog hints S14 5000 60 71 E71_0 = true := by decide +kernel
theorem ok71_1 : entOk Tryz.prog hints S14 5000 60 71 E71_1 = true := by decide +kernel
theorem ok71_2 : entOk Tryz.prog hints S14 5000 60 71 E71_2 = true := by decide +kernel
theorem ok71 : ∀ e, e ∈ E71 → entOk Tryz.prog hints S14 5000 60 71 e = true := List.forall_mem_cons.2 ⟨ok71_0, List.forall_mem_cons.2 ⟨ok71_1, List.forall_mem_cons.2 ⟨ok71_2, List.forall_mem_nil _⟩⟩⟩
theorem ok40_0 : entOk Tryz.prog hints S15 5000 60 40 E40_0 = true := by decide +kernel
theorem ok40_1 : entOk Tryz.prog hints S15 5000 60 40 E40_1 = true := by decide +kernel
theorem ok40_2 : entOk Tryz.prog hints S15 5000 60 40 E40_2 = true := by decide +kernel
theorem ok40 : ∀ e, e ∈ E40 → entOk Tryz.prog hints S15 5000 60 40 e = true := List.forall_mem_cons.2 ⟨ok40_0, List.forall_mem_cons.2 ⟨ok40_1, List.forall_mem_cons.2 ⟨ok40_2, List.forall_mem_nil _⟩⟩⟩
end Go.Proofs.YtccpfaommgclkaaGreatDoor.Cut
