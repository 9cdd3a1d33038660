/-
  PROVED: calls that were run over abstract values, one by one: what each reads, writes, makes and answers. No condition.
-/
import Derived.Test.YtpdnbphdjcipfaaGreatDoorY3
set_option linter.unusedVariables false
set_option maxRecDepth 1000000
namespace Go.Proofs.YtpdnbphdjcipfaaGreatDoor.Cut
open Go.X
theorem ok41_0 : entOk Tryz.prog hints S15 5000 60 41 E41_0 = true := by decide +kernel
theorem ok41_1 : entOk Tryz.prog hints S15 5000 60 41 E41_1 = true := by decide +kernel
theorem ok41 : ∀ e, e ∈ E41 → entOk Tryz.prog hints S15 5000 60 41 e = true := List.forall_mem_cons.2 ⟨ok41_0, List.forall_mem_cons.2 ⟨ok41_1, List.forall_mem_nil _⟩⟩
theorem ok42_0 : entOk Tryz.prog hints S16 5000 60 42 E42_0 = true := by decide +kernel
theorem ok42_1 : entOk Tryz.prog hints S16 5000 60 42 E42_1 = true := by decide +kernel
theorem ok42_2 : entOk Tryz.prog hints S16 5000 60 42 E42_2 = true := by decide +kernel
theorem ok42_3 : entOk Tryz.prog hints S16 5000 60 42 E42_3 = true := by decide +kernel
theorem ok42_4 : entOk Tryz.prog hints S16 5000 60 42 E42_4 = true := by decide +kernel
theorem ok42_5 : entOk Tryz.prog hints S16 5000 60 42 E42_5 = true := by decide +kernel
theorem ok42 : ∀ e, e ∈ E42 → entOk Tryz.prog hints S16 5000 60 42 e = true := List.forall_mem_cons.2 ⟨ok42_0, List.forall_mem_cons.2 ⟨ok42_1, List.forall_mem_cons.2 ⟨ok42_2, List.forall_mem_cons.2 ⟨ok42_3, List.forall_mem_cons.2 ⟨ok42_4, List.forall_mem_cons.2 ⟨ok42_5, List.forall_mem_nil _⟩⟩⟩⟩⟩⟩
end Go.Proofs.YtpdnbphdjcipfaaGreatDoor.Cut
