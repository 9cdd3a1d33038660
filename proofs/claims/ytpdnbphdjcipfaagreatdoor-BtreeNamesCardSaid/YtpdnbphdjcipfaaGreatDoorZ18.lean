/-
  PROVED: calls that were run over abstract values, one by one: what each reads, writes, makes and answers. No condition.
-/
import Derived.Test.YtpdnbphdjcipfaaGreatDoorY3
set_option linter.unusedVariables false
set_option maxRecDepth 1000000
namespace Go.Proofs.YtpdnbphdjcipfaaGreatDoor.Cut
open Go.X
theorem ok31_0 : entOk Tryz.prog hints S23 5000 60 31 E31_0 = true := by decide +kernel
theorem ok31_1 : entOk Tryz.prog hints S23 5000 60 31 E31_1 = true := by decide +kernel
theorem ok31_2 : entOk Tryz.prog hints S23 5000 60 31 E31_2 = true := by decide +kernel
theorem ok31 : ∀ e, e ∈ E31 → entOk Tryz.prog hints S23 5000 60 31 e = true := List.forall_mem_cons.2 ⟨ok31_0, List.forall_mem_cons.2 ⟨ok31_1, List.forall_mem_cons.2 ⟨ok31_2, List.forall_mem_nil _⟩⟩⟩
theorem ok12_0 : entOk Tryz.prog hints S24 5000 60 12 E12_0 = true := by decide +kernel
theorem ok12_1 : entOk Tryz.prog hints S24 5000 60 12 E12_1 = true := by decide +kernel
theorem ok12_2 : entOk Tryz.prog hints S24 5000 60 12 E12_2 = true := by decide +kernel
theorem ok12 : ∀ e, e ∈ E12 → entOk Tryz.prog hints S24 5000 60 12 e = true := List.forall_mem_cons.2 ⟨ok12_0, List.forall_mem_cons.2 ⟨ok12_1, List.forall_mem_cons.2 ⟨ok12_2, List.forall_mem_nil _⟩⟩⟩
theorem ok66_0 : entOk Tryz.prog hints S25 5000 60 66 E66_0 = true := by decide +kernel
theorem ok66_1 : entOk Tryz.prog hints S25 5000 60 66 E66_1 = true := by decide +kernel
theorem ok66 : ∀ e, e ∈ E66 → entOk Tryz.prog hints S25 5000 60 66 e = true := List.forall_mem_cons.2 ⟨ok66_0, List.forall_mem_cons.2 ⟨ok66_1, List.forall_mem_nil _⟩⟩
end Go.Proofs.YtpdnbphdjcipfaaGreatDoor.Cut
