/-
  PROVED: calls that were run over abstract values, one by one: what each reads, writes, makes and answers. No condition.
-/
import Derived.Test.YtpdnbphdjcipfaaGreatDoorY3
set_option linter.unusedVariables false
set_option maxRecDepth 1000000
namespace Go.Proofs.YtpdnbphdjcipfaaGreatDoor.Cut
open Go.X
theorem ok113_0 : entOk Tryz.prog hints S28 5000 60 113 E113_0 = true := by decide +kernel
theorem ok113 : ∀ e, e ∈ E113 → entOk Tryz.prog hints S28 5000 60 113 e = true := List.forall_mem_cons.2 ⟨ok113_0, List.forall_mem_nil _⟩
theorem ok115_0 : entOk Tryz.prog hints S29 5000 60 115 E115_0 = true := by decide +kernel
theorem ok115 : ∀ e, e ∈ E115 → entOk Tryz.prog hints S29 5000 60 115 e = true := List.forall_mem_cons.2 ⟨ok115_0, List.forall_mem_nil _⟩
theorem ok65_0 : entOk Tryz.prog hints S30 5000 60 65 E65_0 = true := by decide +kernel
theorem ok65_1 : entOk Tryz.prog hints S30 5000 60 65 E65_1 = true := by decide +kernel
theorem ok65 : ∀ e, e ∈ E65 → entOk Tryz.prog hints S30 5000 60 65 e = true := List.forall_mem_cons.2 ⟨ok65_0, List.forall_mem_cons.2 ⟨ok65_1, List.forall_mem_nil _⟩⟩
theorem ok160_0 : entOk Tryz.prog hints S31 5000 60 160 E160_0 = true := by decide +kernel
theorem ok160 : ∀ e, e ∈ E160 → entOk Tryz.prog hints S31 5000 60 160 e = true := List.forall_mem_cons.2 ⟨ok160_0, List.forall_mem_nil _⟩
theorem ok159_0 : entOk Tryz.prog hints S32 5000 60 159 E159_0 = true := by decide +kernel
theorem ok159 : ∀ e, e ∈ E159 → entOk Tryz.prog hints S32 5000 60 159 e = true := List.forall_mem_cons.2 ⟨ok159_0, List.forall_mem_nil _⟩
theorem ok117_0 : entOk Tryz.prog hints S33 5000 60 117 E117_0 = true := by decide +kernel
theorem ok117 : ∀ e, e ∈ E117 → entOk Tryz.prog hints S33 5000 60 117 e = true := List.forall_mem_cons.2 ⟨ok117_0, List.forall_mem_nil _⟩
theorem ok75_0 : entOk Tryz.prog hints S34 5000 60 75 E75_0 = true := by decide +kernel
theorem ok75_1 : entOk Tryz.prog hints S34 5000 60 75 E75_1 = true := by decide +kernel
theorem ok75 : ∀ e, e ∈ E75 → entOk Tryz.prog hints S34 5000 60 75 e = true := List.forall_mem_cons.2 ⟨ok75_0, List.forall_mem_cons.2 ⟨ok75_1, List.forall_mem_nil _⟩⟩
end Go.Proofs.YtpdnbphdjcipfaaGreatDoor.Cut
