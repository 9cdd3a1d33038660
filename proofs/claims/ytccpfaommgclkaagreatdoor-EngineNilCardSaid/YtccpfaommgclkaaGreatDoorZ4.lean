/-
  PROVED: calls that were run over abstract values, one by one: what each reads, writes, makes and answers. No condition.
-/
import Derived.Test.YtccpfaommgclkaaGreatDoorY0
set_option linter.unusedVariables false
set_option maxRecDepth 1000000
namespace Go.Proofs.YtccpfaommgclkaaGreatDoor.Cut
open Go.X
theorem ok65_0 : entOk Tryz.prog hints S9 5000 60 65 E65_0 = true := by decide +kernel
theorem ok65_1 : entOk Tryz.prog hints S9 5000 60 65 E65_1 = true := by decide +kernel
theorem ok65_2 : entOk Tryz.prog hints S9 5000 60 65 E65_2 = true := by decide +kernel
theorem ok65_3 : entOk Tryz.prog hints S9 5000 60 65 E65_3 = true := by decide +kernel
theorem ok65 : ∀ e, e ∈ E65 → entOk Tryz.prog hints S9 5000 60 65 e = true := List.forall_mem_cons.2 ⟨ok65_0, List.forall_mem_cons.2 ⟨ok65_1, List.forall_mem_cons.2 ⟨ok65_2, List.forall_mem_cons.2 ⟨ok65_3, List.forall_mem_nil _⟩⟩⟩⟩
theorem ok200_0 : entOk Tryz.prog hints S10 5000 60 200 E200_0 = true := by decide +kernel
theorem ok200_1 : entOk Tryz.prog hints S10 5000 60 200 E200_1 = true := by decide +kernel
theorem ok200_2 : entOk Tryz.prog hints S10 5000 60 200 E200_2 = true := by decide +kernel
theorem ok200 : ∀ e, e ∈ E200 → entOk Tryz.prog hints S10 5000 60 200 e = true := List.forall_mem_cons.2 ⟨ok200_0, List.forall_mem_cons.2 ⟨ok200_1, List.forall_mem_cons.2 ⟨ok200_2, List.forall_mem_nil _⟩⟩⟩
theorem ok167_0 : entOk Tryz.prog hints S11 5000 60 167 E167_0 = true := by decide +kernel
theorem ok167_1 : entOk Tryz.prog hints S11 5000 60 167 E167_1 = true := by decide +kernel
theorem ok167_2 : entOk Tryz.prog hints S11 5000 60 167 E167_2 = true := by decide +kernel
theorem ok167 : ∀ e, e ∈ E167 → entOk Tryz.prog hints S11 5000 60 167 e = true := List.forall_mem_cons.2 ⟨ok167_0, List.forall_mem_cons.2 ⟨ok167_1, List.forall_mem_cons.2 ⟨ok167_2, List.forall_mem_nil _⟩⟩⟩
end Go.Proofs.YtccpfaommgclkaaGreatDoor.Cut
