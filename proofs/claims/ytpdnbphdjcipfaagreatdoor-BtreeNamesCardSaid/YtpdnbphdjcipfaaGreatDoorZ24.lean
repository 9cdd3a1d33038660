/-
  PROVED: calls that were run over abstract values, one by one: what each reads, writes, makes and answers. No condition.
-/
import Derived.Test.YtpdnbphdjcipfaaGreatDoorY3
set_option linter.unusedVariables false
set_option maxRecDepth 1000000
namespace Go.Proofs.YtpdnbphdjcipfaaGreatDoor.Cut
open Go.X
theorem ok68_0 : entOk Tryz.prog hints S54 5000 60 68 E68_0 = true := by decide +kernel
theorem ok68_1 : entOk Tryz.prog hints S54 5000 60 68 E68_1 = true := by decide +kernel
theorem ok68_2 : entOk Tryz.prog hints S54 5000 60 68 E68_2 = true := by decide +kernel
theorem ok68_3 : entOk Tryz.prog hints S54 5000 60 68 E68_3 = true := by decide +kernel
theorem ok68 : ∀ e, e ∈ E68 → entOk Tryz.prog hints S54 5000 60 68 e = true := List.forall_mem_cons.2 ⟨ok68_0, List.forall_mem_cons.2 ⟨ok68_1, List.forall_mem_cons.2 ⟨ok68_2, List.forall_mem_cons.2 ⟨ok68_3, List.forall_mem_nil _⟩⟩⟩⟩
theorem ok40_0 : entOk Tryz.prog hints S55 5000 60 40 E40_0 = true := by decide +kernel
theorem ok40_1 : entOk Tryz.prog hints S55 5000 60 40 E40_1 = true := by decide +kernel
theorem ok40_2 : entOk Tryz.prog hints S55 5000 60 40 E40_2 = true := by decide +kernel
theorem ok40_3 : entOk Tryz.prog hints S55 5000 60 40 E40_3 = true := by decide +kernel
theorem ok40 : ∀ e, e ∈ E40 → entOk Tryz.prog hints S55 5000 60 40 e = true := List.forall_mem_cons.2 ⟨ok40_0, List.forall_mem_cons.2 ⟨ok40_1, List.forall_mem_cons.2 ⟨ok40_2, List.forall_mem_cons.2 ⟨ok40_3, List.forall_mem_nil _⟩⟩⟩⟩
end Go.Proofs.YtpdnbphdjcipfaaGreatDoor.Cut
