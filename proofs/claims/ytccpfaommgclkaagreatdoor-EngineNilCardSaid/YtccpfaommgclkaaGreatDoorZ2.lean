/-
  PROVED: calls that were run over abstract values, one by one: what each reads, writes, makes and answers. No condition.
-/
import Derived.Test.YtccpfaommgclkaaGreatDoorY0
set_option linter.unusedVariables false
set_option maxRecDepth 1000000
namespace Go.Proofs.YtccpfaommgclkaaGreatDoor.Cut
open Go.X
theorem ok39_0 : entOk Tryz.prog hints S6 5000 60 39 E39_0 = true := by decide +kernel
theorem ok39_1 : entOk Tryz.prog hints S6 5000 60 39 E39_1 = true := by decide +kernel
theorem ok39_2 : entOk Tryz.prog hints S6 5000 60 39 E39_2 = true := by decide +kernel
theorem ok39_3 : entOk Tryz.prog hints S6 5000 60 39 E39_3 = true := by decide +kernel
theorem ok39_4 : entOk Tryz.prog hints S6 5000 60 39 E39_4 = true := by decide +kernel
theorem ok39_5 : entOk Tryz.prog hints S6 5000 60 39 E39_5 = true := by decide +kernel
theorem ok39_6 : entOk Tryz.prog hints S6 5000 60 39 E39_6 = true := by decide +kernel
theorem ok39_7 : entOk Tryz.prog hints S6 5000 60 39 E39_7 = true := by decide +kernel
theorem ok39 : ∀ e, e ∈ E39 → entOk Tryz.prog hints S6 5000 60 39 e = true := List.forall_mem_cons.2 ⟨ok39_0, List.forall_mem_cons.2 ⟨ok39_1, List.forall_mem_cons.2 ⟨ok39_2, List.forall_mem_cons.2 ⟨ok39_3, List.forall_mem_cons.2 ⟨ok39_4, List.forall_mem_cons.2 ⟨ok39_5, List.forall_mem_cons.2 ⟨ok39_6, List.forall_mem_cons.2 ⟨ok39_7, List.forall_mem_nil _⟩⟩⟩⟩⟩⟩⟩⟩
theorem ok129_0 : entOk Tryz.prog hints S7 5000 60 129 E129_0 = true := by decide +kernel
theorem ok129_1 : entOk Tryz.prog hints S7 5000 60 129 E129_1 = true := by decide +kernel
theorem ok129_2 : entOk Tryz.prog hints S7 5000 60 129 E129_2 = true := by decide +kernel
theorem ok129_3 : entOk Tryz.prog hints S7 5000 60 129 E129_3 = true := by decide +kernel
theorem ok129_4 : entOk Tryz.prog hints S7 5000 60 129 E129_4 = true := by decide +kernel
theorem ok129 : ∀ e, e ∈ E129 → entOk Tryz.prog hints S7 5000 60 129 e = true := List.forall_mem_cons.2 ⟨ok129_0, List.forall_mem_cons.2 ⟨ok129_1, List.forall_mem_cons.2 ⟨ok129_2, List.forall_mem_cons.2 ⟨ok129_3, List.forall_mem_cons.2 ⟨ok129_4, List.forall_mem_nil _⟩⟩⟩⟩⟩
end Go.Proofs.YtccpfaommgclkaaGreatDoor.Cut
