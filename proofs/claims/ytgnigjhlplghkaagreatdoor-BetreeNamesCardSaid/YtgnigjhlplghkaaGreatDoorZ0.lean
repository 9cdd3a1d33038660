/-
  PROVED: calls that were run over abstract values, one by one: what each reads, writes, makes and answers. No condition.
-/
import Derived.Test.YtgnigjhlplghkaaGreatDoorY2
set_option linter.unusedVariables false
set_option maxRecDepth 1000000
namespace Go.Proofs.YtgnigjhlplghkaaGreatDoor.Cut
open Go.X
theorem ok86_0 : entOk Tryz.prog hints S0 5000 60 86 E86_0 = true := by decide +kernel
theorem ok86_1 : entOk Tryz.prog hints S0 5000 60 86 E86_1 = true := by decide +kernel
theorem ok86 : ∀ e, e ∈ E86 → entOk Tryz.prog hints S0 5000 60 86 e = true := List.forall_mem_cons.2 ⟨ok86_0, List.forall_mem_cons.2 ⟨ok86_1, List.forall_mem_nil _⟩⟩
theorem ok39_0 : entOk Tryz.prog hints S1 5000 60 39 E39_0 = true := by decide +kernel
theorem ok39 : ∀ e, e ∈ E39 → entOk Tryz.prog hints S1 5000 60 39 e = true := List.forall_mem_cons.2 ⟨ok39_0, List.forall_mem_nil _⟩
theorem ok41_0 : entOk Tryz.prog hints S2 5000 60 41 E41_0 = true := by decide +kernel
theorem ok41_1 : entOk Tryz.prog hints S2 5000 60 41 E41_1 = true := by decide +kernel
theorem ok41_2 : entOk Tryz.prog hints S2 5000 60 41 E41_2 = true := by decide +kernel
theorem ok41_3 : entOk Tryz.prog hints S2 5000 60 41 E41_3 = true := by decide +kernel
theorem ok41_4 : entOk Tryz.prog hints S2 5000 60 41 E41_4 = true := by decide +kernel
theorem ok41_5 : entOk Tryz.prog hints S2 5000 60 41 E41_5 = true := by decide +kernel
theorem ok41_6 : entOk Tryz.prog hints S2 5000 60 41 E41_6 = true := by decide +kernel
theorem ok41_7 : entOk Tryz.prog hints S2 5000 60 41 E41_7 = true := by decide +kernel
theorem ok41 : ∀ e, e ∈ E41 → entOk Tryz.prog hints S2 5000 60 41 e = true := List.forall_mem_cons.2 ⟨ok41_0, List.forall_mem_cons.2 ⟨ok41_1, List.forall_mem_cons.2 ⟨ok41_2, List.forall_mem_cons.2 ⟨ok41_3, List.forall_mem_cons.2 ⟨ok41_4, List.forall_mem_cons.2 ⟨ok41_5, List.forall_mem_cons.2 ⟨ok41_6, List.forall_mem_cons.2 ⟨ok41_7, List.forall_mem_nil _⟩⟩⟩⟩⟩⟩⟩⟩
end Go.Proofs.YtgnigjhlplghkaaGreatDoor.Cut
