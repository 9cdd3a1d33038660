/-
  PROVED: calls that were run over abstract values, one by one: what each reads, writes, makes and answers. No condition.
-/
import Derived.Test.YtgnigjhlplghkaaGreatDoorY2
set_option linter.unusedVariables false
set_option maxRecDepth 1000000
namespace Go.Proofs.YtgnigjhlplghkaaGreatDoor.Cut
open Go.X
theorem ok173_0 : entOk Tryz.prog hints S39 5000 60 173 E173_0 = true := by decide +kernel
theorem ok173_1 : entOk Tryz.prog hints S39 5000 60 173 E173_1 = true := by decide +kernel
theorem ok173_2 : entOk Tryz.prog hints S39 5000 60 173 E173_2 = true := by decide +kernel
theorem ok173 : ∀ e, e ∈ E173 → entOk Tryz.prog hints S39 5000 60 173 e = true := List.forall_mem_cons.2 ⟨ok173_0, List.forall_mem_cons.2 ⟨ok173_1, List.forall_mem_cons.2 ⟨ok173_2, List.forall_mem_nil _⟩⟩⟩
theorem ok105_0 : entOk Tryz.prog hints S40 5000 60 105 E105_0 = true := by decide +kernel
theorem ok105_1 : entOk Tryz.prog hints S40 5000 60 105 E105_1 = true := by decide +kernel
theorem ok105_2 : entOk Tryz.prog hints S40 5000 60 105 E105_2 = true := by decide +kernel
theorem ok105 : ∀ e, e ∈ E105 → entOk Tryz.prog hints S40 5000 60 105 e = true := List.forall_mem_cons.2 ⟨ok105_0, List.forall_mem_cons.2 ⟨ok105_1, List.forall_mem_cons.2 ⟨ok105_2, List.forall_mem_nil _⟩⟩⟩
theorem ok106_0 : entOk Tryz.prog hints S41 5000 60 106 E106_0 = true := by decide +kernel
theorem ok106_1 : entOk Tryz.prog hints S41 5000 60 106 E106_1 = true := by decide +kernel
theorem ok106_2 : entOk Tryz.prog hints S41 5000 60 106 E106_2 = true := by decide +kernel
theorem ok106 : ∀ e, e ∈ E106 → entOk Tryz.prog hints S41 5000 60 106 e = true := List.forall_mem_cons.2 ⟨ok106_0, List.forall_mem_cons.2 ⟨ok106_1, List.forall_mem_cons.2 ⟨ok106_2, List.forall_mem_nil _⟩⟩⟩
theorem ok107_0 : entOk Tryz.prog hints S42 5000 60 107 E107_0 = true := by decide +kernel
theorem ok107_1 : entOk Tryz.prog hints S42 5000 60 107 E107_1 = true := by decide +kernel
theorem ok107_2 : entOk Tryz.prog hints S42 5000 60 107 E107_2 = true := by decide +kernel
theorem ok107 : ∀ e, e ∈ E107 → entOk Tryz.prog hints S42 5000 60 107 e = true := List.forall_mem_cons.2 ⟨ok107_0, List.forall_mem_cons.2 ⟨ok107_1, List.forall_mem_cons.2 ⟨ok107_2, List.forall_mem_nil _⟩⟩⟩
end Go.Proofs.YtgnigjhlplghkaaGreatDoor.Cut
