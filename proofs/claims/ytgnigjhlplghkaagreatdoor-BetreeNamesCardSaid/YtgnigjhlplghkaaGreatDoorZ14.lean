/-
  PROVED: calls that were run over abstract values, one by one: what each reads, writes, makes and answers. No condition.
-/
import Derived.Test.YtgnigjhlplghkaaGreatDoorY2
set_option linter.unusedVariables false
set_option maxRecDepth 1000000
namespace Go.Proofs.YtgnigjhlplghkaaGreatDoor.Cut
open Go.X
theorem ok36_0 : entOk Tryz.prog hints S34 5000 60 36 E36_0 = true := by decide +kernel
theorem ok36_1 : entOk Tryz.prog hints S34 5000 60 36 E36_1 = true := by decide +kernel
theorem ok36_2 : entOk Tryz.prog hints S34 5000 60 36 E36_2 = true := by decide +kernel
theorem ok36_3 : entOk Tryz.prog hints S34 5000 60 36 E36_3 = true := by decide +kernel
theorem ok36_4 : entOk Tryz.prog hints S34 5000 60 36 E36_4 = true := by decide +kernel
theorem ok36_5 : entOk Tryz.prog hints S34 5000 60 36 E36_5 = true := by decide +kernel
theorem ok36 : ∀ e, e ∈ E36 → entOk Tryz.prog hints S34 5000 60 36 e = true := List.forall_mem_cons.2 ⟨ok36_0, List.forall_mem_cons.2 ⟨ok36_1, List.forall_mem_cons.2 ⟨ok36_2, List.forall_mem_cons.2 ⟨ok36_3, List.forall_mem_cons.2 ⟨ok36_4, List.forall_mem_cons.2 ⟨ok36_5, List.forall_mem_nil _⟩⟩⟩⟩⟩⟩
theorem ok51_0 : entOk Tryz.prog hints S35 5000 60 51 E51_0 = true := by decide +kernel
theorem ok51_1 : entOk Tryz.prog hints S35 5000 60 51 E51_1 = true := by decide +kernel
theorem ok51_2 : entOk Tryz.prog hints S35 5000 60 51 E51_2 = true := by decide +kernel
theorem ok51_3 : entOk Tryz.prog hints S35 5000 60 51 E51_3 = true := by decide +kernel
theorem ok51 : ∀ e, e ∈ E51 → entOk Tryz.prog hints S35 5000 60 51 e = true := List.forall_mem_cons.2 ⟨ok51_0, List.forall_mem_cons.2 ⟨ok51_1, List.forall_mem_cons.2 ⟨ok51_2, List.forall_mem_cons.2 ⟨ok51_3, List.forall_mem_nil _⟩⟩⟩⟩
end Go.Proofs.YtgnigjhlplghkaaGreatDoor.Cut
