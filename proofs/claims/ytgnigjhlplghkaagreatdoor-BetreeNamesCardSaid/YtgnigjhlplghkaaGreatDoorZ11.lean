/-
  PROVED: calls that were run over abstract values, one by one: what each reads, writes, makes and answers. No condition.
-/
import Derived.Test.YtgnigjhlplghkaaGreatDoorY2
set_option linter.unusedVariables false
set_option maxRecDepth 1000000
namespace Go.Proofs.YtgnigjhlplghkaaGreatDoor.Cut
open Go.X
theorem ok124_0 : entOk Tryz.prog hints S31 5000 60 124 E124_0 = true := by decide +kernel
theorem ok124_1 : entOk Tryz.prog hints S31 5000 60 124 E124_1 = true := by decide +kernel
theorem ok124_2 : entOk Tryz.prog hints S31 5000 60 124 E124_2 = true := by decide +kernel
theorem ok124_3 : entOk Tryz.prog hints S31 5000 60 124 E124_3 = true := by decide +kernel
theorem ok124_4 : entOk Tryz.prog hints S31 5000 60 124 E124_4 = true := by decide +kernel
theorem ok124_5 : entOk Tryz.prog hints S31 5000 60 124 E124_5 = true := by decide +kernel
theorem ok124_6 : entOk Tryz.prog hints S31 5000 60 124 E124_6 = true := by decide +kernel
theorem ok124_7 : entOk Tryz.prog hints S31 5000 60 124 E124_7 = true := by decide +kernel
theorem ok124_8 : entOk Tryz.prog hints S31 5000 60 124 E124_8 = true := by decide +kernel
theorem ok124_9 : entOk Tryz.prog hints S31 5000 60 124 E124_9 = true := by decide +kernel
theorem ok124_10 : entOk Tryz.prog hints S31 5000 60 124 E124_10 = true := by decide +kernel
theorem ok124_11 : entOk Tryz.prog hints S31 5000 60 124 E124_11 = true := by decide +kernel
theorem ok124_12 : entOk Tryz.prog hints S31 5000 60 124 E124_12 = true := by decide +kernel
theorem ok124_13 : entOk Tryz.prog hints S31 5000 60 124 E124_13 = true := by decide +kernel
theorem ok124 : ∀ e, e ∈ E124 → entOk Tryz.prog hints S31 5000 60 124 e = true := List.forall_mem_cons.2 ⟨ok124_0, List.forall_mem_cons.2 ⟨ok124_1, List.forall_mem_cons.2 ⟨ok124_2, List.forall_mem_cons.2 ⟨ok124_3, List.forall_mem_cons.2 ⟨ok124_4, List.forall_mem_cons.2 ⟨ok124_5, List.forall_mem_cons.2 ⟨ok124_6, List.forall_mem_cons.2 ⟨ok124_7, List.forall_mem_cons.2 ⟨ok124_8, List.forall_mem_cons.2 ⟨ok124_9, List.forall_mem_cons.2 ⟨ok124_10, List.forall_mem_cons.2 ⟨ok124_11, List.forall_mem_cons.2 ⟨ok124_12, List.forall_mem_cons.2 ⟨ok124_13, List.forall_mem_nil _⟩⟩⟩⟩⟩⟩⟩⟩⟩⟩⟩⟩⟩⟩
end Go.Proofs.YtgnigjhlplghkaaGreatDoor.Cut
