/-
  PROVED: calls that were run over abstract values, one by one: what each reads, writes, makes and answers. No condition.
-/
import Derived.Test.YtcponehlpgdmjaaGreatDoorY0
set_option linter.unusedVariables false
set_option maxRecDepth 1000000
namespace Go.Proofs.YtcponehlpgdmjaaGreatDoor.Cut
open Go.X
theorem ok41_0 : entOk Tryz.prog hints S49 5000 60 41 E41_0 = true := by decide +kernel
theorem ok41_1 : entOk Tryz.prog hints S49 5000 60 41 E41_1 = true := by decide +kernel
theorem ok41_2 : entOk Tryz.prog hints S49 5000 60 41 E41_2 = true := by decide +kernel
theorem ok41_3 : entOk Tryz.prog hints S49 5000 60 41 E41_3 = true := by decide +kernel
theorem ok41_4 : entOk Tryz.prog hints S49 5000 60 41 E41_4 = true := by decide +kernel
theorem ok41_5 : entOk Tryz.prog hints S49 5000 60 41 E41_5 = true := by decide +kernel
theorem ok41_6 : entOk Tryz.prog hints S49 5000 60 41 E41_6 = true := by decide +kernel
theorem ok41_7 : entOk Tryz.prog hints S49 5000 60 41 E41_7 = true := by decide +kernel
theorem ok41_8 : entOk Tryz.prog hints S49 5000 60 41 E41_8 = true := by decide +kernel
theorem ok41_9 : entOk Tryz.prog hints S49 5000 60 41 E41_9 = true := by decide +kernel
theorem ok41_10 : entOk Tryz.prog hints S49 5000 60 41 E41_10 = true := by decide +kernel
theorem ok41_11 : entOk Tryz.prog hints S49 5000 60 41 E41_11 = true := by decide +kernel
theorem ok41_12 : entOk Tryz.prog hints S49 5000 60 41 E41_12 = true := by decide +kernel
theorem ok41_13 : entOk Tryz.prog hints S49 5000 60 41 E41_13 = true := by decide +kernel
theorem ok41 : ∀ e, e ∈ E41 → entOk Tryz.prog hints S49 5000 60 41 e = true := List.forall_mem_cons.2 ⟨ok41_0, List.forall_mem_cons.2 ⟨ok41_1, List.forall_mem_cons.2 ⟨ok41_2, List.forall_mem_cons.2 ⟨ok41_3, List.forall_mem_cons.2 ⟨ok41_4, List.forall_mem_cons.2 ⟨ok41_5, List.forall_mem_cons.2 ⟨ok41_6, List.forall_mem_cons.2 ⟨ok41_7, List.forall_mem_cons.2 ⟨ok41_8, List.forall_mem_cons.2 ⟨ok41_9, List.forall_mem_cons.2 ⟨ok41_10, List.forall_mem_cons.2 ⟨ok41_11, List.forall_mem_cons.2 ⟨ok41_12, List.forall_mem_cons.2 ⟨ok41_13, List.forall_mem_nil _⟩⟩⟩⟩⟩⟩⟩⟩⟩⟩⟩⟩⟩⟩
end Go.Proofs.YtcponehlpgdmjaaGreatDoor.Cut
