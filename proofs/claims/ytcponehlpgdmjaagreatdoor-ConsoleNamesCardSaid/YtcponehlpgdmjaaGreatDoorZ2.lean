/-
  PROVED: calls that were run over abstract values, one by one: what each reads, writes, makes and answers. No condition.
-/
import Derived.Test.YtcponehlpgdmjaaGreatDoorY0
set_option linter.unusedVariables false
set_option maxRecDepth 1000000
namespace Go.Proofs.YtcponehlpgdmjaaGreatDoor.Cut
open Go.X
theorem ok135_0 : entOk Tryz.prog hints S10 5000 60 135 E135_0 = true := by decide +kernel
theorem ok135_1 : entOk Tryz.prog hints S10 5000 60 135 E135_1 = true := by decide +kernel
theorem ok135 : ∀ e, e ∈ E135 → entOk Tryz.prog hints S10 5000 60 135 e = true := List.forall_mem_cons.2 ⟨ok135_0, List.forall_mem_cons.2 ⟨ok135_1, List.forall_mem_nil _⟩⟩
theorem ok75_0 : entOk Tryz.prog hints S11 5000 60 75 E75_0 = true := by decide +kernel
theorem ok75_1 : entOk Tryz.prog hints S11 5000 60 75 E75_1 = true := by decide +kernel
theorem ok75 : ∀ e, e ∈ E75 → entOk Tryz.prog hints S11 5000 60 75 e = true := List.forall_mem_cons.2 ⟨ok75_0, List.forall_mem_cons.2 ⟨ok75_1, List.forall_mem_nil _⟩⟩
theorem ok293_0 : entOk Tryz.prog hints S12 5000 60 293 E293_0 = true := by decide +kernel
theorem ok293_1 : entOk Tryz.prog hints S12 5000 60 293 E293_1 = true := by decide +kernel
theorem ok293 : ∀ e, e ∈ E293 → entOk Tryz.prog hints S12 5000 60 293 e = true := List.forall_mem_cons.2 ⟨ok293_0, List.forall_mem_cons.2 ⟨ok293_1, List.forall_mem_nil _⟩⟩
theorem ok388_0 : entOk Tryz.prog hints S13 5000 60 388 E388_0 = true := by decide +kernel
theorem ok388_1 : entOk Tryz.prog hints S13 5000 60 388 E388_1 = true := by decide +kernel
theorem ok388_2 : entOk Tryz.prog hints S13 5000 60 388 E388_2 = true := by decide +kernel
theorem ok388_3 : entOk Tryz.prog hints S13 5000 60 388 E388_3 = true := by decide +kernel
theorem ok388_4 : entOk Tryz.prog hints S13 5000 60 388 E388_4 = true := by decide +kernel
theorem ok388_5 : entOk Tryz.prog hints S13 5000 60 388 E388_5 = true := by decide +kernel
theorem ok388_6 : entOk Tryz.prog hints S13 5000 60 388 E388_6 = true := by decide +kernel
theorem ok388_7 : entOk Tryz.prog hints S13 5000 60 388 E388_7 = true := by decide +kernel
theorem ok388 : ∀ e, e ∈ E388 → entOk Tryz.prog hints S13 5000 60 388 e = true := List.forall_mem_cons.2 ⟨ok388_0, List.forall_mem_cons.2 ⟨ok388_1, List.forall_mem_cons.2 ⟨ok388_2, List.forall_mem_cons.2 ⟨ok388_3, List.forall_mem_cons.2 ⟨ok388_4, List.forall_mem_cons.2 ⟨ok388_5, List.forall_mem_cons.2 ⟨ok388_6, List.forall_mem_cons.2 ⟨ok388_7, List.forall_mem_nil _⟩⟩⟩⟩⟩⟩⟩⟩
end Go.Proofs.YtcponehlpgdmjaaGreatDoor.Cut
