/-
  PROVED: calls that were run over abstract values, one by one: what each reads, writes, makes and answers. No condition.
-/
import Derived.Test.YtcponehlpgdmjaaGreatDoorY0
set_option linter.unusedVariables false
set_option maxRecDepth 1000000
namespace Go.Proofs.YtcponehlpgdmjaaGreatDoor.Cut
open Go.X
theorem ok153_0 : entOk Tryz.prog hints S22 5000 60 153 E153_0 = true := by decide +kernel
theorem ok153 : ∀ e, e ∈ E153 → entOk Tryz.prog hints S22 5000 60 153 e = true := List.forall_mem_cons.2 ⟨ok153_0, List.forall_mem_nil _⟩
theorem ok303_0 : entOk Tryz.prog hints S23 5000 60 303 E303_0 = true := by decide +kernel
theorem ok303_1 : entOk Tryz.prog hints S23 5000 60 303 E303_1 = true := by decide +kernel
theorem ok303_2 : entOk Tryz.prog hints S23 5000 60 303 E303_2 = true := by decide +kernel
theorem ok303_3 : entOk Tryz.prog hints S23 5000 60 303 E303_3 = true := by decide +kernel
theorem ok303_4 : entOk Tryz.prog hints S23 5000 60 303 E303_4 = true := by decide +kernel
theorem ok303_5 : entOk Tryz.prog hints S23 5000 60 303 E303_5 = true := by decide +kernel
theorem ok303_6 : entOk Tryz.prog hints S23 5000 60 303 E303_6 = true := by decide +kernel
theorem ok303 : ∀ e, e ∈ E303 → entOk Tryz.prog hints S23 5000 60 303 e = true := List.forall_mem_cons.2 ⟨ok303_0, List.forall_mem_cons.2 ⟨ok303_1, List.forall_mem_cons.2 ⟨ok303_2, List.forall_mem_cons.2 ⟨ok303_3, List.forall_mem_cons.2 ⟨ok303_4, List.forall_mem_cons.2 ⟨ok303_5, List.forall_mem_cons.2 ⟨ok303_6, List.forall_mem_nil _⟩⟩⟩⟩⟩⟩⟩
theorem ok217_0 : entOk Tryz.prog hints S24 5000 60 217 E217_0 = true := by decide +kernel
theorem ok217_1 : entOk Tryz.prog hints S24 5000 60 217 E217_1 = true := by decide +kernel
theorem ok217_2 : entOk Tryz.prog hints S24 5000 60 217 E217_2 = true := by decide +kernel
theorem ok217_3 : entOk Tryz.prog hints S24 5000 60 217 E217_3 = true := by decide +kernel
theorem ok217_4 : entOk Tryz.prog hints S24 5000 60 217 E217_4 = true := by decide +kernel
theorem ok217_5 : entOk Tryz.prog hints S24 5000 60 217 E217_5 = true := by decide +kernel
theorem ok217_6 : entOk Tryz.prog hints S24 5000 60 217 E217_6 = true := by decide +kernel
theorem ok217 : ∀ e, e ∈ E217 → entOk Tryz.prog hints S24 5000 60 217 e = true := List.forall_mem_cons.2 ⟨ok217_0, List.forall_mem_cons.2 ⟨ok217_1, List.forall_mem_cons.2 ⟨ok217_2, List.forall_mem_cons.2 ⟨ok217_3, List.forall_mem_cons.2 ⟨ok217_4, List.forall_mem_cons.2 ⟨ok217_5, List.forall_mem_cons.2 ⟨ok217_6, List.forall_mem_nil _⟩⟩⟩⟩⟩⟩⟩
end Go.Proofs.YtcponehlpgdmjaaGreatDoor.Cut
