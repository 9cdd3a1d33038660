/-
  PROVED: calls that were run over abstract values, one by one: what each reads, writes, makes and answers. No condition.
-/
import Derived.Test.YtcponehlpgdmjaaGreatDoorY0
set_option linter.unusedVariables false
set_option maxRecDepth 1000000
namespace Go.Proofs.YtcponehlpgdmjaaGreatDoor.Cut
open Go.X
theorem ok211_0 : entOk Tryz.prog hints S0 5000 60 211 E211_0 = true := by decide +kernel
theorem ok211_1 : entOk Tryz.prog hints S0 5000 60 211 E211_1 = true := by decide +kernel
theorem ok211 : ∀ e, e ∈ E211 → entOk Tryz.prog hints S0 5000 60 211 e = true := List.forall_mem_cons.2 ⟨ok211_0, List.forall_mem_cons.2 ⟨ok211_1, List.forall_mem_nil _⟩⟩
theorem ok142_0 : entOk Tryz.prog hints S1 5000 60 142 E142_0 = true := by decide +kernel
theorem ok142_1 : entOk Tryz.prog hints S1 5000 60 142 E142_1 = true := by decide +kernel
theorem ok142 : ∀ e, e ∈ E142 → entOk Tryz.prog hints S1 5000 60 142 e = true := List.forall_mem_cons.2 ⟨ok142_0, List.forall_mem_cons.2 ⟨ok142_1, List.forall_mem_nil _⟩⟩
theorem ok85_0 : entOk Tryz.prog hints S2 5000 60 85 E85_0 = true := by decide +kernel
theorem ok85 : ∀ e, e ∈ E85 → entOk Tryz.prog hints S2 5000 60 85 e = true := List.forall_mem_cons.2 ⟨ok85_0, List.forall_mem_nil _⟩
theorem ok167_0 : entOk Tryz.prog hints S3 5000 60 167 E167_0 = true := by decide +kernel
theorem ok167_1 : entOk Tryz.prog hints S3 5000 60 167 E167_1 = true := by decide +kernel
theorem ok167_2 : entOk Tryz.prog hints S3 5000 60 167 E167_2 = true := by decide +kernel
theorem ok167 : ∀ e, e ∈ E167 → entOk Tryz.prog hints S3 5000 60 167 e = true := List.forall_mem_cons.2 ⟨ok167_0, List.forall_mem_cons.2 ⟨ok167_1, List.forall_mem_cons.2 ⟨ok167_2, List.forall_mem_nil _⟩⟩⟩
theorem ok144_0 : entOk Tryz.prog hints S4 5000 60 144 E144_0 = true := by decide +kernel
theorem ok144 : ∀ e, e ∈ E144 → entOk Tryz.prog hints S4 5000 60 144 e = true := List.forall_mem_cons.2 ⟨ok144_0, List.forall_mem_nil _⟩
theorem ok146_0 : entOk Tryz.prog hints S5 5000 60 146 E146_0 = true := by decide +kernel
theorem ok146_1 : entOk Tryz.prog hints S5 5000 60 146 E146_1 = true := by decide +kernel
theorem ok146_2 : entOk Tryz.prog hints S5 5000 60 146 E146_2 = true := by decide +kernel
theorem ok146_3 : entOk Tryz.prog hints S5 5000 60 146 E146_3 = true := by decide +kernel
theorem ok146_4 : entOk Tryz.prog hints S5 5000 60 146 E146_4 = true := by decide +kernel
theorem ok146_5 : entOk Tryz.prog hints S5 5000 60 146 E146_5 = true := by decide +kernel
theorem ok146 : ∀ e, e ∈ E146 → entOk Tryz.prog hints S5 5000 60 146 e = true := List.forall_mem_cons.2 ⟨ok146_0, List.forall_mem_cons.2 ⟨ok146_1, List.forall_mem_cons.2 ⟨ok146_2, List.forall_mem_cons.2 ⟨ok146_3, List.forall_mem_cons.2 ⟨ok146_4, List.forall_mem_cons.2 ⟨ok146_5, List.forall_mem_nil _⟩⟩⟩⟩⟩⟩
end Go.Proofs.YtcponehlpgdmjaaGreatDoor.Cut
