/-
  PROVED: calls that were run over abstract values, one by one: what each reads, writes, makes and answers. No condition.
-/
import Derived.Test.YtcponehlpgdmjaaGreatDoorY0
set_option linter.unusedVariables false
set_option maxRecDepth 1000000
namespace Go.Proofs.YtcponehlpgdmjaaGreatDoor.Cut
open Go.X
theorem ok148_0 : entOk Tryz.prog hints S6 5000 60 148 E148_0 = true := by decide +kernel
theorem ok148_1 : entOk Tryz.prog hints S6 5000 60 148 E148_1 = true := by decide +kernel
theorem ok148_2 : entOk Tryz.prog hints S6 5000 60 148 E148_2 = true := by decide +kernel
theorem ok148_3 : entOk Tryz.prog hints S6 5000 60 148 E148_3 = true := by decide +kernel
theorem ok148_4 : entOk Tryz.prog hints S6 5000 60 148 E148_4 = true := by decide +kernel
theorem ok148 : ∀ e, e ∈ E148 → entOk Tryz.prog hints S6 5000 60 148 e = true := List.forall_mem_cons.2 ⟨ok148_0, List.forall_mem_cons.2 ⟨ok148_1, List.forall_mem_cons.2 ⟨ok148_2, List.forall_mem_cons.2 ⟨ok148_3, List.forall_mem_cons.2 ⟨ok148_4, List.forall_mem_nil _⟩⟩⟩⟩⟩
theorem ok353_0 : entOk Tryz.prog hints S7 5000 60 353 E353_0 = true := by decide +kernel
theorem ok353_1 : entOk Tryz.prog hints S7 5000 60 353 E353_1 = true := by decide +kernel
theorem ok353 : ∀ e, e ∈ E353 → entOk Tryz.prog hints S7 5000 60 353 e = true := List.forall_mem_cons.2 ⟨ok353_0, List.forall_mem_cons.2 ⟨ok353_1, List.forall_mem_nil _⟩⟩
theorem ok123_0 : entOk Tryz.prog hints S8 5000 60 123 E123_0 = true := by decide +kernel
theorem ok123_1 : entOk Tryz.prog hints S8 5000 60 123 E123_1 = true := by decide +kernel
theorem ok123 : ∀ e, e ∈ E123 → entOk Tryz.prog hints S8 5000 60 123 e = true := List.forall_mem_cons.2 ⟨ok123_0, List.forall_mem_cons.2 ⟨ok123_1, List.forall_mem_nil _⟩⟩
theorem ok201_0 : entOk Tryz.prog hints S9 5000 60 201 E201_0 = true := by decide +kernel
theorem ok201_1 : entOk Tryz.prog hints S9 5000 60 201 E201_1 = true := by decide +kernel
theorem ok201 : ∀ e, e ∈ E201 → entOk Tryz.prog hints S9 5000 60 201 e = true := List.forall_mem_cons.2 ⟨ok201_0, List.forall_mem_cons.2 ⟨ok201_1, List.forall_mem_nil _⟩⟩
end Go.Proofs.YtcponehlpgdmjaaGreatDoor.Cut
