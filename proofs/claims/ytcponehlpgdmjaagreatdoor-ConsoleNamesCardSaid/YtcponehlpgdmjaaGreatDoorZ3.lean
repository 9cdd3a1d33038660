/-
  PROVED: calls that were run over abstract values, one by one: what each reads, writes, makes and answers. No condition.
-/
import Derived.Test.YtcponehlpgdmjaaGreatDoorY0
set_option linter.unusedVariables false
set_option maxRecDepth 1000000
namespace Go.Proofs.YtcponehlpgdmjaaGreatDoor.Cut
open Go.X
theorem ok364_0 : entOk Tryz.prog hints S14 5000 60 364 E364_0 = true := by decide +kernel
theorem ok364_1 : entOk Tryz.prog hints S14 5000 60 364 E364_1 = true := by decide +kernel
theorem ok364_2 : entOk Tryz.prog hints S14 5000 60 364 E364_2 = true := by decide +kernel
theorem ok364_3 : entOk Tryz.prog hints S14 5000 60 364 E364_3 = true := by decide +kernel
theorem ok364_4 : entOk Tryz.prog hints S14 5000 60 364 E364_4 = true := by decide +kernel
theorem ok364_5 : entOk Tryz.prog hints S14 5000 60 364 E364_5 = true := by decide +kernel
theorem ok364_6 : entOk Tryz.prog hints S14 5000 60 364 E364_6 = true := by decide +kernel
theorem ok364_7 : entOk Tryz.prog hints S14 5000 60 364 E364_7 = true := by decide +kernel
theorem ok364 : ∀ e, e ∈ E364 → entOk Tryz.prog hints S14 5000 60 364 e = true := List.forall_mem_cons.2 ⟨ok364_0, List.forall_mem_cons.2 ⟨ok364_1, List.forall_mem_cons.2 ⟨ok364_2, List.forall_mem_cons.2 ⟨ok364_3, List.forall_mem_cons.2 ⟨ok364_4, List.forall_mem_cons.2 ⟨ok364_5, List.forall_mem_cons.2 ⟨ok364_6, List.forall_mem_cons.2 ⟨ok364_7, List.forall_mem_nil _⟩⟩⟩⟩⟩⟩⟩⟩
theorem ok298_0 : entOk Tryz.prog hints S15 5000 60 298 E298_0 = true := by decide +kernel
theorem ok298_1 : entOk Tryz.prog hints S15 5000 60 298 E298_1 = true := by decide +kernel
theorem ok298_2 : entOk Tryz.prog hints S15 5000 60 298 E298_2 = true := by decide +kernel
theorem ok298_3 : entOk Tryz.prog hints S15 5000 60 298 E298_3 = true := by decide +kernel
theorem ok298 : ∀ e, e ∈ E298 → entOk Tryz.prog hints S15 5000 60 298 e = true := List.forall_mem_cons.2 ⟨ok298_0, List.forall_mem_cons.2 ⟨ok298_1, List.forall_mem_cons.2 ⟨ok298_2, List.forall_mem_cons.2 ⟨ok298_3, List.forall_mem_nil _⟩⟩⟩⟩
end Go.Proofs.YtcponehlpgdmjaaGreatDoor.Cut
