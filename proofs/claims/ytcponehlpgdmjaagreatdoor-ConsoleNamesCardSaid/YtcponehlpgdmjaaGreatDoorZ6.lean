/-
  PROVED: calls that were run over abstract values, one by one: what each reads, writes, makes and answers. No condition.
-/
import Derived.Test.YtcponehlpgdmjaaGreatDoorY0
set_option linter.unusedVariables false
set_option maxRecDepth 1000000
namespace Go.Proofs.YtcponehlpgdmjaaGreatDoor.Cut
open Go.X
theorem ok154_0 : entOk Tryz.prog hints S25 5000 60 154 E154_0 = true := by decide +kernel
theorem ok154_1 : entOk Tryz.prog hints S25 5000 60 154 E154_1 = true := by decide +kernel
theorem ok154_2 : entOk Tryz.prog hints S25 5000 60 154 E154_2 = true := by decide +kernel
theorem ok154_3 : entOk Tryz.prog hints S25 5000 60 154 E154_3 = true := by decide +kernel
theorem ok154_4 : entOk Tryz.prog hints S25 5000 60 154 E154_4 = true := by decide +kernel
theorem ok154_5 : entOk Tryz.prog hints S25 5000 60 154 E154_5 = true := by decide +kernel
theorem ok154 : ∀ e, e ∈ E154 → entOk Tryz.prog hints S25 5000 60 154 e = true := List.forall_mem_cons.2 ⟨ok154_0, List.forall_mem_cons.2 ⟨ok154_1, List.forall_mem_cons.2 ⟨ok154_2, List.forall_mem_cons.2 ⟨ok154_3, List.forall_mem_cons.2 ⟨ok154_4, List.forall_mem_cons.2 ⟨ok154_5, List.forall_mem_nil _⟩⟩⟩⟩⟩⟩
theorem ok88_0 : entOk Tryz.prog hints S26 5000 60 88 E88_0 = true := by decide +kernel
theorem ok88 : ∀ e, e ∈ E88 → entOk Tryz.prog hints S26 5000 60 88 e = true := List.forall_mem_cons.2 ⟨ok88_0, List.forall_mem_nil _⟩
theorem ok156_0 : entOk Tryz.prog hints S27 5000 60 156 E156_0 = true := by decide +kernel
theorem ok156 : ∀ e, e ∈ E156 → entOk Tryz.prog hints S27 5000 60 156 e = true := List.forall_mem_cons.2 ⟨ok156_0, List.forall_mem_nil _⟩
theorem ok157_0 : entOk Tryz.prog hints S28 5000 60 157 E157_0 = true := by decide +kernel
theorem ok157 : ∀ e, e ∈ E157 → entOk Tryz.prog hints S28 5000 60 157 e = true := List.forall_mem_cons.2 ⟨ok157_0, List.forall_mem_nil _⟩
theorem ok89_0 : entOk Tryz.prog hints S29 5000 60 89 E89_0 = true := by decide +kernel
theorem ok89 : ∀ e, e ∈ E89 → entOk Tryz.prog hints S29 5000 60 89 e = true := List.forall_mem_cons.2 ⟨ok89_0, List.forall_mem_nil _⟩
end Go.Proofs.YtcponehlpgdmjaaGreatDoor.Cut
