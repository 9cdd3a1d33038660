/-
  PROVED: calls that were run over abstract values, one by one: what each reads, writes, makes and answers. No condition.
-/
import Derived.Test.YtccpfaommgclkaaGreatDoorY0
set_option linter.unusedVariables false
set_option maxRecDepth 1000000
namespace Go.Proofs.YtccpfaommgclkaaGreatDoor.Cut
open Go.X
theorem ok19_0 : entOk Tryz.prog hints S24 5000 60 19 E19_0 = true := by decide +kernel
theorem ok19 : ∀ e, e ∈ E19 → entOk Tryz.prog hints S24 5000 60 19 e = true := List.forall_mem_cons.2 ⟨ok19_0, List.forall_mem_nil _⟩
theorem ok48_0 : entOk Tryz.prog hints S25 5000 60 48 E48_0 = true := by decide +kernel
theorem ok48_1 : entOk Tryz.prog hints S25 5000 60 48 E48_1 = true := by decide +kernel
theorem ok48 : ∀ e, e ∈ E48 → entOk Tryz.prog hints S25 5000 60 48 e = true := List.forall_mem_cons.2 ⟨ok48_0, List.forall_mem_cons.2 ⟨ok48_1, List.forall_mem_nil _⟩⟩
theorem ok47_0 : entOk Tryz.prog hints S26 5000 60 47 E47_0 = true := by decide +kernel
theorem ok47_1 : entOk Tryz.prog hints S26 5000 60 47 E47_1 = true := by decide +kernel
theorem ok47 : ∀ e, e ∈ E47 → entOk Tryz.prog hints S26 5000 60 47 e = true := List.forall_mem_cons.2 ⟨ok47_0, List.forall_mem_cons.2 ⟨ok47_1, List.forall_mem_nil _⟩⟩
theorem ok20_0 : entOk Tryz.prog hints S27 5000 60 20 E20_0 = true := by decide +kernel
theorem ok20_1 : entOk Tryz.prog hints S27 5000 60 20 E20_1 = true := by decide +kernel
theorem ok20 : ∀ e, e ∈ E20 → entOk Tryz.prog hints S27 5000 60 20 e = true := List.forall_mem_cons.2 ⟨ok20_0, List.forall_mem_cons.2 ⟨ok20_1, List.forall_mem_nil _⟩⟩
theorem ok7_0 : entOk Tryz.prog hints S28 5000 60 7 E7_0 = true := by decide +kernel
theorem ok7 : ∀ e, e ∈ E7 → entOk Tryz.prog hints S28 5000 60 7 e = true := List.forall_mem_cons.2 ⟨ok7_0, List.forall_mem_nil _⟩
theorem ok86_0 : entOk Tryz.prog hints S29 5000 60 86 E86_0 = true := by decide +kernel
theorem ok86_1 : entOk Tryz.prog hints S29 5000 60 86 E86_1 = true := by decide +kernel
theorem ok86_2 : entOk Tryz.prog hints S29 5000 60 86 E86_2 = true := by decide +kernel
theorem ok86_3 : entOk Tryz.prog hints S29 5000 60 86 E86_3 = true := by decide +kernel
theorem ok86_4 : entOk Tryz.prog hints S29 5000 60 86 E86_4 = true := by decide +kernel
theorem ok86_5 : entOk Tryz.prog hints S29 5000 60 86 E86_5 = true := by decide +kernel
theorem ok86_6 : entOk Tryz.prog hints S29 5000 60 86 E86_6 = true := by decide +kernel
theorem ok86 : ∀ e, e ∈ E86 → entOk Tryz.prog hints S29 5000 60 86 e = true := List.forall_mem_cons.2 ⟨ok86_0, List.forall_mem_cons.2 ⟨ok86_1, List.forall_mem_cons.2 ⟨ok86_2, List.forall_mem_cons.2 ⟨ok86_3, List.forall_mem_cons.2 ⟨ok86_4, List.forall_mem_cons.2 ⟨ok86_5, List.forall_mem_cons.2 ⟨ok86_6, List.forall_mem_nil _⟩⟩⟩⟩⟩⟩⟩
end Go.Proofs.YtccpfaommgclkaaGreatDoor.Cut
