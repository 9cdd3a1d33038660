/-
  PROVED: calls that were run over abstract values, one by one: what each reads, writes, makes and answers. No condition.
-/
import Derived.Test.YtccpfaommgclkaaGreatDoorY0
set_option linter.unusedVariables false
set_option maxRecDepth 1000000
namespace Go.Proofs.YtccpfaommgclkaaGreatDoor.Cut
open Go.X
theorem ok140_0 : entOk Tryz.prog hints S30 5000 60 140 E140_0 = true := by decide +kernel
theorem ok140_1 : entOk Tryz.prog hints S30 5000 60 140 E140_1 = true := by decide +kernel
theorem ok140_2 : entOk Tryz.prog hints S30 5000 60 140 E140_2 = true := by decide +kernel
theorem ok140_3 : entOk Tryz.prog hints S30 5000 60 140 E140_3 = true := by decide +kernel
theorem ok140_4 : entOk Tryz.prog hints S30 5000 60 140 E140_4 = true := by decide +kernel
theorem ok140_5 : entOk Tryz.prog hints S30 5000 60 140 E140_5 = true := by decide +kernel
theorem ok140_6 : entOk Tryz.prog hints S30 5000 60 140 E140_6 = true := by decide +kernel
theorem ok140 : ∀ e, e ∈ E140 → entOk Tryz.prog hints S30 5000 60 140 e = true := List.forall_mem_cons.2 ⟨ok140_0, List.forall_mem_cons.2 ⟨ok140_1, List.forall_mem_cons.2 ⟨ok140_2, List.forall_mem_cons.2 ⟨ok140_3, List.forall_mem_cons.2 ⟨ok140_4, List.forall_mem_cons.2 ⟨ok140_5, List.forall_mem_cons.2 ⟨ok140_6, List.forall_mem_nil _⟩⟩⟩⟩⟩⟩⟩
theorem ok87_0 : entOk Tryz.prog hints S31 5000 60 87 E87_0 = true := by decide +kernel
theorem ok87_1 : entOk Tryz.prog hints S31 5000 60 87 E87_1 = true := by decide +kernel
theorem ok87_2 : entOk Tryz.prog hints S31 5000 60 87 E87_2 = true := by decide +kernel
theorem ok87_3 : entOk Tryz.prog hints S31 5000 60 87 E87_3 = true := by decide +kernel
theorem ok87_4 : entOk Tryz.prog hints S31 5000 60 87 E87_4 = true := by decide +kernel
theorem ok87_5 : entOk Tryz.prog hints S31 5000 60 87 E87_5 = true := by decide +kernel
theorem ok87_6 : entOk Tryz.prog hints S31 5000 60 87 E87_6 = true := by decide +kernel
theorem ok87 : ∀ e, e ∈ E87 → entOk Tryz.prog hints S31 5000 60 87 e = true := List.forall_mem_cons.2 ⟨ok87_0, List.forall_mem_cons.2 ⟨ok87_1, List.forall_mem_cons.2 ⟨ok87_2, List.forall_mem_cons.2 ⟨ok87_3, List.forall_mem_cons.2 ⟨ok87_4, List.forall_mem_cons.2 ⟨ok87_5, List.forall_mem_cons.2 ⟨ok87_6, List.forall_mem_nil _⟩⟩⟩⟩⟩⟩⟩
end Go.Proofs.YtccpfaommgclkaaGreatDoor.Cut
