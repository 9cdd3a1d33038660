/-
  PROVED: calls that were run over abstract values, one by one: what each reads, writes, makes and answers. No condition.
-/
import Derived.Test.YtccpfaommgclkaaGreatDoorY0
set_option linter.unusedVariables false
set_option maxRecDepth 1000000
namespace Go.Proofs.YtccpfaommgclkaaGreatDoor.Cut
open Go.X
theorem ok54_0 : entOk Tryz.prog hints S3 5000 60 54 E54_0 = true := by decide +kernel
theorem ok54_1 : entOk Tryz.prog hints S3 5000 60 54 E54_1 = true := by decide +kernel
theorem ok54_2 : entOk Tryz.prog hints S3 5000 60 54 E54_2 = true := by decide +kernel
theorem ok54_3 : entOk Tryz.prog hints S3 5000 60 54 E54_3 = true := by decide +kernel
theorem ok54_4 : entOk Tryz.prog hints S3 5000 60 54 E54_4 = true := by decide +kernel
theorem ok54 : ∀ e, e ∈ E54 → entOk Tryz.prog hints S3 5000 60 54 e = true := List.forall_mem_cons.2 ⟨ok54_0, List.forall_mem_cons.2 ⟨ok54_1, List.forall_mem_cons.2 ⟨ok54_2, List.forall_mem_cons.2 ⟨ok54_3, List.forall_mem_cons.2 ⟨ok54_4, List.forall_mem_nil _⟩⟩⟩⟩⟩
theorem ok35_0 : entOk Tryz.prog hints S4 5000 60 35 E35_0 = true := by decide +kernel
theorem ok35 : ∀ e, e ∈ E35 → entOk Tryz.prog hints S4 5000 60 35 e = true := List.forall_mem_cons.2 ⟨ok35_0, List.forall_mem_nil _⟩
theorem ok37_0 : entOk Tryz.prog hints S5 5000 60 37 E37_0 = true := by decide +kernel
theorem ok37_1 : entOk Tryz.prog hints S5 5000 60 37 E37_1 = true := by decide +kernel
theorem ok37_2 : entOk Tryz.prog hints S5 5000 60 37 E37_2 = true := by decide +kernel
theorem ok37_3 : entOk Tryz.prog hints S5 5000 60 37 E37_3 = true := by decide +kernel
theorem ok37_4 : entOk Tryz.prog hints S5 5000 60 37 E37_4 = true := by decide +kernel
theorem ok37_5 : entOk Tryz.prog hints S5 5000 60 37 E37_5 = true := by decide +kernel
theorem ok37_6 : entOk Tryz.prog hints S5 5000 60 37 E37_6 = true := by decide +kernel
theorem ok37 : ∀ e, e ∈ E37 → entOk Tryz.prog hints S5 5000 60 37 e = true := List.forall_mem_cons.2 ⟨ok37_0, List.forall_mem_cons.2 ⟨ok37_1, List.forall_mem_cons.2 ⟨ok37_2, List.forall_mem_cons.2 ⟨ok37_3, List.forall_mem_cons.2 ⟨ok37_4, List.forall_mem_cons.2 ⟨ok37_5, List.forall_mem_cons.2 ⟨ok37_6, List.forall_mem_nil _⟩⟩⟩⟩⟩⟩⟩
end Go.Proofs.YtccpfaommgclkaaGreatDoor.Cut
