/-
  PROVED: calls that were run over abstract values, one by one: what each reads, writes, makes and answers. No condition.
-/
import Derived.Test.YtccpfaommgclkaaGreatDoorY0
set_option linter.unusedVariables false
set_option maxRecDepth 1000000
namespace Go.Proofs.YtccpfaommgclkaaGreatDoor.Cut
open Go.X
theorem ok78_0 : entOk Tryz.prog hints S22 5000 60 78 E78_0 = true := by decide +kernel
theorem ok78_1 : entOk Tryz.prog hints S22 5000 60 78 E78_1 = true := by decide +kernel
theorem ok78_2 : entOk Tryz.prog hints S22 5000 60 78 E78_2 = true := by decide +kernel
theorem ok78_3 : entOk Tryz.prog hints S22 5000 60 78 E78_3 = true := by decide +kernel
theorem ok78_4 : entOk Tryz.prog hints S22 5000 60 78 E78_4 = true := by decide +kernel
theorem ok78_5 : entOk Tryz.prog hints S22 5000 60 78 E78_5 = true := by decide +kernel
theorem ok78_6 : entOk Tryz.prog hints S22 5000 60 78 E78_6 = true := by decide +kernel
theorem ok78 : ∀ e, e ∈ E78 → entOk Tryz.prog hints S22 5000 60 78 e = true := List.forall_mem_cons.2 ⟨ok78_0, List.forall_mem_cons.2 ⟨ok78_1, List.forall_mem_cons.2 ⟨ok78_2, List.forall_mem_cons.2 ⟨ok78_3, List.forall_mem_cons.2 ⟨ok78_4, List.forall_mem_cons.2 ⟨ok78_5, List.forall_mem_cons.2 ⟨ok78_6, List.forall_mem_nil _⟩⟩⟩⟩⟩⟩⟩
theorem ok45_0 : entOk Tryz.prog hints S23 5000 60 45 E45_0 = true := by decide +kernel
theorem ok45_1 : entOk Tryz.prog hints S23 5000 60 45 E45_1 = true := by decide +kernel
theorem ok45_2 : entOk Tryz.prog hints S23 5000 60 45 E45_2 = true := by decide +kernel
theorem ok45_3 : entOk Tryz.prog hints S23 5000 60 45 E45_3 = true := by decide +kernel
theorem ok45_4 : entOk Tryz.prog hints S23 5000 60 45 E45_4 = true := by decide +kernel
theorem ok45_5 : entOk Tryz.prog hints S23 5000 60 45 E45_5 = true := by decide +kernel
theorem ok45 : ∀ e, e ∈ E45 → entOk Tryz.prog hints S23 5000 60 45 e = true := List.forall_mem_cons.2 ⟨ok45_0, List.forall_mem_cons.2 ⟨ok45_1, List.forall_mem_cons.2 ⟨ok45_2, List.forall_mem_cons.2 ⟨ok45_3, List.forall_mem_cons.2 ⟨ok45_4, List.forall_mem_cons.2 ⟨ok45_5, List.forall_mem_nil _⟩⟩⟩⟩⟩⟩
end Go.Proofs.YtccpfaommgclkaaGreatDoor.Cut
