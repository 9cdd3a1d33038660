/-
  PROVED: calls that were run over abstract values, one by one: what each reads, writes, makes and answers. No condition.
-/
import Derived.Test.YtacmamkpecmboaaGreatDoorY1
set_option linter.unusedVariables false
set_option maxRecDepth 1000000
namespace Go.Proofs.YtacmamkpecmboaaGreatDoor.Cut
open Go.X
theorem ok70_0 : entOk Tryz.prog hints S6 5000 60 70 E70_0 = true := by decide +kernel
theorem ok70_1 : entOk Tryz.prog hints S6 5000 60 70 E70_1 = true := by decide +kernel
theorem ok70_2 : entOk Tryz.prog hints S6 5000 60 70 E70_2 = true := by decide +kernel
theorem ok70 : ∀ e, e ∈ E70 → entOk Tryz.prog hints S6 5000 60 70 e = true := List.forall_mem_cons.2 ⟨ok70_0, List.forall_mem_cons.2 ⟨ok70_1, List.forall_mem_cons.2 ⟨ok70_2, List.forall_mem_nil _⟩⟩⟩
theorem ok109_0 : entOk Tryz.prog hints S7 5000 60 109 E109_0 = true := by decide +kernel
theorem ok109_1 : entOk Tryz.prog hints S7 5000 60 109 E109_1 = true := by decide +kernel
theorem ok109 : ∀ e, e ∈ E109 → entOk Tryz.prog hints S7 5000 60 109 e = true := List.forall_mem_cons.2 ⟨ok109_0, List.forall_mem_cons.2 ⟨ok109_1, List.forall_mem_nil _⟩⟩
theorem ok45_0 : entOk Tryz.prog hints S8 5000 60 45 E45_0 = true := by decide +kernel
theorem ok45_1 : entOk Tryz.prog hints S8 5000 60 45 E45_1 = true := by decide +kernel
theorem ok45_2 : entOk Tryz.prog hints S8 5000 60 45 E45_2 = true := by decide +kernel
theorem ok45 : ∀ e, e ∈ E45 → entOk Tryz.prog hints S8 5000 60 45 e = true := List.forall_mem_cons.2 ⟨ok45_0, List.forall_mem_cons.2 ⟨ok45_1, List.forall_mem_cons.2 ⟨ok45_2, List.forall_mem_nil _⟩⟩⟩
theorem ok34_0 : entOk Tryz.prog hints S9 5000 60 34 E34_0 = true := by decide +kernel
theorem ok34_1 : entOk Tryz.prog hints S9 5000 60 34 E34_1 = true := by decide +kernel
theorem ok34_2 : entOk Tryz.prog hints S9 5000 60 34 E34_2 = true := by decide +kernel
theorem ok34_3 : entOk Tryz.prog hints S9 5000 60 34 E34_3 = true := by decide +kernel
theorem ok34 : ∀ e, e ∈ E34 → entOk Tryz.prog hints S9 5000 60 34 e = true := List.forall_mem_cons.2 ⟨ok34_0, List.forall_mem_cons.2 ⟨ok34_1, List.forall_mem_cons.2 ⟨ok34_2, List.forall_mem_cons.2 ⟨ok34_3, List.forall_mem_nil _⟩⟩⟩⟩
end Go.Proofs.YtacmamkpecmboaaGreatDoor.Cut
