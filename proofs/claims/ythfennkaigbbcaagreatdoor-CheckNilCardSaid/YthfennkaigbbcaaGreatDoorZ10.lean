/-
  PROVED: calls that were run over abstract values, one by one: what each reads, writes, makes and answers. No condition.
-/
import Derived.Test.YthfennkaigbbcaaGreatDoorY2
set_option linter.unusedVariables false
set_option maxRecDepth 1000000
namespace Go.Proofs.YthfennkaigbbcaaGreatDoor.Cut
open Go.X
theorem ok100_0 : entOk Tryz.prog hints S14 5000 60 100 E100_0 = true := by decide +kernel
theorem ok100_1 : entOk Tryz.prog hints S14 5000 60 100 E100_1 = true := by decide +kernel
theorem ok100 : ∀ e, e ∈ E100 → entOk Tryz.prog hints S14 5000 60 100 e = true := List.forall_mem_cons.2 ⟨ok100_0, List.forall_mem_cons.2 ⟨ok100_1, List.forall_mem_nil _⟩⟩
theorem ok54_0 : entOk Tryz.prog hints S15 5000 60 54 E54_0 = true := by decide +kernel
theorem ok54_1 : entOk Tryz.prog hints S15 5000 60 54 E54_1 = true := by decide +kernel
theorem ok54_2 : entOk Tryz.prog hints S15 5000 60 54 E54_2 = true := by decide +kernel
theorem ok54_3 : entOk Tryz.prog hints S15 5000 60 54 E54_3 = true := by decide +kernel
theorem ok54_4 : entOk Tryz.prog hints S15 5000 60 54 E54_4 = true := by decide +kernel
theorem ok54_5 : entOk Tryz.prog hints S15 5000 60 54 E54_5 = true := by decide +kernel
theorem ok54 : ∀ e, e ∈ E54 → entOk Tryz.prog hints S15 5000 60 54 e = true := List.forall_mem_cons.2 ⟨ok54_0, List.forall_mem_cons.2 ⟨ok54_1, List.forall_mem_cons.2 ⟨ok54_2, List.forall_mem_cons.2 ⟨ok54_3, List.forall_mem_cons.2 ⟨ok54_4, List.forall_mem_cons.2 ⟨ok54_5, List.forall_mem_nil _⟩⟩⟩⟩⟩⟩
theorem ok102_0 : entOk Tryz.prog hints S16 5000 60 102 E102_0 = true := by decide +kernel
theorem ok102_1 : entOk Tryz.prog hints S16 5000 60 102 E102_1 = true := by decide +kernel
theorem ok102_2 : entOk Tryz.prog hints S16 5000 60 102 E102_2 = true := by decide +kernel
theorem ok102 : ∀ e, e ∈ E102 → entOk Tryz.prog hints S16 5000 60 102 e = true := List.forall_mem_cons.2 ⟨ok102_0, List.forall_mem_cons.2 ⟨ok102_1, List.forall_mem_cons.2 ⟨ok102_2, List.forall_mem_nil _⟩⟩⟩
end Go.Proofs.YthfennkaigbbcaaGreatDoor.Cut
