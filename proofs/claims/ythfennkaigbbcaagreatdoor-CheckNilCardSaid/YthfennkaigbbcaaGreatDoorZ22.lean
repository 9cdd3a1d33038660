/-
  PROVED: calls that were run over abstract values, one by one: what each reads, writes, makes and answers. No condition.
-/
import Derived.Test.YthfennkaigbbcaaGreatDoorY2
set_option linter.unusedVariables false
set_option maxRecDepth 1000000
namespace Go.Proofs.YthfennkaigbbcaaGreatDoor.Cut
open Go.X
theorem ok23_0 : entOk Tryz.prog hints S67 5000 60 23 E23_0 = true := by decide +kernel
theorem ok23_1 : entOk Tryz.prog hints S67 5000 60 23 E23_1 = true := by decide +kernel
theorem ok23_2 : entOk Tryz.prog hints S67 5000 60 23 E23_2 = true := by decide +kernel
theorem ok23_3 : entOk Tryz.prog hints S67 5000 60 23 E23_3 = true := by decide +kernel
theorem ok23 : ∀ e, e ∈ E23 → entOk Tryz.prog hints S67 5000 60 23 e = true := List.forall_mem_cons.2 ⟨ok23_0, List.forall_mem_cons.2 ⟨ok23_1, List.forall_mem_cons.2 ⟨ok23_2, List.forall_mem_cons.2 ⟨ok23_3, List.forall_mem_nil _⟩⟩⟩⟩
theorem ok24_0 : entOk Tryz.prog hints S68 5000 60 24 E24_0 = true := by decide +kernel
theorem ok24 : ∀ e, e ∈ E24 → entOk Tryz.prog hints S68 5000 60 24 e = true := List.forall_mem_cons.2 ⟨ok24_0, List.forall_mem_nil _⟩
theorem ok11_0 : entOk Tryz.prog hints S69 5000 60 11 E11_0 = true := by decide +kernel
theorem ok11 : ∀ e, e ∈ E11 → entOk Tryz.prog hints S69 5000 60 11 e = true := List.forall_mem_cons.2 ⟨ok11_0, List.forall_mem_nil _⟩
end Go.Proofs.YthfennkaigbbcaaGreatDoor.Cut
