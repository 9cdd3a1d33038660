/-
  PROVED: calls that were run over abstract values, one by one: what each reads, writes, makes and answers. No condition.
-/
import Derived.Test.YthfennkaigbbcaaGreatDoorY2
set_option linter.unusedVariables false
set_option maxRecDepth 1000000
namespace Go.Proofs.YthfennkaigbbcaaGreatDoor.Cut
open Go.X
theorem ok241_0 : entOk Tryz.prog hints S46 5000 60 241 E241_0 = true := by decide +kernel
theorem ok241_1 : entOk Tryz.prog hints S46 5000 60 241 E241_1 = true := by decide +kernel
theorem ok241 : ∀ e, e ∈ E241 → entOk Tryz.prog hints S46 5000 60 241 e = true := List.forall_mem_cons.2 ⟨ok241_0, List.forall_mem_cons.2 ⟨ok241_1, List.forall_mem_nil _⟩⟩
theorem ok191_0 : entOk Tryz.prog hints S47 5000 60 191 E191_0 = true := by decide +kernel
theorem ok191_1 : entOk Tryz.prog hints S47 5000 60 191 E191_1 = true := by decide +kernel
theorem ok191 : ∀ e, e ∈ E191 → entOk Tryz.prog hints S47 5000 60 191 e = true := List.forall_mem_cons.2 ⟨ok191_0, List.forall_mem_cons.2 ⟨ok191_1, List.forall_mem_nil _⟩⟩
theorem ok124_0 : entOk Tryz.prog hints S48 5000 60 124 E124_0 = true := by decide +kernel
theorem ok124_1 : entOk Tryz.prog hints S48 5000 60 124 E124_1 = true := by decide +kernel
theorem ok124 : ∀ e, e ∈ E124 → entOk Tryz.prog hints S48 5000 60 124 e = true := List.forall_mem_cons.2 ⟨ok124_0, List.forall_mem_cons.2 ⟨ok124_1, List.forall_mem_nil _⟩⟩
theorem ok79_0 : entOk Tryz.prog hints S49 5000 60 79 E79_0 = true := by decide +kernel
theorem ok79_1 : entOk Tryz.prog hints S49 5000 60 79 E79_1 = true := by decide +kernel
theorem ok79 : ∀ e, e ∈ E79 → entOk Tryz.prog hints S49 5000 60 79 e = true := List.forall_mem_cons.2 ⟨ok79_0, List.forall_mem_cons.2 ⟨ok79_1, List.forall_mem_nil _⟩⟩
theorem ok39_0 : entOk Tryz.prog hints S50 5000 60 39 E39_0 = true := by decide +kernel
theorem ok39_1 : entOk Tryz.prog hints S50 5000 60 39 E39_1 = true := by decide +kernel
theorem ok39 : ∀ e, e ∈ E39 → entOk Tryz.prog hints S50 5000 60 39 e = true := List.forall_mem_cons.2 ⟨ok39_0, List.forall_mem_cons.2 ⟨ok39_1, List.forall_mem_nil _⟩⟩
end Go.Proofs.YthfennkaigbbcaaGreatDoor.Cut
