/-
  PROVED: calls that were run over abstract values, one by one: what each reads, writes, makes and answers. No condition.
-/
import Derived.Test.YthfennkaigbbcaaGreatDoorY2
set_option linter.unusedVariables false
set_option maxRecDepth 1000000
namespace Go.Proofs.YthfennkaigbbcaaGreatDoor.Cut
open Go.X
theorem ok19_0 : entOk Tryz.prog hints S51 5000 60 19 E19_0 = true := by decide +kernel
theorem ok19 : ∀ e, e ∈ E19 → entOk Tryz.prog hints S51 5000 60 19 e = true := List.forall_mem_cons.2 ⟨ok19_0, List.forall_mem_nil _⟩
theorem ok10_0 : entOk Tryz.prog hints S52 5000 60 10 E10_0 = true := by decide +kernel
theorem ok10 : ∀ e, e ∈ E10 → entOk Tryz.prog hints S52 5000 60 10 e = true := List.forall_mem_cons.2 ⟨ok10_0, List.forall_mem_nil _⟩
theorem ok82_0 : entOk Tryz.prog hints S53 5000 60 82 E82_0 = true := by decide +kernel
theorem ok82_1 : entOk Tryz.prog hints S53 5000 60 82 E82_1 = true := by decide +kernel
theorem ok82 : ∀ e, e ∈ E82 → entOk Tryz.prog hints S53 5000 60 82 e = true := List.forall_mem_cons.2 ⟨ok82_0, List.forall_mem_cons.2 ⟨ok82_1, List.forall_mem_nil _⟩⟩
theorem ok43_0 : entOk Tryz.prog hints S54 5000 60 43 E43_0 = true := by decide +kernel
theorem ok43_1 : entOk Tryz.prog hints S54 5000 60 43 E43_1 = true := by decide +kernel
theorem ok43 : ∀ e, e ∈ E43 → entOk Tryz.prog hints S54 5000 60 43 e = true := List.forall_mem_cons.2 ⟨ok43_0, List.forall_mem_cons.2 ⟨ok43_1, List.forall_mem_nil _⟩⟩
theorem ok133_0 : entOk Tryz.prog hints S55 5000 60 133 E133_0 = true := by decide +kernel
theorem ok133_1 : entOk Tryz.prog hints S55 5000 60 133 E133_1 = true := by decide +kernel
theorem ok133_2 : entOk Tryz.prog hints S55 5000 60 133 E133_2 = true := by decide +kernel
theorem ok133 : ∀ e, e ∈ E133 → entOk Tryz.prog hints S55 5000 60 133 e = true := List.forall_mem_cons.2 ⟨ok133_0, List.forall_mem_cons.2 ⟨ok133_1, List.forall_mem_cons.2 ⟨ok133_2, List.forall_mem_nil _⟩⟩⟩
theorem ok85_0 : entOk Tryz.prog hints S56 5000 60 85 E85_0 = true := by decide +kernel
theorem ok85_1 : entOk Tryz.prog hints S56 5000 60 85 E85_1 = true := by decide +kernel
theorem ok85_2 : entOk Tryz.prog hints S56 5000 60 85 E85_2 = true := by decide +kernel
theorem ok85 : ∀ e, e ∈ E85 → entOk Tryz.prog hints S56 5000 60 85 e = true := List.forall_mem_cons.2 ⟨ok85_0, List.forall_mem_cons.2 ⟨ok85_1, List.forall_mem_cons.2 ⟨ok85_2, List.forall_mem_nil _⟩⟩⟩
end Go.Proofs.YthfennkaigbbcaaGreatDoor.Cut
