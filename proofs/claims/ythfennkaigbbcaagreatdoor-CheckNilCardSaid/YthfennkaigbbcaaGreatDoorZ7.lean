/-
  PROVED: calls that were run over abstract values, one by one: what each reads, writes, makes and answers. No condition.
-/
import Derived.Test.YthfennkaigbbcaaGreatDoorY2
set_option linter.unusedVariables false
set_option maxRecDepth 1000000
namespace Go.Proofs.YthfennkaigbbcaaGreatDoor.Cut
open Go.X
theorem ok210_0 : entOk Tryz.prog hints S8 5000 60 210 E210_0 = true := by decide +kernel
theorem ok210_1 : entOk Tryz.prog hints S8 5000 60 210 E210_1 = true := by decide +kernel
theorem ok210_2 : entOk Tryz.prog hints S8 5000 60 210 E210_2 = true := by decide +kernel
theorem ok210_3 : entOk Tryz.prog hints S8 5000 60 210 E210_3 = true := by decide +kernel
theorem ok210_4 : entOk Tryz.prog hints S8 5000 60 210 E210_4 = true := by decide +kernel
theorem ok210_5 : entOk Tryz.prog hints S8 5000 60 210 E210_5 = true := by decide +kernel
theorem ok210 : ∀ e, e ∈ E210 → entOk Tryz.prog hints S8 5000 60 210 e = true := List.forall_mem_cons.2 ⟨ok210_0, List.forall_mem_cons.2 ⟨ok210_1, List.forall_mem_cons.2 ⟨ok210_2, List.forall_mem_cons.2 ⟨ok210_3, List.forall_mem_cons.2 ⟨ok210_4, List.forall_mem_cons.2 ⟨ok210_5, List.forall_mem_nil _⟩⟩⟩⟩⟩⟩
theorem ok150_0 : entOk Tryz.prog hints S9 5000 60 150 E150_0 = true := by decide +kernel
theorem ok150_1 : entOk Tryz.prog hints S9 5000 60 150 E150_1 = true := by decide +kernel
theorem ok150_2 : entOk Tryz.prog hints S9 5000 60 150 E150_2 = true := by decide +kernel
theorem ok150_3 : entOk Tryz.prog hints S9 5000 60 150 E150_3 = true := by decide +kernel
theorem ok150_4 : entOk Tryz.prog hints S9 5000 60 150 E150_4 = true := by decide +kernel
theorem ok150_5 : entOk Tryz.prog hints S9 5000 60 150 E150_5 = true := by decide +kernel
theorem ok150 : ∀ e, e ∈ E150 → entOk Tryz.prog hints S9 5000 60 150 e = true := List.forall_mem_cons.2 ⟨ok150_0, List.forall_mem_cons.2 ⟨ok150_1, List.forall_mem_cons.2 ⟨ok150_2, List.forall_mem_cons.2 ⟨ok150_3, List.forall_mem_cons.2 ⟨ok150_4, List.forall_mem_cons.2 ⟨ok150_5, List.forall_mem_nil _⟩⟩⟩⟩⟩⟩
end Go.Proofs.YthfennkaigbbcaaGreatDoor.Cut
