/-
  PROVED: calls that were run over abstract values, one by one: what each reads, writes, makes and answers. No condition.
-/
import Derived.Test.YthfennkaigbbcaaGreatDoorY2
set_option linter.unusedVariables false
set_option maxRecDepth 1000000
namespace Go.Proofs.YthfennkaigbbcaaGreatDoor.Cut
open Go.X
theorem ok161_0 : entOk Tryz.prog hints S13 5000 60 161 E161_0 = true := by decide +kernel
theorem ok161_1 : entOk Tryz.prog hints S13 5000 60 161 E161_1 = true := by decide +kernel
theorem ok161_2 : entOk Tryz.prog hints S13 5000 60 161 E161_2 = true := by decide +kernel
theorem ok161_3 : entOk Tryz.prog hints S13 5000 60 161 E161_3 = true := by decide +kernel
theorem ok161_4 : entOk Tryz.prog hints S13 5000 60 161 E161_4 = true := by decide +kernel
theorem ok161_5 : entOk Tryz.prog hints S13 5000 60 161 E161_5 = true := by decide +kernel
theorem ok161_6 : entOk Tryz.prog hints S13 5000 60 161 E161_6 = true := by decide +kernel
theorem ok161_7 : entOk Tryz.prog hints S13 5000 60 161 E161_7 = true := by decide +kernel
theorem ok161_8 : entOk Tryz.prog hints S13 5000 60 161 E161_8 = true := by decide +kernel
theorem ok161_9 : entOk Tryz.prog hints S13 5000 60 161 E161_9 = true := by decide +kernel
theorem ok161 : ∀ e, e ∈ E161 → entOk Tryz.prog hints S13 5000 60 161 e = true := List.forall_mem_cons.2 ⟨ok161_0, List.forall_mem_cons.2 ⟨ok161_1, List.forall_mem_cons.2 ⟨ok161_2, List.forall_mem_cons.2 ⟨ok161_3, List.forall_mem_cons.2 ⟨ok161_4, List.forall_mem_cons.2 ⟨ok161_5, List.forall_mem_cons.2 ⟨ok161_6, List.forall_mem_cons.2 ⟨ok161_7, List.forall_mem_cons.2 ⟨ok161_8, List.forall_mem_cons.2 ⟨ok161_9, List.forall_mem_nil _⟩⟩⟩⟩⟩⟩⟩⟩⟩⟩
end Go.Proofs.YthfennkaigbbcaaGreatDoor.Cut
