/-
  PROVED: calls that were run over abstract values, one by one: what each reads, writes, makes and answers. No condition.
-/
import Derived.Test.YthfennkaigbbcaaGreatDoorY2
set_option linter.unusedVariables false
set_option maxRecDepth 1000000
namespace Go.Proofs.YthfennkaigbbcaaGreatDoor.Cut
open Go.X
theorem ok21_0 : entOk Tryz.prog hints S64 5000 60 21 E21_0 = true := by decide +kernel
theorem ok21_1 : entOk Tryz.prog hints S64 5000 60 21 E21_1 = true := by decide +kernel
theorem ok21_2 : entOk Tryz.prog hints S64 5000 60 21 E21_2 = true := by decide +kernel
theorem ok21_3 : entOk Tryz.prog hints S64 5000 60 21 E21_3 = true := by decide +kernel
theorem ok21 : ∀ e, e ∈ E21 → entOk Tryz.prog hints S64 5000 60 21 e = true := List.forall_mem_cons.2 ⟨ok21_0, List.forall_mem_cons.2 ⟨ok21_1, List.forall_mem_cons.2 ⟨ok21_2, List.forall_mem_cons.2 ⟨ok21_3, List.forall_mem_nil _⟩⟩⟩⟩
theorem ok93_0 : entOk Tryz.prog hints S65 5000 60 93 E93_0 = true := by decide +kernel
theorem ok93_1 : entOk Tryz.prog hints S65 5000 60 93 E93_1 = true := by decide +kernel
theorem ok93_2 : entOk Tryz.prog hints S65 5000 60 93 E93_2 = true := by decide +kernel
theorem ok93_3 : entOk Tryz.prog hints S65 5000 60 93 E93_3 = true := by decide +kernel
theorem ok93 : ∀ e, e ∈ E93 → entOk Tryz.prog hints S65 5000 60 93 e = true := List.forall_mem_cons.2 ⟨ok93_0, List.forall_mem_cons.2 ⟨ok93_1, List.forall_mem_cons.2 ⟨ok93_2, List.forall_mem_cons.2 ⟨ok93_3, List.forall_mem_nil _⟩⟩⟩⟩
theorem ok50_0 : entOk Tryz.prog hints S66 5000 60 50 E50_0 = true := by decide +kernel
theorem ok50_1 : entOk Tryz.prog hints S66 5000 60 50 E50_1 = true := by decide +kernel
theorem ok50_2 : entOk Tryz.prog hints S66 5000 60 50 E50_2 = true := by decide +kernel
theorem ok50_3 : entOk Tryz.prog hints S66 5000 60 50 E50_3 = true := by decide +kernel
theorem ok50 : ∀ e, e ∈ E50 → entOk Tryz.prog hints S66 5000 60 50 e = true := List.forall_mem_cons.2 ⟨ok50_0, List.forall_mem_cons.2 ⟨ok50_1, List.forall_mem_cons.2 ⟨ok50_2, List.forall_mem_cons.2 ⟨ok50_3, List.forall_mem_nil _⟩⟩⟩⟩
end Go.Proofs.YthfennkaigbbcaaGreatDoor.Cut
