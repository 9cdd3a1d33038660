/-
  PROVED: calls that were run over abstract values, one by one: what each reads, writes, makes and answers. No condition.
-/
import Derived.Test.YthfennkaigbbcaaGreatDoorY2
set_option linter.unusedVariables false
set_option maxRecDepth 1000000
namespace Go.Proofs.YthfennkaigbbcaaGreatDoor.Cut
open Go.X
theorem ok53_0 : entOk Tryz.prog hints S5 5000 60 53 E53_0 = true := by decide +kernel
theorem ok53_1 : entOk Tryz.prog hints S5 5000 60 53 E53_1 = true := by decide +kernel
theorem ok53_2 : entOk Tryz.prog hints S5 5000 60 53 E53_2 = true := by decide +kernel
theorem ok53_3 : entOk Tryz.prog hints S5 5000 60 53 E53_3 = true := by decide +kernel
theorem ok53_4 : entOk Tryz.prog hints S5 5000 60 53 E53_4 = true := by decide +kernel
theorem ok53_5 : entOk Tryz.prog hints S5 5000 60 53 E53_5 = true := by decide +kernel
theorem ok53_6 : entOk Tryz.prog hints S5 5000 60 53 E53_6 = true := by decide +kernel
theorem ok53_7 : entOk Tryz.prog hints S5 5000 60 53 E53_7 = true := by decide +kernel
theorem ok53_8 : entOk Tryz.prog hints S5 5000 60 53 E53_8 = true := by decide +kernel
theorem ok53_9 : entOk Tryz.prog hints S5 5000 60 53 E53_9 = true := by decide +kernel
theorem ok53 : ∀ e, e ∈ E53 → entOk Tryz.prog hints S5 5000 60 53 e = true := List.forall_mem_cons.2 ⟨ok53_0, List.forall_mem_cons.2 ⟨ok53_1, List.forall_mem_cons.2 ⟨ok53_2, List.forall_mem_cons.2 ⟨ok53_3, List.forall_mem_cons.2 ⟨ok53_4, List.forall_mem_cons.2 ⟨ok53_5, List.forall_mem_cons.2 ⟨ok53_6, List.forall_mem_cons.2 ⟨ok53_7, List.forall_mem_cons.2 ⟨ok53_8, List.forall_mem_cons.2 ⟨ok53_9, List.forall_mem_nil _⟩⟩⟩⟩⟩⟩⟩⟩⟩⟩
end Go.Proofs.YthfennkaigbbcaaGreatDoor.Cut
