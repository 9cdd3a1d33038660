/-
  PROVED: calls that were run over abstract values, one by one: what each reads, writes, makes and answers. No condition.
-/
import Derived.Test.YthfennkaigbbcaaGreatDoorY2
set_option linter.unusedVariables false
set_option maxRecDepth 1000000
namespace Go.Proofs.YthfennkaigbbcaaGreatDoor.Cut
open Go.X
theorem ok96_0 : entOk Tryz.prog hints S3 5000 60 96 E96_0 = true := by decide +kernel
theorem ok96_1 : entOk Tryz.prog hints S3 5000 60 96 E96_1 = true := by decide +kernel
theorem ok96_2 : entOk Tryz.prog hints S3 5000 60 96 E96_2 = true := by decide +kernel
theorem ok96_3 : entOk Tryz.prog hints S3 5000 60 96 E96_3 = true := by decide +kernel
theorem ok96_4 : entOk Tryz.prog hints S3 5000 60 96 E96_4 = true := by decide +kernel
theorem ok96_5 : entOk Tryz.prog hints S3 5000 60 96 E96_5 = true := by decide +kernel
theorem ok96_6 : entOk Tryz.prog hints S3 5000 60 96 E96_6 = true := by decide +kernel
theorem ok96_7 : entOk Tryz.prog hints S3 5000 60 96 E96_7 = true := by decide +kernel
theorem ok96_8 : entOk Tryz.prog hints S3 5000 60 96 E96_8 = true := by decide +kernel
theorem ok96_9 : entOk Tryz.prog hints S3 5000 60 96 E96_9 = true := by decide +kernel
theorem ok96 : ∀ e, e ∈ E96 → entOk Tryz.prog hints S3 5000 60 96 e = true := List.forall_mem_cons.2 ⟨ok96_0, List.forall_mem_cons.2 ⟨ok96_1, List.forall_mem_cons.2 ⟨ok96_2, List.forall_mem_cons.2 ⟨ok96_3, List.forall_mem_cons.2 ⟨ok96_4, List.forall_mem_cons.2 ⟨ok96_5, List.forall_mem_cons.2 ⟨ok96_6, List.forall_mem_cons.2 ⟨ok96_7, List.forall_mem_cons.2 ⟨ok96_8, List.forall_mem_cons.2 ⟨ok96_9, List.forall_mem_nil _⟩⟩⟩⟩⟩⟩⟩⟩⟩⟩
end Go.Proofs.YthfennkaigbbcaaGreatDoor.Cut
