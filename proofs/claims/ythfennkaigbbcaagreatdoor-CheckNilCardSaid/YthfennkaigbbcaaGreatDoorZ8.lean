/-
  PROVED: calls that were run over abstract values, one by one: what each reads, writes, makes and answers. No condition.
-/
import Derived.Test.YthfennkaigbbcaaGreatDoorY2
set_option linter.unusedVariables false
set_option maxRecDepth 1000000
namespace Go.Proofs.YthfennkaigbbcaaGreatDoor.Cut
open Go.X
theorem ok97_0 : entOk Tryz.prog hints S10 5000 60 97 E97_0 = true := by decide +kernel
theorem ok97_1 : entOk Tryz.prog hints S10 5000 60 97 E97_1 = true := by decide +kernel
theorem ok97_2 : entOk Tryz.prog hints S10 5000 60 97 E97_2 = true := by decide +kernel
theorem ok97_3 : entOk Tryz.prog hints S10 5000 60 97 E97_3 = true := by decide +kernel
theorem ok97_4 : entOk Tryz.prog hints S10 5000 60 97 E97_4 = true := by decide +kernel
theorem ok97_5 : entOk Tryz.prog hints S10 5000 60 97 E97_5 = true := by decide +kernel
theorem ok97 : ∀ e, e ∈ E97 → entOk Tryz.prog hints S10 5000 60 97 e = true := List.forall_mem_cons.2 ⟨ok97_0, List.forall_mem_cons.2 ⟨ok97_1, List.forall_mem_cons.2 ⟨ok97_2, List.forall_mem_cons.2 ⟨ok97_3, List.forall_mem_cons.2 ⟨ok97_4, List.forall_mem_cons.2 ⟨ok97_5, List.forall_mem_nil _⟩⟩⟩⟩⟩⟩
theorem ok156_0 : entOk Tryz.prog hints S11 5000 60 156 E156_0 = true := by decide +kernel
theorem ok156_1 : entOk Tryz.prog hints S11 5000 60 156 E156_1 = true := by decide +kernel
theorem ok156 : ∀ e, e ∈ E156 → entOk Tryz.prog hints S11 5000 60 156 e = true := List.forall_mem_cons.2 ⟨ok156_0, List.forall_mem_cons.2 ⟨ok156_1, List.forall_mem_nil _⟩⟩
theorem ok99_0 : entOk Tryz.prog hints S12 5000 60 99 E99_0 = true := by decide +kernel
theorem ok99_1 : entOk Tryz.prog hints S12 5000 60 99 E99_1 = true := by decide +kernel
theorem ok99 : ∀ e, e ∈ E99 → entOk Tryz.prog hints S12 5000 60 99 e = true := List.forall_mem_cons.2 ⟨ok99_0, List.forall_mem_cons.2 ⟨ok99_1, List.forall_mem_nil _⟩⟩
end Go.Proofs.YthfennkaigbbcaaGreatDoor.Cut
