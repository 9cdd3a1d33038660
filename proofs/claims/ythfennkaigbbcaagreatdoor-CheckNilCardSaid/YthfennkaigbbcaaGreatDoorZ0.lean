/-
  PROVED: calls that were run over abstract values, one by one: what each reads, writes, makes and answers. No condition.
-/
import Derived.Test.YthfennkaigbbcaaGreatDoorY2
set_option linter.unusedVariables false
set_option maxRecDepth 1000000
namespace Go.Proofs.YthfennkaigbbcaaGreatDoor.Cut
open Go.X
theorem ok144_0 : entOk Tryz.prog hints S0 5000 60 144 E144_0 = true := by decide +kernel
theorem ok144_1 : entOk Tryz.prog hints S0 5000 60 144 E144_1 = true := by decide +kernel
theorem ok144_2 : entOk Tryz.prog hints S0 5000 60 144 E144_2 = true := by decide +kernel
theorem ok144_3 : entOk Tryz.prog hints S0 5000 60 144 E144_3 = true := by decide +kernel
theorem ok144_4 : entOk Tryz.prog hints S0 5000 60 144 E144_4 = true := by decide +kernel
theorem ok144_5 : entOk Tryz.prog hints S0 5000 60 144 E144_5 = true := by decide +kernel
theorem ok144_6 : entOk Tryz.prog hints S0 5000 60 144 E144_6 = true := by decide +kernel
theorem ok144_7 : entOk Tryz.prog hints S0 5000 60 144 E144_7 = true := by decide +kernel
theorem ok144_8 : entOk Tryz.prog hints S0 5000 60 144 E144_8 = true := by decide +kernel
theorem ok144_9 : entOk Tryz.prog hints S0 5000 60 144 E144_9 = true := by decide +kernel
theorem ok144 : ∀ e, e ∈ E144 → entOk Tryz.prog hints S0 5000 60 144 e = true := List.forall_mem_cons.2 ⟨ok144_0, List.forall_mem_cons.2 ⟨ok144_1, List.forall_mem_cons.2 ⟨ok144_2, List.forall_mem_cons.2 ⟨ok144_3, List.forall_mem_cons.2 ⟨ok144_4, List.forall_mem_cons.2 ⟨ok144_5, List.forall_mem_cons.2 ⟨ok144_6, List.forall_mem_cons.2 ⟨ok144_7, List.forall_mem_cons.2 ⟨ok144_8, List.forall_mem_cons.2 ⟨ok144_9, List.forall_mem_nil _⟩⟩⟩⟩⟩⟩⟩⟩⟩⟩
end Go.Proofs.YthfennkaigbbcaaGreatDoor.Cut
