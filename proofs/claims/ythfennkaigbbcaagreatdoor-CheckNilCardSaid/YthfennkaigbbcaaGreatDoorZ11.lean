/-
  PROVED: calls that were run over abstract values, one by one: what each reads, writes, makes and answers. No condition.
-/
import Derived.Test.YthfennkaigbbcaaGreatDoorY2
set_option linter.unusedVariables false
set_option maxRecDepth 1000000
namespace Go.Proofs.YthfennkaigbbcaaGreatDoor.Cut
open Go.X
theorem ok103_0 : entOk Tryz.prog hints S17 5000 60 103 E103_0 = true := by decide +kernel
theorem ok103_1 : entOk Tryz.prog hints S17 5000 60 103 E103_1 = true := by decide +kernel
theorem ok103_2 : entOk Tryz.prog hints S17 5000 60 103 E103_2 = true := by decide +kernel
theorem ok103_3 : entOk Tryz.prog hints S17 5000 60 103 E103_3 = true := by decide +kernel
theorem ok103_4 : entOk Tryz.prog hints S17 5000 60 103 E103_4 = true := by decide +kernel
theorem ok103 : ∀ e, e ∈ E103 → entOk Tryz.prog hints S17 5000 60 103 e = true := List.forall_mem_cons.2 ⟨ok103_0, List.forall_mem_cons.2 ⟨ok103_1, List.forall_mem_cons.2 ⟨ok103_2, List.forall_mem_cons.2 ⟨ok103_3, List.forall_mem_cons.2 ⟨ok103_4, List.forall_mem_nil _⟩⟩⟩⟩⟩
theorem ok55_0 : entOk Tryz.prog hints S18 5000 60 55 E55_0 = true := by decide +kernel
theorem ok55_1 : entOk Tryz.prog hints S18 5000 60 55 E55_1 = true := by decide +kernel
theorem ok55_2 : entOk Tryz.prog hints S18 5000 60 55 E55_2 = true := by decide +kernel
theorem ok55 : ∀ e, e ∈ E55 → entOk Tryz.prog hints S18 5000 60 55 e = true := List.forall_mem_cons.2 ⟨ok55_0, List.forall_mem_cons.2 ⟨ok55_1, List.forall_mem_cons.2 ⟨ok55_2, List.forall_mem_nil _⟩⟩⟩
theorem ok168_0 : entOk Tryz.prog hints S19 5000 60 168 E168_0 = true := by decide +kernel
theorem ok168_1 : entOk Tryz.prog hints S19 5000 60 168 E168_1 = true := by decide +kernel
theorem ok168_2 : entOk Tryz.prog hints S19 5000 60 168 E168_2 = true := by decide +kernel
theorem ok168_3 : entOk Tryz.prog hints S19 5000 60 168 E168_3 = true := by decide +kernel
theorem ok168_4 : entOk Tryz.prog hints S19 5000 60 168 E168_4 = true := by decide +kernel
theorem ok168_5 : entOk Tryz.prog hints S19 5000 60 168 E168_5 = true := by decide +kernel
theorem ok168 : ∀ e, e ∈ E168 → entOk Tryz.prog hints S19 5000 60 168 e = true := List.forall_mem_cons.2 ⟨ok168_0, List.forall_mem_cons.2 ⟨ok168_1, List.forall_mem_cons.2 ⟨ok168_2, List.forall_mem_cons.2 ⟨ok168_3, List.forall_mem_cons.2 ⟨ok168_4, List.forall_mem_cons.2 ⟨ok168_5, List.forall_mem_nil _⟩⟩⟩⟩⟩⟩
end Go.Proofs.YthfennkaigbbcaaGreatDoor.Cut
