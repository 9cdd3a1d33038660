/-
  PROVED: calls that were run over abstract values, one by one: what each reads, writes, makes and answers. No condition.
-/
import Derived.Test.YthfennkaigbbcaaGreatDoorY2
set_option linter.unusedVariables false
set_option maxRecDepth 1000000
namespace Go.Proofs.YthfennkaigbbcaaGreatDoor.Cut
open Go.X
theorem ok13_0 : entOk Tryz.prog hints S35 5000 60 13 E13_0 = true := by decide +kernel
theorem ok13_1 : entOk Tryz.prog hints S35 5000 60 13 E13_1 = true := by decide +kernel
theorem ok13_2 : entOk Tryz.prog hints S35 5000 60 13 E13_2 = true := by decide +kernel
theorem ok13_3 : entOk Tryz.prog hints S35 5000 60 13 E13_3 = true := by decide +kernel
theorem ok13 : ∀ e, e ∈ E13 → entOk Tryz.prog hints S35 5000 60 13 e = true := List.forall_mem_cons.2 ⟨ok13_0, List.forall_mem_cons.2 ⟨ok13_1, List.forall_mem_cons.2 ⟨ok13_2, List.forall_mem_cons.2 ⟨ok13_3, List.forall_mem_nil _⟩⟩⟩⟩
theorem ok6_0 : entOk Tryz.prog hints S36 5000 60 6 E6_0 = true := by decide +kernel
theorem ok6_1 : entOk Tryz.prog hints S36 5000 60 6 E6_1 = true := by decide +kernel
theorem ok6 : ∀ e, e ∈ E6 → entOk Tryz.prog hints S36 5000 60 6 e = true := List.forall_mem_cons.2 ⟨ok6_0, List.forall_mem_cons.2 ⟨ok6_1, List.forall_mem_nil _⟩⟩
theorem ok7_0 : entOk Tryz.prog hints S37 5000 60 7 E7_0 = true := by decide +kernel
theorem ok7 : ∀ e, e ∈ E7 → entOk Tryz.prog hints S37 5000 60 7 e = true := List.forall_mem_cons.2 ⟨ok7_0, List.forall_mem_nil _⟩
theorem ok8_0 : entOk Tryz.prog hints S38 5000 60 8 E8_0 = true := by decide +kernel
theorem ok8 : ∀ e, e ∈ E8 → entOk Tryz.prog hints S38 5000 60 8 e = true := List.forall_mem_cons.2 ⟨ok8_0, List.forall_mem_nil _⟩
theorem ok73_0 : entOk Tryz.prog hints S39 5000 60 73 E73_0 = true := by decide +kernel
theorem ok73_1 : entOk Tryz.prog hints S39 5000 60 73 E73_1 = true := by decide +kernel
theorem ok73_2 : entOk Tryz.prog hints S39 5000 60 73 E73_2 = true := by decide +kernel
theorem ok73 : ∀ e, e ∈ E73 → entOk Tryz.prog hints S39 5000 60 73 e = true := List.forall_mem_cons.2 ⟨ok73_0, List.forall_mem_cons.2 ⟨ok73_1, List.forall_mem_cons.2 ⟨ok73_2, List.forall_mem_nil _⟩⟩⟩
end Go.Proofs.YthfennkaigbbcaaGreatDoor.Cut
