/-
  PROVED: calls that were run over abstract values, one by one: what each reads, writes, makes and answers. No condition.
-/
import Derived.Test.YthfennkaigbbcaaGreatDoorY2
set_option linter.unusedVariables false
set_option maxRecDepth 1000000
namespace Go.Proofs.YthfennkaigbbcaaGreatDoor.Cut
open Go.X
theorem ok104_0 : entOk Tryz.prog hints S20 5000 60 104 E104_0 = true := by decide +kernel
theorem ok104_1 : entOk Tryz.prog hints S20 5000 60 104 E104_1 = true := by decide +kernel
theorem ok104_2 : entOk Tryz.prog hints S20 5000 60 104 E104_2 = true := by decide +kernel
theorem ok104 : ∀ e, e ∈ E104 → entOk Tryz.prog hints S20 5000 60 104 e = true := List.forall_mem_cons.2 ⟨ok104_0, List.forall_mem_cons.2 ⟨ok104_1, List.forall_mem_cons.2 ⟨ok104_2, List.forall_mem_nil _⟩⟩⟩
theorem ok171_0 : entOk Tryz.prog hints S21 5000 60 171 E171_0 = true := by decide +kernel
theorem ok171_1 : entOk Tryz.prog hints S21 5000 60 171 E171_1 = true := by decide +kernel
theorem ok171_2 : entOk Tryz.prog hints S21 5000 60 171 E171_2 = true := by decide +kernel
theorem ok171 : ∀ e, e ∈ E171 → entOk Tryz.prog hints S21 5000 60 171 e = true := List.forall_mem_cons.2 ⟨ok171_0, List.forall_mem_cons.2 ⟨ok171_1, List.forall_mem_cons.2 ⟨ok171_2, List.forall_mem_nil _⟩⟩⟩
theorem ok105_0 : entOk Tryz.prog hints S22 5000 60 105 E105_0 = true := by decide +kernel
theorem ok105_1 : entOk Tryz.prog hints S22 5000 60 105 E105_1 = true := by decide +kernel
theorem ok105_2 : entOk Tryz.prog hints S22 5000 60 105 E105_2 = true := by decide +kernel
theorem ok105 : ∀ e, e ∈ E105 → entOk Tryz.prog hints S22 5000 60 105 e = true := List.forall_mem_cons.2 ⟨ok105_0, List.forall_mem_cons.2 ⟨ok105_1, List.forall_mem_cons.2 ⟨ok105_2, List.forall_mem_nil _⟩⟩⟩
theorem ok56_0 : entOk Tryz.prog hints S23 5000 60 56 E56_0 = true := by decide +kernel
theorem ok56_1 : entOk Tryz.prog hints S23 5000 60 56 E56_1 = true := by decide +kernel
theorem ok56_2 : entOk Tryz.prog hints S23 5000 60 56 E56_2 = true := by decide +kernel
theorem ok56 : ∀ e, e ∈ E56 → entOk Tryz.prog hints S23 5000 60 56 e = true := List.forall_mem_cons.2 ⟨ok56_0, List.forall_mem_cons.2 ⟨ok56_1, List.forall_mem_cons.2 ⟨ok56_2, List.forall_mem_nil _⟩⟩⟩
end Go.Proofs.YthfennkaigbbcaaGreatDoor.Cut
