/-
  PROVED: calls that were run over abstract values, one by one: what each reads, writes, makes and answers. No condition.
-/
import Derived.Test.YthfennkaigbbcaaGreatDoorY2
set_option linter.unusedVariables false
set_option maxRecDepth 1000000
namespace Go.Proofs.YthfennkaigbbcaaGreatDoor.Cut
open Go.X
theorem ok230_0 : entOk Tryz.prog hints S28 5000 60 230 E230_0 = true := by decide +kernel
theorem ok230 : ∀ e, e ∈ E230 → entOk Tryz.prog hints S28 5000 60 230 e = true := List.forall_mem_cons.2 ⟨ok230_0, List.forall_mem_nil _⟩
theorem ok176_0 : entOk Tryz.prog hints S29 5000 60 176 E176_0 = true := by decide +kernel
theorem ok176 : ∀ e, e ∈ E176 → entOk Tryz.prog hints S29 5000 60 176 e = true := List.forall_mem_cons.2 ⟨ok176_0, List.forall_mem_nil _⟩
theorem ok177_0 : entOk Tryz.prog hints S30 5000 60 177 E177_0 = true := by decide +kernel
theorem ok177 : ∀ e, e ∈ E177 → entOk Tryz.prog hints S30 5000 60 177 e = true := List.forall_mem_cons.2 ⟨ok177_0, List.forall_mem_nil _⟩
theorem ok178_0 : entOk Tryz.prog hints S31 5000 60 178 E178_0 = true := by decide +kernel
theorem ok178_1 : entOk Tryz.prog hints S31 5000 60 178 E178_1 = true := by decide +kernel
theorem ok178 : ∀ e, e ∈ E178 → entOk Tryz.prog hints S31 5000 60 178 e = true := List.forall_mem_cons.2 ⟨ok178_0, List.forall_mem_cons.2 ⟨ok178_1, List.forall_mem_nil _⟩⟩
theorem ok108_0 : entOk Tryz.prog hints S32 5000 60 108 E108_0 = true := by decide +kernel
theorem ok108 : ∀ e, e ∈ E108 → entOk Tryz.prog hints S32 5000 60 108 e = true := List.forall_mem_cons.2 ⟨ok108_0, List.forall_mem_nil _⟩
theorem ok57_0 : entOk Tryz.prog hints S33 5000 60 57 E57_0 = true := by decide +kernel
theorem ok57 : ∀ e, e ∈ E57 → entOk Tryz.prog hints S33 5000 60 57 e = true := List.forall_mem_cons.2 ⟨ok57_0, List.forall_mem_nil _⟩
theorem ok26_0 : entOk Tryz.prog hints S34 5000 60 26 E26_0 = true := by decide +kernel
theorem ok26_1 : entOk Tryz.prog hints S34 5000 60 26 E26_1 = true := by decide +kernel
theorem ok26_2 : entOk Tryz.prog hints S34 5000 60 26 E26_2 = true := by decide +kernel
theorem ok26_3 : entOk Tryz.prog hints S34 5000 60 26 E26_3 = true := by decide +kernel
theorem ok26_4 : entOk Tryz.prog hints S34 5000 60 26 E26_4 = true := by decide +kernel
theorem ok26_5 : entOk Tryz.prog hints S34 5000 60 26 E26_5 = true := by decide +kernel
theorem ok26_6 : entOk Tryz.prog hints S34 5000 60 26 E26_6 = true := by decide +kernel
theorem ok26_7 : entOk Tryz.prog hints S34 5000 60 26 E26_7 = true := by decide +kernel
theorem ok26_8 : entOk Tryz.prog hints S34 5000 60 26 E26_8 = true := by decide +kernel
theorem ok26_9 : entOk Tryz.prog hints S34 5000 60 26 E26_9 = true := by decide +kernel
theorem ok26 : ∀ e, e ∈ E26 → entOk Tryz.prog hints S34 5000 60 26 e = true := List.forall_mem_cons.2 ⟨ok26_0, List.forall_mem_cons.2 ⟨ok26_1, List.forall_mem_cons.2 ⟨ok26_2, List.forall_mem_cons.2 ⟨ok26_3, List.forall_mem_cons.2 ⟨ok26_4, List.forall_mem_cons.2 ⟨ok26_5, List.forall_mem_cons.2 ⟨ok26_6, List.forall_mem_cons.2 ⟨ok26_7, List.forall_mem_cons.2 ⟨ok26_8, List.forall_mem_cons.2 ⟨ok26_9, List.forall_mem_nil _⟩⟩⟩⟩⟩⟩⟩⟩⟩⟩
end Go.Proofs.YthfennkaigbbcaaGreatDoor.Cut
