/-
  PROVED: calls that were run over abstract values, one by one: what each reads, writes, makes and answers. No condition.
-/
import Derived.Test.YthfennkaigbbcaaGreatDoorY2
set_option linter.unusedVariables false
set_option maxRecDepth 1000000
namespace Go.Proofs.YthfennkaigbbcaaGreatDoor.Cut
open Go.X
theorem ok228_0 : entOk Tryz.prog hints S24 5000 60 228 E228_0 = true := by decide +kernel
theorem ok228_1 : entOk Tryz.prog hints S24 5000 60 228 E228_1 = true := by decide +kernel
theorem ok228_2 : entOk Tryz.prog hints S24 5000 60 228 E228_2 = true := by decide +kernel
theorem ok228_3 : entOk Tryz.prog hints S24 5000 60 228 E228_3 = true := by decide +kernel
theorem ok228_4 : entOk Tryz.prog hints S24 5000 60 228 E228_4 = true := by decide +kernel
theorem ok228_5 : entOk Tryz.prog hints S24 5000 60 228 E228_5 = true := by decide +kernel
theorem ok228 : ∀ e, e ∈ E228 → entOk Tryz.prog hints S24 5000 60 228 e = true := List.forall_mem_cons.2 ⟨ok228_0, List.forall_mem_cons.2 ⟨ok228_1, List.forall_mem_cons.2 ⟨ok228_2, List.forall_mem_cons.2 ⟨ok228_3, List.forall_mem_cons.2 ⟨ok228_4, List.forall_mem_cons.2 ⟨ok228_5, List.forall_mem_nil _⟩⟩⟩⟩⟩⟩
theorem ok175_0 : entOk Tryz.prog hints S25 5000 60 175 E175_0 = true := by decide +kernel
theorem ok175_1 : entOk Tryz.prog hints S25 5000 60 175 E175_1 = true := by decide +kernel
theorem ok175 : ∀ e, e ∈ E175 → entOk Tryz.prog hints S25 5000 60 175 e = true := List.forall_mem_cons.2 ⟨ok175_0, List.forall_mem_cons.2 ⟨ok175_1, List.forall_mem_nil _⟩⟩
theorem ok107_0 : entOk Tryz.prog hints S26 5000 60 107 E107_0 = true := by decide +kernel
theorem ok107 : ∀ e, e ∈ E107 → entOk Tryz.prog hints S26 5000 60 107 e = true := List.forall_mem_cons.2 ⟨ok107_0, List.forall_mem_nil _⟩
theorem ok262_0 : entOk Tryz.prog hints S27 5000 60 262 E262_0 = true := by decide +kernel
theorem ok262 : ∀ e, e ∈ E262 → entOk Tryz.prog hints S27 5000 60 262 e = true := List.forall_mem_cons.2 ⟨ok262_0, List.forall_mem_nil _⟩
end Go.Proofs.YthfennkaigbbcaaGreatDoor.Cut
