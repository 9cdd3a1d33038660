/-
  PROVED: calls that were run over abstract values, one by one: what each reads, writes, makes and answers. No condition.
-/
import Derived.Test.YthfennkaigbbcaaGreatDoorY2
set_option linter.unusedVariables false
set_option maxRecDepth 1000000
namespace Go.Proofs.YthfennkaigbbcaaGreatDoor.Cut
open Go.X
theorem ok44_0 : entOk Tryz.prog hints S57 5000 60 44 E44_0 = true := by decide +kernel
theorem ok44_1 : entOk Tryz.prog hints S57 5000 60 44 E44_1 = true := by decide +kernel
theorem ok44 : ∀ e, e ∈ E44 → entOk Tryz.prog hints S57 5000 60 44 e = true := List.forall_mem_cons.2 ⟨ok44_0, List.forall_mem_cons.2 ⟨ok44_1, List.forall_mem_nil _⟩⟩
theorem ok248_0 : entOk Tryz.prog hints S58 5000 60 248 E248_0 = true := by decide +kernel
theorem ok248_1 : entOk Tryz.prog hints S58 5000 60 248 E248_1 = true := by decide +kernel
theorem ok248 : ∀ e, e ∈ E248 → entOk Tryz.prog hints S58 5000 60 248 e = true := List.forall_mem_cons.2 ⟨ok248_0, List.forall_mem_cons.2 ⟨ok248_1, List.forall_mem_nil _⟩⟩
theorem ok203_0 : entOk Tryz.prog hints S59 5000 60 203 E203_0 = true := by decide +kernel
theorem ok203_1 : entOk Tryz.prog hints S59 5000 60 203 E203_1 = true := by decide +kernel
theorem ok203 : ∀ e, e ∈ E203 → entOk Tryz.prog hints S59 5000 60 203 e = true := List.forall_mem_cons.2 ⟨ok203_0, List.forall_mem_cons.2 ⟨ok203_1, List.forall_mem_nil _⟩⟩
theorem ok136_0 : entOk Tryz.prog hints S60 5000 60 136 E136_0 = true := by decide +kernel
theorem ok136 : ∀ e, e ∈ E136 → entOk Tryz.prog hints S60 5000 60 136 e = true := List.forall_mem_cons.2 ⟨ok136_0, List.forall_mem_nil _⟩
theorem ok88_0 : entOk Tryz.prog hints S61 5000 60 88 E88_0 = true := by decide +kernel
theorem ok88 : ∀ e, e ∈ E88 → entOk Tryz.prog hints S61 5000 60 88 e = true := List.forall_mem_cons.2 ⟨ok88_0, List.forall_mem_nil _⟩
theorem ok89_0 : entOk Tryz.prog hints S62 5000 60 89 E89_0 = true := by decide +kernel
theorem ok89 : ∀ e, e ∈ E89 → entOk Tryz.prog hints S62 5000 60 89 e = true := List.forall_mem_cons.2 ⟨ok89_0, List.forall_mem_nil _⟩
theorem ok45_0 : entOk Tryz.prog hints S63 5000 60 45 E45_0 = true := by decide +kernel
theorem ok45 : ∀ e, e ∈ E45 → entOk Tryz.prog hints S63 5000 60 45 e = true := List.forall_mem_cons.2 ⟨ok45_0, List.forall_mem_nil _⟩
end Go.Proofs.YthfennkaigbbcaaGreatDoor.Cut
