/-
  PROVED: calls that were run over abstract values, one by one: what each reads, writes, makes and answers. No condition.
-/
import Derived.Test.YtgnigjhlplghkaaGreatDoorY2
set_option linter.unusedVariables false
set_option maxRecDepth 1000000
namespace Go.Proofs.YtgnigjhlplghkaaGreatDoor.Cut
open Go.X
theorem ok163_0 : entOk Tryz.prog hints S6 5000 60 163 E163_0 = true := by decide +kernel
theorem ok163_1 : entOk Tryz.prog hints S6 5000 60 163 E163_1 = true := by decide +kernel
theorem ok163_2 : entOk Tryz.prog hints S6 5000 60 163 E163_2 = true := by decide +kernel
theorem ok163_3 : entOk Tryz.prog hints S6 5000 60 163 E163_3 = true := by decide +kernel
theorem ok163_4 : entOk Tryz.prog hints S6 5000 60 163 E163_4 = true := by decide +kernel
theorem ok163_5 : entOk Tryz.prog hints S6 5000 60 163 E163_5 = true := by decide +kernel
theorem ok163 : ∀ e, e ∈ E163 → entOk Tryz.prog hints S6 5000 60 163 e = true := List.forall_mem_cons.2 ⟨ok163_0, List.forall_mem_cons.2 ⟨ok163_1, List.forall_mem_cons.2 ⟨ok163_2, List.forall_mem_cons.2 ⟨ok163_3, List.forall_mem_cons.2 ⟨ok163_4, List.forall_mem_cons.2 ⟨ok163_5, List.forall_mem_nil _⟩⟩⟩⟩⟩⟩
theorem ok280_0 : entOk Tryz.prog hints S7 5000 60 280 E280_0 = true := by decide +kernel
theorem ok280 : ∀ e, e ∈ E280 → entOk Tryz.prog hints S7 5000 60 280 e = true := List.forall_mem_cons.2 ⟨ok280_0, List.forall_mem_nil _⟩
theorem ok224_0 : entOk Tryz.prog hints S8 5000 60 224 E224_0 = true := by decide +kernel
theorem ok224 : ∀ e, e ∈ E224 → entOk Tryz.prog hints S8 5000 60 224 e = true := List.forall_mem_cons.2 ⟨ok224_0, List.forall_mem_nil _⟩
theorem ok283_0 : entOk Tryz.prog hints S9 5000 60 283 E283_0 = true := by decide +kernel
theorem ok283 : ∀ e, e ∈ E283 → entOk Tryz.prog hints S9 5000 60 283 e = true := List.forall_mem_cons.2 ⟨ok283_0, List.forall_mem_nil _⟩
theorem ok226_0 : entOk Tryz.prog hints S10 5000 60 226 E226_0 = true := by decide +kernel
theorem ok226 : ∀ e, e ∈ E226 → entOk Tryz.prog hints S10 5000 60 226 e = true := List.forall_mem_cons.2 ⟨ok226_0, List.forall_mem_nil _⟩
end Go.Proofs.YtgnigjhlplghkaaGreatDoor.Cut
