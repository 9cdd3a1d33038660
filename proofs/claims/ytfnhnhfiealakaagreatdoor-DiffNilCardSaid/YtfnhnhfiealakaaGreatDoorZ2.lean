/-
  PROVED: calls that were run over abstract values, one by one: what each reads, writes, makes and answers. No condition.
-/
import Derived.Test.YtfnhnhfiealakaaGreatDoorY0
set_option linter.unusedVariables false
set_option maxRecDepth 1000000
namespace Go.Proofs.YtfnhnhfiealakaaGreatDoor.Cut
open Go.X
theorem ok66_0 : entOk Tryz.prog hints S9 5000 60 66 E66_0 = true := by decide +kernel
theorem ok66 : ∀ e, e ∈ E66 → entOk Tryz.prog hints S9 5000 60 66 e = true := List.forall_mem_cons.2 ⟨ok66_0, List.forall_mem_nil _⟩
theorem ok162_0 : entOk Tryz.prog hints S10 5000 60 162 E162_0 = true := by decide +kernel
theorem ok162 : ∀ e, e ∈ E162 → entOk Tryz.prog hints S10 5000 60 162 e = true := List.forall_mem_cons.2 ⟨ok162_0, List.forall_mem_nil _⟩
theorem ok98_0 : entOk Tryz.prog hints S11 5000 60 98 E98_0 = true := by decide +kernel
theorem ok98 : ∀ e, e ∈ E98 → entOk Tryz.prog hints S11 5000 60 98 e = true := List.forall_mem_cons.2 ⟨ok98_0, List.forall_mem_nil _⟩
theorem ok100_0 : entOk Tryz.prog hints S12 5000 60 100 E100_0 = true := by decide +kernel
theorem ok100 : ∀ e, e ∈ E100 → entOk Tryz.prog hints S12 5000 60 100 e = true := List.forall_mem_cons.2 ⟨ok100_0, List.forall_mem_nil _⟩
theorem ok59_0 : entOk Tryz.prog hints S13 5000 60 59 E59_0 = true := by decide +kernel
theorem ok59 : ∀ e, e ∈ E59 → entOk Tryz.prog hints S13 5000 60 59 e = true := List.forall_mem_cons.2 ⟨ok59_0, List.forall_mem_nil _⟩
theorem ok37_0 : entOk Tryz.prog hints S14 5000 60 37 E37_0 = true := by decide +kernel
theorem ok37 : ∀ e, e ∈ E37 → entOk Tryz.prog hints S14 5000 60 37 e = true := List.forall_mem_cons.2 ⟨ok37_0, List.forall_mem_nil _⟩
theorem ok31_0 : entOk Tryz.prog hints S15 5000 60 31 E31_0 = true := by decide +kernel
theorem ok31_1 : entOk Tryz.prog hints S15 5000 60 31 E31_1 = true := by decide +kernel
theorem ok31 : ∀ e, e ∈ E31 → entOk Tryz.prog hints S15 5000 60 31 e = true := List.forall_mem_cons.2 ⟨ok31_0, List.forall_mem_cons.2 ⟨ok31_1, List.forall_mem_nil _⟩⟩
theorem ok19_0 : entOk Tryz.prog hints S16 5000 60 19 E19_0 = true := by decide +kernel
theorem ok19 : ∀ e, e ∈ E19 → entOk Tryz.prog hints S16 5000 60 19 e = true := List.forall_mem_cons.2 ⟨ok19_0, List.forall_mem_nil _⟩
theorem ok14_0 : entOk Tryz.prog hints S17 5000 60 14 E14_0 = true := by decide +kernel
theorem ok14 : ∀ e, e ∈ E14 → entOk Tryz.prog hints S17 5000 60 14 e = true := List.forall_mem_cons.2 ⟨ok14_0, List.forall_mem_nil _⟩
end Go.Proofs.YtfnhnhfiealakaaGreatDoor.Cut
