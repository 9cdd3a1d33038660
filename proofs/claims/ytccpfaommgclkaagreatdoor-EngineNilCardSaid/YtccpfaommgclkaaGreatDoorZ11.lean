/-
  PROVED: calls that were run over abstract values, one by one: what each reads, writes, makes and answers. No condition.
-/
import Derived.Test.YtccpfaommgclkaaGreatDoorY0
set_option linter.unusedVariables false
set_option maxRecDepth 1000000
namespace Go.Proofs.YtccpfaommgclkaaGreatDoor.Cut
open Go.X
theorem ok105_0 : entOk Tryz.prog hints S37 5000 60 105 E105_0 = true := by decide +kernel
theorem ok105 : ∀ e, e ∈ E105 → entOk Tryz.prog hints S37 5000 60 105 e = true := List.forall_mem_cons.2 ⟨ok105_0, List.forall_mem_nil _⟩
theorem ok59_0 : entOk Tryz.prog hints S38 5000 60 59 E59_0 = true := by decide +kernel
theorem ok59 : ∀ e, e ∈ E59 → entOk Tryz.prog hints S38 5000 60 59 e = true := List.forall_mem_cons.2 ⟨ok59_0, List.forall_mem_nil _⟩
theorem ok23_0 : entOk Tryz.prog hints S39 5000 60 23 E23_0 = true := by decide +kernel
theorem ok23 : ∀ e, e ∈ E23 → entOk Tryz.prog hints S39 5000 60 23 e = true := List.forall_mem_cons.2 ⟨ok23_0, List.forall_mem_nil _⟩
theorem ok8_0 : entOk Tryz.prog hints S40 5000 60 8 E8_0 = true := by decide +kernel
theorem ok8 : ∀ e, e ∈ E8 → entOk Tryz.prog hints S40 5000 60 8 e = true := List.forall_mem_cons.2 ⟨ok8_0, List.forall_mem_nil _⟩
theorem ok27_0 : entOk Tryz.prog hints S41 5000 60 27 E27_0 = true := by decide +kernel
theorem ok27_1 : entOk Tryz.prog hints S41 5000 60 27 E27_1 = true := by decide +kernel
theorem ok27_2 : entOk Tryz.prog hints S41 5000 60 27 E27_2 = true := by decide +kernel
theorem ok27 : ∀ e, e ∈ E27 → entOk Tryz.prog hints S41 5000 60 27 e = true := List.forall_mem_cons.2 ⟨ok27_0, List.forall_mem_cons.2 ⟨ok27_1, List.forall_mem_cons.2 ⟨ok27_2, List.forall_mem_nil _⟩⟩⟩
theorem ok12_0 : entOk Tryz.prog hints S42 5000 60 12 E12_0 = true := by decide +kernel
theorem ok12 : ∀ e, e ∈ E12 → entOk Tryz.prog hints S42 5000 60 12 e = true := List.forall_mem_cons.2 ⟨ok12_0, List.forall_mem_nil _⟩
theorem ok13_0 : entOk Tryz.prog hints S43 5000 60 13 E13_0 = true := by decide +kernel
theorem ok13 : ∀ e, e ∈ E13 → entOk Tryz.prog hints S43 5000 60 13 e = true := List.forall_mem_cons.2 ⟨ok13_0, List.forall_mem_nil _⟩
theorem ok31_0 : entOk Tryz.prog hints S44 5000 60 31 E31_0 = true := by decide +kernel
theorem ok31 : ∀ e, e ∈ E31 → entOk Tryz.prog hints S44 5000 60 31 e = true := List.forall_mem_cons.2 ⟨ok31_0, List.forall_mem_nil _⟩
end Go.Proofs.YtccpfaommgclkaaGreatDoor.Cut
