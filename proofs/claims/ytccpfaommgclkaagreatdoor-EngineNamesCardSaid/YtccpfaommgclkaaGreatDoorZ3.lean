/-
  PROVED: calls that were run over abstract values, one by one: what each reads, writes, makes and answers. No condition.
-/
import Derived.Test.YtccpfaommgclkaaGreatDoorY1
set_option linter.unusedVariables false
set_option maxRecDepth 1000000
namespace Go.Proofs.YtccpfaommgclkaaGreatDoor.Cut
open Go.X
theorem ok182_0 : entOk Tryz.prog hints S8 5000 60 182 E182_0 = true := by decide +kernel
theorem ok182_1 : entOk Tryz.prog hints S8 5000 60 182 E182_1 = true := by decide +kernel
theorem ok182_2 : entOk Tryz.prog hints S8 5000 60 182 E182_2 = true := by decide +kernel
theorem ok182_3 : entOk Tryz.prog hints S8 5000 60 182 E182_3 = true := by decide +kernel
theorem ok182_4 : entOk Tryz.prog hints S8 5000 60 182 E182_4 = true := by decide +kernel
theorem ok182_5 : entOk Tryz.prog hints S8 5000 60 182 E182_5 = true := by decide +kernel
theorem ok182_6 : entOk Tryz.prog hints S8 5000 60 182 E182_6 = true := by decide +kernel
theorem ok182_7 : entOk Tryz.prog hints S8 5000 60 182 E182_7 = true := by decide +kernel
theorem ok182_8 : entOk Tryz.prog hints S8 5000 60 182 E182_8 = true := by decide +kernel
theorem ok182_9 : entOk Tryz.prog hints S8 5000 60 182 E182_9 = true := by decide +kernel
theorem ok182_10 : entOk Tryz.prog hints S8 5000 60 182 E182_10 = true := by decide +kernel
theorem ok182_11 : entOk Tryz.prog hints S8 5000 60 182 E182_11 = true := by decide +kernel
theorem ok182 : ∀ e, e ∈ E182 → entOk Tryz.prog hints S8 5000 60 182 e = true := List.forall_mem_cons.2 ⟨ok182_0, List.forall_mem_cons.2 ⟨ok182_1, List.forall_mem_cons.2 ⟨ok182_2, List.forall_mem_cons.2 ⟨ok182_3, List.forall_mem_cons.2 ⟨ok182_4, List.forall_mem_cons.2 ⟨ok182_5, List.forall_mem_cons.2 ⟨ok182_6, List.forall_mem_cons.2 ⟨ok182_7, List.forall_mem_cons.2 ⟨ok182_8, List.forall_mem_cons.2 ⟨ok182_9, List.forall_mem_cons.2 ⟨ok182_10, List.forall_mem_cons.2 ⟨ok182_11, List.forall_mem_nil _⟩⟩⟩⟩⟩⟩⟩⟩⟩⟩⟩⟩
end Go.Proofs.YtccpfaommgclkaaGreatDoor.Cut
