/-
  PROVED: calls that were run over abstract values, one by one: what each reads, writes, makes and answers. No condition.
-/
import Derived.Test.YtccpfaommgclkaaGreatDoorY0
set_option linter.unusedVariables false
set_option maxRecDepth 1000000
namespace Go.Proofs.YtccpfaommgclkaaGreatDoor.Cut
open Go.X
theorem ok17_0 : entOk Tryz.prog hints S16 5000 60 17 E17_0 = true := by decide +kernel
theorem ok17 : ∀ e, e ∈ E17 → entOk Tryz.prog hints S16 5000 60 17 e = true := List.forall_mem_cons.2 ⟨ok17_0, List.forall_mem_nil _⟩
theorem ok132_0 : entOk Tryz.prog hints S17 5000 60 132 E132_0 = true := by decide +kernel
theorem ok132_1 : entOk Tryz.prog hints S17 5000 60 132 E132_1 = true := by decide +kernel
theorem ok132 : ∀ e, e ∈ E132 → entOk Tryz.prog hints S17 5000 60 132 e = true := List.forall_mem_cons.2 ⟨ok132_0, List.forall_mem_cons.2 ⟨ok132_1, List.forall_mem_nil _⟩⟩
theorem ok75_0 : entOk Tryz.prog hints S18 5000 60 75 E75_0 = true := by decide +kernel
theorem ok75_1 : entOk Tryz.prog hints S18 5000 60 75 E75_1 = true := by decide +kernel
theorem ok75 : ∀ e, e ∈ E75 → entOk Tryz.prog hints S18 5000 60 75 e = true := List.forall_mem_cons.2 ⟨ok75_0, List.forall_mem_cons.2 ⟨ok75_1, List.forall_mem_nil _⟩⟩
theorem ok42_0 : entOk Tryz.prog hints S19 5000 60 42 E42_0 = true := by decide +kernel
theorem ok42 : ∀ e, e ∈ E42 → entOk Tryz.prog hints S19 5000 60 42 e = true := List.forall_mem_cons.2 ⟨ok42_0, List.forall_mem_nil _⟩
theorem ok44_0 : entOk Tryz.prog hints S20 5000 60 44 E44_0 = true := by decide +kernel
theorem ok44_1 : entOk Tryz.prog hints S20 5000 60 44 E44_1 = true := by decide +kernel
theorem ok44 : ∀ e, e ∈ E44 → entOk Tryz.prog hints S20 5000 60 44 e = true := List.forall_mem_cons.2 ⟨ok44_0, List.forall_mem_cons.2 ⟨ok44_1, List.forall_mem_nil _⟩⟩
theorem ok134_0 : entOk Tryz.prog hints S21 5000 60 134 E134_0 = true := by decide +kernel
theorem ok134_1 : entOk Tryz.prog hints S21 5000 60 134 E134_1 = true := by decide +kernel
theorem ok134_2 : entOk Tryz.prog hints S21 5000 60 134 E134_2 = true := by decide +kernel
theorem ok134_3 : entOk Tryz.prog hints S21 5000 60 134 E134_3 = true := by decide +kernel
theorem ok134_4 : entOk Tryz.prog hints S21 5000 60 134 E134_4 = true := by decide +kernel
theorem ok134_5 : entOk Tryz.prog hints S21 5000 60 134 E134_5 = true := by decide +kernel
theorem ok134_6 : entOk Tryz.prog hints S21 5000 60 134 E134_6 = true := by decide +kernel
theorem ok134 : ∀ e, e ∈ E134 → entOk Tryz.prog hints S21 5000 60 134 e = true := List.forall_mem_cons.2 ⟨ok134_0, List.forall_mem_cons.2 ⟨ok134_1, List.forall_mem_cons.2 ⟨ok134_2, List.forall_mem_cons.2 ⟨ok134_3, List.forall_mem_cons.2 ⟨ok134_4, List.forall_mem_cons.2 ⟨ok134_5, List.forall_mem_cons.2 ⟨ok134_6, List.forall_mem_nil _⟩⟩⟩⟩⟩⟩⟩
end Go.Proofs.YtccpfaommgclkaaGreatDoor.Cut
