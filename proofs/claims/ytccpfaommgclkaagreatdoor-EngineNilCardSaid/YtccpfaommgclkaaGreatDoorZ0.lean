/-
  PROVED: calls that were run over abstract values, one by one: what each reads, writes, makes and answers. No condition.
-/
import Derived.Test.YtccpfaommgclkaaGreatDoorY0
set_option linter.unusedVariables false
set_option maxRecDepth 1000000
namespace Go.Proofs.YtccpfaommgclkaaGreatDoor.Cut
open Go.X
theorem ok67_0 : entOk Tryz.prog hints S0 5000 60 67 E67_0 = true := by decide +kernel
theorem ok67_1 : entOk Tryz.prog hints S0 5000 60 67 E67_1 = true := by decide +kernel
theorem ok67_2 : entOk Tryz.prog hints S0 5000 60 67 E67_2 = true := by decide +kernel
theorem ok67_3 : entOk Tryz.prog hints S0 5000 60 67 E67_3 = true := by decide +kernel
theorem ok67 : ∀ e, e ∈ E67 → entOk Tryz.prog hints S0 5000 60 67 e = true := List.forall_mem_cons.2 ⟨ok67_0, List.forall_mem_cons.2 ⟨ok67_1, List.forall_mem_cons.2 ⟨ok67_2, List.forall_mem_cons.2 ⟨ok67_3, List.forall_mem_nil _⟩⟩⟩⟩
theorem ok33_0 : entOk Tryz.prog hints S1 5000 60 33 E33_0 = true := by decide +kernel
theorem ok33_1 : entOk Tryz.prog hints S1 5000 60 33 E33_1 = true := by decide +kernel
theorem ok33_2 : entOk Tryz.prog hints S1 5000 60 33 E33_2 = true := by decide +kernel
theorem ok33_3 : entOk Tryz.prog hints S1 5000 60 33 E33_3 = true := by decide +kernel
theorem ok33 : ∀ e, e ∈ E33 → entOk Tryz.prog hints S1 5000 60 33 e = true := List.forall_mem_cons.2 ⟨ok33_0, List.forall_mem_cons.2 ⟨ok33_1, List.forall_mem_cons.2 ⟨ok33_2, List.forall_mem_cons.2 ⟨ok33_3, List.forall_mem_nil _⟩⟩⟩⟩
theorem ok16_0 : entOk Tryz.prog hints S2 5000 60 16 E16_0 = true := by decide +kernel
theorem ok16_1 : entOk Tryz.prog hints S2 5000 60 16 E16_1 = true := by decide +kernel
theorem ok16 : ∀ e, e ∈ E16 → entOk Tryz.prog hints S2 5000 60 16 e = true := List.forall_mem_cons.2 ⟨ok16_0, List.forall_mem_cons.2 ⟨ok16_1, List.forall_mem_nil _⟩⟩
end Go.Proofs.YtccpfaommgclkaaGreatDoor.Cut
