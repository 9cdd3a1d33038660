/-
  PROVED: calls that were run over abstract values, one by one: what each reads, writes, makes and answers. No condition.
-/
import Derived.Test.YtccpfaommgclkaaGreatDoorY0
set_option linter.unusedVariables false
set_option maxRecDepth 1000000
namespace Go.Proofs.YtccpfaommgclkaaGreatDoor.Cut
open Go.X
theorem ok50_0 : entOk Tryz.prog hints S32 5000 60 50 E50_0 = true := by decide +kernel
theorem ok50_1 : entOk Tryz.prog hints S32 5000 60 50 E50_1 = true := by decide +kernel
theorem ok50 : ∀ e, e ∈ E50 → entOk Tryz.prog hints S32 5000 60 50 e = true := List.forall_mem_cons.2 ⟨ok50_0, List.forall_mem_cons.2 ⟨ok50_1, List.forall_mem_nil _⟩⟩
theorem ok51_0 : entOk Tryz.prog hints S33 5000 60 51 E51_0 = true := by decide +kernel
theorem ok51 : ∀ e, e ∈ E51 → entOk Tryz.prog hints S33 5000 60 51 e = true := List.forall_mem_cons.2 ⟨ok51_0, List.forall_mem_nil _⟩
theorem ok52_0 : entOk Tryz.prog hints S34 5000 60 52 E52_0 = true := by decide +kernel
theorem ok52 : ∀ e, e ∈ E52 → entOk Tryz.prog hints S34 5000 60 52 e = true := List.forall_mem_cons.2 ⟨ok52_0, List.forall_mem_nil _⟩
theorem ok22_0 : entOk Tryz.prog hints S35 5000 60 22 E22_0 = true := by decide +kernel
theorem ok22 : ∀ e, e ∈ E22 → entOk Tryz.prog hints S35 5000 60 22 e = true := List.forall_mem_cons.2 ⟨ok22_0, List.forall_mem_nil _⟩
theorem ok151_0 : entOk Tryz.prog hints S36 5000 60 151 E151_0 = true := by decide +kernel
theorem ok151_1 : entOk Tryz.prog hints S36 5000 60 151 E151_1 = true := by decide +kernel
theorem ok151_2 : entOk Tryz.prog hints S36 5000 60 151 E151_2 = true := by decide +kernel
theorem ok151_3 : entOk Tryz.prog hints S36 5000 60 151 E151_3 = true := by decide +kernel
theorem ok151_4 : entOk Tryz.prog hints S36 5000 60 151 E151_4 = true := by decide +kernel
theorem ok151 : ∀ e, e ∈ E151 → entOk Tryz.prog hints S36 5000 60 151 e = true := List.forall_mem_cons.2 ⟨ok151_0, List.forall_mem_cons.2 ⟨ok151_1, List.forall_mem_cons.2 ⟨ok151_2, List.forall_mem_cons.2 ⟨ok151_3, List.forall_mem_cons.2 ⟨ok151_4, List.forall_mem_nil _⟩⟩⟩⟩⟩
end Go.Proofs.YtccpfaommgclkaaGreatDoor.Cut
