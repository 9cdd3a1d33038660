/-
  PROVED: calls that were run over abstract values, one by one: what each reads, writes, makes and answers. No condition.
-/
import Derived.Test.YtacmamkpecmboaaGreatDoorY1
set_option linter.unusedVariables false
set_option maxRecDepth 1000000
namespace Go.Proofs.YtacmamkpecmboaaGreatDoor.Cut
open Go.X
theorem ok19_0 : entOk Tryz.prog hints S24 5000 60 19 E19_0 = true := by decide +kernel
theorem ok19 : ∀ e, e ∈ E19 → entOk Tryz.prog hints S24 5000 60 19 e = true := List.forall_mem_cons.2 ⟨ok19_0, List.forall_mem_nil _⟩
theorem ok6_0 : entOk Tryz.prog hints S25 5000 60 6 E6_0 = true := by decide +kernel
theorem ok6_1 : entOk Tryz.prog hints S25 5000 60 6 E6_1 = true := by decide +kernel
theorem ok6 : ∀ e, e ∈ E6 → entOk Tryz.prog hints S25 5000 60 6 e = true := List.forall_mem_cons.2 ⟨ok6_0, List.forall_mem_cons.2 ⟨ok6_1, List.forall_mem_nil _⟩⟩
theorem ok7_0 : entOk Tryz.prog hints S26 5000 60 7 E7_0 = true := by decide +kernel
theorem ok7_1 : entOk Tryz.prog hints S26 5000 60 7 E7_1 = true := by decide +kernel
theorem ok7 : ∀ e, e ∈ E7 → entOk Tryz.prog hints S26 5000 60 7 e = true := List.forall_mem_cons.2 ⟨ok7_0, List.forall_mem_cons.2 ⟨ok7_1, List.forall_mem_nil _⟩⟩
theorem ok16_0 : entOk Tryz.prog hints S27 5000 60 16 E16_0 = true := by decide +kernel
theorem ok16 : ∀ e, e ∈ E16 → entOk Tryz.prog hints S27 5000 60 16 e = true := List.forall_mem_cons.2 ⟨ok16_0, List.forall_mem_nil _⟩
theorem ok17_0 : entOk Tryz.prog hints S28 5000 60 17 E17_0 = true := by decide +kernel
theorem ok17 : ∀ e, e ∈ E17 → entOk Tryz.prog hints S28 5000 60 17 e = true := List.forall_mem_cons.2 ⟨ok17_0, List.forall_mem_nil _⟩
theorem ok12_0 : entOk Tryz.prog hints S29 5000 60 12 E12_0 = true := by decide +kernel
theorem ok12 : ∀ e, e ∈ E12 → entOk Tryz.prog hints S29 5000 60 12 e = true := List.forall_mem_cons.2 ⟨ok12_0, List.forall_mem_nil _⟩
theorem ok11_0 : entOk Tryz.prog hints S30 5000 60 11 E11_0 = true := by decide +kernel
theorem ok11 : ∀ e, e ∈ E11 → entOk Tryz.prog hints S30 5000 60 11 e = true := List.forall_mem_cons.2 ⟨ok11_0, List.forall_mem_nil _⟩
theorem ok13_0 : entOk Tryz.prog hints S31 5000 60 13 E13_0 = true := by decide +kernel
theorem ok13 : ∀ e, e ∈ E13 → entOk Tryz.prog hints S31 5000 60 13 e = true := List.forall_mem_cons.2 ⟨ok13_0, List.forall_mem_nil _⟩
end Go.Proofs.YtacmamkpecmboaaGreatDoor.Cut
