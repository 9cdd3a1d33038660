/-
  PROVED: calls that were run over abstract values, one by one: what each reads, writes, makes and answers. No condition.
-/
import Derived.Test.YtacmamkpecmboaaGreatDoorY1
set_option linter.unusedVariables false
set_option maxRecDepth 1000000
namespace Go.Proofs.YtacmamkpecmboaaGreatDoor.Cut
open Go.X
theorem ok130_0 : entOk Tryz.prog hints S0 5000 60 130 E130_0 = true := by decide +kernel
theorem ok130_1 : entOk Tryz.prog hints S0 5000 60 130 E130_1 = true := by decide +kernel
theorem ok130_2 : entOk Tryz.prog hints S0 5000 60 130 E130_2 = true := by decide +kernel
theorem ok130_3 : entOk Tryz.prog hints S0 5000 60 130 E130_3 = true := by decide +kernel
theorem ok130_4 : entOk Tryz.prog hints S0 5000 60 130 E130_4 = true := by decide +kernel
theorem ok130_5 : entOk Tryz.prog hints S0 5000 60 130 E130_5 = true := by decide +kernel
theorem ok130_6 : entOk Tryz.prog hints S0 5000 60 130 E130_6 = true := by decide +kernel
theorem ok130 : ∀ e, e ∈ E130 → entOk Tryz.prog hints S0 5000 60 130 e = true := List.forall_mem_cons.2 ⟨ok130_0, List.forall_mem_cons.2 ⟨ok130_1, List.forall_mem_cons.2 ⟨ok130_2, List.forall_mem_cons.2 ⟨ok130_3, List.forall_mem_cons.2 ⟨ok130_4, List.forall_mem_cons.2 ⟨ok130_5, List.forall_mem_cons.2 ⟨ok130_6, List.forall_mem_nil _⟩⟩⟩⟩⟩⟩⟩
theorem ok107_0 : entOk Tryz.prog hints S1 5000 60 107 E107_0 = true := by decide +kernel
theorem ok107_1 : entOk Tryz.prog hints S1 5000 60 107 E107_1 = true := by decide +kernel
theorem ok107_2 : entOk Tryz.prog hints S1 5000 60 107 E107_2 = true := by decide +kernel
theorem ok107_3 : entOk Tryz.prog hints S1 5000 60 107 E107_3 = true := by decide +kernel
theorem ok107_4 : entOk Tryz.prog hints S1 5000 60 107 E107_4 = true := by decide +kernel
theorem ok107_5 : entOk Tryz.prog hints S1 5000 60 107 E107_5 = true := by decide +kernel
theorem ok107_6 : entOk Tryz.prog hints S1 5000 60 107 E107_6 = true := by decide +kernel
theorem ok107 : ∀ e, e ∈ E107 → entOk Tryz.prog hints S1 5000 60 107 e = true := List.forall_mem_cons.2 ⟨ok107_0, List.forall_mem_cons.2 ⟨ok107_1, List.forall_mem_cons.2 ⟨ok107_2, List.forall_mem_cons.2 ⟨ok107_3, List.forall_mem_cons.2 ⟨ok107_4, List.forall_mem_cons.2 ⟨ok107_5, List.forall_mem_cons.2 ⟨ok107_6, List.forall_mem_nil _⟩⟩⟩⟩⟩⟩⟩
end Go.Proofs.YtacmamkpecmboaaGreatDoor.Cut
