/-
  PROVED: calls that were run over abstract values, one by one: what each reads, writes, makes and answers. No condition.
-/
import Derived.Test.YtpdnbphdjcipfaaGreatDoorY3
set_option linter.unusedVariables false
set_option maxRecDepth 1000000
namespace Go.Proofs.YtpdnbphdjcipfaaGreatDoor.Cut
open Go.X
theorem ok20_0 : entOk Tryz.prog hints S10 5000 60 20 E20_0 = true := by decide +kernel
theorem ok20_1 : entOk Tryz.prog hints S10 5000 60 20 E20_1 = true := by decide +kernel
theorem ok20_2 : entOk Tryz.prog hints S10 5000 60 20 E20_2 = true := by decide +kernel
theorem ok20_3 : entOk Tryz.prog hints S10 5000 60 20 E20_3 = true := by decide +kernel
theorem ok20_4 : entOk Tryz.prog hints S10 5000 60 20 E20_4 = true := by decide +kernel
theorem ok20_5 : entOk Tryz.prog hints S10 5000 60 20 E20_5 = true := by decide +kernel
theorem ok20_6 : entOk Tryz.prog hints S10 5000 60 20 E20_6 = true := by decide +kernel
theorem ok20_7 : entOk Tryz.prog hints S10 5000 60 20 E20_7 = true := by decide +kernel
theorem ok20_8 : entOk Tryz.prog hints S10 5000 60 20 E20_8 = true := by decide +kernel
theorem ok20_9 : entOk Tryz.prog hints S10 5000 60 20 E20_9 = true := by decide +kernel
theorem ok20_10 : entOk Tryz.prog hints S10 5000 60 20 E20_10 = true := by decide +kernel
theorem ok20_11 : entOk Tryz.prog hints S10 5000 60 20 E20_11 = true := by decide +kernel
theorem ok20_12 : entOk Tryz.prog hints S10 5000 60 20 E20_12 = true := by decide +kernel
theorem ok20_13 : entOk Tryz.prog hints S10 5000 60 20 E20_13 = true := by decide +kernel
theorem ok20_14 : entOk Tryz.prog hints S10 5000 60 20 E20_14 = true := by decide +kernel
theorem ok20_15 : entOk Tryz.prog hints S10 5000 60 20 E20_15 = true := by decide +kernel
theorem ok20_16 : entOk Tryz.prog hints S10 5000 60 20 E20_16 = true := by decide +kernel
theorem ok20_17 : entOk Tryz.prog hints S10 5000 60 20 E20_17 = true := by decide +kernel
theorem ok20 : ∀ e, e ∈ E20 → entOk Tryz.prog hints S10 5000 60 20 e = true := List.forall_mem_cons.2 ⟨ok20_0, List.forall_mem_cons.2 ⟨ok20_1, List.forall_mem_cons.2 ⟨ok20_2, List.forall_mem_cons.2 ⟨ok20_3, List.forall_mem_cons.2 ⟨ok20_4, List.forall_mem_cons.2 ⟨ok20_5, List.forall_mem_cons.2 ⟨ok20_6, List.forall_mem_cons.2 ⟨ok20_7, List.forall_mem_cons.2 ⟨ok20_8, List.forall_mem_cons.2 ⟨ok20_9, List.forall_mem_cons.2 ⟨ok20_10, List.forall_mem_cons.2 ⟨ok20_11, List.forall_mem_cons.2 ⟨ok20_12, List.forall_mem_cons.2 ⟨ok20_13, List.forall_mem_cons.2 ⟨ok20_14, List.forall_mem_cons.2 ⟨ok20_15, List.forall_mem_cons.2 ⟨ok20_16, List.forall_mem_cons.2 ⟨ok20_17, List.forall_mem_nil _⟩⟩⟩⟩⟩⟩⟩⟩⟩⟩⟩⟩⟩⟩⟩⟩⟩⟩
end Go.Proofs.YtpdnbphdjcipfaaGreatDoor.Cut
