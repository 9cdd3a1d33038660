/-
  PROVED: calls that were run over abstract values, one by one: what each reads, writes, makes and answers. No condition.
-/
import Derived.Test.YtpdnbphdjcipfaaGreatDoorY3
set_option linter.unusedVariables false
set_option maxRecDepth 1000000
namespace Go.Proofs.YtpdnbphdjcipfaaGreatDoor.Cut
open Go.X
theorem ok148_0 : entOk Tryz.prog hints S2 5000 60 148 E148_0 = true := by decide +kernel
theorem ok148_1 : entOk Tryz.prog hints S2 5000 60 148 E148_1 = true := by decide +kernel
theorem ok148_2 : entOk Tryz.prog hints S2 5000 60 148 E148_2 = true := by decide +kernel
theorem ok148_3 : entOk Tryz.prog hints S2 5000 60 148 E148_3 = true := by decide +kernel
theorem ok148_4 : entOk Tryz.prog hints S2 5000 60 148 E148_4 = true := by decide +kernel
theorem ok148_5 : entOk Tryz.prog hints S2 5000 60 148 E148_5 = true := by decide +kernel
theorem ok148_6 : entOk Tryz.prog hints S2 5000 60 148 E148_6 = true := by decide +kernel
theorem ok148_7 : entOk Tryz.prog hints S2 5000 60 148 E148_7 = true := by decide +kernel
theorem ok148_8 : entOk Tryz.prog hints S2 5000 60 148 E148_8 = true := by decide +kernel
theorem ok148_9 : entOk Tryz.prog hints S2 5000 60 148 E148_9 = true := by decide +kernel
theorem ok148_10 : entOk Tryz.prog hints S2 5000 60 148 E148_10 = true := by decide +kernel
theorem ok148_11 : entOk Tryz.prog hints S2 5000 60 148 E148_11 = true := by decide +kernel
theorem ok148_12 : entOk Tryz.prog hints S2 5000 60 148 E148_12 = true := by decide +kernel
theorem ok148_13 : entOk Tryz.prog hints S2 5000 60 148 E148_13 = true := by decide +kernel
theorem ok148_14 : entOk Tryz.prog hints S2 5000 60 148 E148_14 = true := by decide +kernel
theorem ok148_15 : entOk Tryz.prog hints S2 5000 60 148 E148_15 = true := by decide +kernel
theorem ok148_16 : entOk Tryz.prog hints S2 5000 60 148 E148_16 = true := by decide +kernel
theorem ok148_17 : entOk Tryz.prog hints S2 5000 60 148 E148_17 = true := by decide +kernel
theorem ok148_18 : entOk Tryz.prog hints S2 5000 60 148 E148_18 = true := by decide +kernel
theorem ok148_19 : entOk Tryz.prog hints S2 5000 60 148 E148_19 = true := by decide +kernel
theorem ok148 : ∀ e, e ∈ E148 → entOk Tryz.prog hints S2 5000 60 148 e = true := List.forall_mem_cons.2 ⟨ok148_0, List.forall_mem_cons.2 ⟨ok148_1, List.forall_mem_cons.2 ⟨ok148_2, List.forall_mem_cons.2 ⟨ok148_3, List.forall_mem_cons.2 ⟨ok148_4, List.forall_mem_cons.2 ⟨ok148_5, List.forall_mem_cons.2 ⟨ok148_6, List.forall_mem_cons.2 ⟨ok148_7, List.forall_mem_cons.2 ⟨ok148_8, List.forall_mem_cons.2 ⟨ok148_9, List.forall_mem_cons.2 ⟨ok148_10, List.forall_mem_cons.2 ⟨ok148_11, List.forall_mem_cons.2 ⟨ok148_12, List.forall_mem_cons.2 ⟨ok148_13, List.forall_mem_cons.2 ⟨ok148_14, List.forall_mem_cons.2 ⟨ok148_15, List.forall_mem_cons.2 ⟨ok148_16, List.forall_mem_cons.2 ⟨ok148_17, List.forall_mem_cons.2 ⟨ok148_18, List.forall_mem_cons.2 ⟨ok148_19, List.forall_mem_nil _⟩⟩⟩⟩⟩⟩⟩⟩⟩⟩⟩⟩⟩⟩⟩⟩⟩⟩⟩⟩
end Go.Proofs.YtpdnbphdjcipfaaGreatDoor.Cut
