/-
  PROVED: calls that were run over abstract values, one by one: what each reads, writes, makes and answers. No condition.
-/
import Derived.Test.YtpdnbphdjcipfaaGreatDoorY3
set_option linter.unusedVariables false
set_option maxRecDepth 1000000
namespace Go.Proofs.YtpdnbphdjcipfaaGreatDoor.Cut
open Go.X
theorem ok78_0 : entOk Tryz.prog hints S6 5000 60 78 E78_0 = true := by decide +kernel
theorem ok78_1 : entOk Tryz.prog hints S6 5000 60 78 E78_1 = true := by decide +kernel
theorem ok78_2 : entOk Tryz.prog hints S6 5000 60 78 E78_2 = true := by decide +kernel
theorem ok78_3 : entOk Tryz.prog hints S6 5000 60 78 E78_3 = true := by decide +kernel
theorem ok78_4 : entOk Tryz.prog hints S6 5000 60 78 E78_4 = true := by decide +kernel
theorem ok78_5 : entOk Tryz.prog hints S6 5000 60 78 E78_5 = true := by decide +kernel
theorem ok78_6 : entOk Tryz.prog hints S6 5000 60 78 E78_6 = true := by decide +kernel
theorem ok78_7 : entOk Tryz.prog hints S6 5000 60 78 E78_7 = true := by decide +kernel
theorem ok78_8 : entOk Tryz.prog hints S6 5000 60 78 E78_8 = true := by decide +kernel
theorem ok78_9 : entOk Tryz.prog hints S6 5000 60 78 E78_9 = true := by decide +kernel
theorem ok78_10 : entOk Tryz.prog hints S6 5000 60 78 E78_10 = true := by decide +kernel
theorem ok78_11 : entOk Tryz.prog hints S6 5000 60 78 E78_11 = true := by decide +kernel
theorem ok78_12 : entOk Tryz.prog hints S6 5000 60 78 E78_12 = true := by decide +kernel
theorem ok78_13 : entOk Tryz.prog hints S6 5000 60 78 E78_13 = true := by decide +kernel
theorem ok78_14 : entOk Tryz.prog hints S6 5000 60 78 E78_14 = true := by decide +kernel
theorem ok78_15 : entOk Tryz.prog hints S6 5000 60 78 E78_15 = true := by decide +kernel
theorem ok78_16 : entOk Tryz.prog hints S6 5000 60 78 E78_16 = true := by decide +kernel
theorem ok78_17 : entOk Tryz.prog hints S6 5000 60 78 E78_17 = true := by decide +kernel
theorem ok78 : ∀ e, e ∈ E78 → entOk Tryz.prog hints S6 5000 60 78 e = true := List.forall_mem_cons.2 ⟨ok78_0, List.forall_mem_cons.2 ⟨ok78_1, List.forall_mem_cons.2 ⟨ok78_2, List.forall_mem_cons.2 ⟨ok78_3, List.forall_mem_cons.2 ⟨ok78_4, List.forall_mem_cons.2 ⟨ok78_5, List.forall_mem_cons.2 ⟨ok78_6, List.forall_mem_cons.2 ⟨ok78_7, List.forall_mem_cons.2 ⟨ok78_8, List.forall_mem_cons.2 ⟨ok78_9, List.forall_mem_cons.2 ⟨ok78_10, List.forall_mem_cons.2 ⟨ok78_11, List.forall_mem_cons.2 ⟨ok78_12, List.forall_mem_cons.2 ⟨ok78_13, List.forall_mem_cons.2 ⟨ok78_14, List.forall_mem_cons.2 ⟨ok78_15, List.forall_mem_cons.2 ⟨ok78_16, List.forall_mem_cons.2 ⟨ok78_17, List.forall_mem_nil _⟩⟩⟩⟩⟩⟩⟩⟩⟩⟩⟩⟩⟩⟩⟩⟩⟩⟩
end Go.Proofs.YtpdnbphdjcipfaaGreatDoor.Cut
