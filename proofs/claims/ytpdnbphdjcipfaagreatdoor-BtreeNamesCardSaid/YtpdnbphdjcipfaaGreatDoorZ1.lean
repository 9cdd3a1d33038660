/-
  PROVED: calls that were run over abstract values, one by one: what each reads, writes, makes and answers. No condition.
-/
import Derived.Test.YtpdnbphdjcipfaaGreatDoorY3
set_option linter.unusedVariables false
set_option maxRecDepth 1000000
namespace Go.Proofs.YtpdnbphdjcipfaaGreatDoor.Cut
open Go.X
theorem ok153_0 : entOk Tryz.prog hints S1 5000 60 153 E153_0 = true := by decide +kernel
theorem ok153_1 : entOk Tryz.prog hints S1 5000 60 153 E153_1 = true := by decide +kernel
theorem ok153_2 : entOk Tryz.prog hints S1 5000 60 153 E153_2 = true := by decide +kernel
theorem ok153_3 : entOk Tryz.prog hints S1 5000 60 153 E153_3 = true := by decide +kernel
theorem ok153_4 : entOk Tryz.prog hints S1 5000 60 153 E153_4 = true := by decide +kernel
theorem ok153_5 : entOk Tryz.prog hints S1 5000 60 153 E153_5 = true := by decide +kernel
theorem ok153_6 : entOk Tryz.prog hints S1 5000 60 153 E153_6 = true := by decide +kernel
theorem ok153_7 : entOk Tryz.prog hints S1 5000 60 153 E153_7 = true := by decide +kernel
theorem ok153_8 : entOk Tryz.prog hints S1 5000 60 153 E153_8 = true := by decide +kernel
theorem ok153_9 : entOk Tryz.prog hints S1 5000 60 153 E153_9 = true := by decide +kernel
theorem ok153_10 : entOk Tryz.prog hints S1 5000 60 153 E153_10 = true := by decide +kernel
theorem ok153_11 : entOk Tryz.prog hints S1 5000 60 153 E153_11 = true := by decide +kernel
theorem ok153_12 : entOk Tryz.prog hints S1 5000 60 153 E153_12 = true := by decide +kernel
theorem ok153_13 : entOk Tryz.prog hints S1 5000 60 153 E153_13 = true := by decide +kernel
theorem ok153_14 : entOk Tryz.prog hints S1 5000 60 153 E153_14 = true := by decide +kernel
theorem ok153_15 : entOk Tryz.prog hints S1 5000 60 153 E153_15 = true := by decide +kernel
theorem ok153_16 : entOk Tryz.prog hints S1 5000 60 153 E153_16 = true := by decide +kernel
theorem ok153_17 : entOk Tryz.prog hints S1 5000 60 153 E153_17 = true := by decide +kernel
theorem ok153_18 : entOk Tryz.prog hints S1 5000 60 153 E153_18 = true := by decide +kernel
theorem ok153_19 : entOk Tryz.prog hints S1 5000 60 153 E153_19 = true := by decide +kernel
theorem ok153_20 : entOk Tryz.prog hints S1 5000 60 153 E153_20 = true := by decide +kernel
theorem ok153 : ∀ e, e ∈ E153 → entOk Tryz.prog hints S1 5000 60 153 e = true := List.forall_mem_cons.2 ⟨ok153_0, List.forall_mem_cons.2 ⟨ok153_1, List.forall_mem_cons.2 ⟨ok153_2, List.forall_mem_cons.2 ⟨ok153_3, List.forall_mem_cons.2 ⟨ok153_4, List.forall_mem_cons.2 ⟨ok153_5, List.forall_mem_cons.2 ⟨ok153_6, List.forall_mem_cons.2 ⟨ok153_7, List.forall_mem_cons.2 ⟨ok153_8, List.forall_mem_cons.2 ⟨ok153_9, List.forall_mem_cons.2 ⟨ok153_10, List.forall_mem_cons.2 ⟨ok153_11, List.forall_mem_cons.2 ⟨ok153_12, List.forall_mem_cons.2 ⟨ok153_13, List.forall_mem_cons.2 ⟨ok153_14, List.forall_mem_cons.2 ⟨ok153_15, List.forall_mem_cons.2 ⟨ok153_16, List.forall_mem_cons.2 ⟨ok153_17, List.forall_mem_cons.2 ⟨ok153_18, List.forall_mem_cons.2 ⟨ok153_19, List.forall_mem_cons.2 ⟨ok153_20, List.forall_mem_nil _⟩⟩⟩⟩⟩⟩⟩⟩⟩⟩⟩⟩⟩⟩⟩⟩⟩⟩⟩⟩⟩
end Go.Proofs.YtpdnbphdjcipfaaGreatDoor.Cut
