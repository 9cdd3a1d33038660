/-
  PROVED: calls that were run over abstract values, one by one: what each reads, writes, makes and answers. No condition.
-/
import Derived.Test.YtpdnbphdjcipfaaGreatDoorY3
set_option linter.unusedVariables false
set_option maxRecDepth 1000000
namespace Go.Proofs.YtpdnbphdjcipfaaGreatDoor.Cut
open Go.X
theorem ok100_0 : entOk Tryz.prog hints S13 5000 60 100 E100_0 = true := by decide +kernel
theorem ok100_1 : entOk Tryz.prog hints S13 5000 60 100 E100_1 = true := by decide +kernel
theorem ok100_2 : entOk Tryz.prog hints S13 5000 60 100 E100_2 = true := by decide +kernel
theorem ok100_3 : entOk Tryz.prog hints S13 5000 60 100 E100_3 = true := by decide +kernel
theorem ok100_4 : entOk Tryz.prog hints S13 5000 60 100 E100_4 = true := by decide +kernel
theorem ok100 : ∀ e, e ∈ E100 → entOk Tryz.prog hints S13 5000 60 100 e = true := List.forall_mem_cons.2 ⟨ok100_0, List.forall_mem_cons.2 ⟨ok100_1, List.forall_mem_cons.2 ⟨ok100_2, List.forall_mem_cons.2 ⟨ok100_3, List.forall_mem_cons.2 ⟨ok100_4, List.forall_mem_nil _⟩⟩⟩⟩⟩
theorem ok64_0 : entOk Tryz.prog hints S14 5000 60 64 E64_0 = true := by decide +kernel
theorem ok64_1 : entOk Tryz.prog hints S14 5000 60 64 E64_1 = true := by decide +kernel
theorem ok64_2 : entOk Tryz.prog hints S14 5000 60 64 E64_2 = true := by decide +kernel
theorem ok64_3 : entOk Tryz.prog hints S14 5000 60 64 E64_3 = true := by decide +kernel
theorem ok64_4 : entOk Tryz.prog hints S14 5000 60 64 E64_4 = true := by decide +kernel
theorem ok64_5 : entOk Tryz.prog hints S14 5000 60 64 E64_5 = true := by decide +kernel
theorem ok64_6 : entOk Tryz.prog hints S14 5000 60 64 E64_6 = true := by decide +kernel
theorem ok64_7 : entOk Tryz.prog hints S14 5000 60 64 E64_7 = true := by decide +kernel
theorem ok64_8 : entOk Tryz.prog hints S14 5000 60 64 E64_8 = true := by decide +kernel
theorem ok64_9 : entOk Tryz.prog hints S14 5000 60 64 E64_9 = true := by decide +kernel
theorem ok64_10 : entOk Tryz.prog hints S14 5000 60 64 E64_10 = true := by decide +kernel
theorem ok64_11 : entOk Tryz.prog hints S14 5000 60 64 E64_11 = true := by decide +kernel
theorem ok64_12 : entOk Tryz.prog hints S14 5000 60 64 E64_12 = true := by decide +kernel
theorem ok64_13 : entOk Tryz.prog hints S14 5000 60 64 E64_13 = true := by decide +kernel
theorem ok64_14 : entOk Tryz.prog hints S14 5000 60 64 E64_14 = true := by decide +kernel
theorem ok64_15 : entOk Tryz.prog hints S14 5000 60 64 E64_15 = true := by decide +kernel
theorem ok64_16 : entOk Tryz.prog hints S14 5000 60 64 E64_16 = true := by decide +kernel
theorem ok64_17 : entOk Tryz.prog hints S14 5000 60 64 E64_17 = true := by decide +kernel
theorem ok64 : ∀ e, e ∈ E64 → entOk Tryz.prog hints S14 5000 60 64 e = true := List.forall_mem_cons.2 ⟨ok64_0, List.forall_mem_cons.2 ⟨ok64_1, List.forall_mem_cons.2 ⟨ok64_2, List.forall_mem_cons.2 ⟨ok64_3, List.forall_mem_cons.2 ⟨ok64_4, List.forall_mem_cons.2 ⟨ok64_5, List.forall_mem_cons.2 ⟨ok64_6, List.forall_mem_cons.2 ⟨ok64_7, List.forall_mem_cons.2 ⟨ok64_8, List.forall_mem_cons.2 ⟨ok64_9, List.forall_mem_cons.2 ⟨ok64_10, List.forall_mem_cons.2 ⟨ok64_11, List.forall_mem_cons.2 ⟨ok64_12, List.forall_mem_cons.2 ⟨ok64_13, List.forall_mem_cons.2 ⟨ok64_14, List.forall_mem_cons.2 ⟨ok64_15, List.forall_mem_cons.2 ⟨ok64_16, List.forall_mem_cons.2 ⟨ok64_17, List.forall_mem_nil _⟩⟩⟩⟩⟩⟩⟩⟩⟩⟩⟩⟩⟩⟩⟩⟩⟩⟩
end Go.Proofs.YtpdnbphdjcipfaaGreatDoor.Cut
