/-
  PROVED: calls that were run over abstract values, one by one: what each reads, writes, makes and answers. No condition.
-/
import Derived.Test.YtpdnbphdjcipfaaGreatDoorY3
set_option linter.unusedVariables false
set_option maxRecDepth 1000000
namespace Go.Proofs.YtpdnbphdjcipfaaGreatDoor.Cut
open Go.X
theorem ok103_0 : entOk Tryz.prog hints S3 5000 60 103 E103_0 = true := by decide +kernel
theorem ok103_1 : entOk Tryz.prog hints S3 5000 60 103 E103_1 = true := by decide +kernel
theorem ok103_2 : entOk Tryz.prog hints S3 5000 60 103 E103_2 = true := by decide +kernel
theorem ok103_3 : entOk Tryz.prog hints S3 5000 60 103 E103_3 = true := by decide +kernel
theorem ok103_4 : entOk Tryz.prog hints S3 5000 60 103 E103_4 = true := by decide +kernel
theorem ok103_5 : entOk Tryz.prog hints S3 5000 60 103 E103_5 = true := by decide +kernel
theorem ok103_6 : entOk Tryz.prog hints S3 5000 60 103 E103_6 = true := by decide +kernel
theorem ok103_7 : entOk Tryz.prog hints S3 5000 60 103 E103_7 = true := by decide +kernel
theorem ok103_8 : entOk Tryz.prog hints S3 5000 60 103 E103_8 = true := by decide +kernel
theorem ok103_9 : entOk Tryz.prog hints S3 5000 60 103 E103_9 = true := by decide +kernel
theorem ok103_10 : entOk Tryz.prog hints S3 5000 60 103 E103_10 = true := by decide +kernel
theorem ok103_11 : entOk Tryz.prog hints S3 5000 60 103 E103_11 = true := by decide +kernel
theorem ok103_12 : entOk Tryz.prog hints S3 5000 60 103 E103_12 = true := by decide +kernel
theorem ok103_13 : entOk Tryz.prog hints S3 5000 60 103 E103_13 = true := by decide +kernel
theorem ok103_14 : entOk Tryz.prog hints S3 5000 60 103 E103_14 = true := by decide +kernel
theorem ok103_15 : entOk Tryz.prog hints S3 5000 60 103 E103_15 = true := by decide +kernel
theorem ok103_16 : entOk Tryz.prog hints S3 5000 60 103 E103_16 = true := by decide +kernel
theorem ok103_17 : entOk Tryz.prog hints S3 5000 60 103 E103_17 = true := by decide +kernel
theorem ok103_18 : entOk Tryz.prog hints S3 5000 60 103 E103_18 = true := by decide +kernel
theorem ok103_19 : entOk Tryz.prog hints S3 5000 60 103 E103_19 = true := by decide +kernel
theorem ok103 : ∀ e, e ∈ E103 → entOk Tryz.prog hints S3 5000 60 103 e = true := List.forall_mem_cons.2 ⟨ok103_0, List.forall_mem_cons.2 ⟨ok103_1, List.forall_mem_cons.2 ⟨ok103_2, List.forall_mem_cons.2 ⟨ok103_3, List.forall_mem_cons.2 ⟨ok103_4, List.forall_mem_cons.2 ⟨ok103_5, List.forall_mem_cons.2 ⟨ok103_6, List.forall_mem_cons.2 ⟨ok103_7, List.forall_mem_cons.2 ⟨ok103_8, List.forall_mem_cons.2 ⟨ok103_9, List.forall_mem_cons.2 ⟨ok103_10, List.forall_mem_cons.2 ⟨ok103_11, List.forall_mem_cons.2 ⟨ok103_12, List.forall_mem_cons.2 ⟨ok103_13, List.forall_mem_cons.2 ⟨ok103_14, List.forall_mem_cons.2 ⟨ok103_15, List.forall_mem_cons.2 ⟨ok103_16, List.forall_mem_cons.2 ⟨ok103_17, List.forall_mem_cons.2 ⟨ok103_18, List.forall_mem_cons.2 ⟨ok103_19, List.forall_mem_nil _⟩⟩⟩⟩⟩⟩⟩⟩⟩⟩⟩⟩⟩⟩⟩⟩⟩⟩⟩⟩
end Go.Proofs.YtpdnbphdjcipfaaGreatDoor.Cut
