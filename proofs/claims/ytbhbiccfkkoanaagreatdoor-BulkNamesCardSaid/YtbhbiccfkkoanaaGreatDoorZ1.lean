/-
  PROVED: calls that were run over abstract values, one by one: what each reads, writes, makes and answers. No condition.
-/
import Derived.Test.YtbhbiccfkkoanaaGreatDoorY1
set_option linter.unusedVariables false
set_option maxRecDepth 1000000
namespace Go.Proofs.YtbhbiccfkkoanaaGreatDoor.Cut
open Go.X
theorem ok40_0 : entOk Tryz.prog hints S1 5000 60 40 E40_0 = true := by decide +kernel
theorem ok40_1 : entOk Tryz.prog hints S1 5000 60 40 E40_1 = true := by decide +kernel
theorem ok40_2 : entOk Tryz.prog hints S1 5000 60 40 E40_2 = true := by decide +kernel
theorem ok40 : ∀ e, e ∈ E40 → entOk Tryz.prog hints S1 5000 60 40 e = true := List.forall_mem_cons.2 ⟨ok40_0, List.forall_mem_cons.2 ⟨ok40_1, List.forall_mem_cons.2 ⟨ok40_2, List.forall_mem_nil _⟩⟩⟩
theorem ok18_0 : entOk Tryz.prog hints S2 5000 60 18 E18_0 = true := by decide +kernel
theorem ok18_1 : entOk Tryz.prog hints S2 5000 60 18 E18_1 = true := by decide +kernel
theorem ok18 : ∀ e, e ∈ E18 → entOk Tryz.prog hints S2 5000 60 18 e = true := List.forall_mem_cons.2 ⟨ok18_0, List.forall_mem_cons.2 ⟨ok18_1, List.forall_mem_nil _⟩⟩
theorem ok45_0 : entOk Tryz.prog hints S3 5000 60 45 E45_0 = true := by decide +kernel
theorem ok45_1 : entOk Tryz.prog hints S3 5000 60 45 E45_1 = true := by decide +kernel
theorem ok45_2 : entOk Tryz.prog hints S3 5000 60 45 E45_2 = true := by decide +kernel
theorem ok45_3 : entOk Tryz.prog hints S3 5000 60 45 E45_3 = true := by decide +kernel
theorem ok45_4 : entOk Tryz.prog hints S3 5000 60 45 E45_4 = true := by decide +kernel
theorem ok45_5 : entOk Tryz.prog hints S3 5000 60 45 E45_5 = true := by decide +kernel
theorem ok45_6 : entOk Tryz.prog hints S3 5000 60 45 E45_6 = true := by decide +kernel
theorem ok45_7 : entOk Tryz.prog hints S3 5000 60 45 E45_7 = true := by decide +kernel
theorem ok45_8 : entOk Tryz.prog hints S3 5000 60 45 E45_8 = true := by decide +kernel
theorem ok45_9 : entOk Tryz.prog hints S3 5000 60 45 E45_9 = true := by decide +kernel
theorem ok45_10 : entOk Tryz.prog hints S3 5000 60 45 E45_10 = true := by decide +kernel
theorem ok45_11 : entOk Tryz.prog hints S3 5000 60 45 E45_11 = true := by decide +kernel
theorem ok45_12 : entOk Tryz.prog hints S3 5000 60 45 E45_12 = true := by decide +kernel
theorem ok45_13 : entOk Tryz.prog hints S3 5000 60 45 E45_13 = true := by decide +kernel
theorem ok45_14 : entOk Tryz.prog hints S3 5000 60 45 E45_14 = true := by decide +kernel
theorem ok45_15 : entOk Tryz.prog hints S3 5000 60 45 E45_15 = true := by decide +kernel
theorem ok45_16 : entOk Tryz.prog hints S3 5000 60 45 E45_16 = true := by decide +kernel
theorem ok45_17 : entOk Tryz.prog hints S3 5000 60 45 E45_17 = true := by decide +kernel
theorem ok45_18 : entOk Tryz.prog hints S3 5000 60 45 E45_18 = true := by decide +kernel
theorem ok45_19 : entOk Tryz.prog hints S3 5000 60 45 E45_19 = true := by decide +kernel
theorem ok45_20 : entOk Tryz.prog hints S3 5000 60 45 E45_20 = true := by decide +kernel
theorem ok45_21 : entOk Tryz.prog hints S3 5000 60 45 E45_21 = true := by decide +kernel
theorem ok45_22 : entOk Tryz.prog hints S3 5000 60 45 E45_22 = true := by decide +kernel
theorem ok45_23 : entOk Tryz.prog hints S3 5000 60 45 E45_23 = true := by decide +kernel
theorem ok45_24 : entOk Tryz.prog hints S3 5000 60 45 E45_24 = true := by decide +kernel
theorem ok45_25 : entOk Tryz.prog hints S3 5000 60 45 E45_25 = true := by decide +kernel
theorem ok45_26 : entOk Tryz.prog hints S3 5000 60 45 E45_26 = true := by decide +kernel
theorem ok45 : ∀ e, e ∈ E45 → entOk Tryz.prog hints S3 5000 60 45 e = true := List.forall_mem_cons.2 ⟨ok45_0, List.forall_mem_cons.2 ⟨ok45_1, List.forall_mem_cons.2 ⟨ok45_2, List.forall_mem_cons.2 ⟨ok45_3, List.forall_mem_cons.2 ⟨ok45_4, List.forall_mem_cons.2 ⟨ok45_5, List.forall_mem_cons.2 ⟨ok45_6, List.forall_mem_cons.2 ⟨ok45_7, List.forall_mem_cons.2 ⟨ok45_8, List.forall_mem_cons.2 ⟨ok45_9, List.forall_mem_cons.2 ⟨ok45_10, List.forall_mem_cons.2 ⟨ok45_11, List.forall_mem_cons.2 ⟨ok45_12, List.forall_mem_cons.2 ⟨ok45_13, List.forall_mem_cons.2 ⟨ok45_14, List.forall_mem_cons.2 ⟨ok45_15, List.forall_mem_cons.2 ⟨ok45_16, List.forall_mem_cons.2 ⟨ok45_17, List.forall_mem_cons.2 ⟨ok45_18, List.forall_mem_cons.2 ⟨ok45_19, List.forall_mem_cons.2 ⟨ok45_20, List.forall_mem_cons.2 ⟨ok45_21, List.forall_mem_cons.2 ⟨ok45_22, List.forall_mem_cons.2 ⟨ok45_23, List.forall_mem_cons.2 ⟨ok45_24, List.forall_mem_cons.2 ⟨ok45_25, List.forall_mem_cons.2 ⟨ok45_26, List.forall_mem_nil _⟩⟩⟩⟩⟩⟩⟩⟩⟩⟩⟩⟩⟩⟩⟩⟩⟩⟩⟩⟩⟩⟩⟩⟩⟩⟩⟩
end Go.Proofs.YtbhbiccfkkoanaaGreatDoor.Cut
