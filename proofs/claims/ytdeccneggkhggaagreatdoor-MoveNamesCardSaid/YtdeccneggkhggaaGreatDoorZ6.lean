/-
  PROVED: calls that were run over abstract values, one by one: what each reads, writes, makes and answers. No condition.
-/
import Derived.Test.YtdeccneggkhggaaGreatDoorY2
set_option linter.unusedVariables false
set_option maxRecDepth 1000000
namespace Go.Proofs.YtdeccneggkhggaaGreatDoor.Cut
open Go.X
theorem ok78_0 : entOk Tryz.prog hints S12 5000 60 78 E78_0 = true := by decide +kernel
theorem ok78_1 : entOk Tryz.prog hints S12 5000 60 78 E78_1 = true := by decide +kernel
theorem ok78_2 : entOk Tryz.prog hints S12 5000 60 78 E78_2 = true := by decide +kernel
theorem ok78 : ∀ e, e ∈ E78 → entOk Tryz.prog hints S12 5000 60 78 e = true := List.forall_mem_cons.2 ⟨ok78_0, List.forall_mem_cons.2 ⟨ok78_1, List.forall_mem_cons.2 ⟨ok78_2, List.forall_mem_nil _⟩⟩⟩
theorem ok48_0 : entOk Tryz.prog hints S13 5000 60 48 E48_0 = true := by decide +kernel
theorem ok48 : ∀ e, e ∈ E48 → entOk Tryz.prog hints S13 5000 60 48 e = true := List.forall_mem_cons.2 ⟨ok48_0, List.forall_mem_nil _⟩
theorem ok250_0 : entOk Tryz.prog hints S14 5000 60 250 E250_0 = true := by decide +kernel
theorem ok250_1 : entOk Tryz.prog hints S14 5000 60 250 E250_1 = true := by decide +kernel
theorem ok250_2 : entOk Tryz.prog hints S14 5000 60 250 E250_2 = true := by decide +kernel
theorem ok250_3 : entOk Tryz.prog hints S14 5000 60 250 E250_3 = true := by decide +kernel
theorem ok250_4 : entOk Tryz.prog hints S14 5000 60 250 E250_4 = true := by decide +kernel
theorem ok250_5 : entOk Tryz.prog hints S14 5000 60 250 E250_5 = true := by decide +kernel
theorem ok250_6 : entOk Tryz.prog hints S14 5000 60 250 E250_6 = true := by decide +kernel
theorem ok250_7 : entOk Tryz.prog hints S14 5000 60 250 E250_7 = true := by decide +kernel
theorem ok250_8 : entOk Tryz.prog hints S14 5000 60 250 E250_8 = true := by decide +kernel
theorem ok250_9 : entOk Tryz.prog hints S14 5000 60 250 E250_9 = true := by decide +kernel
theorem ok250_10 : entOk Tryz.prog hints S14 5000 60 250 E250_10 = true := by decide +kernel
theorem ok250_11 : entOk Tryz.prog hints S14 5000 60 250 E250_11 = true := by decide +kernel
theorem ok250_12 : entOk Tryz.prog hints S14 5000 60 250 E250_12 = true := by decide +kernel
theorem ok250_13 : entOk Tryz.prog hints S14 5000 60 250 E250_13 = true := by decide +kernel
theorem ok250_14 : entOk Tryz.prog hints S14 5000 60 250 E250_14 = true := by decide +kernel
theorem ok250_15 : entOk Tryz.prog hints S14 5000 60 250 E250_15 = true := by decide +kernel
theorem ok250_16 : entOk Tryz.prog hints S14 5000 60 250 E250_16 = true := by decide +kernel
theorem ok250_17 : entOk Tryz.prog hints S14 5000 60 250 E250_17 = true := by decide +kernel
theorem ok250_18 : entOk Tryz.prog hints S14 5000 60 250 E250_18 = true := by decide +kernel
theorem ok250_19 : entOk Tryz.prog hints S14 5000 60 250 E250_19 = true := by decide +kernel
theorem ok250_20 : entOk Tryz.prog hints S14 5000 60 250 E250_20 = true := by decide +kernel
theorem ok250_21 : entOk Tryz.prog hints S14 5000 60 250 E250_21 = true := by decide +kernel
theorem ok250_22 : entOk Tryz.prog hints S14 5000 60 250 E250_22 = true := by decide +kernel
theorem ok250_23 : entOk Tryz.prog hints S14 5000 60 250 E250_23 = true := by decide +kernel
theorem ok250_24 : entOk Tryz.prog hints S14 5000 60 250 E250_24 = true := by decide +kernel
theorem ok250_25 : entOk Tryz.prog hints S14 5000 60 250 E250_25 = true := by decide +kernel
theorem ok250_26 : entOk Tryz.prog hints S14 5000 60 250 E250_26 = true := by decide +kernel
theorem ok250_27 : entOk Tryz.prog hints S14 5000 60 250 E250_27 = true := by decide +kernel
theorem ok250_28 : entOk Tryz.prog hints S14 5000 60 250 E250_28 = true := by decide +kernel
theorem ok250_29 : entOk Tryz.prog hints S14 5000 60 250 E250_29 = true := by decide +kernel
theorem ok250_30 : entOk Tryz.prog hints S14 5000 60 250 E250_30 = true := by decide +kernel
theorem ok250_31 : entOk Tryz.prog hints S14 5000 60 250 E250_31 = true := by decide +kernel
theorem ok250_32 : entOk Tryz.prog hints S14 5000 60 250 E250_32 = true := by decide +kernel
theorem ok250_33 : entOk Tryz.prog hints S14 5000 60 250 E250_33 = true := by decide +kernel
theorem ok250_34 : entOk Tryz.prog hints S14 5000 60 250 E250_34 = true := by decide +kernel
theorem ok250_35 : entOk Tryz.prog hints S14 5000 60 250 E250_35 = true := by decide +kernel
theorem ok250_36 : entOk Tryz.prog hints S14 5000 60 250 E250_36 = true := by decide +kernel
theorem ok250_37 : entOk Tryz.prog hints S14 5000 60 250 E250_37 = true := by decide +kernel
theorem ok250_38 : entOk Tryz.prog hints S14 5000 60 250 E250_38 = true := by decide +kernel
theorem ok250 : ∀ e, e ∈ E250 → entOk Tryz.prog hints S14 5000 60 250 e = true := List.forall_mem_cons.2 ⟨ok250_0, List.forall_mem_cons.2 ⟨ok250_1, List.forall_mem_cons.2 ⟨ok250_2, List.forall_mem_cons.2 ⟨ok250_3, List.forall_mem_cons.2 ⟨ok250_4, List.forall_mem_cons.2 ⟨ok250_5, List.forall_mem_cons.2 ⟨ok250_6, List.forall_mem_cons.2 ⟨ok250_7, List.forall_mem_cons.2 ⟨ok250_8, List.forall_mem_cons.2 ⟨ok250_9, List.forall_mem_cons.2 ⟨ok250_10, List.forall_mem_cons.2 ⟨ok250_11, List.forall_mem_cons.2 ⟨ok250_12, List.forall_mem_cons.2 ⟨ok250_13, List.forall_mem_cons.2 ⟨ok250_14, List.forall_mem_cons.2 ⟨ok250_15, List.forall_mem_cons.2 ⟨ok250_16, List.forall_mem_cons.2 ⟨ok250_17, List.forall_mem_cons.2 ⟨ok250_18, List.forall_mem_cons.2 ⟨ok250_19, List.forall_mem_cons.2 ⟨ok250_20, List.forall_mem_cons.2 ⟨ok250_21, List.forall_mem_cons.2 ⟨ok250_22, List.forall_mem_cons.2 ⟨ok250_23, List.forall_mem_cons.2 ⟨ok250_24, List.forall_mem_cons.2 ⟨ok250_25, List.forall_mem_cons.2 ⟨ok250_26, List.forall_mem_cons.2 ⟨ok250_27, List.forall_mem_cons.2 ⟨ok250_28, List.forall_mem_cons.2 ⟨ok250_29, List.forall_mem_cons.2 ⟨ok250_30, List.forall_mem_cons.2 ⟨ok250_31, List.forall_mem_cons.2 ⟨ok250_32, List.forall_mem_cons.2 ⟨ok250_33, List.forall_mem_cons.2 ⟨ok250_34, List.forall_mem_cons.2 ⟨ok250_35, List.forall_mem_cons.2 ⟨ok250_36, List.forall_mem_cons.2 ⟨ok250_37, List.forall_mem_cons.2 ⟨ok250_38, List.forall_mem_nil _⟩⟩⟩⟩⟩⟩⟩⟩⟩⟩⟩⟩⟩⟩⟩⟩⟩⟩⟩⟩⟩⟩⟩⟩⟩⟩⟩⟩⟩⟩⟩⟩⟩⟩⟩⟩⟩⟩⟩
end Go.Proofs.YtdeccneggkhggaaGreatDoor.Cut
