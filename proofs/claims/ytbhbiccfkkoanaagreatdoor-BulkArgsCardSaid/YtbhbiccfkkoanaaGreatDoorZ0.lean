/-
  PROVED: calls that were run over abstract values, one by one: what each reads, writes, makes and answers. No condition.
-/
import Derived.Test.YtbhbiccfkkoanaaGreatDoorY0
set_option linter.unusedVariables false
set_option maxRecDepth 1000000
namespace Go.Proofs.YtbhbiccfkkoanaaGreatDoor.Cut
open Go.X
theorem ok73_0 : entOk Tryz.prog hints S0 5000 60 73 E73_0 = true := by decide +kernel
theorem ok73_1 : entOk Tryz.prog hints S0 5000 60 73 E73_1 = true := by decide +kernel
theorem ok73_2 : entOk Tryz.prog hints S0 5000 60 73 E73_2 = true := by decide +kernel
theorem ok73_3 : entOk Tryz.prog hints S0 5000 60 73 E73_3 = true := by decide +kernel
theorem ok73_4 : entOk Tryz.prog hints S0 5000 60 73 E73_4 = true := by decide +kernel
theorem ok73_5 : entOk Tryz.prog hints S0 5000 60 73 E73_5 = true := by decide +kernel
theorem ok73_6 : entOk Tryz.prog hints S0 5000 60 73 E73_6 = true := by decide +kernel
theorem ok73_7 : entOk Tryz.prog hints S0 5000 60 73 E73_7 = true := by decide +kernel
theorem ok73_8 : entOk Tryz.prog hints S0 5000 60 73 E73_8 = true := by decide +kernel
theorem ok73_9 : entOk Tryz.prog hints S0 5000 60 73 E73_9 = true := by decide +kernel
theorem ok73_10 : entOk Tryz.prog hints S0 5000 60 73 E73_10 = true := by decide +kernel
theorem ok73_11 : entOk Tryz.prog hints S0 5000 60 73 E73_11 = true := by decide +kernel
theorem ok73_12 : entOk Tryz.prog hints S0 5000 60 73 E73_12 = true := by decide +kernel
theorem ok73_13 : entOk Tryz.prog hints S0 5000 60 73 E73_13 = true := by decide +kernel
theorem ok73_14 : entOk Tryz.prog hints S0 5000 60 73 E73_14 = true := by decide +kernel
theorem ok73_15 : entOk Tryz.prog hints S0 5000 60 73 E73_15 = true := by decide +kernel
theorem ok73_16 : entOk Tryz.prog hints S0 5000 60 73 E73_16 = true := by decide +kernel
theorem ok73_17 : entOk Tryz.prog hints S0 5000 60 73 E73_17 = true := by decide +kernel
theorem ok73_18 : entOk Tryz.prog hints S0 5000 60 73 E73_18 = true := by decide +kernel
theorem ok73_19 : entOk Tryz.prog hints S0 5000 60 73 E73_19 = true := by decide +kernel
theorem ok73_20 : entOk Tryz.prog hints S0 5000 60 73 E73_20 = true := by decide +kernel
theorem ok73_21 : entOk Tryz.prog hints S0 5000 60 73 E73_21 = true := by decide +kernel
theorem ok73_22 : entOk Tryz.prog hints S0 5000 60 73 E73_22 = true := by decide +kernel
theorem ok73_23 : entOk Tryz.prog hints S0 5000 60 73 E73_23 = true := by decide +kernel
theorem ok73_24 : entOk Tryz.prog hints S0 5000 60 73 E73_24 = true := by decide +kernel
theorem ok73_25 : entOk Tryz.prog hints S0 5000 60 73 E73_25 = true := by decide +kernel
theorem ok73_26 : entOk Tryz.prog hints S0 5000 60 73 E73_26 = true := by decide +kernel
theorem ok73_27 : entOk Tryz.prog hints S0 5000 60 73 E73_27 = true := by decide +kernel
theorem ok73_28 : entOk Tryz.prog hints S0 5000 60 73 E73_28 = true := by decide +kernel
theorem ok73_29 : entOk Tryz.prog hints S0 5000 60 73 E73_29 = true := by decide +kernel
theorem ok73_30 : entOk Tryz.prog hints S0 5000 60 73 E73_30 = true := by decide +kernel
theorem ok73_31 : entOk Tryz.prog hints S0 5000 60 73 E73_31 = true := by decide +kernel
theorem ok73_32 : entOk Tryz.prog hints S0 5000 60 73 E73_32 = true := by decide +kernel
theorem ok73_33 : entOk Tryz.prog hints S0 5000 60 73 E73_33 = true := by decide +kernel
theorem ok73_34 : entOk Tryz.prog hints S0 5000 60 73 E73_34 = true := by decide +kernel
theorem ok73_35 : entOk Tryz.prog hints S0 5000 60 73 E73_35 = true := by decide +kernel
theorem ok73_36 : entOk Tryz.prog hints S0 5000 60 73 E73_36 = true := by decide +kernel
theorem ok73_37 : entOk Tryz.prog hints S0 5000 60 73 E73_37 = true := by decide +kernel
theorem ok73_38 : entOk Tryz.prog hints S0 5000 60 73 E73_38 = true := by decide +kernel
theorem ok73_39 : entOk Tryz.prog hints S0 5000 60 73 E73_39 = true := by decide +kernel
theorem ok73_40 : entOk Tryz.prog hints S0 5000 60 73 E73_40 = true := by decide +kernel
theorem ok73_41 : entOk Tryz.prog hints S0 5000 60 73 E73_41 = true := by decide +kernel
theorem ok73_42 : entOk Tryz.prog hints S0 5000 60 73 E73_42 = true := by decide +kernel
theorem ok73_43 : entOk Tryz.prog hints S0 5000 60 73 E73_43 = true := by decide +kernel
theorem ok73_44 : entOk Tryz.prog hints S0 5000 60 73 E73_44 = true := by decide +kernel
theorem ok73_45 : entOk Tryz.prog hints S0 5000 60 73 E73_45 = true := by decide +kernel
theorem ok73_46 : entOk Tryz.prog hints S0 5000 60 73 E73_46 = true := by decide +kernel
theorem ok73_47 : entOk Tryz.prog hints S0 5000 60 73 E73_47 = true := by decide +kernel
theorem ok73_48 : entOk Tryz.prog hints S0 5000 60 73 E73_48 = true := by decide +kernel
theorem ok73 : ∀ e, e ∈ E73 → entOk Tryz.prog hints S0 5000 60 73 e = true := List.forall_mem_cons.2 ⟨ok73_0, List.forall_mem_cons.2 ⟨ok73_1, List.forall_mem_cons.2 ⟨ok73_2, List.forall_mem_cons.2 ⟨ok73_3, List.forall_mem_cons.2 ⟨ok73_4, List.forall_mem_cons.2 ⟨ok73_5, List.forall_mem_cons.2 ⟨ok73_6, List.forall_mem_cons.2 ⟨ok73_7, List.forall_mem_cons.2 ⟨ok73_8, List.forall_mem_cons.2 ⟨ok73_9, List.forall_mem_cons.2 ⟨ok73_10, List.forall_mem_cons.2 ⟨ok73_11, List.forall_mem_cons.2 ⟨ok73_12, List.forall_mem_cons.2 ⟨ok73_13, List.forall_mem_cons.2 ⟨ok73_14, List.forall_mem_cons.2 ⟨ok73_15, List.forall_mem_cons.2 ⟨ok73_16, List.forall_mem_cons.2 ⟨ok73_17, List.forall_mem_cons.2 ⟨ok73_18, List.forall_mem_cons.2 ⟨ok73_19, List.forall_mem_cons.2 ⟨ok73_20, List.forall_mem_cons.2 ⟨ok73_21, List.forall_mem_cons.2 ⟨ok73_22, List.forall_mem_cons.2 ⟨ok73_23, List.forall_mem_cons.2 ⟨ok73_24, List.forall_mem_cons.2 ⟨ok73_25, List.forall_mem_cons.2 ⟨ok73_26, List.forall_mem_cons.2 ⟨ok73_27, List.forall_mem_cons.2 ⟨ok73_28, List.forall_mem_cons.2 ⟨ok73_29, List.forall_mem_cons.2 ⟨ok73_30, List.forall_mem_cons.2 ⟨ok73_31, List.forall_mem_cons.2 ⟨ok73_32, List.forall_mem_cons.2 ⟨ok73_33, List.forall_mem_cons.2 ⟨ok73_34, List.forall_mem_cons.2 ⟨ok73_35, List.forall_mem_cons.2 ⟨ok73_36, List.forall_mem_cons.2 ⟨ok73_37, List.forall_mem_cons.2 ⟨ok73_38, List.forall_mem_cons.2 ⟨ok73_39, List.forall_mem_cons.2 ⟨ok73_40, List.forall_mem_cons.2 ⟨ok73_41, List.forall_mem_cons.2 ⟨ok73_42, List.forall_mem_cons.2 ⟨ok73_43, List.forall_mem_cons.2 ⟨ok73_44, List.forall_mem_cons.2 ⟨ok73_45, List.forall_mem_cons.2 ⟨ok73_46, List.forall_mem_cons.2 ⟨ok73_47, List.forall_mem_cons.2 ⟨ok73_48, List.forall_mem_nil _⟩⟩⟩⟩⟩⟩⟩⟩⟩⟩⟩⟩⟩⟩⟩⟩⟩⟩⟩⟩⟩⟩⟩⟩⟩⟩⟩⟩⟩⟩⟩⟩⟩⟩⟩⟩⟩⟩⟩⟩⟩⟩⟩⟩⟩⟩⟩⟩⟩
end Go.Proofs.YtbhbiccfkkoanaaGreatDoor.Cut
