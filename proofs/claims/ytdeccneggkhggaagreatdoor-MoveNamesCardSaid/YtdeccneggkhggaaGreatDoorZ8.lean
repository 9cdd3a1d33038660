/-
  PROVED: calls that were run over abstract values, one by one: what each reads, writes, makes and answers. No condition.
-/
import Derived.Test.YtdeccneggkhggaaGreatDoorY2
set_option linter.unusedVariables false
set_option maxRecDepth 1000000
namespace Go.Proofs.YtdeccneggkhggaaGreatDoor.Cut
open Go.X
theorem ok233_0 : entOk Tryz.prog hints S16 5000 60 233 E233_0 = true := by decide +kernel
theorem ok233_1 : entOk Tryz.prog hints S16 5000 60 233 E233_1 = true := by decide +kernel
theorem ok233_2 : entOk Tryz.prog hints S16 5000 60 233 E233_2 = true := by decide +kernel
theorem ok233_3 : entOk Tryz.prog hints S16 5000 60 233 E233_3 = true := by decide +kernel
theorem ok233_4 : entOk Tryz.prog hints S16 5000 60 233 E233_4 = true := by decide +kernel
theorem ok233_5 : entOk Tryz.prog hints S16 5000 60 233 E233_5 = true := by decide +kernel
theorem ok233_6 : entOk Tryz.prog hints S16 5000 60 233 E233_6 = true := by decide +kernel
theorem ok233_7 : entOk Tryz.prog hints S16 5000 60 233 E233_7 = true := by decide +kernel
theorem ok233_8 : entOk Tryz.prog hints S16 5000 60 233 E233_8 = true := by decide +kernel
theorem ok233_9 : entOk Tryz.prog hints S16 5000 60 233 E233_9 = true := by decide +kernel
theorem ok233_10 : entOk Tryz.prog hints S16 5000 60 233 E233_10 = true := by decide +kernel
theorem ok233_11 : entOk Tryz.prog hints S16 5000 60 233 E233_11 = true := by decide +kernel
theorem ok233_12 : entOk Tryz.prog hints S16 5000 60 233 E233_12 = true := by decide +kernel
theorem ok233_13 : entOk Tryz.prog hints S16 5000 60 233 E233_13 = true := by decide +kernel
theorem ok233_14 : entOk Tryz.prog hints S16 5000 60 233 E233_14 = true := by decide +kernel
theorem ok233_15 : entOk Tryz.prog hints S16 5000 60 233 E233_15 = true := by decide +kernel
theorem ok233_16 : entOk Tryz.prog hints S16 5000 60 233 E233_16 = true := by decide +kernel
theorem ok233_17 : entOk Tryz.prog hints S16 5000 60 233 E233_17 = true := by decide +kernel
theorem ok233_18 : entOk Tryz.prog hints S16 5000 60 233 E233_18 = true := by decide +kernel
theorem ok233_19 : entOk Tryz.prog hints S16 5000 60 233 E233_19 = true := by decide +kernel
theorem ok233_20 : entOk Tryz.prog hints S16 5000 60 233 E233_20 = true := by decide +kernel
theorem ok233_21 : entOk Tryz.prog hints S16 5000 60 233 E233_21 = true := by decide +kernel
theorem ok233_22 : entOk Tryz.prog hints S16 5000 60 233 E233_22 = true := by decide +kernel
theorem ok233_23 : entOk Tryz.prog hints S16 5000 60 233 E233_23 = true := by decide +kernel
theorem ok233_24 : entOk Tryz.prog hints S16 5000 60 233 E233_24 = true := by decide +kernel
theorem ok233_25 : entOk Tryz.prog hints S16 5000 60 233 E233_25 = true := by decide +kernel
theorem ok233_26 : entOk Tryz.prog hints S16 5000 60 233 E233_26 = true := by decide +kernel
theorem ok233 : ∀ e, e ∈ E233 → entOk Tryz.prog hints S16 5000 60 233 e = true := List.forall_mem_cons.2 ⟨ok233_0, List.forall_mem_cons.2 ⟨ok233_1, List.forall_mem_cons.2 ⟨ok233_2, List.forall_mem_cons.2 ⟨ok233_3, List.forall_mem_cons.2 ⟨ok233_4, List.forall_mem_cons.2 ⟨ok233_5, List.forall_mem_cons.2 ⟨ok233_6, List.forall_mem_cons.2 ⟨ok233_7, List.forall_mem_cons.2 ⟨ok233_8, List.forall_mem_cons.2 ⟨ok233_9, List.forall_mem_cons.2 ⟨ok233_10, List.forall_mem_cons.2 ⟨ok233_11, List.forall_mem_cons.2 ⟨ok233_12, List.forall_mem_cons.2 ⟨ok233_13, List.forall_mem_cons.2 ⟨ok233_14, List.forall_mem_cons.2 ⟨ok233_15, List.forall_mem_cons.2 ⟨ok233_16, List.forall_mem_cons.2 ⟨ok233_17, List.forall_mem_cons.2 ⟨ok233_18, List.forall_mem_cons.2 ⟨ok233_19, List.forall_mem_cons.2 ⟨ok233_20, List.forall_mem_cons.2 ⟨ok233_21, List.forall_mem_cons.2 ⟨ok233_22, List.forall_mem_cons.2 ⟨ok233_23, List.forall_mem_cons.2 ⟨ok233_24, List.forall_mem_cons.2 ⟨ok233_25, List.forall_mem_cons.2 ⟨ok233_26, List.forall_mem_nil _⟩⟩⟩⟩⟩⟩⟩⟩⟩⟩⟩⟩⟩⟩⟩⟩⟩⟩⟩⟩⟩⟩⟩⟩⟩⟩⟩
end Go.Proofs.YtdeccneggkhggaaGreatDoor.Cut
