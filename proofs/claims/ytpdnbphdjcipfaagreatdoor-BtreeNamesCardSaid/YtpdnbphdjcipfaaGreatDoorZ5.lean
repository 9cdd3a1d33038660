/-
  PROVED: calls that were run over abstract values, one by one: what each reads, writes, makes and answers. No condition.
-/
import Derived.Test.YtpdnbphdjcipfaaGreatDoorY3
set_option linter.unusedVariables false
set_option maxRecDepth 1000000
namespace Go.Proofs.YtpdnbphdjcipfaaGreatDoor.Cut
open Go.X
theorem ok48_0 : entOk Tryz.prog hints S5 5000 60 48 E48_0 = true := by decide +kernel
theorem ok48_1 : entOk Tryz.prog hints S5 5000 60 48 E48_1 = true := by decide +kernel
theorem ok48_2 : entOk Tryz.prog hints S5 5000 60 48 E48_2 = true := by decide +kernel
theorem ok48_3 : entOk Tryz.prog hints S5 5000 60 48 E48_3 = true := by decide +kernel
theorem ok48_4 : entOk Tryz.prog hints S5 5000 60 48 E48_4 = true := by decide +kernel
theorem ok48_5 : entOk Tryz.prog hints S5 5000 60 48 E48_5 = true := by decide +kernel
theorem ok48_6 : entOk Tryz.prog hints S5 5000 60 48 E48_6 = true := by decide +kernel
theorem ok48_7 : entOk Tryz.prog hints S5 5000 60 48 E48_7 = true := by decide +kernel
theorem ok48_8 : entOk Tryz.prog hints S5 5000 60 48 E48_8 = true := by decide +kernel
theorem ok48_9 : entOk Tryz.prog hints S5 5000 60 48 E48_9 = true := by decide +kernel
theorem ok48_10 : entOk Tryz.prog hints S5 5000 60 48 E48_10 = true := by decide +kernel
theorem ok48_11 : entOk Tryz.prog hints S5 5000 60 48 E48_11 = true := by decide +kernel
theorem ok48_12 : entOk Tryz.prog hints S5 5000 60 48 E48_12 = true := by decide +kernel
theorem ok48_13 : entOk Tryz.prog hints S5 5000 60 48 E48_13 = true := by decide +kernel
theorem ok48_14 : entOk Tryz.prog hints S5 5000 60 48 E48_14 = true := by decide +kernel
theorem ok48_15 : entOk Tryz.prog hints S5 5000 60 48 E48_15 = true := by decide +kernel
theorem ok48_16 : entOk Tryz.prog hints S5 5000 60 48 E48_16 = true := by decide +kernel
theorem ok48_17 : entOk Tryz.prog hints S5 5000 60 48 E48_17 = true := by decide +kernel
theorem ok48 : ∀ e, e ∈ E48 → entOk Tryz.prog hints S5 5000 60 48 e = true := List.forall_mem_cons.2 ⟨ok48_0, List.forall_mem_cons.2 ⟨ok48_1, List.forall_mem_cons.2 ⟨ok48_2, List.forall_mem_cons.2 ⟨ok48_3, List.forall_mem_cons.2 ⟨ok48_4, List.forall_mem_cons.2 ⟨ok48_5, List.forall_mem_cons.2 ⟨ok48_6, List.forall_mem_cons.2 ⟨ok48_7, List.forall_mem_cons.2 ⟨ok48_8, List.forall_mem_cons.2 ⟨ok48_9, List.forall_mem_cons.2 ⟨ok48_10, List.forall_mem_cons.2 ⟨ok48_11, List.forall_mem_cons.2 ⟨ok48_12, List.forall_mem_cons.2 ⟨ok48_13, List.forall_mem_cons.2 ⟨ok48_14, List.forall_mem_cons.2 ⟨ok48_15, List.forall_mem_cons.2 ⟨ok48_16, List.forall_mem_cons.2 ⟨ok48_17, List.forall_mem_nil _⟩⟩⟩⟩⟩⟩⟩⟩⟩⟩⟩⟩⟩⟩⟩⟩⟩⟩
end Go.Proofs.YtpdnbphdjcipfaaGreatDoor.Cut
