/-
  PROVED: calls that were run over abstract values, one by one: what each reads, writes, makes and answers. No condition.
-/
import Derived.Test.YtdeccneggkhggaaGreatDoorY2
set_option linter.unusedVariables false
set_option maxRecDepth 1000000
namespace Go.Proofs.YtdeccneggkhggaaGreatDoor.Cut
open Go.X
theorem ok125_0 : entOk Tryz.prog hints S9 5000 60 125 E125_0 = true := by decide +kernel
theorem ok125_1 : entOk Tryz.prog hints S9 5000 60 125 E125_1 = true := by decide +kernel
theorem ok125_2 : entOk Tryz.prog hints S9 5000 60 125 E125_2 = true := by decide +kernel
theorem ok125_3 : entOk Tryz.prog hints S9 5000 60 125 E125_3 = true := by decide +kernel
theorem ok125_4 : entOk Tryz.prog hints S9 5000 60 125 E125_4 = true := by decide +kernel
theorem ok125_5 : entOk Tryz.prog hints S9 5000 60 125 E125_5 = true := by decide +kernel
theorem ok125_6 : entOk Tryz.prog hints S9 5000 60 125 E125_6 = true := by decide +kernel
theorem ok125_7 : entOk Tryz.prog hints S9 5000 60 125 E125_7 = true := by decide +kernel
theorem ok125_8 : entOk Tryz.prog hints S9 5000 60 125 E125_8 = true := by decide +kernel
theorem ok125_9 : entOk Tryz.prog hints S9 5000 60 125 E125_9 = true := by decide +kernel
theorem ok125_10 : entOk Tryz.prog hints S9 5000 60 125 E125_10 = true := by decide +kernel
theorem ok125_11 : entOk Tryz.prog hints S9 5000 60 125 E125_11 = true := by decide +kernel
theorem ok125 : ∀ e, e ∈ E125 → entOk Tryz.prog hints S9 5000 60 125 e = true := List.forall_mem_cons.2 ⟨ok125_0, List.forall_mem_cons.2 ⟨ok125_1, List.forall_mem_cons.2 ⟨ok125_2, List.forall_mem_cons.2 ⟨ok125_3, List.forall_mem_cons.2 ⟨ok125_4, List.forall_mem_cons.2 ⟨ok125_5, List.forall_mem_cons.2 ⟨ok125_6, List.forall_mem_cons.2 ⟨ok125_7, List.forall_mem_cons.2 ⟨ok125_8, List.forall_mem_cons.2 ⟨ok125_9, List.forall_mem_cons.2 ⟨ok125_10, List.forall_mem_cons.2 ⟨ok125_11, List.forall_mem_nil _⟩⟩⟩⟩⟩⟩⟩⟩⟩⟩⟩⟩
theorem ok191_0 : entOk Tryz.prog hints S10 5000 60 191 E191_0 = true := by decide +kernel
theorem ok191_1 : entOk Tryz.prog hints S10 5000 60 191 E191_1 = true := by decide +kernel
theorem ok191_2 : entOk Tryz.prog hints S10 5000 60 191 E191_2 = true := by decide +kernel
theorem ok191_3 : entOk Tryz.prog hints S10 5000 60 191 E191_3 = true := by decide +kernel
theorem ok191_4 : entOk Tryz.prog hints S10 5000 60 191 E191_4 = true := by decide +kernel
theorem ok191_5 : entOk Tryz.prog hints S10 5000 60 191 E191_5 = true := by decide +kernel
theorem ok191_6 : entOk Tryz.prog hints S10 5000 60 191 E191_6 = true := by decide +kernel
theorem ok191_7 : entOk Tryz.prog hints S10 5000 60 191 E191_7 = true := by decide +kernel
theorem ok191_8 : entOk Tryz.prog hints S10 5000 60 191 E191_8 = true := by decide +kernel
theorem ok191_9 : entOk Tryz.prog hints S10 5000 60 191 E191_9 = true := by decide +kernel
theorem ok191 : ∀ e, e ∈ E191 → entOk Tryz.prog hints S10 5000 60 191 e = true := List.forall_mem_cons.2 ⟨ok191_0, List.forall_mem_cons.2 ⟨ok191_1, List.forall_mem_cons.2 ⟨ok191_2, List.forall_mem_cons.2 ⟨ok191_3, List.forall_mem_cons.2 ⟨ok191_4, List.forall_mem_cons.2 ⟨ok191_5, List.forall_mem_cons.2 ⟨ok191_6, List.forall_mem_cons.2 ⟨ok191_7, List.forall_mem_cons.2 ⟨ok191_8, List.forall_mem_cons.2 ⟨ok191_9, List.forall_mem_nil _⟩⟩⟩⟩⟩⟩⟩⟩⟩⟩
theorem ok126_0 : entOk Tryz.prog hints S11 5000 60 126 E126_0 = true := by decide +kernel
theorem ok126_1 : entOk Tryz.prog hints S11 5000 60 126 E126_1 = true := by decide +kernel
theorem ok126_2 : entOk Tryz.prog hints S11 5000 60 126 E126_2 = true := by decide +kernel
theorem ok126 : ∀ e, e ∈ E126 → entOk Tryz.prog hints S11 5000 60 126 e = true := List.forall_mem_cons.2 ⟨ok126_0, List.forall_mem_cons.2 ⟨ok126_1, List.forall_mem_cons.2 ⟨ok126_2, List.forall_mem_nil _⟩⟩⟩
end Go.Proofs.YtdeccneggkhggaaGreatDoor.Cut
