/-
  PROVED: calls that were run over abstract values, one by one: what each reads, writes, makes and answers. No condition.
-/
import Derived.Test.YtpdnbphdjcipfaaGreatDoorY3
set_option linter.unusedVariables false
set_option maxRecDepth 1000000
namespace Go.Proofs.YtpdnbphdjcipfaaGreatDoor.Cut
open Go.X
theorem ok92_0 : entOk Tryz.prog hints S21 5000 60 92 E92_0 = true := by decide +kernel
theorem ok92_1 : entOk Tryz.prog hints S21 5000 60 92 E92_1 = true := by decide +kernel
theorem ok92_2 : entOk Tryz.prog hints S21 5000 60 92 E92_2 = true := by decide +kernel
theorem ok92_3 : entOk Tryz.prog hints S21 5000 60 92 E92_3 = true := by decide +kernel
theorem ok92_4 : entOk Tryz.prog hints S21 5000 60 92 E92_4 = true := by decide +kernel
theorem ok92_5 : entOk Tryz.prog hints S21 5000 60 92 E92_5 = true := by decide +kernel
theorem ok92_6 : entOk Tryz.prog hints S21 5000 60 92 E92_6 = true := by decide +kernel
theorem ok92_7 : entOk Tryz.prog hints S21 5000 60 92 E92_7 = true := by decide +kernel
theorem ok92_8 : entOk Tryz.prog hints S21 5000 60 92 E92_8 = true := by decide +kernel
theorem ok92_9 : entOk Tryz.prog hints S21 5000 60 92 E92_9 = true := by decide +kernel
theorem ok92 : ∀ e, e ∈ E92 → entOk Tryz.prog hints S21 5000 60 92 e = true := List.forall_mem_cons.2 ⟨ok92_0, List.forall_mem_cons.2 ⟨ok92_1, List.forall_mem_cons.2 ⟨ok92_2, List.forall_mem_cons.2 ⟨ok92_3, List.forall_mem_cons.2 ⟨ok92_4, List.forall_mem_cons.2 ⟨ok92_5, List.forall_mem_cons.2 ⟨ok92_6, List.forall_mem_cons.2 ⟨ok92_7, List.forall_mem_cons.2 ⟨ok92_8, List.forall_mem_cons.2 ⟨ok92_9, List.forall_mem_nil _⟩⟩⟩⟩⟩⟩⟩⟩⟩⟩
end Go.Proofs.YtpdnbphdjcipfaaGreatDoor.Cut
