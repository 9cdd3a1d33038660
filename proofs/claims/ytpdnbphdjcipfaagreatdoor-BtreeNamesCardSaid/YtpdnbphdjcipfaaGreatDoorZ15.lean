/-
  PROVED: calls that were run over abstract values, one by one: what each reads, writes, makes and answers. No condition.
-/
import Derived.Test.YtpdnbphdjcipfaaGreatDoorY3
set_option linter.unusedVariables false
set_option maxRecDepth 1000000
namespace Go.Proofs.YtpdnbphdjcipfaaGreatDoor.Cut
open Go.X
theorem ok24_0 : entOk Tryz.prog hints S20 5000 60 24 E24_0 = true := by decide +kernel
theorem ok24_1 : entOk Tryz.prog hints S20 5000 60 24 E24_1 = true := by decide +kernel
theorem ok24_2 : entOk Tryz.prog hints S20 5000 60 24 E24_2 = true := by decide +kernel
theorem ok24_3 : entOk Tryz.prog hints S20 5000 60 24 E24_3 = true := by decide +kernel
theorem ok24_4 : entOk Tryz.prog hints S20 5000 60 24 E24_4 = true := by decide +kernel
theorem ok24_5 : entOk Tryz.prog hints S20 5000 60 24 E24_5 = true := by decide +kernel
theorem ok24_6 : entOk Tryz.prog hints S20 5000 60 24 E24_6 = true := by decide +kernel
theorem ok24_7 : entOk Tryz.prog hints S20 5000 60 24 E24_7 = true := by decide +kernel
theorem ok24_8 : entOk Tryz.prog hints S20 5000 60 24 E24_8 = true := by decide +kernel
theorem ok24_9 : entOk Tryz.prog hints S20 5000 60 24 E24_9 = true := by decide +kernel
theorem ok24_10 : entOk Tryz.prog hints S20 5000 60 24 E24_10 = true := by decide +kernel
theorem ok24_11 : entOk Tryz.prog hints S20 5000 60 24 E24_11 = true := by decide +kernel
theorem ok24 : ∀ e, e ∈ E24 → entOk Tryz.prog hints S20 5000 60 24 e = true := List.forall_mem_cons.2 ⟨ok24_0, List.forall_mem_cons.2 ⟨ok24_1, List.forall_mem_cons.2 ⟨ok24_2, List.forall_mem_cons.2 ⟨ok24_3, List.forall_mem_cons.2 ⟨ok24_4, List.forall_mem_cons.2 ⟨ok24_5, List.forall_mem_cons.2 ⟨ok24_6, List.forall_mem_cons.2 ⟨ok24_7, List.forall_mem_cons.2 ⟨ok24_8, List.forall_mem_cons.2 ⟨ok24_9, List.forall_mem_cons.2 ⟨ok24_10, List.forall_mem_cons.2 ⟨ok24_11, List.forall_mem_nil _⟩⟩⟩⟩⟩⟩⟩⟩⟩⟩⟩⟩
end Go.Proofs.YtpdnbphdjcipfaaGreatDoor.Cut
