/-
  PROVED: calls that were run over abstract values, one by one: what each reads, writes, makes and answers. No condition.
-/
import Derived.Test.YtpdnbphdjcipfaaGreatDoorY3
set_option linter.unusedVariables false
set_option maxRecDepth 1000000
namespace Go.Proofs.YtpdnbphdjcipfaaGreatDoor.Cut
open Go.X
theorem ok152_0 : entOk Tryz.prog hints S26 5000 60 152 E152_0 = true := by decide +kernel
theorem ok152_1 : entOk Tryz.prog hints S26 5000 60 152 E152_1 = true := by decide +kernel
theorem ok152_2 : entOk Tryz.prog hints S26 5000 60 152 E152_2 = true := by decide +kernel
theorem ok152_3 : entOk Tryz.prog hints S26 5000 60 152 E152_3 = true := by decide +kernel
theorem ok152_4 : entOk Tryz.prog hints S26 5000 60 152 E152_4 = true := by decide +kernel
theorem ok152_5 : entOk Tryz.prog hints S26 5000 60 152 E152_5 = true := by decide +kernel
theorem ok152 : ∀ e, e ∈ E152 → entOk Tryz.prog hints S26 5000 60 152 e = true := List.forall_mem_cons.2 ⟨ok152_0, List.forall_mem_cons.2 ⟨ok152_1, List.forall_mem_cons.2 ⟨ok152_2, List.forall_mem_cons.2 ⟨ok152_3, List.forall_mem_cons.2 ⟨ok152_4, List.forall_mem_cons.2 ⟨ok152_5, List.forall_mem_nil _⟩⟩⟩⟩⟩⟩
theorem ok105_0 : entOk Tryz.prog hints S27 5000 60 105 E105_0 = true := by decide +kernel
theorem ok105_1 : entOk Tryz.prog hints S27 5000 60 105 E105_1 = true := by decide +kernel
theorem ok105_2 : entOk Tryz.prog hints S27 5000 60 105 E105_2 = true := by decide +kernel
theorem ok105_3 : entOk Tryz.prog hints S27 5000 60 105 E105_3 = true := by decide +kernel
theorem ok105_4 : entOk Tryz.prog hints S27 5000 60 105 E105_4 = true := by decide +kernel
theorem ok105_5 : entOk Tryz.prog hints S27 5000 60 105 E105_5 = true := by decide +kernel
theorem ok105 : ∀ e, e ∈ E105 → entOk Tryz.prog hints S27 5000 60 105 e = true := List.forall_mem_cons.2 ⟨ok105_0, List.forall_mem_cons.2 ⟨ok105_1, List.forall_mem_cons.2 ⟨ok105_2, List.forall_mem_cons.2 ⟨ok105_3, List.forall_mem_cons.2 ⟨ok105_4, List.forall_mem_cons.2 ⟨ok105_5, List.forall_mem_nil _⟩⟩⟩⟩⟩⟩
end Go.Proofs.YtpdnbphdjcipfaaGreatDoor.Cut
