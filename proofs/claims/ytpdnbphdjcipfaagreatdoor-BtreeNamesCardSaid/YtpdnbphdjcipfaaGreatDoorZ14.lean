/-
  PROVED: calls that were run over abstract values, one by one: what each reads, writes, makes and answers. No condition.
-/
import Derived.Test.YtpdnbphdjcipfaaGreatDoorY3
set_option linter.unusedVariables false
set_option maxRecDepth 1000000
namespace Go.Proofs.YtpdnbphdjcipfaaGreatDoor.Cut
open Go.X
theorem ok16_0 : entOk Tryz.prog hints S17 5000 60 16 E16_0 = true := by decide +kernel
theorem ok16 : ∀ e, e ∈ E16 → entOk Tryz.prog hints S17 5000 60 16 e = true := List.forall_mem_cons.2 ⟨ok16_0, List.forall_mem_nil _⟩
theorem ok38_0 : entOk Tryz.prog hints S18 5000 60 38 E38_0 = true := by decide +kernel
theorem ok38_1 : entOk Tryz.prog hints S18 5000 60 38 E38_1 = true := by decide +kernel
theorem ok38_2 : entOk Tryz.prog hints S18 5000 60 38 E38_2 = true := by decide +kernel
theorem ok38_3 : entOk Tryz.prog hints S18 5000 60 38 E38_3 = true := by decide +kernel
theorem ok38_4 : entOk Tryz.prog hints S18 5000 60 38 E38_4 = true := by decide +kernel
theorem ok38_5 : entOk Tryz.prog hints S18 5000 60 38 E38_5 = true := by decide +kernel
theorem ok38 : ∀ e, e ∈ E38 → entOk Tryz.prog hints S18 5000 60 38 e = true := List.forall_mem_cons.2 ⟨ok38_0, List.forall_mem_cons.2 ⟨ok38_1, List.forall_mem_cons.2 ⟨ok38_2, List.forall_mem_cons.2 ⟨ok38_3, List.forall_mem_cons.2 ⟨ok38_4, List.forall_mem_cons.2 ⟨ok38_5, List.forall_mem_nil _⟩⟩⟩⟩⟩⟩
theorem ok17_0 : entOk Tryz.prog hints S19 5000 60 17 E17_0 = true := by decide +kernel
theorem ok17 : ∀ e, e ∈ E17 → entOk Tryz.prog hints S19 5000 60 17 e = true := List.forall_mem_cons.2 ⟨ok17_0, List.forall_mem_nil _⟩
end Go.Proofs.YtpdnbphdjcipfaaGreatDoor.Cut
