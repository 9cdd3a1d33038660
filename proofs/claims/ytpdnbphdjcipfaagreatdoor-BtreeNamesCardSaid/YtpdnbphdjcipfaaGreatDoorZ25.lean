/-
  PROVED: calls that were run over abstract values, one by one: what each reads, writes, makes and answers. No condition.
-/
import Derived.Test.YtpdnbphdjcipfaaGreatDoorY3
set_option linter.unusedVariables false
set_option maxRecDepth 1000000
namespace Go.Proofs.YtpdnbphdjcipfaaGreatDoor.Cut
open Go.X
theorem ok15_0 : entOk Tryz.prog hints S56 5000 60 15 E15_0 = true := by decide +kernel
theorem ok15_1 : entOk Tryz.prog hints S56 5000 60 15 E15_1 = true := by decide +kernel
theorem ok15_2 : entOk Tryz.prog hints S56 5000 60 15 E15_2 = true := by decide +kernel
theorem ok15_3 : entOk Tryz.prog hints S56 5000 60 15 E15_3 = true := by decide +kernel
theorem ok15 : ∀ e, e ∈ E15 → entOk Tryz.prog hints S56 5000 60 15 e = true := List.forall_mem_cons.2 ⟨ok15_0, List.forall_mem_cons.2 ⟨ok15_1, List.forall_mem_cons.2 ⟨ok15_2, List.forall_mem_cons.2 ⟨ok15_3, List.forall_mem_nil _⟩⟩⟩⟩
end Go.Proofs.YtpdnbphdjcipfaaGreatDoor.Cut
