/-
  PROVED: calls that were run over abstract values, one by one: what each reads, writes, makes and answers. No condition.
-/
import Derived.Test.YtghpkpddmicleaaGreatDoorY0
set_option linter.unusedVariables false
set_option maxRecDepth 1000000
namespace Go.Proofs.YtghpkpddmicleaaGreatDoor.Cut
open Go.X
theorem ok16_0 : entOk Tryz.prog hints S7 5000 60 16 E16_0 = true := by decide +kernel
theorem ok16 : ∀ e, e ∈ E16 → entOk Tryz.prog hints S7 5000 60 16 e = true := List.forall_mem_cons.2 ⟨ok16_0, List.forall_mem_nil _⟩
end Go.Proofs.YtghpkpddmicleaaGreatDoor.Cut
