/-
  PROVED: calls that were run over abstract values, one by one: what each reads, writes, makes and answers. No condition.
-/
import Derived.Test.YtfnhnhfiealakaaGreatDoorY0
set_option linter.unusedVariables false
set_option maxRecDepth 1000000
namespace Go.Proofs.YtfnhnhfiealakaaGreatDoor.Cut
open Go.X
theorem ok6_0 : entOk Tryz.prog hints S18 5000 60 6 E6_0 = true := by decide +kernel
theorem ok6 : ∀ e, e ∈ E6 → entOk Tryz.prog hints S18 5000 60 6 e = true := List.forall_mem_cons.2 ⟨ok6_0, List.forall_mem_nil _⟩
end Go.Proofs.YtfnhnhfiealakaaGreatDoor.Cut
