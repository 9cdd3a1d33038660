/-
  PROVED: calls that were run over abstract values, one by one: what each reads, writes, makes and answers. No condition.
-/
import Derived.Test.YtbhbiccfkkoanaaGreatDoorY0
set_option linter.unusedVariables false
set_option maxRecDepth 1000000
namespace Go.Proofs.YtbhbiccfkkoanaaGreatDoor.Cut
open Go.X
theorem ok83_0 : entOk Tryz.prog hints S6 5000 60 83 E83_0 = true := by decide +kernel
theorem ok83_1 : entOk Tryz.prog hints S6 5000 60 83 E83_1 = true := by decide +kernel
theorem ok83_2 : entOk Tryz.prog hints S6 5000 60 83 E83_2 = true := by decide +kernel
theorem ok83_3 : entOk Tryz.prog hints S6 5000 60 83 E83_3 = true := by decide +kernel
theorem ok83 : ∀ e, e ∈ E83 → entOk Tryz.prog hints S6 5000 60 83 e = true := List.forall_mem_cons.2 ⟨ok83_0, List.forall_mem_cons.2 ⟨ok83_1, List.forall_mem_cons.2 ⟨ok83_2, List.forall_mem_cons.2 ⟨ok83_3, List.forall_mem_nil _⟩⟩⟩⟩
end Go.Proofs.YtbhbiccfkkoanaaGreatDoor.Cut
