/-
  PROVED: calls that were run over abstract values, one by one: what each reads, writes, makes and answers. No condition.
-/
import Derived.Test.YtdeccneggkhggaaGreatDoorY2
set_option linter.unusedVariables false
set_option maxRecDepth 1000000
namespace Go.Proofs.YtdeccneggkhggaaGreatDoor.Cut
open Go.X
theorem ok39_0 : entOk Tryz.prog hints S55 5000 60 39 E39_0 = true := by decide +kernel
theorem ok39 : ∀ e, e ∈ E39 → entOk Tryz.prog hints S55 5000 60 39 e = true := List.forall_mem_cons.2 ⟨ok39_0, List.forall_mem_nil _⟩
theorem ok15_0 : entOk Tryz.prog hints S56 5000 60 15 E15_0 = true := by decide +kernel
theorem ok15 : ∀ e, e ∈ E15 → entOk Tryz.prog hints S56 5000 60 15 e = true := List.forall_mem_cons.2 ⟨ok15_0, List.forall_mem_nil _⟩
theorem ok7_0 : entOk Tryz.prog hints S57 5000 60 7 E7_0 = true := by decide +kernel
theorem ok7 : ∀ e, e ∈ E7 → entOk Tryz.prog hints S57 5000 60 7 e = true := List.forall_mem_cons.2 ⟨ok7_0, List.forall_mem_nil _⟩
theorem ok12_0 : entOk Tryz.prog hints S58 5000 60 12 E12_0 = true := by decide +kernel
theorem ok12 : ∀ e, e ∈ E12 → entOk Tryz.prog hints S58 5000 60 12 e = true := List.forall_mem_cons.2 ⟨ok12_0, List.forall_mem_nil _⟩
end Go.Proofs.YtdeccneggkhggaaGreatDoor.Cut
