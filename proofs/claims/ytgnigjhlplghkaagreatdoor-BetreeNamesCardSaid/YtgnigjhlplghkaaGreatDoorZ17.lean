/-
  PROVED: calls that were run over abstract values, one by one: what each reads, writes, makes and answers. No condition.
-/
import Derived.Test.YtgnigjhlplghkaaGreatDoorY2
set_option linter.unusedVariables false
set_option maxRecDepth 1000000
namespace Go.Proofs.YtgnigjhlplghkaaGreatDoor.Cut
open Go.X
theorem ok52_0 : entOk Tryz.prog hints S43 5000 60 52 E52_0 = true := by decide +kernel
theorem ok52_1 : entOk Tryz.prog hints S43 5000 60 52 E52_1 = true := by decide +kernel
theorem ok52_2 : entOk Tryz.prog hints S43 5000 60 52 E52_2 = true := by decide +kernel
theorem ok52 : ∀ e, e ∈ E52 → entOk Tryz.prog hints S43 5000 60 52 e = true := List.forall_mem_cons.2 ⟨ok52_0, List.forall_mem_cons.2 ⟨ok52_1, List.forall_mem_cons.2 ⟨ok52_2, List.forall_mem_nil _⟩⟩⟩
theorem ok70_0 : entOk Tryz.prog hints S44 5000 60 70 E70_0 = true := by decide +kernel
theorem ok70 : ∀ e, e ∈ E70 → entOk Tryz.prog hints S44 5000 60 70 e = true := List.forall_mem_cons.2 ⟨ok70_0, List.forall_mem_nil _⟩
theorem ok20_0 : entOk Tryz.prog hints S45 5000 60 20 E20_0 = true := by decide +kernel
theorem ok20_1 : entOk Tryz.prog hints S45 5000 60 20 E20_1 = true := by decide +kernel
theorem ok20_2 : entOk Tryz.prog hints S45 5000 60 20 E20_2 = true := by decide +kernel
theorem ok20 : ∀ e, e ∈ E20 → entOk Tryz.prog hints S45 5000 60 20 e = true := List.forall_mem_cons.2 ⟨ok20_0, List.forall_mem_cons.2 ⟨ok20_1, List.forall_mem_cons.2 ⟨ok20_2, List.forall_mem_nil _⟩⟩⟩
theorem ok6_0 : entOk Tryz.prog hints S46 5000 60 6 E6_0 = true := by decide +kernel
theorem ok6_1 : entOk Tryz.prog hints S46 5000 60 6 E6_1 = true := by decide +kernel
theorem ok6_2 : entOk Tryz.prog hints S46 5000 60 6 E6_2 = true := by decide +kernel
theorem ok6 : ∀ e, e ∈ E6 → entOk Tryz.prog hints S46 5000 60 6 e = true := List.forall_mem_cons.2 ⟨ok6_0, List.forall_mem_cons.2 ⟨ok6_1, List.forall_mem_cons.2 ⟨ok6_2, List.forall_mem_nil _⟩⟩⟩
end Go.Proofs.YtgnigjhlplghkaaGreatDoor.Cut
