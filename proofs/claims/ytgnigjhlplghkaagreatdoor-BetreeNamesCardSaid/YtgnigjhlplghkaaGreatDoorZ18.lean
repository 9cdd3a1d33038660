/-
  PROVED: calls that were run over abstract values, one by one: what each reads, writes, makes and answers. No condition.
-/
import Derived.Test.YtgnigjhlplghkaaGreatDoorY2
set_option linter.unusedVariables false
set_option maxRecDepth 1000000
namespace Go.Proofs.YtgnigjhlplghkaaGreatDoor.Cut
open Go.X
theorem ok27_0 : entOk Tryz.prog hints S47 5000 60 27 E27_0 = true := by decide +kernel
theorem ok27_1 : entOk Tryz.prog hints S47 5000 60 27 E27_1 = true := by decide +kernel
theorem ok27 : ∀ e, e ∈ E27 → entOk Tryz.prog hints S47 5000 60 27 e = true := List.forall_mem_cons.2 ⟨ok27_0, List.forall_mem_cons.2 ⟨ok27_1, List.forall_mem_nil _⟩⟩
theorem ok7_0 : entOk Tryz.prog hints S48 5000 60 7 E7_0 = true := by decide +kernel
theorem ok7_1 : entOk Tryz.prog hints S48 5000 60 7 E7_1 = true := by decide +kernel
theorem ok7 : ∀ e, e ∈ E7 → entOk Tryz.prog hints S48 5000 60 7 e = true := List.forall_mem_cons.2 ⟨ok7_0, List.forall_mem_cons.2 ⟨ok7_1, List.forall_mem_nil _⟩⟩
theorem ok9_0 : entOk Tryz.prog hints S49 5000 60 9 E9_0 = true := by decide +kernel
theorem ok9 : ∀ e, e ∈ E9 → entOk Tryz.prog hints S49 5000 60 9 e = true := List.forall_mem_cons.2 ⟨ok9_0, List.forall_mem_nil _⟩
theorem ok71_0 : entOk Tryz.prog hints S50 5000 60 71 E71_0 = true := by decide +kernel
theorem ok71 : ∀ e, e ∈ E71 → entOk Tryz.prog hints S50 5000 60 71 e = true := List.forall_mem_cons.2 ⟨ok71_0, List.forall_mem_nil _⟩
theorem ok34_0 : entOk Tryz.prog hints S51 5000 60 34 E34_0 = true := by decide +kernel
theorem ok34 : ∀ e, e ∈ E34 → entOk Tryz.prog hints S51 5000 60 34 e = true := List.forall_mem_cons.2 ⟨ok34_0, List.forall_mem_nil _⟩
theorem ok10_0 : entOk Tryz.prog hints S52 5000 60 10 E10_0 = true := by decide +kernel
theorem ok10 : ∀ e, e ∈ E10 → entOk Tryz.prog hints S52 5000 60 10 e = true := List.forall_mem_cons.2 ⟨ok10_0, List.forall_mem_nil _⟩
theorem ok11_0 : entOk Tryz.prog hints S53 5000 60 11 E11_0 = true := by decide +kernel
theorem ok11 : ∀ e, e ∈ E11 → entOk Tryz.prog hints S53 5000 60 11 e = true := List.forall_mem_cons.2 ⟨ok11_0, List.forall_mem_nil _⟩
end Go.Proofs.YtgnigjhlplghkaaGreatDoor.Cut
