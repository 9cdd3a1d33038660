/-
  PROVED: calls that were run over abstract values, one by one: what each reads, writes, makes and answers. No condition.
-/
import Derived.Test.YtjchcfiiijgmdaaGreatDoorY0
set_option linter.unusedVariables false
set_option maxRecDepth 1000000
namespace Go.Proofs.YtjchcfiiijgmdaaGreatDoor.Cut
open Go.X
theorem ok7_0 : entOk Tryz.prog hints S1 5000 60 7 E7_0 = true := by decide +kernel
theorem ok7_1 : entOk Tryz.prog hints S1 5000 60 7 E7_1 = true := by decide +kernel
theorem ok7_2 : entOk Tryz.prog hints S1 5000 60 7 E7_2 = true := by decide +kernel
theorem ok7 : ∀ e, e ∈ E7 → entOk Tryz.prog hints S1 5000 60 7 e = true := List.forall_mem_cons.2 ⟨ok7_0, List.forall_mem_cons.2 ⟨ok7_1, List.forall_mem_cons.2 ⟨ok7_2, List.forall_mem_nil _⟩⟩⟩
theorem ok12_0 : entOk Tryz.prog hints S2 5000 60 12 E12_0 = true := by decide +kernel
theorem ok12 : ∀ e, e ∈ E12 → entOk Tryz.prog hints S2 5000 60 12 e = true := List.forall_mem_cons.2 ⟨ok12_0, List.forall_mem_nil _⟩
theorem ok13_0 : entOk Tryz.prog hints S3 5000 60 13 E13_0 = true := by decide +kernel
theorem ok13_1 : entOk Tryz.prog hints S3 5000 60 13 E13_1 = true := by decide +kernel
theorem ok13 : ∀ e, e ∈ E13 → entOk Tryz.prog hints S3 5000 60 13 e = true := List.forall_mem_cons.2 ⟨ok13_0, List.forall_mem_cons.2 ⟨ok13_1, List.forall_mem_nil _⟩⟩
theorem ok15_0 : entOk Tryz.prog hints S4 5000 60 15 E15_0 = true := by decide +kernel
theorem ok15 : ∀ e, e ∈ E15 → entOk Tryz.prog hints S4 5000 60 15 e = true := List.forall_mem_cons.2 ⟨ok15_0, List.forall_mem_nil _⟩
end Go.Proofs.YtjchcfiiijgmdaaGreatDoor.Cut
