/-
  PROVED: calls that were run over abstract values, one by one: what each reads, writes, makes and answers. No condition.
-/
import Derived.Test.YtacmamkpecmboaaGreatDoorY1
set_option linter.unusedVariables false
set_option maxRecDepth 1000000
namespace Go.Proofs.YtacmamkpecmboaaGreatDoor.Cut
open Go.X
theorem ok8_0 : entOk Tryz.prog hints S2 5000 60 8 E8_0 = true := by decide +kernel
theorem ok8 : ∀ e, e ∈ E8 → entOk Tryz.prog hints S2 5000 60 8 e = true := List.forall_mem_cons.2 ⟨ok8_0, List.forall_mem_nil _⟩
theorem ok66_0 : entOk Tryz.prog hints S3 5000 60 66 E66_0 = true := by decide +kernel
theorem ok66_1 : entOk Tryz.prog hints S3 5000 60 66 E66_1 = true := by decide +kernel
theorem ok66_2 : entOk Tryz.prog hints S3 5000 60 66 E66_2 = true := by decide +kernel
theorem ok66_3 : entOk Tryz.prog hints S3 5000 60 66 E66_3 = true := by decide +kernel
theorem ok66 : ∀ e, e ∈ E66 → entOk Tryz.prog hints S3 5000 60 66 e = true := List.forall_mem_cons.2 ⟨ok66_0, List.forall_mem_cons.2 ⟨ok66_1, List.forall_mem_cons.2 ⟨ok66_2, List.forall_mem_cons.2 ⟨ok66_3, List.forall_mem_nil _⟩⟩⟩⟩
theorem ok46_0 : entOk Tryz.prog hints S4 5000 60 46 E46_0 = true := by decide +kernel
theorem ok46_1 : entOk Tryz.prog hints S4 5000 60 46 E46_1 = true := by decide +kernel
theorem ok46_2 : entOk Tryz.prog hints S4 5000 60 46 E46_2 = true := by decide +kernel
theorem ok46 : ∀ e, e ∈ E46 → entOk Tryz.prog hints S4 5000 60 46 e = true := List.forall_mem_cons.2 ⟨ok46_0, List.forall_mem_cons.2 ⟨ok46_1, List.forall_mem_cons.2 ⟨ok46_2, List.forall_mem_nil _⟩⟩⟩
theorem ok60_0 : entOk Tryz.prog hints S5 5000 60 60 E60_0 = true := by decide +kernel
theorem ok60_1 : entOk Tryz.prog hints S5 5000 60 60 E60_1 = true := by decide +kernel
theorem ok60_2 : entOk Tryz.prog hints S5 5000 60 60 E60_2 = true := by decide +kernel
theorem ok60_3 : entOk Tryz.prog hints S5 5000 60 60 E60_3 = true := by decide +kernel
theorem ok60 : ∀ e, e ∈ E60 → entOk Tryz.prog hints S5 5000 60 60 e = true := List.forall_mem_cons.2 ⟨ok60_0, List.forall_mem_cons.2 ⟨ok60_1, List.forall_mem_cons.2 ⟨ok60_2, List.forall_mem_cons.2 ⟨ok60_3, List.forall_mem_nil _⟩⟩⟩⟩
end Go.Proofs.YtacmamkpecmboaaGreatDoor.Cut
