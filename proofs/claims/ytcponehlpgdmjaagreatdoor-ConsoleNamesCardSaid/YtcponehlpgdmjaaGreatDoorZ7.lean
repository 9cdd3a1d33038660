/-
  PROVED: calls that were run over abstract values, one by one: what each reads, writes, makes and answers. No condition.
-/
import Derived.Test.YtcponehlpgdmjaaGreatDoorY0
set_option linter.unusedVariables false
set_option maxRecDepth 1000000
namespace Go.Proofs.YtcponehlpgdmjaaGreatDoor.Cut
open Go.X
theorem ok45_0 : entOk Tryz.prog hints S30 5000 60 45 E45_0 = true := by decide +kernel
theorem ok45 : ∀ e, e ∈ E45 → entOk Tryz.prog hints S30 5000 60 45 e = true := List.forall_mem_cons.2 ⟨ok45_0, List.forall_mem_nil _⟩
theorem ok46_0 : entOk Tryz.prog hints S31 5000 60 46 E46_0 = true := by decide +kernel
theorem ok46_1 : entOk Tryz.prog hints S31 5000 60 46 E46_1 = true := by decide +kernel
theorem ok46_2 : entOk Tryz.prog hints S31 5000 60 46 E46_2 = true := by decide +kernel
theorem ok46 : ∀ e, e ∈ E46 → entOk Tryz.prog hints S31 5000 60 46 e = true := List.forall_mem_cons.2 ⟨ok46_0, List.forall_mem_cons.2 ⟨ok46_1, List.forall_mem_cons.2 ⟨ok46_2, List.forall_mem_nil _⟩⟩⟩
theorem ok16_0 : entOk Tryz.prog hints S32 5000 60 16 E16_0 = true := by decide +kernel
theorem ok16 : ∀ e, e ∈ E16 → entOk Tryz.prog hints S32 5000 60 16 e = true := List.forall_mem_cons.2 ⟨ok16_0, List.forall_mem_nil _⟩
theorem ok227_0 : entOk Tryz.prog hints S33 5000 60 227 E227_0 = true := by decide +kernel
theorem ok227_1 : entOk Tryz.prog hints S33 5000 60 227 E227_1 = true := by decide +kernel
theorem ok227_2 : entOk Tryz.prog hints S33 5000 60 227 E227_2 = true := by decide +kernel
theorem ok227_3 : entOk Tryz.prog hints S33 5000 60 227 E227_3 = true := by decide +kernel
theorem ok227 : ∀ e, e ∈ E227 → entOk Tryz.prog hints S33 5000 60 227 e = true := List.forall_mem_cons.2 ⟨ok227_0, List.forall_mem_cons.2 ⟨ok227_1, List.forall_mem_cons.2 ⟨ok227_2, List.forall_mem_cons.2 ⟨ok227_3, List.forall_mem_nil _⟩⟩⟩⟩
theorem ok306_0 : entOk Tryz.prog hints S34 5000 60 306 E306_0 = true := by decide +kernel
theorem ok306_1 : entOk Tryz.prog hints S34 5000 60 306 E306_1 = true := by decide +kernel
theorem ok306_2 : entOk Tryz.prog hints S34 5000 60 306 E306_2 = true := by decide +kernel
theorem ok306_3 : entOk Tryz.prog hints S34 5000 60 306 E306_3 = true := by decide +kernel
theorem ok306 : ∀ e, e ∈ E306 → entOk Tryz.prog hints S34 5000 60 306 e = true := List.forall_mem_cons.2 ⟨ok306_0, List.forall_mem_cons.2 ⟨ok306_1, List.forall_mem_cons.2 ⟨ok306_2, List.forall_mem_cons.2 ⟨ok306_3, List.forall_mem_nil _⟩⟩⟩⟩
end Go.Proofs.YtcponehlpgdmjaaGreatDoor.Cut
