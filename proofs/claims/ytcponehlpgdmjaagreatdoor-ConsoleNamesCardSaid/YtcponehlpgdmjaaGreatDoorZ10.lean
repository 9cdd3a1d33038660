/-
  PROVED: calls that were run over abstract values, one by one: what each reads, writes, makes and answers. No condition.
-/
import Derived.Test.YtcponehlpgdmjaaGreatDoorY0
set_option linter.unusedVariables false
set_option maxRecDepth 1000000
namespace Go.Proofs.YtcponehlpgdmjaaGreatDoor.Cut
open Go.X
theorem ok374_0 : entOk Tryz.prog hints S45 5000 60 374 E374_0 = true := by decide +kernel
theorem ok374 : ∀ e, e ∈ E374 → entOk Tryz.prog hints S45 5000 60 374 e = true := List.forall_mem_cons.2 ⟨ok374_0, List.forall_mem_nil _⟩
theorem ok10_0 : entOk Tryz.prog hints S46 5000 60 10 E10_0 = true := by decide +kernel
theorem ok10_1 : entOk Tryz.prog hints S46 5000 60 10 E10_1 = true := by decide +kernel
theorem ok10_2 : entOk Tryz.prog hints S46 5000 60 10 E10_2 = true := by decide +kernel
theorem ok10_3 : entOk Tryz.prog hints S46 5000 60 10 E10_3 = true := by decide +kernel
theorem ok10_4 : entOk Tryz.prog hints S46 5000 60 10 E10_4 = true := by decide +kernel
theorem ok10_5 : entOk Tryz.prog hints S46 5000 60 10 E10_5 = true := by decide +kernel
theorem ok10 : ∀ e, e ∈ E10 → entOk Tryz.prog hints S46 5000 60 10 e = true := List.forall_mem_cons.2 ⟨ok10_0, List.forall_mem_cons.2 ⟨ok10_1, List.forall_mem_cons.2 ⟨ok10_2, List.forall_mem_cons.2 ⟨ok10_3, List.forall_mem_cons.2 ⟨ok10_4, List.forall_mem_cons.2 ⟨ok10_5, List.forall_mem_nil _⟩⟩⟩⟩⟩⟩
theorem ok80_0 : entOk Tryz.prog hints S47 5000 60 80 E80_0 = true := by decide +kernel
theorem ok80 : ∀ e, e ∈ E80 → entOk Tryz.prog hints S47 5000 60 80 e = true := List.forall_mem_cons.2 ⟨ok80_0, List.forall_mem_nil _⟩
theorem ok77_0 : entOk Tryz.prog hints S48 5000 60 77 E77_0 = true := by decide +kernel
theorem ok77_1 : entOk Tryz.prog hints S48 5000 60 77 E77_1 = true := by decide +kernel
theorem ok77_2 : entOk Tryz.prog hints S48 5000 60 77 E77_2 = true := by decide +kernel
theorem ok77_3 : entOk Tryz.prog hints S48 5000 60 77 E77_3 = true := by decide +kernel
theorem ok77_4 : entOk Tryz.prog hints S48 5000 60 77 E77_4 = true := by decide +kernel
theorem ok77 : ∀ e, e ∈ E77 → entOk Tryz.prog hints S48 5000 60 77 e = true := List.forall_mem_cons.2 ⟨ok77_0, List.forall_mem_cons.2 ⟨ok77_1, List.forall_mem_cons.2 ⟨ok77_2, List.forall_mem_cons.2 ⟨ok77_3, List.forall_mem_cons.2 ⟨ok77_4, List.forall_mem_nil _⟩⟩⟩⟩⟩
end Go.Proofs.YtcponehlpgdmjaaGreatDoor.Cut
