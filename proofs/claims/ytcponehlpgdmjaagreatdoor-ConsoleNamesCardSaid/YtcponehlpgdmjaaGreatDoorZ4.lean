/-
  PROVED: calls that were run over abstract values, one by one: what each reads, writes, makes and answers. No condition.
-/
import Derived.Test.YtcponehlpgdmjaaGreatDoorY0
set_option linter.unusedVariables false
set_option maxRecDepth 1000000
namespace Go.Proofs.YtcponehlpgdmjaaGreatDoor.Cut
open Go.X
theorem ok213_0 : entOk Tryz.prog hints S16 5000 60 213 E213_0 = true := by decide +kernel
theorem ok213_1 : entOk Tryz.prog hints S16 5000 60 213 E213_1 = true := by decide +kernel
theorem ok213 : ∀ e, e ∈ E213 → entOk Tryz.prog hints S16 5000 60 213 e = true := List.forall_mem_cons.2 ⟨ok213_0, List.forall_mem_cons.2 ⟨ok213_1, List.forall_mem_nil _⟩⟩
theorem ok149_0 : entOk Tryz.prog hints S17 5000 60 149 E149_0 = true := by decide +kernel
theorem ok149_1 : entOk Tryz.prog hints S17 5000 60 149 E149_1 = true := by decide +kernel
theorem ok149 : ∀ e, e ∈ E149 → entOk Tryz.prog hints S17 5000 60 149 e = true := List.forall_mem_cons.2 ⟨ok149_0, List.forall_mem_cons.2 ⟨ok149_1, List.forall_mem_nil _⟩⟩
theorem ok86_0 : entOk Tryz.prog hints S18 5000 60 86 E86_0 = true := by decide +kernel
theorem ok86 : ∀ e, e ∈ E86 → entOk Tryz.prog hints S18 5000 60 86 e = true := List.forall_mem_cons.2 ⟨ok86_0, List.forall_mem_nil _⟩
theorem ok301_0 : entOk Tryz.prog hints S19 5000 60 301 E301_0 = true := by decide +kernel
theorem ok301_1 : entOk Tryz.prog hints S19 5000 60 301 E301_1 = true := by decide +kernel
theorem ok301 : ∀ e, e ∈ E301 → entOk Tryz.prog hints S19 5000 60 301 e = true := List.forall_mem_cons.2 ⟨ok301_0, List.forall_mem_cons.2 ⟨ok301_1, List.forall_mem_nil _⟩⟩
theorem ok215_0 : entOk Tryz.prog hints S20 5000 60 215 E215_0 = true := by decide +kernel
theorem ok215_1 : entOk Tryz.prog hints S20 5000 60 215 E215_1 = true := by decide +kernel
theorem ok215 : ∀ e, e ∈ E215 → entOk Tryz.prog hints S20 5000 60 215 e = true := List.forall_mem_cons.2 ⟨ok215_0, List.forall_mem_cons.2 ⟨ok215_1, List.forall_mem_nil _⟩⟩
theorem ok151_0 : entOk Tryz.prog hints S21 5000 60 151 E151_0 = true := by decide +kernel
theorem ok151 : ∀ e, e ∈ E151 → entOk Tryz.prog hints S21 5000 60 151 e = true := List.forall_mem_cons.2 ⟨ok151_0, List.forall_mem_nil _⟩
end Go.Proofs.YtcponehlpgdmjaaGreatDoor.Cut
