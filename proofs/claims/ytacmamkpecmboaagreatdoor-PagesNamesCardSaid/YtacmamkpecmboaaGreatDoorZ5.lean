/-
  PROVED: calls that were run over abstract values, one by one: what each reads, writes, makes and answers. No condition.
-/
import Derived.Test.YtacmamkpecmboaaGreatDoorY1
set_option linter.unusedVariables false
set_option maxRecDepth 1000000
namespace Go.Proofs.YtacmamkpecmboaaGreatDoor.Cut
open Go.X
theorem ok31_0 : entOk Tryz.prog hints S17 5000 60 31 E31_0 = true := by decide +kernel
theorem ok31_1 : entOk Tryz.prog hints S17 5000 60 31 E31_1 = true := by decide +kernel
theorem ok31_2 : entOk Tryz.prog hints S17 5000 60 31 E31_2 = true := by decide +kernel
theorem ok31_3 : entOk Tryz.prog hints S17 5000 60 31 E31_3 = true := by decide +kernel
theorem ok31 : ∀ e, e ∈ E31 → entOk Tryz.prog hints S17 5000 60 31 e = true := List.forall_mem_cons.2 ⟨ok31_0, List.forall_mem_cons.2 ⟨ok31_1, List.forall_mem_cons.2 ⟨ok31_2, List.forall_mem_cons.2 ⟨ok31_3, List.forall_mem_nil _⟩⟩⟩⟩
theorem ok33_0 : entOk Tryz.prog hints S18 5000 60 33 E33_0 = true := by decide +kernel
theorem ok33_1 : entOk Tryz.prog hints S18 5000 60 33 E33_1 = true := by decide +kernel
theorem ok33_2 : entOk Tryz.prog hints S18 5000 60 33 E33_2 = true := by decide +kernel
theorem ok33 : ∀ e, e ∈ E33 → entOk Tryz.prog hints S18 5000 60 33 e = true := List.forall_mem_cons.2 ⟨ok33_0, List.forall_mem_cons.2 ⟨ok33_1, List.forall_mem_cons.2 ⟨ok33_2, List.forall_mem_nil _⟩⟩⟩
theorem ok25_0 : entOk Tryz.prog hints S19 5000 60 25 E25_0 = true := by decide +kernel
theorem ok25_1 : entOk Tryz.prog hints S19 5000 60 25 E25_1 = true := by decide +kernel
theorem ok25_2 : entOk Tryz.prog hints S19 5000 60 25 E25_2 = true := by decide +kernel
theorem ok25_3 : entOk Tryz.prog hints S19 5000 60 25 E25_3 = true := by decide +kernel
theorem ok25_4 : entOk Tryz.prog hints S19 5000 60 25 E25_4 = true := by decide +kernel
theorem ok25_5 : entOk Tryz.prog hints S19 5000 60 25 E25_5 = true := by decide +kernel
theorem ok25_6 : entOk Tryz.prog hints S19 5000 60 25 E25_6 = true := by decide +kernel
theorem ok25_7 : entOk Tryz.prog hints S19 5000 60 25 E25_7 = true := by decide +kernel
theorem ok25_8 : entOk Tryz.prog hints S19 5000 60 25 E25_8 = true := by decide +kernel
theorem ok25 : ∀ e, e ∈ E25 → entOk Tryz.prog hints S19 5000 60 25 e = true := List.forall_mem_cons.2 ⟨ok25_0, List.forall_mem_cons.2 ⟨ok25_1, List.forall_mem_cons.2 ⟨ok25_2, List.forall_mem_cons.2 ⟨ok25_3, List.forall_mem_cons.2 ⟨ok25_4, List.forall_mem_cons.2 ⟨ok25_5, List.forall_mem_cons.2 ⟨ok25_6, List.forall_mem_cons.2 ⟨ok25_7, List.forall_mem_cons.2 ⟨ok25_8, List.forall_mem_nil _⟩⟩⟩⟩⟩⟩⟩⟩⟩
end Go.Proofs.YtacmamkpecmboaaGreatDoor.Cut
