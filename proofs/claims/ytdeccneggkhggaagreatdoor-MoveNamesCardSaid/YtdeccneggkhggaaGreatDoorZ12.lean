/-
  PROVED: calls that were run over abstract values, one by one: what each reads, writes, makes and answers. No condition.
-/
import Derived.Test.YtdeccneggkhggaaGreatDoorY2
set_option linter.unusedVariables false
set_option maxRecDepth 1000000
namespace Go.Proofs.YtdeccneggkhggaaGreatDoor.Cut
open Go.X
theorem ok152_0 : entOk Tryz.prog hints S26 5000 60 152 E152_0 = true := by decide +kernel
theorem ok152_1 : entOk Tryz.prog hints S26 5000 60 152 E152_1 = true := by decide +kernel
theorem ok152_2 : entOk Tryz.prog hints S26 5000 60 152 E152_2 = true := by decide +kernel
theorem ok152_3 : entOk Tryz.prog hints S26 5000 60 152 E152_3 = true := by decide +kernel
theorem ok152 : ∀ e, e ∈ E152 → entOk Tryz.prog hints S26 5000 60 152 e = true := List.forall_mem_cons.2 ⟨ok152_0, List.forall_mem_cons.2 ⟨ok152_1, List.forall_mem_cons.2 ⟨ok152_2, List.forall_mem_cons.2 ⟨ok152_3, List.forall_mem_nil _⟩⟩⟩⟩
theorem ok271_0 : entOk Tryz.prog hints S27 5000 60 271 E271_0 = true := by decide +kernel
theorem ok271_1 : entOk Tryz.prog hints S27 5000 60 271 E271_1 = true := by decide +kernel
theorem ok271 : ∀ e, e ∈ E271 → entOk Tryz.prog hints S27 5000 60 271 e = true := List.forall_mem_cons.2 ⟨ok271_0, List.forall_mem_cons.2 ⟨ok271_1, List.forall_mem_nil _⟩⟩
theorem ok215_0 : entOk Tryz.prog hints S28 5000 60 215 E215_0 = true := by decide +kernel
theorem ok215_1 : entOk Tryz.prog hints S28 5000 60 215 E215_1 = true := by decide +kernel
theorem ok215_2 : entOk Tryz.prog hints S28 5000 60 215 E215_2 = true := by decide +kernel
theorem ok215_3 : entOk Tryz.prog hints S28 5000 60 215 E215_3 = true := by decide +kernel
theorem ok215 : ∀ e, e ∈ E215 → entOk Tryz.prog hints S28 5000 60 215 e = true := List.forall_mem_cons.2 ⟨ok215_0, List.forall_mem_cons.2 ⟨ok215_1, List.forall_mem_cons.2 ⟨ok215_2, List.forall_mem_cons.2 ⟨ok215_3, List.forall_mem_nil _⟩⟩⟩⟩
theorem ok392_0 : entOk Tryz.prog hints S29 5000 60 392 E392_0 = true := by decide +kernel
theorem ok392_1 : entOk Tryz.prog hints S29 5000 60 392 E392_1 = true := by decide +kernel
theorem ok392 : ∀ e, e ∈ E392 → entOk Tryz.prog hints S29 5000 60 392 e = true := List.forall_mem_cons.2 ⟨ok392_0, List.forall_mem_cons.2 ⟨ok392_1, List.forall_mem_nil _⟩⟩
theorem ok45_0 : entOk Tryz.prog hints S30 5000 60 45 E45_0 = true := by decide +kernel
theorem ok45 : ∀ e, e ∈ E45 → entOk Tryz.prog hints S30 5000 60 45 e = true := List.forall_mem_cons.2 ⟨ok45_0, List.forall_mem_nil _⟩
theorem ok83_0 : entOk Tryz.prog hints S31 5000 60 83 E83_0 = true := by decide +kernel
theorem ok83_1 : entOk Tryz.prog hints S31 5000 60 83 E83_1 = true := by decide +kernel
theorem ok83_2 : entOk Tryz.prog hints S31 5000 60 83 E83_2 = true := by decide +kernel
theorem ok83_3 : entOk Tryz.prog hints S31 5000 60 83 E83_3 = true := by decide +kernel
theorem ok83 : ∀ e, e ∈ E83 → entOk Tryz.prog hints S31 5000 60 83 e = true := List.forall_mem_cons.2 ⟨ok83_0, List.forall_mem_cons.2 ⟨ok83_1, List.forall_mem_cons.2 ⟨ok83_2, List.forall_mem_cons.2 ⟨ok83_3, List.forall_mem_nil _⟩⟩⟩⟩
theorem ok129_0 : entOk Tryz.prog hints S32 5000 60 129 E129_0 = true := by decide +kernel
theorem ok129 : ∀ e, e ∈ E129 → entOk Tryz.prog hints S32 5000 60 129 e = true := List.forall_mem_cons.2 ⟨ok129_0, List.forall_mem_nil _⟩
theorem ok84_0 : entOk Tryz.prog hints S33 5000 60 84 E84_0 = true := by decide +kernel
theorem ok84_1 : entOk Tryz.prog hints S33 5000 60 84 E84_1 = true := by decide +kernel
theorem ok84_2 : entOk Tryz.prog hints S33 5000 60 84 E84_2 = true := by decide +kernel
theorem ok84 : ∀ e, e ∈ E84 → entOk Tryz.prog hints S33 5000 60 84 e = true := List.forall_mem_cons.2 ⟨ok84_0, List.forall_mem_cons.2 ⟨ok84_1, List.forall_mem_cons.2 ⟨ok84_2, List.forall_mem_nil _⟩⟩⟩
theorem ok198_0 : entOk Tryz.prog hints S34 5000 60 198 E198_0 = true := by decide +kernel
theorem ok198_1 : entOk Tryz.prog hints S34 5000 60 198 E198_1 = true := by decide +kernel
theorem ok198_2 : entOk Tryz.prog hints S34 5000 60 198 E198_2 = true := by decide +kernel
theorem ok198 : ∀ e, e ∈ E198 → entOk Tryz.prog hints S34 5000 60 198 e = true := List.forall_mem_cons.2 ⟨ok198_0, List.forall_mem_cons.2 ⟨ok198_1, List.forall_mem_cons.2 ⟨ok198_2, List.forall_mem_nil _⟩⟩⟩
end Go.Proofs.YtdeccneggkhggaaGreatDoor.Cut
