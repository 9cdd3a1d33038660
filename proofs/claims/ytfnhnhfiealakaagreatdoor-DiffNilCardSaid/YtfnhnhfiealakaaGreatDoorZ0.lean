/-
  PROVED: calls that were run over abstract values, one by one: what each reads, writes, makes and answers. No condition.
-/
import Derived.Test.YtfnhnhfiealakaaGreatDoorY0
set_option linter.unusedVariables false
set_option maxRecDepth 1000000
namespace Go.Proofs.YtfnhnhfiealakaaGreatDoor.Cut
open Go.X
theorem ok25_0 : entOk Tryz.prog hints S0 5000 60 25 E25_0 = true := by decide +kernel
theorem ok25 : ∀ e, e ∈ E25 → entOk Tryz.prog hints S0 5000 60 25 e = true := List.forall_mem_cons.2 ⟨ok25_0, List.forall_mem_nil _⟩
theorem ok10_0 : entOk Tryz.prog hints S1 5000 60 10 E10_0 = true := by decide +kernel
theorem ok10 : ∀ e, e ∈ E10 → entOk Tryz.prog hints S1 5000 60 10 e = true := List.forall_mem_cons.2 ⟨ok10_0, List.forall_mem_nil _⟩
theorem ok49_0 : entOk Tryz.prog hints S2 5000 60 49 E49_0 = true := by decide +kernel
theorem ok49_1 : entOk Tryz.prog hints S2 5000 60 49 E49_1 = true := by decide +kernel
theorem ok49_2 : entOk Tryz.prog hints S2 5000 60 49 E49_2 = true := by decide +kernel
theorem ok49_3 : entOk Tryz.prog hints S2 5000 60 49 E49_3 = true := by decide +kernel
theorem ok49_4 : entOk Tryz.prog hints S2 5000 60 49 E49_4 = true := by decide +kernel
theorem ok49_5 : entOk Tryz.prog hints S2 5000 60 49 E49_5 = true := by decide +kernel
theorem ok49_6 : entOk Tryz.prog hints S2 5000 60 49 E49_6 = true := by decide +kernel
theorem ok49 : ∀ e, e ∈ E49 → entOk Tryz.prog hints S2 5000 60 49 e = true := List.forall_mem_cons.2 ⟨ok49_0, List.forall_mem_cons.2 ⟨ok49_1, List.forall_mem_cons.2 ⟨ok49_2, List.forall_mem_cons.2 ⟨ok49_3, List.forall_mem_cons.2 ⟨ok49_4, List.forall_mem_cons.2 ⟨ok49_5, List.forall_mem_cons.2 ⟨ok49_6, List.forall_mem_nil _⟩⟩⟩⟩⟩⟩⟩
theorem ok27_0 : entOk Tryz.prog hints S3 5000 60 27 E27_0 = true := by decide +kernel
theorem ok27_1 : entOk Tryz.prog hints S3 5000 60 27 E27_1 = true := by decide +kernel
theorem ok27 : ∀ e, e ∈ E27 → entOk Tryz.prog hints S3 5000 60 27 e = true := List.forall_mem_cons.2 ⟨ok27_0, List.forall_mem_cons.2 ⟨ok27_1, List.forall_mem_nil _⟩⟩
end Go.Proofs.YtfnhnhfiealakaaGreatDoor.Cut
