/-
  PROVED: calls that were run over abstract values, one by one: what each reads, writes, makes and answers. No condition.
-/
import Derived.Test.YtacmamkpecmboaaGreatDoorY1
set_option linter.unusedVariables false
set_option maxRecDepth 1000000
namespace Go.Proofs.YtacmamkpecmboaaGreatDoor.Cut
open Go.X
theorem ok30_0 : entOk Tryz.prog hints S12 5000 60 30 E30_0 = true := by decide +kernel
theorem ok30_1 : entOk Tryz.prog hints S12 5000 60 30 E30_1 = true := by decide +kernel
theorem ok30_2 : entOk Tryz.prog hints S12 5000 60 30 E30_2 = true := by decide +kernel
theorem ok30_3 : entOk Tryz.prog hints S12 5000 60 30 E30_3 = true := by decide +kernel
theorem ok30 : ∀ e, e ∈ E30 → entOk Tryz.prog hints S12 5000 60 30 e = true := List.forall_mem_cons.2 ⟨ok30_0, List.forall_mem_cons.2 ⟨ok30_1, List.forall_mem_cons.2 ⟨ok30_2, List.forall_mem_cons.2 ⟨ok30_3, List.forall_mem_nil _⟩⟩⟩⟩
theorem ok27_0 : entOk Tryz.prog hints S13 5000 60 27 E27_0 = true := by decide +kernel
theorem ok27 : ∀ e, e ∈ E27 → entOk Tryz.prog hints S13 5000 60 27 e = true := List.forall_mem_cons.2 ⟨ok27_0, List.forall_mem_nil _⟩
theorem ok26_0 : entOk Tryz.prog hints S14 5000 60 26 E26_0 = true := by decide +kernel
theorem ok26_1 : entOk Tryz.prog hints S14 5000 60 26 E26_1 = true := by decide +kernel
theorem ok26 : ∀ e, e ∈ E26 → entOk Tryz.prog hints S14 5000 60 26 e = true := List.forall_mem_cons.2 ⟨ok26_0, List.forall_mem_cons.2 ⟨ok26_1, List.forall_mem_nil _⟩⟩
theorem ok76_0 : entOk Tryz.prog hints S15 5000 60 76 E76_0 = true := by decide +kernel
theorem ok76_1 : entOk Tryz.prog hints S15 5000 60 76 E76_1 = true := by decide +kernel
theorem ok76 : ∀ e, e ∈ E76 → entOk Tryz.prog hints S15 5000 60 76 e = true := List.forall_mem_cons.2 ⟨ok76_0, List.forall_mem_cons.2 ⟨ok76_1, List.forall_mem_nil _⟩⟩
theorem ok32_0 : entOk Tryz.prog hints S16 5000 60 32 E32_0 = true := by decide +kernel
theorem ok32_1 : entOk Tryz.prog hints S16 5000 60 32 E32_1 = true := by decide +kernel
theorem ok32_2 : entOk Tryz.prog hints S16 5000 60 32 E32_2 = true := by decide +kernel
theorem ok32_3 : entOk Tryz.prog hints S16 5000 60 32 E32_3 = true := by decide +kernel
theorem ok32_4 : entOk Tryz.prog hints S16 5000 60 32 E32_4 = true := by decide +kernel
theorem ok32 : ∀ e, e ∈ E32 → entOk Tryz.prog hints S16 5000 60 32 e = true := List.forall_mem_cons.2 ⟨ok32_0, List.forall_mem_cons.2 ⟨ok32_1, List.forall_mem_cons.2 ⟨ok32_2, List.forall_mem_cons.2 ⟨ok32_3, List.forall_mem_cons.2 ⟨ok32_4, List.forall_mem_nil _⟩⟩⟩⟩⟩
end Go.Proofs.YtacmamkpecmboaaGreatDoor.Cut
