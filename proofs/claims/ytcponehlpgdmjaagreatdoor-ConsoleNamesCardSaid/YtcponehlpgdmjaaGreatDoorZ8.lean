/-
  PROVED: calls that were run over abstract values, one by one: what each reads, writes, makes and answers. No condition.
-/
import Derived.Test.YtcponehlpgdmjaaGreatDoorY0
set_option linter.unusedVariables false
set_option maxRecDepth 1000000
namespace Go.Proofs.YtcponehlpgdmjaaGreatDoor.Cut
open Go.X
theorem ok228_0 : entOk Tryz.prog hints S35 5000 60 228 E228_0 = true := by decide +kernel
theorem ok228_1 : entOk Tryz.prog hints S35 5000 60 228 E228_1 = true := by decide +kernel
theorem ok228_2 : entOk Tryz.prog hints S35 5000 60 228 E228_2 = true := by decide +kernel
theorem ok228_3 : entOk Tryz.prog hints S35 5000 60 228 E228_3 = true := by decide +kernel
theorem ok228 : ∀ e, e ∈ E228 → entOk Tryz.prog hints S35 5000 60 228 e = true := List.forall_mem_cons.2 ⟨ok228_0, List.forall_mem_cons.2 ⟨ok228_1, List.forall_mem_cons.2 ⟨ok228_2, List.forall_mem_cons.2 ⟨ok228_3, List.forall_mem_nil _⟩⟩⟩⟩
theorem ok255_0 : entOk Tryz.prog hints S36 5000 60 255 E255_0 = true := by decide +kernel
theorem ok255_1 : entOk Tryz.prog hints S36 5000 60 255 E255_1 = true := by decide +kernel
theorem ok255_2 : entOk Tryz.prog hints S36 5000 60 255 E255_2 = true := by decide +kernel
theorem ok255_3 : entOk Tryz.prog hints S36 5000 60 255 E255_3 = true := by decide +kernel
theorem ok255 : ∀ e, e ∈ E255 → entOk Tryz.prog hints S36 5000 60 255 e = true := List.forall_mem_cons.2 ⟨ok255_0, List.forall_mem_cons.2 ⟨ok255_1, List.forall_mem_cons.2 ⟨ok255_2, List.forall_mem_cons.2 ⟨ok255_3, List.forall_mem_nil _⟩⟩⟩⟩
theorem ok98_0 : entOk Tryz.prog hints S37 5000 60 98 E98_0 = true := by decide +kernel
theorem ok98_1 : entOk Tryz.prog hints S37 5000 60 98 E98_1 = true := by decide +kernel
theorem ok98 : ∀ e, e ∈ E98 → entOk Tryz.prog hints S37 5000 60 98 e = true := List.forall_mem_cons.2 ⟨ok98_0, List.forall_mem_cons.2 ⟨ok98_1, List.forall_mem_nil _⟩⟩
end Go.Proofs.YtcponehlpgdmjaaGreatDoor.Cut
