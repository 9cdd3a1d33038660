/-
  PROVED: calls that were run over abstract values, one by one: what each reads, writes, makes and answers. No condition.
-/
import Derived.Test.YtgnigjhlplghkaaGreatDoorY2
set_option linter.unusedVariables false
set_option maxRecDepth 1000000
namespace Go.Proofs.YtgnigjhlplghkaaGreatDoor.Cut
open Go.X
theorem ok18_0 : entOk Tryz.prog hints S36 5000 60 18 E18_0 = true := by decide +kernel
theorem ok18_1 : entOk Tryz.prog hints S36 5000 60 18 E18_1 = true := by decide +kernel
theorem ok18_2 : entOk Tryz.prog hints S36 5000 60 18 E18_2 = true := by decide +kernel
theorem ok18_3 : entOk Tryz.prog hints S36 5000 60 18 E18_3 = true := by decide +kernel
theorem ok18_4 : entOk Tryz.prog hints S36 5000 60 18 E18_4 = true := by decide +kernel
theorem ok18 : ∀ e, e ∈ E18 → entOk Tryz.prog hints S36 5000 60 18 e = true := List.forall_mem_cons.2 ⟨ok18_0, List.forall_mem_cons.2 ⟨ok18_1, List.forall_mem_cons.2 ⟨ok18_2, List.forall_mem_cons.2 ⟨ok18_3, List.forall_mem_cons.2 ⟨ok18_4, List.forall_mem_nil _⟩⟩⟩⟩⟩
theorem ok114_0 : entOk Tryz.prog hints S37 5000 60 114 E114_0 = true := by decide +kernel
theorem ok114_1 : entOk Tryz.prog hints S37 5000 60 114 E114_1 = true := by decide +kernel
theorem ok114_2 : entOk Tryz.prog hints S37 5000 60 114 E114_2 = true := by decide +kernel
theorem ok114_3 : entOk Tryz.prog hints S37 5000 60 114 E114_3 = true := by decide +kernel
theorem ok114 : ∀ e, e ∈ E114 → entOk Tryz.prog hints S37 5000 60 114 e = true := List.forall_mem_cons.2 ⟨ok114_0, List.forall_mem_cons.2 ⟨ok114_1, List.forall_mem_cons.2 ⟨ok114_2, List.forall_mem_cons.2 ⟨ok114_3, List.forall_mem_nil _⟩⟩⟩⟩
theorem ok56_0 : entOk Tryz.prog hints S38 5000 60 56 E56_0 = true := by decide +kernel
theorem ok56_1 : entOk Tryz.prog hints S38 5000 60 56 E56_1 = true := by decide +kernel
theorem ok56_2 : entOk Tryz.prog hints S38 5000 60 56 E56_2 = true := by decide +kernel
theorem ok56_3 : entOk Tryz.prog hints S38 5000 60 56 E56_3 = true := by decide +kernel
theorem ok56 : ∀ e, e ∈ E56 → entOk Tryz.prog hints S38 5000 60 56 e = true := List.forall_mem_cons.2 ⟨ok56_0, List.forall_mem_cons.2 ⟨ok56_1, List.forall_mem_cons.2 ⟨ok56_2, List.forall_mem_cons.2 ⟨ok56_3, List.forall_mem_nil _⟩⟩⟩⟩
end Go.Proofs.YtgnigjhlplghkaaGreatDoor.Cut
