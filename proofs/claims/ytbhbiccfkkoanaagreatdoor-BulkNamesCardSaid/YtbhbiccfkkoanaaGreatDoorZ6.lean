/-
  PROVED: calls that were run over abstract values, one by one: what each reads, writes, makes and answers. No condition.
-/
import Derived.Test.YtbhbiccfkkoanaaGreatDoorY1
set_option linter.unusedVariables false
set_option maxRecDepth 1000000
namespace Go.Proofs.YtbhbiccfkkoanaaGreatDoor.Cut
open Go.X
theorem ok121_0 : entOk Tryz.prog hints S32 5000 60 121 E121_0 = true := by decide +kernel
theorem ok121 : ∀ e, e ∈ E121 → entOk Tryz.prog hints S32 5000 60 121 e = true := List.forall_mem_cons.2 ⟨ok121_0, List.forall_mem_nil _⟩
theorem ok123_0 : entOk Tryz.prog hints S33 5000 60 123 E123_0 = true := by decide +kernel
theorem ok123_1 : entOk Tryz.prog hints S33 5000 60 123 E123_1 = true := by decide +kernel
theorem ok123_2 : entOk Tryz.prog hints S33 5000 60 123 E123_2 = true := by decide +kernel
theorem ok123 : ∀ e, e ∈ E123 → entOk Tryz.prog hints S33 5000 60 123 e = true := List.forall_mem_cons.2 ⟨ok123_0, List.forall_mem_cons.2 ⟨ok123_1, List.forall_mem_cons.2 ⟨ok123_2, List.forall_mem_nil _⟩⟩⟩
theorem ok81_0 : entOk Tryz.prog hints S34 5000 60 81 E81_0 = true := by decide +kernel
theorem ok81_1 : entOk Tryz.prog hints S34 5000 60 81 E81_1 = true := by decide +kernel
theorem ok81_2 : entOk Tryz.prog hints S34 5000 60 81 E81_2 = true := by decide +kernel
theorem ok81_3 : entOk Tryz.prog hints S34 5000 60 81 E81_3 = true := by decide +kernel
theorem ok81 : ∀ e, e ∈ E81 → entOk Tryz.prog hints S34 5000 60 81 e = true := List.forall_mem_cons.2 ⟨ok81_0, List.forall_mem_cons.2 ⟨ok81_1, List.forall_mem_cons.2 ⟨ok81_2, List.forall_mem_cons.2 ⟨ok81_3, List.forall_mem_nil _⟩⟩⟩⟩
theorem ok49_0 : entOk Tryz.prog hints S35 5000 60 49 E49_0 = true := by decide +kernel
theorem ok49 : ∀ e, e ∈ E49 → entOk Tryz.prog hints S35 5000 60 49 e = true := List.forall_mem_cons.2 ⟨ok49_0, List.forall_mem_nil _⟩
theorem ok22_0 : entOk Tryz.prog hints S36 5000 60 22 E22_0 = true := by decide +kernel
theorem ok22 : ∀ e, e ∈ E22 → entOk Tryz.prog hints S36 5000 60 22 e = true := List.forall_mem_cons.2 ⟨ok22_0, List.forall_mem_nil _⟩
theorem ok82_0 : entOk Tryz.prog hints S37 5000 60 82 E82_0 = true := by decide +kernel
theorem ok82_1 : entOk Tryz.prog hints S37 5000 60 82 E82_1 = true := by decide +kernel
theorem ok82_2 : entOk Tryz.prog hints S37 5000 60 82 E82_2 = true := by decide +kernel
theorem ok82_3 : entOk Tryz.prog hints S37 5000 60 82 E82_3 = true := by decide +kernel
theorem ok82 : ∀ e, e ∈ E82 → entOk Tryz.prog hints S37 5000 60 82 e = true := List.forall_mem_cons.2 ⟨ok82_0, List.forall_mem_cons.2 ⟨ok82_1, List.forall_mem_cons.2 ⟨ok82_2, List.forall_mem_cons.2 ⟨ok82_3, List.forall_mem_nil _⟩⟩⟩⟩
theorem ok126_0 : entOk Tryz.prog hints S38 5000 60 126 E126_0 = true := by decide +kernel
theorem ok126_1 : entOk Tryz.prog hints S38 5000 60 126 E126_1 = true := by decide +kernel
theorem ok126_2 : entOk Tryz.prog hints S38 5000 60 126 E126_2 = true := by decide +kernel
theorem ok126_3 : entOk Tryz.prog hints S38 5000 60 126 E126_3 = true := by decide +kernel
theorem ok126 : ∀ e, e ∈ E126 → entOk Tryz.prog hints S38 5000 60 126 e = true := List.forall_mem_cons.2 ⟨ok126_0, List.forall_mem_cons.2 ⟨ok126_1, List.forall_mem_cons.2 ⟨ok126_2, List.forall_mem_cons.2 ⟨ok126_3, List.forall_mem_nil _⟩⟩⟩⟩
end Go.Proofs.YtbhbiccfkkoanaaGreatDoor.Cut
