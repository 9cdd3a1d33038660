/-
  PROVED: calls that were run over abstract values, one by one: what each reads, writes, makes and answers. No condition.
-/
import Derived.Test.YtbhbiccfkkoanaaGreatDoorY1
set_option linter.unusedVariables false
set_option maxRecDepth 1000000
namespace Go.Proofs.YtbhbiccfkkoanaaGreatDoor.Cut
open Go.X
theorem ok83_0 : entOk Tryz.prog hints S39 5000 60 83 E83_0 = true := by decide +kernel
theorem ok83_1 : entOk Tryz.prog hints S39 5000 60 83 E83_1 = true := by decide +kernel
theorem ok83_2 : entOk Tryz.prog hints S39 5000 60 83 E83_2 = true := by decide +kernel
theorem ok83_3 : entOk Tryz.prog hints S39 5000 60 83 E83_3 = true := by decide +kernel
theorem ok83 : ∀ e, e ∈ E83 → entOk Tryz.prog hints S39 5000 60 83 e = true := List.forall_mem_cons.2 ⟨ok83_0, List.forall_mem_cons.2 ⟨ok83_1, List.forall_mem_cons.2 ⟨ok83_2, List.forall_mem_cons.2 ⟨ok83_3, List.forall_mem_nil _⟩⟩⟩⟩
theorem ok50_0 : entOk Tryz.prog hints S40 5000 60 50 E50_0 = true := by decide +kernel
theorem ok50_1 : entOk Tryz.prog hints S40 5000 60 50 E50_1 = true := by decide +kernel
theorem ok50_2 : entOk Tryz.prog hints S40 5000 60 50 E50_2 = true := by decide +kernel
theorem ok50_3 : entOk Tryz.prog hints S40 5000 60 50 E50_3 = true := by decide +kernel
theorem ok50 : ∀ e, e ∈ E50 → entOk Tryz.prog hints S40 5000 60 50 e = true := List.forall_mem_cons.2 ⟨ok50_0, List.forall_mem_cons.2 ⟨ok50_1, List.forall_mem_cons.2 ⟨ok50_2, List.forall_mem_cons.2 ⟨ok50_3, List.forall_mem_nil _⟩⟩⟩⟩
theorem ok23_0 : entOk Tryz.prog hints S41 5000 60 23 E23_0 = true := by decide +kernel
theorem ok23 : ∀ e, e ∈ E23 → entOk Tryz.prog hints S41 5000 60 23 e = true := List.forall_mem_cons.2 ⟨ok23_0, List.forall_mem_nil _⟩
theorem ok189_0 : entOk Tryz.prog hints S42 5000 60 189 E189_0 = true := by decide +kernel
theorem ok189_1 : entOk Tryz.prog hints S42 5000 60 189 E189_1 = true := by decide +kernel
theorem ok189_2 : entOk Tryz.prog hints S42 5000 60 189 E189_2 = true := by decide +kernel
theorem ok189 : ∀ e, e ∈ E189 → entOk Tryz.prog hints S42 5000 60 189 e = true := List.forall_mem_cons.2 ⟨ok189_0, List.forall_mem_cons.2 ⟨ok189_1, List.forall_mem_cons.2 ⟨ok189_2, List.forall_mem_nil _⟩⟩⟩
theorem ok131_0 : entOk Tryz.prog hints S43 5000 60 131 E131_0 = true := by decide +kernel
theorem ok131_1 : entOk Tryz.prog hints S43 5000 60 131 E131_1 = true := by decide +kernel
theorem ok131_2 : entOk Tryz.prog hints S43 5000 60 131 E131_2 = true := by decide +kernel
theorem ok131 : ∀ e, e ∈ E131 → entOk Tryz.prog hints S43 5000 60 131 e = true := List.forall_mem_cons.2 ⟨ok131_0, List.forall_mem_cons.2 ⟨ok131_1, List.forall_mem_cons.2 ⟨ok131_2, List.forall_mem_nil _⟩⟩⟩
theorem ok89_0 : entOk Tryz.prog hints S44 5000 60 89 E89_0 = true := by decide +kernel
theorem ok89_1 : entOk Tryz.prog hints S44 5000 60 89 E89_1 = true := by decide +kernel
theorem ok89_2 : entOk Tryz.prog hints S44 5000 60 89 E89_2 = true := by decide +kernel
theorem ok89 : ∀ e, e ∈ E89 → entOk Tryz.prog hints S44 5000 60 89 e = true := List.forall_mem_cons.2 ⟨ok89_0, List.forall_mem_cons.2 ⟨ok89_1, List.forall_mem_cons.2 ⟨ok89_2, List.forall_mem_nil _⟩⟩⟩
end Go.Proofs.YtbhbiccfkkoanaaGreatDoor.Cut
