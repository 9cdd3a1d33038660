/-
  PROVED: calls that were run over abstract values, one by one: what each reads, writes, makes and answers. No condition.
-/
import Derived.Test.YtbhbiccfkkoanaaGreatDoorY1
set_option linter.unusedVariables false
set_option maxRecDepth 1000000
namespace Go.Proofs.YtbhbiccfkkoanaaGreatDoor.Cut
open Go.X
theorem ok101_0 : entOk Tryz.prog hints S9 5000 60 101 E101_0 = true := by decide +kernel
theorem ok101_1 : entOk Tryz.prog hints S9 5000 60 101 E101_1 = true := by decide +kernel
theorem ok101_2 : entOk Tryz.prog hints S9 5000 60 101 E101_2 = true := by decide +kernel
theorem ok101_3 : entOk Tryz.prog hints S9 5000 60 101 E101_3 = true := by decide +kernel
theorem ok101_4 : entOk Tryz.prog hints S9 5000 60 101 E101_4 = true := by decide +kernel
theorem ok101 : ∀ e, e ∈ E101 → entOk Tryz.prog hints S9 5000 60 101 e = true := List.forall_mem_cons.2 ⟨ok101_0, List.forall_mem_cons.2 ⟨ok101_1, List.forall_mem_cons.2 ⟨ok101_2, List.forall_mem_cons.2 ⟨ok101_3, List.forall_mem_cons.2 ⟨ok101_4, List.forall_mem_nil _⟩⟩⟩⟩⟩
theorem ok53_0 : entOk Tryz.prog hints S10 5000 60 53 E53_0 = true := by decide +kernel
theorem ok53_1 : entOk Tryz.prog hints S10 5000 60 53 E53_1 = true := by decide +kernel
theorem ok53_2 : entOk Tryz.prog hints S10 5000 60 53 E53_2 = true := by decide +kernel
theorem ok53_3 : entOk Tryz.prog hints S10 5000 60 53 E53_3 = true := by decide +kernel
theorem ok53_4 : entOk Tryz.prog hints S10 5000 60 53 E53_4 = true := by decide +kernel
theorem ok53_5 : entOk Tryz.prog hints S10 5000 60 53 E53_5 = true := by decide +kernel
theorem ok53_6 : entOk Tryz.prog hints S10 5000 60 53 E53_6 = true := by decide +kernel
theorem ok53 : ∀ e, e ∈ E53 → entOk Tryz.prog hints S10 5000 60 53 e = true := List.forall_mem_cons.2 ⟨ok53_0, List.forall_mem_cons.2 ⟨ok53_1, List.forall_mem_cons.2 ⟨ok53_2, List.forall_mem_cons.2 ⟨ok53_3, List.forall_mem_cons.2 ⟨ok53_4, List.forall_mem_cons.2 ⟨ok53_5, List.forall_mem_cons.2 ⟨ok53_6, List.forall_mem_nil _⟩⟩⟩⟩⟩⟩⟩
theorem ok145_0 : entOk Tryz.prog hints S11 5000 60 145 E145_0 = true := by decide +kernel
theorem ok145 : ∀ e, e ∈ E145 → entOk Tryz.prog hints S11 5000 60 145 e = true := List.forall_mem_cons.2 ⟨ok145_0, List.forall_mem_nil _⟩
theorem ok195_0 : entOk Tryz.prog hints S12 5000 60 195 E195_0 = true := by decide +kernel
theorem ok195 : ∀ e, e ∈ E195 → entOk Tryz.prog hints S12 5000 60 195 e = true := List.forall_mem_cons.2 ⟨ok195_0, List.forall_mem_nil _⟩
theorem ok143_0 : entOk Tryz.prog hints S13 5000 60 143 E143_0 = true := by decide +kernel
theorem ok143 : ∀ e, e ∈ E143 → entOk Tryz.prog hints S13 5000 60 143 e = true := List.forall_mem_cons.2 ⟨ok143_0, List.forall_mem_nil _⟩
theorem ok102_0 : entOk Tryz.prog hints S14 5000 60 102 E102_0 = true := by decide +kernel
theorem ok102 : ∀ e, e ∈ E102 → entOk Tryz.prog hints S14 5000 60 102 e = true := List.forall_mem_cons.2 ⟨ok102_0, List.forall_mem_nil _⟩
end Go.Proofs.YtbhbiccfkkoanaaGreatDoor.Cut
