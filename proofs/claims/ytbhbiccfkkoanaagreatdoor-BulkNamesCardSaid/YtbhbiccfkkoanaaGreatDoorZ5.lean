/-
  PROVED: calls that were run over abstract values, one by one: what each reads, writes, makes and answers. No condition.
-/
import Derived.Test.YtbhbiccfkkoanaaGreatDoorY1
set_option linter.unusedVariables false
set_option maxRecDepth 1000000
namespace Go.Proofs.YtbhbiccfkkoanaaGreatDoor.Cut
open Go.X
theorem ok210_0 : entOk Tryz.prog hints S23 5000 60 210 E210_0 = true := by decide +kernel
theorem ok210 : ∀ e, e ∈ E210 → entOk Tryz.prog hints S23 5000 60 210 e = true := List.forall_mem_cons.2 ⟨ok210_0, List.forall_mem_nil _⟩
theorem ok285_0 : entOk Tryz.prog hints S24 5000 60 285 E285_0 = true := by decide +kernel
theorem ok285 : ∀ e, e ∈ E285 → entOk Tryz.prog hints S24 5000 60 285 e = true := List.forall_mem_cons.2 ⟨ok285_0, List.forall_mem_nil _⟩
theorem ok252_0 : entOk Tryz.prog hints S25 5000 60 252 E252_0 = true := by decide +kernel
theorem ok252 : ∀ e, e ∈ E252 → entOk Tryz.prog hints S25 5000 60 252 e = true := List.forall_mem_cons.2 ⟨ok252_0, List.forall_mem_nil _⟩
theorem ok211_0 : entOk Tryz.prog hints S26 5000 60 211 E211_0 = true := by decide +kernel
theorem ok211 : ∀ e, e ∈ E211 → entOk Tryz.prog hints S26 5000 60 211 e = true := List.forall_mem_cons.2 ⟨ok211_0, List.forall_mem_nil _⟩
theorem ok162_0 : entOk Tryz.prog hints S27 5000 60 162 E162_0 = true := by decide +kernel
theorem ok162 : ∀ e, e ∈ E162 → entOk Tryz.prog hints S27 5000 60 162 e = true := List.forall_mem_cons.2 ⟨ok162_0, List.forall_mem_nil _⟩
theorem ok118_0 : entOk Tryz.prog hints S28 5000 60 118 E118_0 = true := by decide +kernel
theorem ok118_1 : entOk Tryz.prog hints S28 5000 60 118 E118_1 = true := by decide +kernel
theorem ok118_2 : entOk Tryz.prog hints S28 5000 60 118 E118_2 = true := by decide +kernel
theorem ok118_3 : entOk Tryz.prog hints S28 5000 60 118 E118_3 = true := by decide +kernel
theorem ok118 : ∀ e, e ∈ E118 → entOk Tryz.prog hints S28 5000 60 118 e = true := List.forall_mem_cons.2 ⟨ok118_0, List.forall_mem_cons.2 ⟨ok118_1, List.forall_mem_cons.2 ⟨ok118_2, List.forall_mem_cons.2 ⟨ok118_3, List.forall_mem_nil _⟩⟩⟩⟩
theorem ok120_0 : entOk Tryz.prog hints S29 5000 60 120 E120_0 = true := by decide +kernel
theorem ok120_1 : entOk Tryz.prog hints S29 5000 60 120 E120_1 = true := by decide +kernel
theorem ok120_2 : entOk Tryz.prog hints S29 5000 60 120 E120_2 = true := by decide +kernel
theorem ok120 : ∀ e, e ∈ E120 → entOk Tryz.prog hints S29 5000 60 120 e = true := List.forall_mem_cons.2 ⟨ok120_0, List.forall_mem_cons.2 ⟨ok120_1, List.forall_mem_cons.2 ⟨ok120_2, List.forall_mem_nil _⟩⟩⟩
theorem ok170_0 : entOk Tryz.prog hints S30 5000 60 170 E170_0 = true := by decide +kernel
theorem ok170_1 : entOk Tryz.prog hints S30 5000 60 170 E170_1 = true := by decide +kernel
theorem ok170_2 : entOk Tryz.prog hints S30 5000 60 170 E170_2 = true := by decide +kernel
theorem ok170 : ∀ e, e ∈ E170 → entOk Tryz.prog hints S30 5000 60 170 e = true := List.forall_mem_cons.2 ⟨ok170_0, List.forall_mem_cons.2 ⟨ok170_1, List.forall_mem_cons.2 ⟨ok170_2, List.forall_mem_nil _⟩⟩⟩
theorem ok122_0 : entOk Tryz.prog hints S31 5000 60 122 E122_0 = true := by decide +kernel
theorem ok122_1 : entOk Tryz.prog hints S31 5000 60 122 E122_1 = true := by decide +kernel
theorem ok122_2 : entOk Tryz.prog hints S31 5000 60 122 E122_2 = true := by decide +kernel
theorem ok122 : ∀ e, e ∈ E122 → entOk Tryz.prog hints S31 5000 60 122 e = true := List.forall_mem_cons.2 ⟨ok122_0, List.forall_mem_cons.2 ⟨ok122_1, List.forall_mem_cons.2 ⟨ok122_2, List.forall_mem_nil _⟩⟩⟩
end Go.Proofs.YtbhbiccfkkoanaaGreatDoor.Cut
