/-
  PROVED: calls that were run over abstract values, one by one: what each reads, writes, makes and answers. No condition.
-/
import Derived.Test.YtbhbiccfkkoanaaGreatDoorY1
set_option linter.unusedVariables false
set_option maxRecDepth 1000000
namespace Go.Proofs.YtbhbiccfkkoanaaGreatDoor.Cut
open Go.X
theorem ok60_0 : entOk Tryz.prog hints S49 5000 60 60 E60_0 = true := by decide +kernel
theorem ok60_1 : entOk Tryz.prog hints S49 5000 60 60 E60_1 = true := by decide +kernel
theorem ok60_2 : entOk Tryz.prog hints S49 5000 60 60 E60_2 = true := by decide +kernel
theorem ok60 : ∀ e, e ∈ E60 → entOk Tryz.prog hints S49 5000 60 60 e = true := List.forall_mem_cons.2 ⟨ok60_0, List.forall_mem_cons.2 ⟨ok60_1, List.forall_mem_cons.2 ⟨ok60_2, List.forall_mem_nil _⟩⟩⟩
theorem ok135_0 : entOk Tryz.prog hints S50 5000 60 135 E135_0 = true := by decide +kernel
theorem ok135_1 : entOk Tryz.prog hints S50 5000 60 135 E135_1 = true := by decide +kernel
theorem ok135 : ∀ e, e ∈ E135 → entOk Tryz.prog hints S50 5000 60 135 e = true := List.forall_mem_cons.2 ⟨ok135_0, List.forall_mem_cons.2 ⟨ok135_1, List.forall_mem_nil _⟩⟩
theorem ok92_0 : entOk Tryz.prog hints S51 5000 60 92 E92_0 = true := by decide +kernel
theorem ok92 : ∀ e, e ∈ E92 → entOk Tryz.prog hints S51 5000 60 92 e = true := List.forall_mem_cons.2 ⟨ok92_0, List.forall_mem_nil _⟩
theorem ok193_0 : entOk Tryz.prog hints S52 5000 60 193 E193_0 = true := by decide +kernel
theorem ok193 : ∀ e, e ∈ E193 → entOk Tryz.prog hints S52 5000 60 193 e = true := List.forall_mem_cons.2 ⟨ok193_0, List.forall_mem_nil _⟩
theorem ok138_0 : entOk Tryz.prog hints S53 5000 60 138 E138_0 = true := by decide +kernel
theorem ok138 : ∀ e, e ∈ E138 → entOk Tryz.prog hints S53 5000 60 138 e = true := List.forall_mem_cons.2 ⟨ok138_0, List.forall_mem_nil _⟩
theorem ok93_0 : entOk Tryz.prog hints S54 5000 60 93 E93_0 = true := by decide +kernel
theorem ok93 : ∀ e, e ∈ E93 → entOk Tryz.prog hints S54 5000 60 93 e = true := List.forall_mem_cons.2 ⟨ok93_0, List.forall_mem_nil _⟩
theorem ok61_0 : entOk Tryz.prog hints S55 5000 60 61 E61_0 = true := by decide +kernel
theorem ok61 : ∀ e, e ∈ E61 → entOk Tryz.prog hints S55 5000 60 61 e = true := List.forall_mem_cons.2 ⟨ok61_0, List.forall_mem_nil _⟩
theorem ok28_0 : entOk Tryz.prog hints S56 5000 60 28 E28_0 = true := by decide +kernel
theorem ok28_1 : entOk Tryz.prog hints S56 5000 60 28 E28_1 = true := by decide +kernel
theorem ok28 : ∀ e, e ∈ E28 → entOk Tryz.prog hints S56 5000 60 28 e = true := List.forall_mem_cons.2 ⟨ok28_0, List.forall_mem_cons.2 ⟨ok28_1, List.forall_mem_nil _⟩⟩
theorem ok9_0 : entOk Tryz.prog hints S57 5000 60 9 E9_0 = true := by decide +kernel
theorem ok9_1 : entOk Tryz.prog hints S57 5000 60 9 E9_1 = true := by decide +kernel
theorem ok9 : ∀ e, e ∈ E9 → entOk Tryz.prog hints S57 5000 60 9 e = true := List.forall_mem_cons.2 ⟨ok9_0, List.forall_mem_cons.2 ⟨ok9_1, List.forall_mem_nil _⟩⟩
end Go.Proofs.YtbhbiccfkkoanaaGreatDoor.Cut
