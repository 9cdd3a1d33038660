/-
  PROVED: calls that were run over abstract values, one by one: what each reads, writes, makes and answers. No condition.
-/
import Derived.Test.YtbhbiccfkkoanaaGreatDoorY0
set_option linter.unusedVariables false
set_option maxRecDepth 1000000
namespace Go.Proofs.YtbhbiccfkkoanaaGreatDoor.Cut
open Go.X
theorem ok101_0 : entOk Tryz.prog hints S3 5000 60 101 E101_0 = true := by decide +kernel
theorem ok101_1 : entOk Tryz.prog hints S3 5000 60 101 E101_1 = true := by decide +kernel
theorem ok101_2 : entOk Tryz.prog hints S3 5000 60 101 E101_2 = true := by decide +kernel
theorem ok101_3 : entOk Tryz.prog hints S3 5000 60 101 E101_3 = true := by decide +kernel
theorem ok101_4 : entOk Tryz.prog hints S3 5000 60 101 E101_4 = true := by decide +kernel
theorem ok101 : ∀ e, e ∈ E101 → entOk Tryz.prog hints S3 5000 60 101 e = true := List.forall_mem_cons.2 ⟨ok101_0, List.forall_mem_cons.2 ⟨ok101_1, List.forall_mem_cons.2 ⟨ok101_2, List.forall_mem_cons.2 ⟨ok101_3, List.forall_mem_cons.2 ⟨ok101_4, List.forall_mem_nil _⟩⟩⟩⟩⟩
theorem ok26_0 : entOk Tryz.prog hints S4 5000 60 26 E26_0 = true := by decide +kernel
theorem ok26 : ∀ e, e ∈ E26 → entOk Tryz.prog hints S4 5000 60 26 e = true := List.forall_mem_cons.2 ⟨ok26_0, List.forall_mem_nil _⟩
theorem ok118_0 : entOk Tryz.prog hints S5 5000 60 118 E118_0 = true := by decide +kernel
theorem ok118_1 : entOk Tryz.prog hints S5 5000 60 118 E118_1 = true := by decide +kernel
theorem ok118_2 : entOk Tryz.prog hints S5 5000 60 118 E118_2 = true := by decide +kernel
theorem ok118_3 : entOk Tryz.prog hints S5 5000 60 118 E118_3 = true := by decide +kernel
theorem ok118 : ∀ e, e ∈ E118 → entOk Tryz.prog hints S5 5000 60 118 e = true := List.forall_mem_cons.2 ⟨ok118_0, List.forall_mem_cons.2 ⟨ok118_1, List.forall_mem_cons.2 ⟨ok118_2, List.forall_mem_cons.2 ⟨ok118_3, List.forall_mem_nil _⟩⟩⟩⟩
end Go.Proofs.YtbhbiccfkkoanaaGreatDoor.Cut
