/-
  PROVED: calls that were run over abstract values, one by one: what each reads, writes, makes and answers. No condition.
-/
import Derived.Test.YtbhbiccfkkoanaaGreatDoorY1
set_option linter.unusedVariables false
set_option maxRecDepth 1000000
namespace Go.Proofs.YtbhbiccfkkoanaaGreatDoor.Cut
open Go.X
theorem ok55_0 : entOk Tryz.prog hints S15 5000 60 55 E55_0 = true := by decide +kernel
theorem ok55_1 : entOk Tryz.prog hints S15 5000 60 55 E55_1 = true := by decide +kernel
theorem ok55_2 : entOk Tryz.prog hints S15 5000 60 55 E55_2 = true := by decide +kernel
theorem ok55 : ∀ e, e ∈ E55 → entOk Tryz.prog hints S15 5000 60 55 e = true := List.forall_mem_cons.2 ⟨ok55_0, List.forall_mem_cons.2 ⟨ok55_1, List.forall_mem_cons.2 ⟨ok55_2, List.forall_mem_nil _⟩⟩⟩
theorem ok69_0 : entOk Tryz.prog hints S16 5000 60 69 E69_0 = true := by decide +kernel
theorem ok69 : ∀ e, e ∈ E69 → entOk Tryz.prog hints S16 5000 60 69 e = true := List.forall_mem_cons.2 ⟨ok69_0, List.forall_mem_nil _⟩
theorem ok36_0 : entOk Tryz.prog hints S17 5000 60 36 E36_0 = true := by decide +kernel
theorem ok36 : ∀ e, e ∈ E36 → entOk Tryz.prog hints S17 5000 60 36 e = true := List.forall_mem_cons.2 ⟨ok36_0, List.forall_mem_nil _⟩
theorem ok26_0 : entOk Tryz.prog hints S18 5000 60 26 E26_0 = true := by decide +kernel
theorem ok26 : ∀ e, e ∈ E26 → entOk Tryz.prog hints S18 5000 60 26 e = true := List.forall_mem_cons.2 ⟨ok26_0, List.forall_mem_nil _⟩
theorem ok6_0 : entOk Tryz.prog hints S19 5000 60 6 E6_0 = true := by decide +kernel
theorem ok6 : ∀ e, e ∈ E6 → entOk Tryz.prog hints S19 5000 60 6 e = true := List.forall_mem_cons.2 ⟨ok6_0, List.forall_mem_nil _⟩
theorem ok249_0 : entOk Tryz.prog hints S20 5000 60 249 E249_0 = true := by decide +kernel
theorem ok249_1 : entOk Tryz.prog hints S20 5000 60 249 E249_1 = true := by decide +kernel
theorem ok249_2 : entOk Tryz.prog hints S20 5000 60 249 E249_2 = true := by decide +kernel
theorem ok249 : ∀ e, e ∈ E249 → entOk Tryz.prog hints S20 5000 60 249 e = true := List.forall_mem_cons.2 ⟨ok249_0, List.forall_mem_cons.2 ⟨ok249_1, List.forall_mem_cons.2 ⟨ok249_2, List.forall_mem_nil _⟩⟩⟩
theorem ok208_0 : entOk Tryz.prog hints S21 5000 60 208 E208_0 = true := by decide +kernel
theorem ok208_1 : entOk Tryz.prog hints S21 5000 60 208 E208_1 = true := by decide +kernel
theorem ok208_2 : entOk Tryz.prog hints S21 5000 60 208 E208_2 = true := by decide +kernel
theorem ok208 : ∀ e, e ∈ E208 → entOk Tryz.prog hints S21 5000 60 208 e = true := List.forall_mem_cons.2 ⟨ok208_0, List.forall_mem_cons.2 ⟨ok208_1, List.forall_mem_cons.2 ⟨ok208_2, List.forall_mem_nil _⟩⟩⟩
theorem ok161_0 : entOk Tryz.prog hints S22 5000 60 161 E161_0 = true := by decide +kernel
theorem ok161_1 : entOk Tryz.prog hints S22 5000 60 161 E161_1 = true := by decide +kernel
theorem ok161_2 : entOk Tryz.prog hints S22 5000 60 161 E161_2 = true := by decide +kernel
theorem ok161 : ∀ e, e ∈ E161 → entOk Tryz.prog hints S22 5000 60 161 e = true := List.forall_mem_cons.2 ⟨ok161_0, List.forall_mem_cons.2 ⟨ok161_1, List.forall_mem_cons.2 ⟨ok161_2, List.forall_mem_nil _⟩⟩⟩
end Go.Proofs.YtbhbiccfkkoanaaGreatDoor.Cut
