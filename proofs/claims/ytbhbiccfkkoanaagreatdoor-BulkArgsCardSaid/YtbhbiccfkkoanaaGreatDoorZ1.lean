/-
  PROVED: calls that were run over abstract values, one by one: what each reads, writes, makes and answers. No condition.
-/
import Derived.Test.YtbhbiccfkkoanaaGreatDoorY0
set_option linter.unusedVariables false
set_option maxRecDepth 1000000
namespace Go.Proofs.YtbhbiccfkkoanaaGreatDoor.Cut
open Go.X
theorem ok223_0 : entOk Tryz.prog hints S1 5000 60 223 E223_0 = true := by decide +kernel
theorem ok223_1 : entOk Tryz.prog hints S1 5000 60 223 E223_1 = true := by decide +kernel
theorem ok223_2 : entOk Tryz.prog hints S1 5000 60 223 E223_2 = true := by decide +kernel
theorem ok223_3 : entOk Tryz.prog hints S1 5000 60 223 E223_3 = true := by decide +kernel
theorem ok223_4 : entOk Tryz.prog hints S1 5000 60 223 E223_4 = true := by decide +kernel
theorem ok223_5 : entOk Tryz.prog hints S1 5000 60 223 E223_5 = true := by decide +kernel
theorem ok223_6 : entOk Tryz.prog hints S1 5000 60 223 E223_6 = true := by decide +kernel
theorem ok223_7 : entOk Tryz.prog hints S1 5000 60 223 E223_7 = true := by decide +kernel
theorem ok223_8 : entOk Tryz.prog hints S1 5000 60 223 E223_8 = true := by decide +kernel
theorem ok223 : ∀ e, e ∈ E223 → entOk Tryz.prog hints S1 5000 60 223 e = true := List.forall_mem_cons.2 ⟨ok223_0, List.forall_mem_cons.2 ⟨ok223_1, List.forall_mem_cons.2 ⟨ok223_2, List.forall_mem_cons.2 ⟨ok223_3, List.forall_mem_cons.2 ⟨ok223_4, List.forall_mem_cons.2 ⟨ok223_5, List.forall_mem_cons.2 ⟨ok223_6, List.forall_mem_cons.2 ⟨ok223_7, List.forall_mem_cons.2 ⟨ok223_8, List.forall_mem_nil _⟩⟩⟩⟩⟩⟩⟩⟩⟩
theorem ok178_0 : entOk Tryz.prog hints S2 5000 60 178 E178_0 = true := by decide +kernel
theorem ok178_1 : entOk Tryz.prog hints S2 5000 60 178 E178_1 = true := by decide +kernel
theorem ok178_2 : entOk Tryz.prog hints S2 5000 60 178 E178_2 = true := by decide +kernel
theorem ok178_3 : entOk Tryz.prog hints S2 5000 60 178 E178_3 = true := by decide +kernel
theorem ok178_4 : entOk Tryz.prog hints S2 5000 60 178 E178_4 = true := by decide +kernel
theorem ok178_5 : entOk Tryz.prog hints S2 5000 60 178 E178_5 = true := by decide +kernel
theorem ok178_6 : entOk Tryz.prog hints S2 5000 60 178 E178_6 = true := by decide +kernel
theorem ok178_7 : entOk Tryz.prog hints S2 5000 60 178 E178_7 = true := by decide +kernel
theorem ok178_8 : entOk Tryz.prog hints S2 5000 60 178 E178_8 = true := by decide +kernel
theorem ok178 : ∀ e, e ∈ E178 → entOk Tryz.prog hints S2 5000 60 178 e = true := List.forall_mem_cons.2 ⟨ok178_0, List.forall_mem_cons.2 ⟨ok178_1, List.forall_mem_cons.2 ⟨ok178_2, List.forall_mem_cons.2 ⟨ok178_3, List.forall_mem_cons.2 ⟨ok178_4, List.forall_mem_cons.2 ⟨ok178_5, List.forall_mem_cons.2 ⟨ok178_6, List.forall_mem_cons.2 ⟨ok178_7, List.forall_mem_cons.2 ⟨ok178_8, List.forall_mem_nil _⟩⟩⟩⟩⟩⟩⟩⟩⟩
end Go.Proofs.YtbhbiccfkkoanaaGreatDoor.Cut
