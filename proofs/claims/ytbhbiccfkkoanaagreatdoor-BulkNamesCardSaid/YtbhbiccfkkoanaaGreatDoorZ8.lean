/-
  PROVED: calls that were run over abstract values, one by one: what each reads, writes, makes and answers. No condition.
-/
import Derived.Test.YtbhbiccfkkoanaaGreatDoorY1
set_option linter.unusedVariables false
set_option maxRecDepth 1000000
namespace Go.Proofs.YtbhbiccfkkoanaaGreatDoor.Cut
open Go.X
theorem ok68_0 : entOk Tryz.prog hints S45 5000 60 68 E68_0 = true := by decide +kernel
theorem ok68_1 : entOk Tryz.prog hints S45 5000 60 68 E68_1 = true := by decide +kernel
theorem ok68_2 : entOk Tryz.prog hints S45 5000 60 68 E68_2 = true := by decide +kernel
theorem ok68_3 : entOk Tryz.prog hints S45 5000 60 68 E68_3 = true := by decide +kernel
theorem ok68 : ∀ e, e ∈ E68 → entOk Tryz.prog hints S45 5000 60 68 e = true := List.forall_mem_cons.2 ⟨ok68_0, List.forall_mem_cons.2 ⟨ok68_1, List.forall_mem_cons.2 ⟨ok68_2, List.forall_mem_cons.2 ⟨ok68_3, List.forall_mem_nil _⟩⟩⟩⟩
theorem ok34_0 : entOk Tryz.prog hints S46 5000 60 34 E34_0 = true := by decide +kernel
theorem ok34_1 : entOk Tryz.prog hints S46 5000 60 34 E34_1 = true := by decide +kernel
theorem ok34_2 : entOk Tryz.prog hints S46 5000 60 34 E34_2 = true := by decide +kernel
theorem ok34_3 : entOk Tryz.prog hints S46 5000 60 34 E34_3 = true := by decide +kernel
theorem ok34 : ∀ e, e ∈ E34 → entOk Tryz.prog hints S46 5000 60 34 e = true := List.forall_mem_cons.2 ⟨ok34_0, List.forall_mem_cons.2 ⟨ok34_1, List.forall_mem_cons.2 ⟨ok34_2, List.forall_mem_cons.2 ⟨ok34_3, List.forall_mem_nil _⟩⟩⟩⟩
theorem ok11_0 : entOk Tryz.prog hints S47 5000 60 11 E11_0 = true := by decide +kernel
theorem ok11_1 : entOk Tryz.prog hints S47 5000 60 11 E11_1 = true := by decide +kernel
theorem ok11_2 : entOk Tryz.prog hints S47 5000 60 11 E11_2 = true := by decide +kernel
theorem ok11_3 : entOk Tryz.prog hints S47 5000 60 11 E11_3 = true := by decide +kernel
theorem ok11 : ∀ e, e ∈ E11 → entOk Tryz.prog hints S47 5000 60 11 e = true := List.forall_mem_cons.2 ⟨ok11_0, List.forall_mem_cons.2 ⟨ok11_1, List.forall_mem_cons.2 ⟨ok11_2, List.forall_mem_cons.2 ⟨ok11_3, List.forall_mem_nil _⟩⟩⟩⟩
theorem ok90_0 : entOk Tryz.prog hints S48 5000 60 90 E90_0 = true := by decide +kernel
theorem ok90_1 : entOk Tryz.prog hints S48 5000 60 90 E90_1 = true := by decide +kernel
theorem ok90_2 : entOk Tryz.prog hints S48 5000 60 90 E90_2 = true := by decide +kernel
theorem ok90_3 : entOk Tryz.prog hints S48 5000 60 90 E90_3 = true := by decide +kernel
theorem ok90 : ∀ e, e ∈ E90 → entOk Tryz.prog hints S48 5000 60 90 e = true := List.forall_mem_cons.2 ⟨ok90_0, List.forall_mem_cons.2 ⟨ok90_1, List.forall_mem_cons.2 ⟨ok90_2, List.forall_mem_cons.2 ⟨ok90_3, List.forall_mem_nil _⟩⟩⟩⟩
end Go.Proofs.YtbhbiccfkkoanaaGreatDoor.Cut
