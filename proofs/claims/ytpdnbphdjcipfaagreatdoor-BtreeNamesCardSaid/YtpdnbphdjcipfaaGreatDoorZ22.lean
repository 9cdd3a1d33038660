/-
  PROVED: calls that were run over abstract values, one by one: what each reads, writes, makes and answers. No condition.
-/
import Derived.Test.YtpdnbphdjcipfaaGreatDoorY3
set_option linter.unusedVariables false
set_option maxRecDepth 1000000
namespace Go.Proofs.YtpdnbphdjcipfaaGreatDoor.Cut
open Go.X
theorem ok171_0 : entOk Tryz.prog hints S41 5000 60 171 E171_0 = true := by decide +kernel
theorem ok171 : ∀ e, e ∈ E171 → entOk Tryz.prog hints S41 5000 60 171 e = true := List.forall_mem_cons.2 ⟨ok171_0, List.forall_mem_nil _⟩
theorem ok133_0 : entOk Tryz.prog hints S42 5000 60 133 E133_0 = true := by decide +kernel
theorem ok133 : ∀ e, e ∈ E133 → entOk Tryz.prog hints S42 5000 60 133 e = true := List.forall_mem_cons.2 ⟨ok133_0, List.forall_mem_nil _⟩
theorem ok174_0 : entOk Tryz.prog hints S43 5000 60 174 E174_0 = true := by decide +kernel
theorem ok174 : ∀ e, e ∈ E174 → entOk Tryz.prog hints S43 5000 60 174 e = true := List.forall_mem_cons.2 ⟨ok174_0, List.forall_mem_nil _⟩
theorem ok135_0 : entOk Tryz.prog hints S44 5000 60 135 E135_0 = true := by decide +kernel
theorem ok135 : ∀ e, e ∈ E135 → entOk Tryz.prog hints S44 5000 60 135 e = true := List.forall_mem_cons.2 ⟨ok135_0, List.forall_mem_nil _⟩
theorem ok137_0 : entOk Tryz.prog hints S45 5000 60 137 E137_0 = true := by decide +kernel
theorem ok137 : ∀ e, e ∈ E137 → entOk Tryz.prog hints S45 5000 60 137 e = true := List.forall_mem_cons.2 ⟨ok137_0, List.forall_mem_nil _⟩
theorem ok88_0 : entOk Tryz.prog hints S46 5000 60 88 E88_0 = true := by decide +kernel
theorem ok88 : ∀ e, e ∈ E88 → entOk Tryz.prog hints S46 5000 60 88 e = true := List.forall_mem_cons.2 ⟨ok88_0, List.forall_mem_nil _⟩
theorem ok57_0 : entOk Tryz.prog hints S47 5000 60 57 E57_0 = true := by decide +kernel
theorem ok57 : ∀ e, e ∈ E57 → entOk Tryz.prog hints S47 5000 60 57 e = true := List.forall_mem_cons.2 ⟨ok57_0, List.forall_mem_nil _⟩
theorem ok27_0 : entOk Tryz.prog hints S48 5000 60 27 E27_0 = true := by decide +kernel
theorem ok27 : ∀ e, e ∈ E27 → entOk Tryz.prog hints S48 5000 60 27 e = true := List.forall_mem_cons.2 ⟨ok27_0, List.forall_mem_nil _⟩
end Go.Proofs.YtpdnbphdjcipfaaGreatDoor.Cut
