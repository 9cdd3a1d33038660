/-
  PROVED: calls that were run over abstract values, one by one: what each reads, writes, makes and answers. No condition.
-/
import Derived.Test.YtdeccneggkhggaaGreatDoorY2
set_option linter.unusedVariables false
set_option maxRecDepth 1000000
namespace Go.Proofs.YtdeccneggkhggaaGreatDoor.Cut
open Go.X
theorem ok130_0 : entOk Tryz.prog hints S35 5000 60 130 E130_0 = true := by decide +kernel
theorem ok130_1 : entOk Tryz.prog hints S35 5000 60 130 E130_1 = true := by decide +kernel
theorem ok130_2 : entOk Tryz.prog hints S35 5000 60 130 E130_2 = true := by decide +kernel
theorem ok130 : ∀ e, e ∈ E130 → entOk Tryz.prog hints S35 5000 60 130 e = true := List.forall_mem_cons.2 ⟨ok130_0, List.forall_mem_cons.2 ⟨ok130_1, List.forall_mem_cons.2 ⟨ok130_2, List.forall_mem_nil _⟩⟩⟩
theorem ok201_0 : entOk Tryz.prog hints S36 5000 60 201 E201_0 = true := by decide +kernel
theorem ok201_1 : entOk Tryz.prog hints S36 5000 60 201 E201_1 = true := by decide +kernel
theorem ok201_2 : entOk Tryz.prog hints S36 5000 60 201 E201_2 = true := by decide +kernel
theorem ok201_3 : entOk Tryz.prog hints S36 5000 60 201 E201_3 = true := by decide +kernel
theorem ok201_4 : entOk Tryz.prog hints S36 5000 60 201 E201_4 = true := by decide +kernel
theorem ok201 : ∀ e, e ∈ E201 → entOk Tryz.prog hints S36 5000 60 201 e = true := List.forall_mem_cons.2 ⟨ok201_0, List.forall_mem_cons.2 ⟨ok201_1, List.forall_mem_cons.2 ⟨ok201_2, List.forall_mem_cons.2 ⟨ok201_3, List.forall_mem_cons.2 ⟨ok201_4, List.forall_mem_nil _⟩⟩⟩⟩⟩
theorem ok131_0 : entOk Tryz.prog hints S37 5000 60 131 E131_0 = true := by decide +kernel
theorem ok131_1 : entOk Tryz.prog hints S37 5000 60 131 E131_1 = true := by decide +kernel
theorem ok131_2 : entOk Tryz.prog hints S37 5000 60 131 E131_2 = true := by decide +kernel
theorem ok131 : ∀ e, e ∈ E131 → entOk Tryz.prog hints S37 5000 60 131 e = true := List.forall_mem_cons.2 ⟨ok131_0, List.forall_mem_cons.2 ⟨ok131_1, List.forall_mem_cons.2 ⟨ok131_2, List.forall_mem_nil _⟩⟩⟩
theorem ok85_0 : entOk Tryz.prog hints S38 5000 60 85 E85_0 = true := by decide +kernel
theorem ok85_1 : entOk Tryz.prog hints S38 5000 60 85 E85_1 = true := by decide +kernel
theorem ok85_2 : entOk Tryz.prog hints S38 5000 60 85 E85_2 = true := by decide +kernel
theorem ok85 : ∀ e, e ∈ E85 → entOk Tryz.prog hints S38 5000 60 85 e = true := List.forall_mem_cons.2 ⟨ok85_0, List.forall_mem_cons.2 ⟨ok85_1, List.forall_mem_cons.2 ⟨ok85_2, List.forall_mem_nil _⟩⟩⟩
theorem ok86_0 : entOk Tryz.prog hints S39 5000 60 86 E86_0 = true := by decide +kernel
theorem ok86_1 : entOk Tryz.prog hints S39 5000 60 86 E86_1 = true := by decide +kernel
theorem ok86_2 : entOk Tryz.prog hints S39 5000 60 86 E86_2 = true := by decide +kernel
theorem ok86 : ∀ e, e ∈ E86 → entOk Tryz.prog hints S39 5000 60 86 e = true := List.forall_mem_cons.2 ⟨ok86_0, List.forall_mem_cons.2 ⟨ok86_1, List.forall_mem_cons.2 ⟨ok86_2, List.forall_mem_nil _⟩⟩⟩
theorem ok47_0 : entOk Tryz.prog hints S40 5000 60 47 E47_0 = true := by decide +kernel
theorem ok47_1 : entOk Tryz.prog hints S40 5000 60 47 E47_1 = true := by decide +kernel
theorem ok47_2 : entOk Tryz.prog hints S40 5000 60 47 E47_2 = true := by decide +kernel
theorem ok47 : ∀ e, e ∈ E47 → entOk Tryz.prog hints S40 5000 60 47 e = true := List.forall_mem_cons.2 ⟨ok47_0, List.forall_mem_cons.2 ⟨ok47_1, List.forall_mem_cons.2 ⟨ok47_2, List.forall_mem_nil _⟩⟩⟩
theorem ok71_0 : entOk Tryz.prog hints S41 5000 60 71 E71_0 = true := by decide +kernel
theorem ok71_1 : entOk Tryz.prog hints S41 5000 60 71 E71_1 = true := by decide +kernel
theorem ok71_2 : entOk Tryz.prog hints S41 5000 60 71 E71_2 = true := by decide +kernel
theorem ok71 : ∀ e, e ∈ E71 → entOk Tryz.prog hints S41 5000 60 71 e = true := List.forall_mem_cons.2 ⟨ok71_0, List.forall_mem_cons.2 ⟨ok71_1, List.forall_mem_cons.2 ⟨ok71_2, List.forall_mem_nil _⟩⟩⟩
theorem ok242_0 : entOk Tryz.prog hints S42 5000 60 242 E242_0 = true := by decide +kernel
theorem ok242_1 : entOk Tryz.prog hints S42 5000 60 242 E242_1 = true := by decide +kernel
theorem ok242 : ∀ e, e ∈ E242 → entOk Tryz.prog hints S42 5000 60 242 e = true := List.forall_mem_cons.2 ⟨ok242_0, List.forall_mem_cons.2 ⟨ok242_1, List.forall_mem_nil _⟩⟩
end Go.Proofs.YtdeccneggkhggaaGreatDoor.Cut
