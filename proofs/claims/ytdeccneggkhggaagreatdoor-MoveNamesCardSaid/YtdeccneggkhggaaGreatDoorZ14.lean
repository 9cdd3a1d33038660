/-
  PROVED: calls that were run over abstract values, one by one: what each reads, writes, makes and answers. No condition.
-/
import Derived.Test.YtdeccneggkhggaaGreatDoorY2
set_option linter.unusedVariables false
set_option maxRecDepth 1000000
namespace Go.Proofs.YtdeccneggkhggaaGreatDoor.Cut
open Go.X
theorem ok179_0 : entOk Tryz.prog hints S43 5000 60 179 E179_0 = true := by decide +kernel
theorem ok179_1 : entOk Tryz.prog hints S43 5000 60 179 E179_1 = true := by decide +kernel
theorem ok179 : ∀ e, e ∈ E179 → entOk Tryz.prog hints S43 5000 60 179 e = true := List.forall_mem_cons.2 ⟨ok179_0, List.forall_mem_cons.2 ⟨ok179_1, List.forall_mem_nil _⟩⟩
theorem ok181_0 : entOk Tryz.prog hints S44 5000 60 181 E181_0 = true := by decide +kernel
theorem ok181_1 : entOk Tryz.prog hints S44 5000 60 181 E181_1 = true := by decide +kernel
theorem ok181 : ∀ e, e ∈ E181 → entOk Tryz.prog hints S44 5000 60 181 e = true := List.forall_mem_cons.2 ⟨ok181_0, List.forall_mem_cons.2 ⟨ok181_1, List.forall_mem_nil _⟩⟩
theorem ok230_0 : entOk Tryz.prog hints S45 5000 60 230 E230_0 = true := by decide +kernel
theorem ok230_1 : entOk Tryz.prog hints S45 5000 60 230 E230_1 = true := by decide +kernel
theorem ok230 : ∀ e, e ∈ E230 → entOk Tryz.prog hints S45 5000 60 230 e = true := List.forall_mem_cons.2 ⟨ok230_0, List.forall_mem_cons.2 ⟨ok230_1, List.forall_mem_nil _⟩⟩
theorem ok157_0 : entOk Tryz.prog hints S46 5000 60 157 E157_0 = true := by decide +kernel
theorem ok157_1 : entOk Tryz.prog hints S46 5000 60 157 E157_1 = true := by decide +kernel
theorem ok157 : ∀ e, e ∈ E157 → entOk Tryz.prog hints S46 5000 60 157 e = true := List.forall_mem_cons.2 ⟨ok157_0, List.forall_mem_cons.2 ⟨ok157_1, List.forall_mem_nil _⟩⟩
theorem ok119_0 : entOk Tryz.prog hints S47 5000 60 119 E119_0 = true := by decide +kernel
theorem ok119_1 : entOk Tryz.prog hints S47 5000 60 119 E119_1 = true := by decide +kernel
theorem ok119 : ∀ e, e ∈ E119 → entOk Tryz.prog hints S47 5000 60 119 e = true := List.forall_mem_cons.2 ⟨ok119_0, List.forall_mem_cons.2 ⟨ok119_1, List.forall_mem_nil _⟩⟩
theorem ok43_0 : entOk Tryz.prog hints S48 5000 60 43 E43_0 = true := by decide +kernel
theorem ok43_1 : entOk Tryz.prog hints S48 5000 60 43 E43_1 = true := by decide +kernel
theorem ok43_2 : entOk Tryz.prog hints S48 5000 60 43 E43_2 = true := by decide +kernel
theorem ok43_3 : entOk Tryz.prog hints S48 5000 60 43 E43_3 = true := by decide +kernel
theorem ok43_4 : entOk Tryz.prog hints S48 5000 60 43 E43_4 = true := by decide +kernel
theorem ok43 : ∀ e, e ∈ E43 → entOk Tryz.prog hints S48 5000 60 43 e = true := List.forall_mem_cons.2 ⟨ok43_0, List.forall_mem_cons.2 ⟨ok43_1, List.forall_mem_cons.2 ⟨ok43_2, List.forall_mem_cons.2 ⟨ok43_3, List.forall_mem_cons.2 ⟨ok43_4, List.forall_mem_nil _⟩⟩⟩⟩⟩
theorem ok77_0 : entOk Tryz.prog hints S49 5000 60 77 E77_0 = true := by decide +kernel
theorem ok77_1 : entOk Tryz.prog hints S49 5000 60 77 E77_1 = true := by decide +kernel
theorem ok77 : ∀ e, e ∈ E77 → entOk Tryz.prog hints S49 5000 60 77 e = true := List.forall_mem_cons.2 ⟨ok77_0, List.forall_mem_cons.2 ⟨ok77_1, List.forall_mem_nil _⟩⟩
theorem ok44_0 : entOk Tryz.prog hints S50 5000 60 44 E44_0 = true := by decide +kernel
theorem ok44_1 : entOk Tryz.prog hints S50 5000 60 44 E44_1 = true := by decide +kernel
theorem ok44 : ∀ e, e ∈ E44 → entOk Tryz.prog hints S50 5000 60 44 e = true := List.forall_mem_cons.2 ⟨ok44_0, List.forall_mem_cons.2 ⟨ok44_1, List.forall_mem_nil _⟩⟩
theorem ok17_0 : entOk Tryz.prog hints S51 5000 60 17 E17_0 = true := by decide +kernel
theorem ok17 : ∀ e, e ∈ E17 → entOk Tryz.prog hints S51 5000 60 17 e = true := List.forall_mem_cons.2 ⟨ok17_0, List.forall_mem_nil _⟩
theorem ok64_0 : entOk Tryz.prog hints S52 5000 60 64 E64_0 = true := by decide +kernel
theorem ok64 : ∀ e, e ∈ E64 → entOk Tryz.prog hints S52 5000 60 64 e = true := List.forall_mem_cons.2 ⟨ok64_0, List.forall_mem_nil _⟩
theorem ok65_0 : entOk Tryz.prog hints S53 5000 60 65 E65_0 = true := by decide +kernel
theorem ok65 : ∀ e, e ∈ E65 → entOk Tryz.prog hints S53 5000 60 65 e = true := List.forall_mem_cons.2 ⟨ok65_0, List.forall_mem_nil _⟩
theorem ok35_0 : entOk Tryz.prog hints S54 5000 60 35 E35_0 = true := by decide +kernel
theorem ok35_1 : entOk Tryz.prog hints S54 5000 60 35 E35_1 = true := by decide +kernel
theorem ok35 : ∀ e, e ∈ E35 → entOk Tryz.prog hints S54 5000 60 35 e = true := List.forall_mem_cons.2 ⟨ok35_0, List.forall_mem_cons.2 ⟨ok35_1, List.forall_mem_nil _⟩⟩
end Go.Proofs.YtdeccneggkhggaaGreatDoor.Cut
