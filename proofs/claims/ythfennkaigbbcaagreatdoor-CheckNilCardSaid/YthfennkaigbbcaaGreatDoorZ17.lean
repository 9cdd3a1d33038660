/-
  PROVED: calls that were run over abstract values, one by one: what each reads, writes, makes and answers. No condition.
-/
import Derived.Test.YthfennkaigbbcaaGreatDoorY2
set_option linter.unusedVariables false
set_option maxRecDepth 1000000
namespace Go.Proofs.YthfennkaigbbcaaGreatDoor.Cut
open Go.X
theorem ok128_0 : entOk Tryz.prog hints S43 5000 60 128 E128_0 = true := by decide +kernel
theorem ok128_1 : entOk Tryz.prog hints S43 5000 60 128 E128_1 = true := by decide +kernel
theorem ok128_2 : entOk Tryz.prog hints S43 5000 60 128 E128_2 = true := by decide +kernel
theorem ok128_3 : entOk Tryz.prog hints S43 5000 60 128 E128_3 = true := by decide +kernel
theorem ok128_4 : entOk Tryz.prog hints S43 5000 60 128 E128_4 = true := by decide +kernel
theorem ok128_5 : entOk Tryz.prog hints S43 5000 60 128 E128_5 = true := by decide +kernel
theorem ok128 : ∀ e, e ∈ E128 → entOk Tryz.prog hints S43 5000 60 128 e = true := List.forall_mem_cons.2 ⟨ok128_0, List.forall_mem_cons.2 ⟨ok128_1, List.forall_mem_cons.2 ⟨ok128_2, List.forall_mem_cons.2 ⟨ok128_3, List.forall_mem_cons.2 ⟨ok128_4, List.forall_mem_cons.2 ⟨ok128_5, List.forall_mem_nil _⟩⟩⟩⟩⟩⟩
theorem ok193_0 : entOk Tryz.prog hints S44 5000 60 193 E193_0 = true := by decide +kernel
theorem ok193_1 : entOk Tryz.prog hints S44 5000 60 193 E193_1 = true := by decide +kernel
theorem ok193 : ∀ e, e ∈ E193 → entOk Tryz.prog hints S44 5000 60 193 e = true := List.forall_mem_cons.2 ⟨ok193_0, List.forall_mem_cons.2 ⟨ok193_1, List.forall_mem_nil _⟩⟩
theorem ok195_0 : entOk Tryz.prog hints S45 5000 60 195 E195_0 = true := by decide +kernel
theorem ok195_1 : entOk Tryz.prog hints S45 5000 60 195 E195_1 = true := by decide +kernel
theorem ok195 : ∀ e, e ∈ E195 → entOk Tryz.prog hints S45 5000 60 195 e = true := List.forall_mem_cons.2 ⟨ok195_0, List.forall_mem_cons.2 ⟨ok195_1, List.forall_mem_nil _⟩⟩
end Go.Proofs.YthfennkaigbbcaaGreatDoor.Cut
