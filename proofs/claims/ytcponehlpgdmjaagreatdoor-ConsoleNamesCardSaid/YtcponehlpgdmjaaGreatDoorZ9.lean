/-
  PROVED: calls that were run over abstract values, one by one: what each reads, writes, makes and answers. No condition.
-/
import Derived.Test.YtcponehlpgdmjaaGreatDoorY0
set_option linter.unusedVariables false
set_option maxRecDepth 1000000
namespace Go.Proofs.YtcponehlpgdmjaaGreatDoor.Cut
open Go.X
theorem ok52_0 : entOk Tryz.prog hints S38 5000 60 52 E52_0 = true := by decide +kernel
theorem ok52 : ∀ e, e ∈ E52 → entOk Tryz.prog hints S38 5000 60 52 e = true := List.forall_mem_cons.2 ⟨ok52_0, List.forall_mem_nil _⟩
theorem ok19_0 : entOk Tryz.prog hints S39 5000 60 19 E19_0 = true := by decide +kernel
theorem ok19 : ∀ e, e ∈ E19 → entOk Tryz.prog hints S39 5000 60 19 e = true := List.forall_mem_cons.2 ⟨ok19_0, List.forall_mem_nil _⟩
theorem ok55_0 : entOk Tryz.prog hints S40 5000 60 55 E55_0 = true := by decide +kernel
theorem ok55 : ∀ e, e ∈ E55 → entOk Tryz.prog hints S40 5000 60 55 e = true := List.forall_mem_cons.2 ⟨ok55_0, List.forall_mem_nil _⟩
theorem ok22_0 : entOk Tryz.prog hints S41 5000 60 22 E22_0 = true := by decide +kernel
theorem ok22 : ∀ e, e ∈ E22 → entOk Tryz.prog hints S41 5000 60 22 e = true := List.forall_mem_cons.2 ⟨ok22_0, List.forall_mem_nil _⟩
theorem ok393_0 : entOk Tryz.prog hints S42 5000 60 393 E393_0 = true := by decide +kernel
theorem ok393 : ∀ e, e ∈ E393 → entOk Tryz.prog hints S42 5000 60 393 e = true := List.forall_mem_cons.2 ⟨ok393_0, List.forall_mem_nil _⟩
theorem ok372_0 : entOk Tryz.prog hints S43 5000 60 372 E372_0 = true := by decide +kernel
theorem ok372_1 : entOk Tryz.prog hints S43 5000 60 372 E372_1 = true := by decide +kernel
theorem ok372_2 : entOk Tryz.prog hints S43 5000 60 372 E372_2 = true := by decide +kernel
theorem ok372_3 : entOk Tryz.prog hints S43 5000 60 372 E372_3 = true := by decide +kernel
theorem ok372 : ∀ e, e ∈ E372 → entOk Tryz.prog hints S43 5000 60 372 e = true := List.forall_mem_cons.2 ⟨ok372_0, List.forall_mem_cons.2 ⟨ok372_1, List.forall_mem_cons.2 ⟨ok372_2, List.forall_mem_cons.2 ⟨ok372_3, List.forall_mem_nil _⟩⟩⟩⟩
theorem ok398_0 : entOk Tryz.prog hints S44 5000 60 398 E398_0 = true := by decide +kernel
theorem ok398 : ∀ e, e ∈ E398 → entOk Tryz.prog hints S44 5000 60 398 e = true := List.forall_mem_cons.2 ⟨ok398_0, List.forall_mem_nil _⟩
end Go.Proofs.YtcponehlpgdmjaaGreatDoor.Cut
