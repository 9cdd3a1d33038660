/-
  PROVED: calls that were run over abstract values, one by one: what each reads, writes, makes and answers. No condition.
-/
import Derived.Test.YtfnhnhfiealakaaGreatDoorY0
set_option linter.unusedVariables false
set_option maxRecDepth 1000000
namespace Go.Proofs.YtfnhnhfiealakaaGreatDoor.Cut
open Go.X
theorem ok11_0 : entOk Tryz.prog hints S4 5000 60 11 E11_0 = true := by decide +kernel
theorem ok11_1 : entOk Tryz.prog hints S4 5000 60 11 E11_1 = true := by decide +kernel
theorem ok11 : ∀ e, e ∈ E11 → entOk Tryz.prog hints S4 5000 60 11 e = true := List.forall_mem_cons.2 ⟨ok11_0, List.forall_mem_cons.2 ⟨ok11_1, List.forall_mem_nil _⟩⟩
theorem ok16_0 : entOk Tryz.prog hints S5 5000 60 16 E16_0 = true := by decide +kernel
theorem ok16_1 : entOk Tryz.prog hints S5 5000 60 16 E16_1 = true := by decide +kernel
theorem ok16_2 : entOk Tryz.prog hints S5 5000 60 16 E16_2 = true := by decide +kernel
theorem ok16 : ∀ e, e ∈ E16 → entOk Tryz.prog hints S5 5000 60 16 e = true := List.forall_mem_cons.2 ⟨ok16_0, List.forall_mem_cons.2 ⟨ok16_1, List.forall_mem_cons.2 ⟨ok16_2, List.forall_mem_nil _⟩⟩⟩
theorem ok18_0 : entOk Tryz.prog hints S6 5000 60 18 E18_0 = true := by decide +kernel
theorem ok18_1 : entOk Tryz.prog hints S6 5000 60 18 E18_1 = true := by decide +kernel
theorem ok18_2 : entOk Tryz.prog hints S6 5000 60 18 E18_2 = true := by decide +kernel
theorem ok18 : ∀ e, e ∈ E18 → entOk Tryz.prog hints S6 5000 60 18 e = true := List.forall_mem_cons.2 ⟨ok18_0, List.forall_mem_cons.2 ⟨ok18_1, List.forall_mem_cons.2 ⟨ok18_2, List.forall_mem_nil _⟩⟩⟩
theorem ok207_0 : entOk Tryz.prog hints S7 5000 60 207 E207_0 = true := by decide +kernel
theorem ok207 : ∀ e, e ∈ E207 → entOk Tryz.prog hints S7 5000 60 207 e = true := List.forall_mem_cons.2 ⟨ok207_0, List.forall_mem_nil _⟩
theorem ok167_0 : entOk Tryz.prog hints S8 5000 60 167 E167_0 = true := by decide +kernel
theorem ok167 : ∀ e, e ∈ E167 → entOk Tryz.prog hints S8 5000 60 167 e = true := List.forall_mem_cons.2 ⟨ok167_0, List.forall_mem_nil _⟩
end Go.Proofs.YtfnhnhfiealakaaGreatDoor.Cut
