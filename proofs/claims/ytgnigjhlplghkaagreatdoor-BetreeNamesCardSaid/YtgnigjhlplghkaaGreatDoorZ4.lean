/-
  PROVED: calls that were run over abstract values, one by one: what each reads, writes, makes and answers. No condition.
-/
import Derived.Test.YtgnigjhlplghkaaGreatDoorY2
set_option linter.unusedVariables false
set_option maxRecDepth 1000000
namespace Go.Proofs.YtgnigjhlplghkaaGreatDoor.Cut
open Go.X
theorem ok228_0 : entOk Tryz.prog hints S11 5000 60 228 E228_0 = true := by decide +kernel
theorem ok228 : ∀ e, e ∈ E228 → entOk Tryz.prog hints S11 5000 60 228 e = true := List.forall_mem_cons.2 ⟨ok228_0, List.forall_mem_nil _⟩
theorem ok158_0 : entOk Tryz.prog hints S12 5000 60 158 E158_0 = true := by decide +kernel
theorem ok158 : ∀ e, e ∈ E158 → entOk Tryz.prog hints S12 5000 60 158 e = true := List.forall_mem_cons.2 ⟨ok158_0, List.forall_mem_nil _⟩
theorem ok92_0 : entOk Tryz.prog hints S13 5000 60 92 E92_0 = true := by decide +kernel
theorem ok92 : ∀ e, e ∈ E92 → entOk Tryz.prog hints S13 5000 60 92 e = true := List.forall_mem_cons.2 ⟨ok92_0, List.forall_mem_nil _⟩
theorem ok44_0 : entOk Tryz.prog hints S14 5000 60 44 E44_0 = true := by decide +kernel
theorem ok44 : ∀ e, e ∈ E44 → entOk Tryz.prog hints S14 5000 60 44 e = true := List.forall_mem_cons.2 ⟨ok44_0, List.forall_mem_nil _⟩
theorem ok14_0 : entOk Tryz.prog hints S15 5000 60 14 E14_0 = true := by decide +kernel
theorem ok14 : ∀ e, e ∈ E14 → entOk Tryz.prog hints S15 5000 60 14 e = true := List.forall_mem_cons.2 ⟨ok14_0, List.forall_mem_nil _⟩
theorem ok164_0 : entOk Tryz.prog hints S16 5000 60 164 E164_0 = true := by decide +kernel
theorem ok164 : ∀ e, e ∈ E164 → entOk Tryz.prog hints S16 5000 60 164 e = true := List.forall_mem_cons.2 ⟨ok164_0, List.forall_mem_nil _⟩
theorem ok93_0 : entOk Tryz.prog hints S17 5000 60 93 E93_0 = true := by decide +kernel
theorem ok93 : ∀ e, e ∈ E93 → entOk Tryz.prog hints S17 5000 60 93 e = true := List.forall_mem_cons.2 ⟨ok93_0, List.forall_mem_nil _⟩
theorem ok45_0 : entOk Tryz.prog hints S18 5000 60 45 E45_0 = true := by decide +kernel
theorem ok45 : ∀ e, e ∈ E45 → entOk Tryz.prog hints S18 5000 60 45 e = true := List.forall_mem_cons.2 ⟨ok45_0, List.forall_mem_nil _⟩
theorem ok165_0 : entOk Tryz.prog hints S19 5000 60 165 E165_0 = true := by decide +kernel
theorem ok165_1 : entOk Tryz.prog hints S19 5000 60 165 E165_1 = true := by decide +kernel
theorem ok165_2 : entOk Tryz.prog hints S19 5000 60 165 E165_2 = true := by decide +kernel
theorem ok165_3 : entOk Tryz.prog hints S19 5000 60 165 E165_3 = true := by decide +kernel
theorem ok165_4 : entOk Tryz.prog hints S19 5000 60 165 E165_4 = true := by decide +kernel
theorem ok165_5 : entOk Tryz.prog hints S19 5000 60 165 E165_5 = true := by decide +kernel
theorem ok165_6 : entOk Tryz.prog hints S19 5000 60 165 E165_6 = true := by decide +kernel
theorem ok165_7 : entOk Tryz.prog hints S19 5000 60 165 E165_7 = true := by decide +kernel
theorem ok165_8 : entOk Tryz.prog hints S19 5000 60 165 E165_8 = true := by decide +kernel
theorem ok165_9 : entOk Tryz.prog hints S19 5000 60 165 E165_9 = true := by decide +kernel
theorem ok165_10 : entOk Tryz.prog hints S19 5000 60 165 E165_10 = true := by decide +kernel
theorem ok165_11 : entOk Tryz.prog hints S19 5000 60 165 E165_11 = true := by decide +kernel
theorem ok165_12 : entOk Tryz.prog hints S19 5000 60 165 E165_12 = true := by decide +kernel
theorem ok165_13 : entOk Tryz.prog hints S19 5000 60 165 E165_13 = true := by decide +kernel
theorem ok165_14 : entOk Tryz.prog hints S19 5000 60 165 E165_14 = true := by decide +kernel
theorem ok165_15 : entOk Tryz.prog hints S19 5000 60 165 E165_15 = true := by decide +kernel
theorem ok165_16 : entOk Tryz.prog hints S19 5000 60 165 E165_16 = true := by decide +kernel
theorem ok165_17 : entOk Tryz.prog hints S19 5000 60 165 E165_17 = true := by decide +kernel
theorem ok165_18 : entOk Tryz.prog hints S19 5000 60 165 E165_18 = true := by decide +kernel
theorem ok165_19 : entOk Tryz.prog hints S19 5000 60 165 E165_19 = true := by decide +kernel
theorem ok165_20 : entOk Tryz.prog hints S19 5000 60 165 E165_20 = true := by decide +kernel
theorem ok165_21 : entOk Tryz.prog hints S19 5000 60 165 E165_21 = true := by decide +kernel
theorem ok165_22 : entOk Tryz.prog hints S19 5000 60 165 E165_22 = true := by decide +kernel
theorem ok165 : ∀ e, e ∈ E165 → entOk Tryz.prog hints S19 5000 60 165 e = true := List.forall_mem_cons.2 ⟨ok165_0, List.forall_mem_cons.2 ⟨ok165_1, List.forall_mem_cons.2 ⟨ok165_2, List.forall_mem_cons.2 ⟨ok165_3, List.forall_mem_cons.2 ⟨ok165_4, List.forall_mem_cons.2 ⟨ok165_5, List.forall_mem_cons.2 ⟨ok165_6, List.forall_mem_cons.2 ⟨ok165_7, List.forall_mem_cons.2 ⟨ok165_8, List.forall_mem_cons.2 ⟨ok165_9, List.forall_mem_cons.2 ⟨ok165_10, List.forall_mem_cons.2 ⟨ok165_11, List.forall_mem_cons.2 ⟨ok165_12, List.forall_mem_cons.2 ⟨ok165_13, List.forall_mem_cons.2 ⟨ok165_14, List.forall_mem_cons.2 ⟨ok165_15, List.forall_mem_cons.2 ⟨ok165_16, List.forall_mem_cons.2 ⟨ok165_17, List.forall_mem_cons.2 ⟨ok165_18, List.forall_mem_cons.2 ⟨ok165_19, List.forall_mem_cons.2 ⟨ok165_20, List.forall_mem_cons.2 ⟨ok165_21, List.forall_mem_cons.2 ⟨ok165_22, List.forall_mem_nil _⟩⟩⟩⟩⟩⟩⟩⟩⟩⟩⟩⟩⟩⟩⟩⟩⟩⟩⟩⟩⟩⟩⟩
end Go.Proofs.YtgnigjhlplghkaaGreatDoor.Cut
