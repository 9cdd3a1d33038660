/-
  PROVED: calls that were run over abstract values, one by one: what each reads, writes, makes and answers. No condition.
-/
import Derived.Test.YtdeccneggkhggaaGreatDoorY2
set_option linter.unusedVariables false
set_option maxRecDepth 1000000
namespace Go.Proofs.YtdeccneggkhggaaGreatDoor.Cut
open Go.X
theorem ok210_0 : entOk Tryz.prog hints S19 5000 60 210 E210_0 = true := by decide +kernel
theorem ok210_1 : entOk Tryz.prog hints S19 5000 60 210 E210_1 = true := by decide +kernel
theorem ok210_2 : entOk Tryz.prog hints S19 5000 60 210 E210_2 = true := by decide +kernel
theorem ok210_3 : entOk Tryz.prog hints S19 5000 60 210 E210_3 = true := by decide +kernel
theorem ok210 : ∀ e, e ∈ E210 → entOk Tryz.prog hints S19 5000 60 210 e = true := List.forall_mem_cons.2 ⟨ok210_0, List.forall_mem_cons.2 ⟨ok210_1, List.forall_mem_cons.2 ⟨ok210_2, List.forall_mem_cons.2 ⟨ok210_3, List.forall_mem_nil _⟩⟩⟩⟩
theorem ok146_0 : entOk Tryz.prog hints S20 5000 60 146 E146_0 = true := by decide +kernel
theorem ok146_1 : entOk Tryz.prog hints S20 5000 60 146 E146_1 = true := by decide +kernel
theorem ok146_2 : entOk Tryz.prog hints S20 5000 60 146 E146_2 = true := by decide +kernel
theorem ok146_3 : entOk Tryz.prog hints S20 5000 60 146 E146_3 = true := by decide +kernel
theorem ok146 : ∀ e, e ∈ E146 → entOk Tryz.prog hints S20 5000 60 146 e = true := List.forall_mem_cons.2 ⟨ok146_0, List.forall_mem_cons.2 ⟨ok146_1, List.forall_mem_cons.2 ⟨ok146_2, List.forall_mem_cons.2 ⟨ok146_3, List.forall_mem_nil _⟩⟩⟩⟩
theorem ok264_0 : entOk Tryz.prog hints S21 5000 60 264 E264_0 = true := by decide +kernel
theorem ok264_1 : entOk Tryz.prog hints S21 5000 60 264 E264_1 = true := by decide +kernel
theorem ok264_2 : entOk Tryz.prog hints S21 5000 60 264 E264_2 = true := by decide +kernel
theorem ok264_3 : entOk Tryz.prog hints S21 5000 60 264 E264_3 = true := by decide +kernel
theorem ok264 : ∀ e, e ∈ E264 → entOk Tryz.prog hints S21 5000 60 264 e = true := List.forall_mem_cons.2 ⟨ok264_0, List.forall_mem_cons.2 ⟨ok264_1, List.forall_mem_cons.2 ⟨ok264_2, List.forall_mem_cons.2 ⟨ok264_3, List.forall_mem_nil _⟩⟩⟩⟩
theorem ok213_0 : entOk Tryz.prog hints S22 5000 60 213 E213_0 = true := by decide +kernel
theorem ok213_1 : entOk Tryz.prog hints S22 5000 60 213 E213_1 = true := by decide +kernel
theorem ok213_2 : entOk Tryz.prog hints S22 5000 60 213 E213_2 = true := by decide +kernel
theorem ok213_3 : entOk Tryz.prog hints S22 5000 60 213 E213_3 = true := by decide +kernel
theorem ok213 : ∀ e, e ∈ E213 → entOk Tryz.prog hints S22 5000 60 213 e = true := List.forall_mem_cons.2 ⟨ok213_0, List.forall_mem_cons.2 ⟨ok213_1, List.forall_mem_cons.2 ⟨ok213_2, List.forall_mem_cons.2 ⟨ok213_3, List.forall_mem_nil _⟩⟩⟩⟩
theorem ok214_0 : entOk Tryz.prog hints S23 5000 60 214 E214_0 = true := by decide +kernel
theorem ok214_1 : entOk Tryz.prog hints S23 5000 60 214 E214_1 = true := by decide +kernel
theorem ok214_2 : entOk Tryz.prog hints S23 5000 60 214 E214_2 = true := by decide +kernel
theorem ok214_3 : entOk Tryz.prog hints S23 5000 60 214 E214_3 = true := by decide +kernel
theorem ok214 : ∀ e, e ∈ E214 → entOk Tryz.prog hints S23 5000 60 214 e = true := List.forall_mem_cons.2 ⟨ok214_0, List.forall_mem_cons.2 ⟨ok214_1, List.forall_mem_cons.2 ⟨ok214_2, List.forall_mem_cons.2 ⟨ok214_3, List.forall_mem_nil _⟩⟩⟩⟩
theorem ok285_0 : entOk Tryz.prog hints S24 5000 60 285 E285_0 = true := by decide +kernel
theorem ok285_1 : entOk Tryz.prog hints S24 5000 60 285 E285_1 = true := by decide +kernel
theorem ok285 : ∀ e, e ∈ E285 → entOk Tryz.prog hints S24 5000 60 285 e = true := List.forall_mem_cons.2 ⟨ok285_0, List.forall_mem_cons.2 ⟨ok285_1, List.forall_mem_nil _⟩⟩
theorem ok223_0 : entOk Tryz.prog hints S25 5000 60 223 E223_0 = true := by decide +kernel
theorem ok223_1 : entOk Tryz.prog hints S25 5000 60 223 E223_1 = true := by decide +kernel
theorem ok223_2 : entOk Tryz.prog hints S25 5000 60 223 E223_2 = true := by decide +kernel
theorem ok223_3 : entOk Tryz.prog hints S25 5000 60 223 E223_3 = true := by decide +kernel
theorem ok223_4 : entOk Tryz.prog hints S25 5000 60 223 E223_4 = true := by decide +kernel
theorem ok223_5 : entOk Tryz.prog hints S25 5000 60 223 E223_5 = true := by decide +kernel
theorem ok223_6 : entOk Tryz.prog hints S25 5000 60 223 E223_6 = true := by decide +kernel
theorem ok223 : ∀ e, e ∈ E223 → entOk Tryz.prog hints S25 5000 60 223 e = true := List.forall_mem_cons.2 ⟨ok223_0, List.forall_mem_cons.2 ⟨ok223_1, List.forall_mem_cons.2 ⟨ok223_2, List.forall_mem_cons.2 ⟨ok223_3, List.forall_mem_cons.2 ⟨ok223_4, List.forall_mem_cons.2 ⟨ok223_5, List.forall_mem_cons.2 ⟨ok223_6, List.forall_mem_nil _⟩⟩⟩⟩⟩⟩⟩
end Go.Proofs.YtdeccneggkhggaaGreatDoor.Cut
