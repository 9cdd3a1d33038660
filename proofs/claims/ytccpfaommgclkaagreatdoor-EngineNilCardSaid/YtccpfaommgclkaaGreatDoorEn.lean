/-
  PROVED: normal forms of EngineNil's own functions over abstract heaps, and what they answer. Conditions: those of each contract.
-/
import Derived.Test.YtccpfaommgclkaaGreatDoorSu
import Derived.KernelRfl
set_option linter.unusedVariables false
set_option linter.unusedSimpArgs false
set_option maxRecDepth 1000000
namespace EnN
open Go Go.X Go.Proofs
theorem law_nf (C : ZCall) (lf : Nat) (K : ZK) (h : Heap) (v0_0 : Int) (v0_1 : Int) (v0_2 : SL) (v0_3 : Int) : zAt Tryz.prog C lf 4 [] (padT (ntOf Tryz.prog 4) [.agg [.int .i64 v0_0, .int .i64 v0_1, .sl v0_2, .int .i64 v0_3]])
 (zFin Tryz.prog 4 K) ⟨[], zFin Tryz.prog 4 K⟩ h = (C 5 [] (fun v_1 h'_1 => ZRB (ZV.av v_1) fun b_1 => ZAnd (false = false) (ZLdI h'_1 h.next 0 .i64 fun n_1 => ZLdI h'_1 h.next 1 .i64 fun n_2 => ZLdL
 h'_1 h.next 2 fun s_1 => ZLdI h'_1 h.next 3 .i64 fun n_3 => C 6 [.agg [.int .i64 n_1, .int .i64 n_2, .sl s_1, .int .i64 n_3]] (fun v_2 h'_2 => ZRT (ZV.av v_2) 2 fun f_1 => ZRB
 (f_1 0) fun b_2 => ZRB (f_1 1) fun b_3 => ZAnd (false = false) (ZLdI h'_2 h.next 0 .i64 fun n_4 => ZLdI h'_2 h.next 1 .i64 fun n_5 => ZLdL h'_2 h.next 2 fun s_2 => ZLdI h'_2 h.next 3
 .i64 fun n_6 => C 7 [.pv true 0 0, .agg [.int .i64 n_4, .int .i64 n_5, .sl s_2, .int .i64 n_6]] (fun v_3 h'_3 => ZRT (ZV.av v_3) 2 fun f_2 => ZRP (f_2 0) fun n_7 j_1 p_1 => ZAnd (false =
 false) (ZLdI h'_3 h.next 0 .i64 fun n_8 => ZLdI h'_3 h.next 1 .i64 fun n_9 => ZLdL h'_3 h.next 2 fun s_3 => ZLdI h'_3 h.next 3 .i64 fun n_10 => C 8 [.pv true 0 0, .agg [.int
 .i64 n_8, .int .i64 n_9, .sl s_3, .int .i64 n_10]] (fun v_4 h'_4 => ZRT (ZV.av v_4) 3 fun f_3 => ZRP (f_3 0) fun n_11 j_2 p_2 => ZRA (f_3 1) 3 fun f_4 => ZRI (f_4 0) .u64 fun n_12 => ZRI (f_4 1)
 .i64 fun n_13 => ZRI (f_4 2) .i64 fun n_14 => ZAnd (false = false) (ZPut (Heap.newO h'_4 (.cells [.int .u64 0, .int .i64 0, .int .i64 0] 0 false false)) h'_4.next 0 3 (C 9
 [.int .i64 512, .int .i64 100] (fun v_5 h'_5 => ZRT (ZV.av v_5) 2 fun f_5 => ZRP (f_5 0) fun n_15 j_3 p_3 => ZRI (f_5 1) .i64 fun n_16 => @cnd Prop (!b_1) (K (.bool false) h'_5) (@cnd Prop n_15 (K
 (.bool false) h'_5) (@cnd Prop (cnd false true !decide (n_16 = 0)) (K (.bool false) h'_5) (@cnd Prop (cnd false true !n_7) (K (.bool false) h'_5) (@cnd Prop (cnd false true !n_11) (K (.bool false) h'_5) (C 10 [.any (f_2
 1), .int .i64 1] (fun v_6 h'_6 => ZRB (ZV.av v_6) fun b_4 => @cnd Prop (cnd false true !b_4) (K (.bool false) h'_6) (C 10 [.any (f_3 2), .int .i64 1] (fun v_7 h'_7 => ZRB (ZV.av v_7) fun b_5 => @cnd Prop (cnd
 false true !b_5) (K (.bool false) h'_7) (@cnd Prop (!b_2) (ZAnd (false = false) (ZLdI h'_7 h.next 0 .i64 fun n_17 => ZLdI h'_7 h.next 1 .i64 fun n_18 => ZLdL h'_7 h.next 2 fun s_4 => ZLdI h'_7
 h.next 3 .i64 fun n_19 => C 7 [.pv n_15 j_3 p_3, .agg [.int .i64 n_17, .int .i64 n_18, .sl s_4, .int .i64 n_19]] (fun v_8 h'_8 => ZRT (ZV.av v_8) 2 fun f_6 => ZRP (f_6 0) fun n_20 j_4
 p_4 => C 10 [.any (f_6 1), .int .i64 1] (fun v_9 h'_9 => ZRB (ZV.av v_9) fun b_6 => @cnd Prop b_6 (K (.bool (cnd true (decide (n_20 = true)) false)) h'_9) (K (.bool false) h'_9)) h'_8) h'_7)) (ZAnd (false = false)
 (ZAnd (false = false) (ZLdI h'_7 h.next 0 .i64 fun n_17 => @cnd Prop (!decide (n_17 = 1)) (ZAnd (false = false) (ZAnd (false = false) (ZLdI h'_7 h.next 0 .i64 fun n_18 => @cnd Prop (cnd false true (cnd
 true (!decide (n_18 = 2)) false)) (ZAnd (false = false) (ZLdI h'_7 h.next 0 .i64 fun n_19 => ZLdI h'_7 h.next 1 .i64 fun n_20 => ZLdL h'_7 h.next 2 fun s_4 => ZLdI h'_7 h.next 3
 .i64 fun n_21 => C 7 [.pv n_15 j_3 p_3, .agg [.int .i64 n_19, .int .i64 n_20, .sl s_4, .int .i64 n_21]] (fun v_8 h'_8 => ZRT (ZV.av v_8) 2 fun f_6 => ZRP (f_6 0) fun n_22 j_4 p_4 => C 10
 [.any (f_6 1), .int .i64 1] (fun v_9 h'_9 => ZRB (ZV.av v_9) fun b_6 => @cnd Prop b_6 (K (.bool (cnd true (decide (n_22 = true)) false)) h'_9) (K (.bool false) h'_9)) h'_8) h'_7)) (@cnd Prop (!b_3) (ZAnd (false =
 false) (ZLdI h'_7 h.next 0 .i64 fun n_19 => ZLdI h'_7 h.next 1 .i64 fun n_20 => ZLdL h'_7 h.next 2 fun s_4 => ZLdI h'_7 h.next 3 .i64 fun n_21 => C 7 [.pv n_15 j_3 p_3, .agg
 [.int .i64 n_19, .int .i64 n_20, .sl s_4, .int .i64 n_21]] (fun v_8 h'_8 => ZRT (ZV.av v_8) 2 fun f_6 => ZRP (f_6 0) fun n_22 j_4 p_4 => C 10 [.any (f_6 1), .int .i64 161] (fun v_9 h'_9 =>
 ZRB (ZV.av v_9) fun b_6 => @cnd Prop b_6 (K (.bool (cnd true (decide (n_22 = true)) false)) h'_9) (K (.bool false) h'_9)) h'_8) h'_7)) (ZAnd (false = false) (ZLdI h'_7 h.next 0 .i64 fun n_19 => ZLdI h'_7
 h.next 1 .i64 fun n_20 => ZLdL h'_7 h.next 2 fun s_4 => ZLdI h'_7 h.next 3 .i64 fun n_21 => C 7 [.pv n_15 j_3 p_3, .agg [.int .i64 n_19, .int .i64 n_20, .sl s_4, .int
 .i64 n_21]] (fun v_8 h'_8 => ZRT (ZV.av v_8) 2 fun f_6 => ZRP (f_6 0) fun n_22 j_4 p_4 => C 10 [.any (f_6 1), .int .i64 0] (fun v_9 h'_9 => ZRB (ZV.av v_9) fun b_6 => @cnd Prop b_6 (K (.bool (cnd true (decide
 (n_22 = false)) false)) h'_9) (K (.bool false) h'_9)) h'_8) h'_7)))))) (@cnd Prop (!b_3) (ZAnd (false = false) (ZLdI h'_7 h.next 0 .i64 fun n_18 => ZLdI h'_7 h.next 1 .i64 fun n_19 => ZLdL h'_7
 h.next 2 fun s_4 => ZLdI h'_7 h.next 3 .i64 fun n_20 => C 7 [.pv n_15 j_3 p_3, .agg [.int .i64 n_18, .int .i64 n_19, .sl s_4, .int .i64 n_20]] (fun v_8 h'_8 => ZRT (ZV.av v_8)
 2 fun f_6 => ZRP (f_6 0) fun n_21 j_4 p_4 => C 10 [.any (f_6 1), .int .i64 161] (fun v_9 h'_9 => ZRB (ZV.av v_9) fun b_6 => @cnd Prop b_6 (K (.bool (cnd true (decide (n_21 = true)) false)) h'_9) (K (.bool false)
 h'_9)) h'_8) h'_7)) (ZAnd (false = false) (ZLdI h'_7 h.next 0 .i64 fun n_18 => ZLdI h'_7 h.next 1 .i64 fun n_19 => ZLdL h'_7 h.next 2 fun s_4 => ZLdI h'_7 h.next 3 .i64 fun n_20 =>
 C 7 [.pv n_15 j_3 p_3, .agg [.int .i64 n_18, .int .i64 n_19, .sl s_4, .int .i64 n_20]] (fun v_8 h'_8 => ZRT (ZV.av v_8) 2 fun f_6 => ZRP (f_6 0) fun n_21 j_4 p_4 => C 10 [.any (f_6 1), .int
 .i64 0] (fun v_9 h'_9 => ZRB (ZV.av v_9) fun b_6 => @cnd Prop b_6 (K (.bool (cnd true (decide (n_21 = false)) false)) h'_9) (K (.bool false) h'_9)) h'_8) h'_7)))))))) h'_6)) h'_5)))))) (hput (Heap.newO h'_4 (.cells
 [.int .u64 0, .int .i64 0, .int .i64 0] 0 false false)) h'_4.next 0 [.int .u64 n_12, .int .i64 n_13, .int .i64 n_14])))) h'_3)) h'_2)) h'_1)) (Heap.newO h (.cells
 [.int .i64 v0_0, .int .i64 v0_1, SL.av v0_2, .int .i64 v0_3] 0 false false))) := by kernel_rfl
end EnN
namespace EnN
open Go Go.X Go.Proofs
theorem create_nf (C : ZCall) (lf : Nat) (K : ZK) (h : Heap) (v0 : Nat) (v1_0 : Int) (v1_1 : Int) (v1_2 : SL) (v1_3 : Int) : zAt Tryz.prog C lf 7 [] (padT (ntOf Tryz.prog 7) [.pv false v0 0, .agg [.int .i64 v1_0, .int .i64 v1_1, .sl v1_2, .int .i64 v1_3]]) (zFin Tryz.prog 7 K) ⟨[], zFin Tryz.prog 7 K⟩ h = (ZAnd (false = false) (ZAnd (false = false) (ZLdI (Heap.newO h (.cells [.int .i64 v1_0, .int .i64 v1_1, SL.av v1_2, .int .i64 v1_3] 0 false false)) h.next 0 .i64 fun n_1 => @cnd Prop (!decide (n_1 = 1)) (ZAnd (false = false) (ZAnd (false = false) (ZLdI (Heap.newO h (.cells [.int .i64 v1_0, .int .i64 v1_1, SL.av v1_2, .int .i64 v1_3] 0 false false)) h.next 0 .i64 fun n_2 => @cnd Prop (cnd true (!decide (n_2 = 2)) false) (K (.tup [.pv true 0 0, .iface 43 (.int .i64 1)]) (Heap.newO h (.cells [.int .i64 v1_0, .int .i64 v1_1, SL.av v1_2, .int .i64 v1_3] 0 false false))) (ZAnd (false = false) (ZLdI (Heap.newO h (.cells [.int .i64 v1_0, .int .i64 v1_1, SL.av v1_2, .int .i64 v1_3] 0 false false)) h.next 0 .i64 fun n_3 => ZLdI (Heap.newO h (.cells [.int .i64 v1_0, .int .i64 v1_1, SL.av v1_2, .int .i64 v1_3] 0 false false)) h.next 1 .i64 fun n_4 => ZLdL (Heap.newO h (.cells [.int .i64 v1_0, .int .i64 v1_1, SL.av v1_2, .int .i64 v1_3] 0 false false)) h.next 2 fun s_1 => ZLdI (Heap.newO h (.cells [.int .i64 v1_0, .int .i64 v1_1, SL.av v1_2, .int .i64 v1_3] 0 false false)) h.next 3 .i64 fun n_5 => C 16 [.pv false v0 0, .agg [.int .i64 n_3, .int .i64 n_4, .sl s_1, .int .i64 n_5]] (fun v_1 h'_1 => ZAnd (isIf (ZV.av v_1) = true) (@cnd Prop (!isNilIf (ZV.av v_1)) (K (.tup [.pv true 0 0, .any (ZV.av v_1)]) h'_1) (C 17 [.pv false v0 0] (fun v_2 h'_2 => ZRT (ZV.av v_2) 2 fun f_1 => ZRP (f_1 0) fun n_6 j_1 p_1 => ZRI (f_1 1) .i64 fun n_7 => @cnd Prop (!decide (n_7 = 0)) (K (.tup [.pv true 0 0, .iface 43 (.int .i64 n_7)]) h'_2) (ZAnd (false = false) (ZAnd (false = false) (ZLdI h'_2 h.next 1 .i64 fun n_8 => ZLdL h'_2 h.next 2 fun s_2 => ZAnd (false = false) (ZAnd (false = false) (ZLdI h'_2 h.next 0 .i64 fun n_9 => ZAnd (false = false) (ZAnd (false = false) (ZLdI (Heap.newO h'_2 (.cells [match n_6 with | true => .nilp | false => .ptr j_1 p_1, .int .i64 n_8, SL.av s_2, .int .i64 n_9, .int .u64 1, .nilIface, .nilp, .int .i64 0] 0 false false)) h.next 0 .i64 fun n_10 => @cnd Prop (decide (n_10 = 1)) (C 18 [.pv n_6 j_1 p_1] (fun v_3 h'_3 => ZRT (ZV.av v_3) 2 fun f_2 => ZRP (f_2 0) fun n_11 j_2 p_2 => ZRI (f_2 1) .i64 fun n_12 => @cnd Prop (!decide (n_12 = 0)) (K (.tup [.pv true 0 0, .iface 43 (.int .i64 n_12)]) h'_3) (ZAnd (false = false) (ZAnd (false = false) (ZAnd (false = false) (ZPut h'_3 h'_2.next 5 1 (C 20 [.pv false h'_2.next 0] (fun v_4 h'_4 => ZAnd (isIf (ZV.av v_4) = true) (@cnd Prop (!isNilIf (ZV.av v_4)) (K (.tup [.pv true 0 0, .any (ZV.av v_4)]) h'_4) (C 21 [.pv false v0 0] (fun v_5 h'_5 => ZRI (ZV.av v_5) .i64 fun n_13 => K (.tup [.pv false h'_5.next 0, .any .nilIface]) (Heap.newO h'_5 (.cells [.ptr h'_2.next 0, .int .i64 n_13, .bool false, .bool false] 0 false false))) h'_4))) (hput h'_3 h'_2.next 5 [AV.iface 69 (AV.agg [match n_11 with | true => .nilp | false => .ptr j_2 p_2])]))))))) (Heap.newO h'_2 (.cells [match n_6 with | true => .nilp | false => .ptr j_1 p_1, .int .i64 n_8, SL.av s_2, .int .i64 n_9, .int .u64 1, .nilIface, .nilp, .int .i64 0] 0 false false))) (ZAnd (false = false) (ZAnd (false = false) (ZLdI (Heap.newO h'_2 (.cells [match n_6 with | true => .nilp | false => .ptr j_1 p_1, .int .i64 n_8, SL.av s_2, .int .i64 n_9, .int .u64 1, .nilIface, .nilp, .int .i64 0] 0 false false)) h.next 1 .i64 fun n_11 => ZLdL (Heap.newO h'_2 (.cells [match n_6 with | true => .nilp | false => .ptr j_1 p_1, .int .i64 n_8, SL.av s_2, .int .i64 n_9, .int .u64 1, .nilIface, .nilp, .int .i64 0] 0 false false)) h.next 2 fun s_3 => C 19 [.pv n_6 j_1 p_1, .agg [.int .i64 n_11, .sl s_3]] (fun v_3 h'_3 => ZRT (ZV.av v_3) 2 fun f_2 => ZRP (f_2 0) fun n_12 j_2 p_2 => ZRI (f_2 1) .i64 fun n_13 => @cnd Prop (!decide (n_13 = 0)) (K (.tup [.pv true 0 0, .iface 43 (.int .i64 n_13)]) h'_3) (ZAnd (false = false) (ZAnd (false = false) (ZAnd (false = false) (ZPut h'_3 h'_2.next 5 1 (C 20 [.pv false h'_2.next 0] (fun v_4 h'_4 => ZAnd (isIf (ZV.av v_4) = true) (@cnd Prop (!isNilIf (ZV.av v_4)) (K (.tup [.pv true 0 0, .any (ZV.av v_4)]) h'_4) (C 21 [.pv false v0 0] (fun v_5 h'_5 => ZRI (ZV.av v_5) .i64 fun n_14 => K (.tup [.pv false h'_5.next 0, .any .nilIface]) (Heap.newO h'_5 (.cells [.ptr h'_2.next 0, .int .i64 n_14, .bool false, .bool false] 0 false false))) h'_4))) (hput h'_3 h'_2.next 5 [AV.iface 70 (match n_12 with | true => .nilp | false => .ptr j_2 p_2)]))))))) (Heap.newO h'_2 (.cells [match n_6 with | true => .nilp | false => .ptr j_1 p_1, .int .i64 n_8, SL.av s_2, .int .i64 n_9, .int .u64 1, .nilIface, .nilp, .int .i64 0] 0 false false))))))))))))) h'_1))) (Heap.newO h (.cells [.int .i64 v1_0, .int .i64 v1_1, SL.av v1_2, .int .i64 v1_3] 0 false false))))))) (ZAnd (false = false) (ZLdI (Heap.newO h (.cells [.int .i64 v1_0, .int .i64 v1_1, SL.av v1_2, .int .i64 v1_3] 0 false false)) h.next 0 .i64 fun n_2 => ZLdI (Heap.newO h (.cells [.int .i64 v1_0, .int .i64 v1_1, SL.av v1_2, .int .i64 v1_3] 0 false false)) h.next 1 .i64 fun n_3 => ZLdL (Heap.newO h (.cells [.int .i64 v1_0, .int .i64 v1_1, SL.av v1_2, .int .i64 v1_3] 0 false false)) h.next 2 fun s_1 => ZLdI (Heap.newO h (.cells [.int .i64 v1_0, .int .i64 v1_1, SL.av v1_2, .int .i64 v1_3] 0 false false)) h.next 3 .i64 fun n_4 => C 16 [.pv false v0 0, .agg [.int .i64 n_2, .int .i64 n_3, .sl s_1, .int .i64 n_4]] (fun v_1 h'_1 => ZAnd (isIf (ZV.av v_1) = true) (@cnd Prop (!isNilIf (ZV.av v_1)) (K (.tup [.pv true 0 0, .any (ZV.av v_1)]) h'_1) (C 17 [.pv false v0 0] (fun v_2 h'_2 => ZRT (ZV.av v_2) 2 fun f_1 => ZRP (f_1 0) fun n_5 j_1 p_1 => ZRI (f_1 1) .i64 fun n_6 => @cnd Prop (!decide (n_6 = 0)) (K (.tup [.pv true 0 0, .iface 43 (.int .i64 n_6)]) h'_2) (ZAnd (false = false) (ZAnd (false = false) (ZLdI h'_2 h.next 1 .i64 fun n_7 => ZLdL h'_2 h.next 2 fun s_2 => ZAnd (false = false) (ZAnd (false = false) (ZLdI h'_2 h.next 0 .i64 fun n_8 => ZAnd (false = false) (ZAnd (false = false) (ZLdI (Heap.newO h'_2 (.cells [match n_5 with | true => .nilp | false => .ptr j_1 p_1, .int .i64 n_7, SL.av s_2, .int .i64 n_8, .int .u64 1, .nilIface, .nilp, .int .i64 0] 0 false false)) h.next 0 .i64 fun n_9 => @cnd Prop (decide (n_9 = 1)) (C 18 [.pv n_5 j_1 p_1] (fun v_3 h'_3 => ZRT (ZV.av v_3) 2 fun f_2 => ZRP (f_2 0) fun n_10 j_2 p_2 => ZRI (f_2 1) .i64 fun n_11 => @cnd Prop (!decide (n_11 = 0)) (K (.tup [.pv true 0 0, .iface 43 (.int .i64 n_11)]) h'_3) (ZAnd (false = false) (ZAnd (false = false) (ZAnd (false = false) (ZPut h'_3 h'_2.next 5 1 (C 20 [.pv false h'_2.next 0] (fun v_4 h'_4 => ZAnd (isIf (ZV.av v_4) = true) (@cnd Prop (!isNilIf (ZV.av v_4)) (K (.tup [.pv true 0 0, .any (ZV.av v_4)]) h'_4) (C 21 [.pv false v0 0] (fun v_5 h'_5 => ZRI (ZV.av v_5) .i64 fun n_12 => K (.tup [.pv false h'_5.next 0, .any .nilIface]) (Heap.newO h'_5 (.cells [.ptr h'_2.next 0, .int .i64 n_12, .bool false, .bool false] 0 false false))) h'_4))) (hput h'_3 h'_2.next 5 [AV.iface 69 (AV.agg [match n_10 with | true => .nilp | false => .ptr j_2 p_2])]))))))) (Heap.newO h'_2 (.cells [match n_5 with | true => .nilp | false => .ptr j_1 p_1, .int .i64 n_7, SL.av s_2, .int .i64 n_8, .int .u64 1, .nilIface, .nilp, .int .i64 0] 0 false false))) (ZAnd (false = false) (ZAnd (false = false) (ZLdI (Heap.newO h'_2 (.cells [match n_5 with | true => .nilp | false => .ptr j_1 p_1, .int .i64 n_7, SL.av s_2, .int .i64 n_8, .int .u64 1, .nilIface, .nilp, .int .i64 0] 0 false false)) h.next 1 .i64 fun n_10 => ZLdL (Heap.newO h'_2 (.cells [match n_5 with | true => .nilp | false => .ptr j_1 p_1, .int .i64 n_7, SL.av s_2, .int .i64 n_8, .int .u64 1, .nilIface, .nilp, .int .i64 0] 0 false false)) h.next 2 fun s_3 => C 19 [.pv n_5 j_1 p_1, .agg [.int .i64 n_10, .sl s_3]] (fun v_3 h'_3 => ZRT (ZV.av v_3) 2 fun f_2 => ZRP (f_2 0) fun n_11 j_2 p_2 => ZRI (f_2 1) .i64 fun n_12 => @cnd Prop (!decide (n_12 = 0)) (K (.tup [.pv true 0 0, .iface 43 (.int .i64 n_12)]) h'_3) (ZAnd (false = false) (ZAnd (false = false) (ZAnd (false = false) (ZPut h'_3 h'_2.next 5 1 (C 20 [.pv false h'_2.next 0] (fun v_4 h'_4 => ZAnd (isIf (ZV.av v_4) = true) (@cnd Prop (!isNilIf (ZV.av v_4)) (K (.tup [.pv true 0 0, .any (ZV.av v_4)]) h'_4) (C 21 [.pv false v0 0] (fun v_5 h'_5 => ZRI (ZV.av v_5) .i64 fun n_13 => K (.tup [.pv false h'_5.next 0, .any .nilIface]) (Heap.newO h'_5 (.cells [.ptr h'_2.next 0, .int .i64 n_13, .bool false, .bool false] 0 false false))) h'_4))) (hput h'_3 h'_2.next 5 [AV.iface 70 (match n_11 with | true => .nilp | false => .ptr j_2 p_2)]))))))) (Heap.newO h'_2 (.cells [match n_5 with | true => .nilp | false => .ptr j_1 p_1, .int .i64 n_7, SL.av s_2, .int .i64 n_8, .int .u64 1, .nilIface, .nilp, .int .i64 0] 0 false false))))))))))))) h'_1))) (Heap.newO h (.cells [.int .i64 v1_0, .int .i64 v1_1, SL.av v1_2, .int .i64 v1_3] 0 false false))))))) := by kernel_rfl
end EnN
namespace EnN
open Go Go.X Go.Proofs
theorem createN_nf (C : ZCall) (lf : Nat) (K : ZK) (h : Heap) (v1_0 : Int) (v1_1 : Int) (v1_2 : SL) (v1_3 : Int) : zAt Tryz.prog C lf 7 [] (padT (ntOf Tryz.prog 7) [.pv true 0 0, .agg [.int .i64 v1_0, .int .i64 v1_1, .sl v1_2, .int .i64 v1_3]]) (zFin Tryz.prog 7 K) ⟨[], zFin Tryz.prog 7 K⟩ h = (ZAnd (false = false) (ZAnd (false = false) (ZLdI (Heap.newO h (.cells [.int .i64 v1_0, .int .i64 v1_1, SL.av v1_2, .int .i64 v1_3] 0 false false)) h.next 0 .i64 fun n_1 => @cnd Prop (!decide (n_1 = 1)) (ZAnd (false = false) (ZAnd (false = false) (ZLdI (Heap.newO h (.cells [.int .i64 v1_0, .int .i64 v1_1, SL.av v1_2, .int .i64 v1_3] 0 false false)) h.next 0 .i64 fun n_2 => @cnd Prop (cnd true (!decide (n_2 = 2)) false) (K (.tup [.pv true 0 0, .iface 43 (.int .i64 1)]) (Heap.newO h (.cells [.int .i64 v1_0, .int .i64 v1_1, SL.av v1_2, .int .i64 v1_3] 0 false false))) (ZAnd (false = false) (ZLdI (Heap.newO h (.cells [.int .i64 v1_0, .int .i64 v1_1, SL.av v1_2, .int .i64 v1_3] 0 false false)) h.next 0 .i64 fun n_3 => ZLdI (Heap.newO h (.cells [.int .i64 v1_0, .int .i64 v1_1, SL.av v1_2, .int .i64 v1_3] 0 false false)) h.next 1 .i64 fun n_4 => ZLdL (Heap.newO h (.cells [.int .i64 v1_0, .int .i64 v1_1, SL.av v1_2, .int .i64 v1_3] 0 false false)) h.next 2 fun s_1 => ZLdI (Heap.newO h (.cells [.int .i64 v1_0, .int .i64 v1_1, SL.av v1_2, .int .i64 v1_3] 0 false false)) h.next 3 .i64 fun n_5 => C 16 [.pv true 0 0, .agg [.int .i64 n_3, .int .i64 n_4, .sl s_1, .int .i64 n_5]] (fun v_1 h'_1 => ZAnd (isIf (ZV.av v_1) = true) (@cnd Prop (!isNilIf (ZV.av v_1)) (K (.tup [.pv true 0 0, .any (ZV.av v_1)]) h'_1) (C 17 [.pv true 0 0] (fun v_2 h'_2 => ZRT (ZV.av v_2) 2 fun f_1 => ZRP (f_1 0) fun n_6 j_1 p_1 => ZRI (f_1 1) .i64 fun n_7 => @cnd Prop (!decide (n_7 = 0)) (K (.tup [.pv true 0 0, .iface 43 (.int .i64 n_7)]) h'_2) (ZAnd (false = false) (ZAnd (false = false) (ZLdI h'_2 h.next 1 .i64 fun n_8 => ZLdL h'_2 h.next 2 fun s_2 => ZAnd (false = false) (ZAnd (false = false) (ZLdI h'_2 h.next 0 .i64 fun n_9 => ZAnd (false = false) (ZAnd (false = false) (ZLdI (Heap.newO h'_2 (.cells [match n_6 with | true => .nilp | false => .ptr j_1 p_1, .int .i64 n_8, SL.av s_2, .int .i64 n_9, .int .u64 1, .nilIface, .nilp, .int .i64 0] 0 false false)) h.next 0 .i64 fun n_10 => @cnd Prop (decide (n_10 = 1)) (C 18 [.pv n_6 j_1 p_1] (fun v_3 h'_3 => ZRT (ZV.av v_3) 2 fun f_2 => ZRP (f_2 0) fun n_11 j_2 p_2 => ZRI (f_2 1) .i64 fun n_12 => @cnd Prop (!decide (n_12 = 0)) (K (.tup [.pv true 0 0, .iface 43 (.int .i64 n_12)]) h'_3) (ZAnd (false = false) (ZAnd (false = false) (ZAnd (false = false) (ZPut h'_3 h'_2.next 5 1 (C 20 [.pv false h'_2.next 0] (fun v_4 h'_4 => ZAnd (isIf (ZV.av v_4) = true) (@cnd Prop (!isNilIf (ZV.av v_4)) (K (.tup [.pv true 0 0, .any (ZV.av v_4)]) h'_4) (C 21 [.pv true 0 0] (fun v_5 h'_5 => ZRI (ZV.av v_5) .i64 fun n_13 => K (.tup [.pv false h'_5.next 0, .any .nilIface]) (Heap.newO h'_5 (.cells [.ptr h'_2.next 0, .int .i64 n_13, .bool false, .bool false] 0 false false))) h'_4))) (hput h'_3 h'_2.next 5 [AV.iface 69 (AV.agg [match n_11 with | true => .nilp | false => .ptr j_2 p_2])]))))))) (Heap.newO h'_2 (.cells [match n_6 with | true => .nilp | false => .ptr j_1 p_1, .int .i64 n_8, SL.av s_2, .int .i64 n_9, .int .u64 1, .nilIface, .nilp, .int .i64 0] 0 false false))) (ZAnd (false = false) (ZAnd (false = false) (ZLdI (Heap.newO h'_2 (.cells [match n_6 with | true => .nilp | false => .ptr j_1 p_1, .int .i64 n_8, SL.av s_2, .int .i64 n_9, .int .u64 1, .nilIface, .nilp, .int .i64 0] 0 false false)) h.next 1 .i64 fun n_11 => ZLdL (Heap.newO h'_2 (.cells [match n_6 with | true => .nilp | false => .ptr j_1 p_1, .int .i64 n_8, SL.av s_2, .int .i64 n_9, .int .u64 1, .nilIface, .nilp, .int .i64 0] 0 false false)) h.next 2 fun s_3 => C 19 [.pv n_6 j_1 p_1, .agg [.int .i64 n_11, .sl s_3]] (fun v_3 h'_3 => ZRT (ZV.av v_3) 2 fun f_2 => ZRP (f_2 0) fun n_12 j_2 p_2 => ZRI (f_2 1) .i64 fun n_13 => @cnd Prop (!decide (n_13 = 0)) (K (.tup [.pv true 0 0, .iface 43 (.int .i64 n_13)]) h'_3) (ZAnd (false = false) (ZAnd (false = false) (ZAnd (false = false) (ZPut h'_3 h'_2.next 5 1 (C 20 [.pv false h'_2.next 0] (fun v_4 h'_4 => ZAnd (isIf (ZV.av v_4) = true) (@cnd Prop (!isNilIf (ZV.av v_4)) (K (.tup [.pv true 0 0, .any (ZV.av v_4)]) h'_4) (C 21 [.pv true 0 0] (fun v_5 h'_5 => ZRI (ZV.av v_5) .i64 fun n_14 => K (.tup [.pv false h'_5.next 0, .any .nilIface]) (Heap.newO h'_5 (.cells [.ptr h'_2.next 0, .int .i64 n_14, .bool false, .bool false] 0 false false))) h'_4))) (hput h'_3 h'_2.next 5 [AV.iface 70 (match n_12 with | true => .nilp | false => .ptr j_2 p_2)]))))))) (Heap.newO h'_2 (.cells [match n_6 with | true => .nilp | false => .ptr j_1 p_1, .int .i64 n_8, SL.av s_2, .int .i64 n_9, .int .u64 1, .nilIface, .nilp, .int .i64 0] 0 false false))))))))))))) h'_1))) (Heap.newO h (.cells [.int .i64 v1_0, .int .i64 v1_1, SL.av v1_2, .int .i64 v1_3] 0 false false))))))) (ZAnd (false = false) (ZLdI (Heap.newO h (.cells [.int .i64 v1_0, .int .i64 v1_1, SL.av v1_2, .int .i64 v1_3] 0 false false)) h.next 0 .i64 fun n_2 => ZLdI (Heap.newO h (.cells [.int .i64 v1_0, .int .i64 v1_1, SL.av v1_2, .int .i64 v1_3] 0 false false)) h.next 1 .i64 fun n_3 => ZLdL (Heap.newO h (.cells [.int .i64 v1_0, .int .i64 v1_1, SL.av v1_2, .int .i64 v1_3] 0 false false)) h.next 2 fun s_1 => ZLdI (Heap.newO h (.cells [.int .i64 v1_0, .int .i64 v1_1, SL.av v1_2, .int .i64 v1_3] 0 false false)) h.next 3 .i64 fun n_4 => C 16 [.pv true 0 0, .agg [.int .i64 n_2, .int .i64 n_3, .sl s_1, .int .i64 n_4]] (fun v_1 h'_1 => ZAnd (isIf (ZV.av v_1) = true) (@cnd Prop (!isNilIf (ZV.av v_1)) (K (.tup [.pv true 0 0, .any (ZV.av v_1)]) h'_1) (C 17 [.pv true 0 0] (fun v_2 h'_2 => ZRT (ZV.av v_2) 2 fun f_1 => ZRP (f_1 0) fun n_5 j_1 p_1 => ZRI (f_1 1) .i64 fun n_6 => @cnd Prop (!decide (n_6 = 0)) (K (.tup [.pv true 0 0, .iface 43 (.int .i64 n_6)]) h'_2) (ZAnd (false = false) (ZAnd (false = false) (ZLdI h'_2 h.next 1 .i64 fun n_7 => ZLdL h'_2 h.next 2 fun s_2 => ZAnd (false = false) (ZAnd (false = false) (ZLdI h'_2 h.next 0 .i64 fun n_8 => ZAnd (false = false) (ZAnd (false = false) (ZLdI (Heap.newO h'_2 (.cells [match n_5 with | true => .nilp | false => .ptr j_1 p_1, .int .i64 n_7, SL.av s_2, .int .i64 n_8, .int .u64 1, .nilIface, .nilp, .int .i64 0] 0 false false)) h.next 0 .i64 fun n_9 => @cnd Prop (decide (n_9 = 1)) (C 18 [.pv n_5 j_1 p_1] (fun v_3 h'_3 => ZRT (ZV.av v_3) 2 fun f_2 => ZRP (f_2 0) fun n_10 j_2 p_2 => ZRI (f_2 1) .i64 fun n_11 => @cnd Prop (!decide (n_11 = 0)) (K (.tup [.pv true 0 0, .iface 43 (.int .i64 n_11)]) h'_3) (ZAnd (false = false) (ZAnd (false = false) (ZAnd (false = false) (ZPut h'_3 h'_2.next 5 1 (C 20 [.pv false h'_2.next 0] (fun v_4 h'_4 => ZAnd (isIf (ZV.av v_4) = true) (@cnd Prop (!isNilIf (ZV.av v_4)) (K (.tup [.pv true 0 0, .any (ZV.av v_4)]) h'_4) (C 21 [.pv true 0 0] (fun v_5 h'_5 => ZRI (ZV.av v_5) .i64 fun n_12 => K (.tup [.pv false h'_5.next 0, .any .nilIface]) (Heap.newO h'_5 (.cells [.ptr h'_2.next 0, .int .i64 n_12, .bool false, .bool false] 0 false false))) h'_4))) (hput h'_3 h'_2.next 5 [AV.iface 69 (AV.agg [match n_10 with | true => .nilp | false => .ptr j_2 p_2])]))))))) (Heap.newO h'_2 (.cells [match n_5 with | true => .nilp | false => .ptr j_1 p_1, .int .i64 n_7, SL.av s_2, .int .i64 n_8, .int .u64 1, .nilIface, .nilp, .int .i64 0] 0 false false))) (ZAnd (false = false) (ZAnd (false = false) (ZLdI (Heap.newO h'_2 (.cells [match n_5 with | true => .nilp | false => .ptr j_1 p_1, .int .i64 n_7, SL.av s_2, .int .i64 n_8, .int .u64 1, .nilIface, .nilp, .int .i64 0] 0 false false)) h.next 1 .i64 fun n_10 => ZLdL (Heap.newO h'_2 (.cells [match n_5 with | true => .nilp | false => .ptr j_1 p_1, .int .i64 n_7, SL.av s_2, .int .i64 n_8, .int .u64 1, .nilIface, .nilp, .int .i64 0] 0 false false)) h.next 2 fun s_3 => C 19 [.pv n_5 j_1 p_1, .agg [.int .i64 n_10, .sl s_3]] (fun v_3 h'_3 => ZRT (ZV.av v_3) 2 fun f_2 => ZRP (f_2 0) fun n_11 j_2 p_2 => ZRI (f_2 1) .i64 fun n_12 => @cnd Prop (!decide (n_12 = 0)) (K (.tup [.pv true 0 0, .iface 43 (.int .i64 n_12)]) h'_3) (ZAnd (false = false) (ZAnd (false = false) (ZAnd (false = false) (ZPut h'_3 h'_2.next 5 1 (C 20 [.pv false h'_2.next 0] (fun v_4 h'_4 => ZAnd (isIf (ZV.av v_4) = true) (@cnd Prop (!isNilIf (ZV.av v_4)) (K (.tup [.pv true 0 0, .any (ZV.av v_4)]) h'_4) (C 21 [.pv true 0 0] (fun v_5 h'_5 => ZRI (ZV.av v_5) .i64 fun n_13 => K (.tup [.pv false h'_5.next 0, .any .nilIface]) (Heap.newO h'_5 (.cells [.ptr h'_2.next 0, .int .i64 n_13, .bool false, .bool false] 0 false false))) h'_4))) (hput h'_3 h'_2.next 5 [AV.iface 70 (match n_11 with | true => .nilp | false => .ptr j_2 p_2)]))))))) (Heap.newO h'_2 (.cells [match n_5 with | true => .nilp | false => .ptr j_1 p_1, .int .i64 n_7, SL.av s_2, .int .i64 n_8, .int .u64 1, .nilIface, .nilp, .int .i64 0] 0 false false))))))))))))) h'_1))) (Heap.newO h (.cells [.int .i64 v1_0, .int .i64 v1_1, SL.av v1_2, .int .i64 v1_3] 0 false false))))))) := by kernel_rfl
end EnN
namespace EnN
open Go Go.X Go.Proofs
theorem emayN_nf (C : ZCall) (lf : Nat) (K : ZK) (h : Heap) (v1_0 : Int) (v1_1 : Int) (v1_2 : SL) (v1_3 : Int) : zAt Tryz.prog C lf 16 [] (padT (ntOf Tryz.prog 16) [.pv true 0 0, .agg [.int .i64 v1_0, .int .i64 v1_1, .sl v1_2,
 .int .i64 v1_3]]) (zFin Tryz.prog 16 K) ⟨[], zFin Tryz.prog 16 K⟩ h = (K (.iface 43 (.int .i64 1)) (Heap.newO h (.cells [.int .i64 v1_0, .int .i64 v1_1, SL.av v1_2, .int .i64 v1_3] 0 false
 false))) := by kernel_rfl
theorem emay_nf (C : ZCall) (lf : Nat) (K : ZK) (h : Heap) (v0 : Nat) (v1_0 : Int) (v1_1 : Int) (v1_2 : SL) (v1_3 : Int) : zAt Tryz.prog C lf 16 [] (padT (ntOf Tryz.prog 16) [.pv false v0 0, .agg [.int .i64 v1_0, .int .i64 v1_1,
 .sl v1_2, .int .i64 v1_3]]) (zFin Tryz.prog 16 K) ⟨[], zFin Tryz.prog 16 K⟩ h = (ZAnd (false = false) (ZAnd (false = false) (ZLdI (Heap.newO h (.cells [.int .i64 v1_0, .int .i64 v1_1, SL.av v1_2, .int
 .i64 v1_3] 0 false false)) h.next 3 .i64 fun n_1 => @cnd Prop (cnd false true (decide (n_1 < 1))) (K (.iface 43 (.int .i64 1)) (Heap.newO h (.cells [.int .i64 v1_0, .int .i64
 v1_1, SL.av v1_2, .int .i64 v1_3] 0 false false))) (ZAnd (false = false) (ZAnd (false = false) (ZLdI (Heap.newO h (.cells [.int .i64 v1_0, .int .i64 v1_1, SL.av v1_2, .int .i64 v1_3] 0 false
 false)) h.next 3 .i64 fun n_2 => @cnd Prop (cnd false true (decide (65536 < n_2))) (K (.iface 43 (.int .i64 1)) (Heap.newO h (.cells [.int .i64 v1_0, .int .i64 v1_1, SL.av v1_2,
 .int .i64 v1_3] 0 false false))) (ZAnd (false = false) (ZAnd (false = false) (ZLdI (Heap.newO h (.cells [.int .i64 v1_0, .int .i64 v1_1, SL.av v1_2, .int .i64 v1_3] 0 false false))
 h.next 1 .i64 fun n_3 => ZLdL (Heap.newO h (.cells [.int .i64 v1_0, .int .i64 v1_1, SL.av v1_2, .int .i64 v1_3] 0 false false)) h.next 2 fun s_1 => C 33 [.agg [.int
 .i64 n_3, .sl s_1]] (fun v_1 h'_1 => ZRI (ZV.av v_1) .i64 fun n_4 => C 32 [.int .i64 n_4] (fun v_2 h'_2 => K (.any (ZV.av v_2)) h'_2) h'_1) (Heap.newO h (.cells [.int .i64 v1_0, .int
 .i64 v1_1, SL.av v1_2, .int .i64 v1_3] 0 false false))))))))))) := by kernel_rfl
end EnN
namespace EnN
open Go Go.X Go.Proofs
theorem openN_nf (C : ZCall) (lf : Nat) (K : ZK) (h : Heap) (v1_0 : Int) (v1_1 : Int) (v1_2 : SL) (v1_3 : Int) : zAt Tryz.prog C lf 8 [] (padT (ntOf Tryz.prog 8) [.pv true 0 0, .agg [.int .i64 v1_0, .int .i64 v1_1, .sl v1_2, .int .i64 v1_3]]) (zFin Tryz.prog 8 K) ⟨[], zFin Tryz.prog 8 K⟩ h = (ZAnd (false = false) (ZLdI (Heap.newO (Heap.newO h (.cells [.int .i64 v1_0, .int .i64 v1_1, SL.av v1_2, .int .i64 v1_3] 0 false false)) (.cells [.int .u64 0, .int .i64 0, .int .i64 0] 0 false false)) h.next 0 .i64 fun n_1 => ZLdI (Heap.newO (Heap.newO h (.cells [.int .i64 v1_0, .int .i64 v1_1, SL.av v1_2, .int .i64 v1_3] 0 false false)) (.cells [.int .u64 0, .int .i64 0, .int .i64 0] 0 false false)) h.next 1 .i64 fun n_2 => ZLdL (Heap.newO (Heap.newO h (.cells [.int .i64 v1_0, .int .i64 v1_1, SL.av v1_2, .int .i64 v1_3] 0 false false)) (.cells [.int .u64 0, .int .i64 0, .int .i64 0] 0 false false)) h.next 2 fun s_1 => ZLdI (Heap.newO (Heap.newO h (.cells [.int .i64 v1_0, .int .i64 v1_1, SL.av v1_2, .int .i64 v1_3] 0 false false)) (.cells [.int .u64 0, .int .i64 0, .int .i64 0] 0 false false)) h.next 3 .i64 fun n_3 => C 16 [.pv true 0 0, .agg [.int .i64 n_1, .int .i64 n_2, .sl s_1, .int .i64 n_3]] (fun v_1 h'_1 => ZAnd (isIf (ZV.av v_1) = true) (@cnd Prop (!isNilIf (ZV.av v_1)) (ZAnd (false = false) (ZPut h'_1 (Heap.next (Heap.newO h (.cells [.int .i64 v1_0, .int .i64 v1_1, SL.av v1_2, .int .i64 v1_3] 0 false false))) 0 3 (ZAnd (false = false) (ZLdI (hput h'_1 (Heap.next (Heap.newO h (.cells [.int .i64 v1_0, .int .i64 v1_1, SL.av v1_2, .int .i64 v1_3] 0 false false))) 0 [.int .u64 0, .int .i64 0, .int .i64 0]) (Heap.next (Heap.newO h (.cells [.int .i64 v1_0, .int .i64 v1_1, SL.av v1_2, .int .i64 v1_3] 0 false false))) 0 .u64 fun n_4 => ZLdI (hput h'_1 (Heap.next (Heap.newO h (.cells [.int .i64 v1_0, .int .i64 v1_1, SL.av v1_2, .int .i64 v1_3] 0 false false))) 0 [.int .u64 0, .int .i64 0, .int .i64 0]) (Heap.next (Heap.newO h (.cells [.int .i64 v1_0, .int .i64 v1_1, SL.av v1_2, .int .i64 v1_3] 0 false false))) 1 .i64 fun n_5 => ZLdI (hput h'_1 (Heap.next (Heap.newO h (.cells [.int .i64 v1_0, .int .i64 v1_1, SL.av v1_2, .int .i64 v1_3] 0 false false))) 0 [.int .u64 0, .int .i64 0, .int .i64 0]) (Heap.next (Heap.newO h (.cells [.int .i64 v1_0, .int .i64 v1_1, SL.av v1_2, .int .i64 v1_3] 0 false false))) 2 .i64 fun n_6 => K (.tup [.pv true 0 0, .agg [.int .u64 n_4, .int .i64 n_5, .int .i64 n_6], .any (ZV.av v_1)]) (hput h'_1 (Heap.next (Heap.newO h (.cells [.int .i64 v1_0, .int .i64 v1_1, SL.av v1_2, .int .i64 v1_3] 0 false false))) 0 [.int .u64 0, .int .i64 0, .int .i64 0]))))) (C 22 [.pv true 0 0] (fun v_2 h'_2 => ZRT (ZV.av v_2) 3 fun f_1 => ZRP (f_1 0) fun n_4 j_1 p_1 => ZRA (f_1 1) 3 fun f_2 => ZRI (f_2 0) .u64 fun n_5 => ZRI (f_2 1) .i64 fun n_6 => ZRI (f_2 2) .i64 fun n_7 => ZRI (f_1 2) .i64 fun n_8 => ZAnd (false = false) (ZPut (Heap.newO h'_2 (.cells [.int .u64 0, .int .i64 0, .int .i64 0] 0 false false)) h'_2.next 0 3 (@cnd Prop (!decide (n_8 = 0)) (ZAnd (false = false) (ZPut (hput (Heap.newO h'_2 (.cells [.int .u64 0, .int .i64 0, .int .i64 0] 0 false false)) h'_2.next 0 [.int .u64 n_5, .int .i64 n_6, .int .i64 n_7]) (Heap.next (Heap.newO h (.cells [.int .i64 v1_0, .int .i64 v1_1, SL.av v1_2, .int .i64 v1_3] 0 false false))) 0 3 (ZAnd (false = false) (ZLdI (hput (hput (Heap.newO h'_2 (.cells [.int .u64 0, .int .i64 0, .int .i64 0] 0 false false)) h'_2.next 0 [.int .u64 n_5, .int .i64 n_6, .int .i64 n_7]) (Heap.next (Heap.newO h (.cells [.int .i64 v1_0, .int .i64 v1_1, SL.av v1_2, .int .i64 v1_3] 0 false false))) 0 [.int .u64 0, .int .i64 0, .int .i64 0]) (Heap.next (Heap.newO h (.cells [.int .i64 v1_0, .int .i64 v1_1, SL.av v1_2, .int .i64 v1_3] 0 false false))) 0 .u64 fun n_9 => ZLdI (hput (hput (Heap.newO h'_2 (.cells [.int .u64 0, .int .i64 0, .int .i64 0] 0 false false)) h'_2.next 0 [.int .u64 n_5, .int .i64 n_6, .int .i64 n_7]) (Heap.next (Heap.newO h (.cells [.int .i64 v1_0, .int .i64 v1_1, SL.av v1_2, .int .i64 v1_3] 0 false false))) 0 [.int .u64 0, .int .i64 0, .int .i64 0]) (Heap.next (Heap.newO h (.cells [.int .i64 v1_0, .int .i64 v1_1, SL.av v1_2, .int .i64 v1_3] 0 false false))) 1 .i64 fun n_10 => ZLdI (hput (hput (Heap.newO h'_2 (.cells [.int .u64 0, .int .i64 0, .int .i64 0] 0 false false)) h'_2.next 0 [.int .u64 n_5, .int .i64 n_6, .int .i64 n_7]) (Heap.next (Heap.newO h (.cells [.int .i64 v1_0, .int .i64 v1_1, SL.av v1_2, .int .i64 v1_3] 0 false false))) 0 [.int .u64 0, .int .i64 0, .int .i64 0]) (Heap.next (Heap.newO h (.cells [.int .i64 v1_0, .int .i64 v1_1, SL.av v1_2, .int .i64 v1_3] 0 false false))) 2 .i64 fun n_11 => K (.tup [.pv true 0 0, .agg [.int .u64 n_9, .int .i64 n_10, .int .i64 n_11], .iface 43 (.int .i64 n_8)]) (hput (hput (Heap.newO h'_2 (.cells [.int .u64 0, .int .i64 0, .int .i64 0] 0 false false)) h'_2.next 0 [.int .u64 n_5, .int .i64 n_6, .int .i64 n_7]) (Heap.next (Heap.newO h (.cells [.int .i64 v1_0, .int .i64 v1_1, SL.av v1_2, .int .i64 v1_3] 0 false false))) 0 [.int .u64 0, .int .i64 0, .int .i64 0]))))) (ZAnd (false = false) (ZAnd (false = false) (ZLdI (hput (Heap.newO h'_2 (.cells [.int .u64 0, .int .i64 0, .int .i64 0] 0 false false)) h'_2.next 0 [.int .u64 n_5, .int .i64 n_6, .int .i64 n_7]) h.next 1 .i64 fun n_9 => ZLdL (hput (Heap.newO h'_2 (.cells [.int .u64 0, .int .i64 0, .int .i64 0] 0 false false)) h'_2.next 0 [.int .u64 n_5, .int .i64 n_6, .int .i64 n_7]) h.next 2 fun s_2 => C 23 [.pv n_4 j_1 p_1, .agg [.int .i64 n_9, .sl s_2]] (fun v_3 h'_3 => ZRT (ZV.av v_3) 2 fun f_3 => ZRP (f_3 0) fun n_10 j_2 p_2 => ZAnd (isIf (f_3 1) = true) (@cnd Prop (!isNilIf (f_3 1)) (ZAnd (false = false) (ZPut h'_3 (Heap.next (Heap.newO h (.cells [.int .i64 v1_0, .int .i64 v1_1, SL.av v1_2, .int .i64 v1_3] 0 false false))) 0 3 (ZAnd (false = false) (ZLdI (hput h'_3 (Heap.next (Heap.newO h (.cells [.int .i64 v1_0, .int .i64 v1_1, SL.av v1_2, .int .i64 v1_3] 0 false false))) 0 [.int .u64 0, .int .i64 0, .int .i64 0]) (Heap.next (Heap.newO h (.cells [.int .i64 v1_0, .int .i64 v1_1, SL.av v1_2, .int .i64 v1_3] 0 false false))) 0 .u64 fun n_11 => ZLdI (hput h'_3 (Heap.next (Heap.newO h (.cells [.int .i64 v1_0, .int .i64 v1_1, SL.av v1_2, .int .i64 v1_3] 0 false false))) 0 [.int .u64 0, .int .i64 0, .int .i64 0]) (Heap.next (Heap.newO h (.cells [.int .i64 v1_0, .int .i64 v1_1, SL.av v1_2, .int .i64 v1_3] 0 false false))) 1 .i64 fun n_12 => ZLdI (hput h'_3 (Heap.next (Heap.newO h (.cells [.int .i64 v1_0, .int .i64 v1_1, SL.av v1_2, .int .i64 v1_3] 0 false false))) 0 [.int .u64 0, .int .i64 0, .int .i64 0]) (Heap.next (Heap.newO h (.cells [.int .i64 v1_0, .int .i64 v1_1, SL.av v1_2, .int .i64 v1_3] 0 false false))) 2 .i64 fun n_13 => K (.tup [.pv true 0 0, .agg [.int .u64 n_11, .int .i64 n_12, .int .i64 n_13], .any (f_3 1)]) (hput h'_3 (Heap.next (Heap.newO h (.cells [.int .i64 v1_0, .int .i64 v1_1, SL.av v1_2, .int .i64 v1_3] 0 false false))) 0 [.int .u64 0, .int .i64 0, .int .i64 0]))))) (ZAnd (false = false) (ZLdI h'_3 h'_2.next 0 .u64 fun n_11 => ZLdI h'_3 h'_2.next 1 .i64 fun n_12 => ZLdI h'_3 h'_2.next 2 .i64 fun n_13 => C 21 [.pv true 0 0] (fun v_4 h'_4 => ZRI (ZV.av v_4) .i64 fun n_14 => ZAnd (ZAnd (false = false) (ZLdI h'_4 h'_2.next 0 .u64 fun n_15 => ZLdI h'_4 h'_2.next 1 .i64 fun n_16 => ZLdI h'_4 h'_2.next 2 .i64 fun n_17 => AV.agg [.int .u64 n_15, .int .i64 n_16, .int .i64 n_17] = AV.agg [.int .u64 n_11, .int .i64 n_12, .int .i64 n_13])) (ZAnd (ZAnd (false = false) (ZLdI (Heap.newO h'_4 (.cells [match n_10 with | true => .nilp | false => .ptr j_2 p_2, .int .i64 n_14, .bool false, .bool false] 0 false false)) h'_2.next 0 .u64 fun n_15 => ZLdI (Heap.newO h'_4 (.cells [match n_10 with | true => .nilp | false => .ptr j_2 p_2, .int .i64 n_14, .bool false, .bool false] 0 false false)) h'_2.next 1 .i64 fun n_16 => ZLdI (Heap.newO h'_4 (.cells [match n_10 with | true => .nilp | false => .ptr j_2 p_2, .int .i64 n_14, .bool false, .bool false] 0 false false)) h'_2.next 2 .i64 fun n_17 => AV.agg [.int .u64 n_15, .int .i64 n_16, .int .i64 n_17] = AV.agg [.int .u64 n_11, .int .i64 n_12, .int .i64 n_13])) (ZAnd (false = false) (ZPut (Heap.newO h'_4 (.cells [match n_10 with | true => .nilp | false => .ptr j_2 p_2, .int .i64 n_14, .bool false, .bool false] 0 false false)) (Heap.next (Heap.newO h (.cells [.int .i64 v1_0, .int .i64 v1_1, SL.av v1_2, .int .i64 v1_3] 0 false false))) 0 3 (ZAnd (false = false) (ZLdI (hput (Heap.newO h'_4 (.cells [match n_10 with | true => .nilp | false => .ptr j_2 p_2, .int .i64 n_14, .bool false, .bool false] 0 false false)) (Heap.next (Heap.newO h (.cells [.int .i64 v1_0, .int .i64 v1_1, SL.av v1_2, .int .i64 v1_3] 0 false false))) 0 [.int .u64 n_11, .int .i64 n_12, .int .i64 n_13]) (Heap.next (Heap.newO h (.cells [.int .i64 v1_0, .int .i64 v1_1, SL.av v1_2, .int .i64 v1_3] 0 false false))) 0 .u64 fun n_15 => ZLdI (hput (Heap.newO h'_4 (.cells [match n_10 with | true => .nilp | false => .ptr j_2 p_2, .int .i64 n_14, .bool false, .bool false] 0 false false)) (Heap.next (Heap.newO h (.cells [.int .i64 v1_0, .int .i64 v1_1, SL.av v1_2, .int .i64 v1_3] 0 false false))) 0 [.int .u64 n_11, .int .i64 n_12, .int .i64 n_13]) (Heap.next (Heap.newO h (.cells [.int .i64 v1_0, .int .i64 v1_1, SL.av v1_2, .int .i64 v1_3] 0 false false))) 1 .i64 fun n_16 => ZLdI (hput (Heap.newO h'_4 (.cells [match n_10 with | true => .nilp | false => .ptr j_2 p_2, .int .i64 n_14, .bool false, .bool false] 0 false false)) (Heap.next (Heap.newO h (.cells [.int .i64 v1_0, .int .i64 v1_1, SL.av v1_2, .int .i64 v1_3] 0 false false))) 0 [.int .u64 n_11, .int .i64 n_12, .int .i64 n_13]) (Heap.next (Heap.newO h (.cells [.int .i64 v1_0, .int .i64 v1_1, SL.av v1_2, .int .i64 v1_3] 0 false false))) 2 .i64 fun n_17 => K (.tup [.pv false h'_4.next 0, .agg [.int .u64 n_15, .int .i64 n_16, .int .i64 n_17], .any .nilIface]) (hput (Heap.newO h'_4 (.cells [match n_10 with | true => .nilp | false => .ptr j_2 p_2, .int .i64 n_14, .bool false, .bool false] 0 false false)) (Heap.next (Heap.newO h (.cells [.int .i64 v1_0, .int .i64 v1_1, SL.av v1_2, .int .i64 v1_3] 0 false false))) 0 [.int .u64 n_11, .int .i64 n_12, .int .i64 n_13]))))))) h'_3)))) (hput (Heap.newO h'_2 (.cells [.int .u64 0, .int .i64 0, .int .i64 0] 0 false false)) h'_2.next 0 [.int .u64 n_5, .int .i64 n_6, .int .i64 n_7]))))))) h'_1))) (Heap.newO (Heap.newO h (.cells [.int .i64 v1_0, .int .i64 v1_1, SL.av v1_2, .int .i64 v1_3] 0 false false)) (.cells [.int .u64 0, .int .i64 0, .int .i64 0] 0 false false)))) := by kernel_rfl
end EnN
namespace EnN
open Go Go.X Go.Proofs
theorem bnew_nf (C : ZCall) (lf : Nat) (K : ZK) (h : Heap) (v0 : Nat) (v1_0 : Int) (v1_1 : SL) : zAt Tryz.prog C lf 19 [] (padT (ntOf Tryz.prog 19) [.pv false v0 0, .agg [.int .i64 v1_0, .sl v1_1]]) (zFin Tryz.prog 19 K) ⟨[], zFin
 Tryz.prog 19 K⟩ h = (ZAnd (false = false) (ZLdI (Heap.newO h (.cells [.int .i64 v1_0, SL.av v1_1] 0 false false)) h.next 0 .i64 fun n_1 => ZLdL (Heap.newO h (.cells [.int .i64 v1_0, SL.av
 v1_1] 0 false false)) h.next 1 fun s_1 => C 44 [.agg [.int .i64 n_1, .sl s_1]] (fun v_1 h'_1 => ZRT (ZV.av v_1) 2 fun f_1 => ZRP (f_1 0) fun n_2 j_1 p_1 => ZRI (f_1 1) .i64 fun n_3 => @cnd Prop (!decide
 (n_3 = 0)) (K (.tup [.pv true 0 0, .int .i64 n_3]) h'_1) (C 41 [.pv false v0 0] (fun v_2 h'_2 => ZRI (ZV.av v_2) .i64 fun n_4 => @cnd Prop (!decide (n_4 = 0)) (K (.tup [.pv true 0 0, .int .i64
 152]) h'_2) (C 26 [.pv false v0 0] (fun v_3 h'_3 => ZRI (ZV.av v_3) .i64 fun n_5 => C 45 [.int .i64 n_5, .sl (⟨true, 0, 0, 0, 0, false⟩)] (fun v_4 h'_4 => ZRT (ZV.av v_4) 2 fun f_2 => ZRL (f_2 0) fun s_2 => ZRI
 (f_2 1) .i64 fun n_6 => C 42 [.pv false v0 0, .int .i64 3, .sl s_2] (fun v_5 h'_5 => ZRT (ZV.av v_5) 2 fun f_3 => ZRI (f_3 0) .i64 fun n_7 => ZRI (f_3 1) .i64 fun n_8 => @cnd Prop (decide (n_8 =
 0)) (C 43 [.pv false v0 0, .int .i64 n_7] (fun v_6 h'_6 => ZRI (ZV.av v_6) .i64 fun n_9 => @cnd Prop (!decide (n_9 = 0)) (K (.tup [.pv true 0 0, .int .i64 n_9]) h'_6) (K (.tup [.pv false
 h'_6.next 0, .int .i64 0]) (Heap.newO h'_6 (.cells [.ptr v0 0, match n_2 with | true => .nilp | false => .ptr j_1 p_1, .int .u64 1] 0 false false)))) h'_5) (@cnd Prop (!decide (n_8 = 0)) (K
 (.tup [.pv true 0 0, .int .i64 n_8]) h'_5) (K (.tup [.pv false h'_5.next 0, .int .i64 0]) (Heap.newO h'_5 (.cells [.ptr v0 0, match n_2 with | true => .nilp | false => .ptr j_1 p_1,
 .int .u64 1] 0 false false))))) h'_4) h'_3) h'_2)) h'_1)) (Heap.newO h (.cells [.int .i64 v1_0, SL.av v1_1] 0 false false)))) := by kernel_rfl
end EnN
namespace EnN
open Go Go.X Go.Proofs
theorem may_nf (C : ZCall) (lf : Nat) (K : ZK) (h : Heap) (v0_0 : Int) (v0_1 : Int) (v0_2 : SL) (v0_3 : Int) : zAt Tryz.prog C lf 6 [] (padT (ntOf Tryz.prog 6) [.agg [.int .i64 v0_0, .int .i64 v0_1, .sl v0_2, .int .i64 v0_3]])
 (zFin Tryz.prog 6 K) ⟨[], zFin Tryz.prog 6 K⟩ h = (ZAnd (false = false) (ZAnd (false = false) (ZLdI (Heap.newO h (.cells [.int .i64 v0_0, .int .i64 v0_1, SL.av v0_2, .int .i64 v0_3] 0 false false))
 h.next 1 .i64 fun n_1 => ZLdL (Heap.newO h (.cells [.int .i64 v0_0, .int .i64 v0_1, SL.av v0_2, .int .i64 v0_3] 0 false false)) h.next 2 fun s_1 => ZAnd (false = false) (ZPut
 (Heap.newO (Heap.newO h (.cells [.int .i64 v0_0, .int .i64 v0_1, SL.av v0_2, .int .i64 v0_3] 0 false false)) (.cells [.int .i64 0, .nils] 0 false false)) (Heap.next (Heap.newO h
 (.cells [.int .i64 v0_0, .int .i64 v0_1, SL.av v0_2, .int .i64 v0_3] 0 false false))) 0 2 (ZAnd (false = false) (ZAnd (false = false) (ZLdI (hput (Heap.newO (Heap.newO h (.cells [.int
 .i64 v0_0, .int .i64 v0_1, SL.av v0_2, .int .i64 v0_3] 0 false false)) (.cells [.int .i64 0, .nils] 0 false false)) (Heap.next (Heap.newO h (.cells [.int .i64 v0_0, .int
 .i64 v0_1, SL.av v0_2, .int .i64 v0_3] 0 false false))) 0 [.int .i64 n_1, SL.av s_1]) (Heap.next (Heap.newO h (.cells [.int .i64 v0_0, .int .i64 v0_1, SL.av v0_2, .int .i64
 v0_3] 0 false false))) 0 .i64 fun n_2 => @cnd Prop (decide (1 ≤ n_2)) (ZAnd (false = false) (ZAnd (false = false) (ZLdI (hput (Heap.newO (Heap.newO h (.cells [.int .i64 v0_0, .int .i64 v0_1, SL.av
 v0_2, .int .i64 v0_3] 0 false false)) (.cells [.int .i64 0, .nils] 0 false false)) (Heap.next (Heap.newO h (.cells [.int .i64 v0_0, .int .i64 v0_1, SL.av v0_2, .int .i64 v0_3]
 0 false false))) 0 [.int .i64 n_1, SL.av s_1]) (Heap.next (Heap.newO h (.cells [.int .i64 v0_0, .int .i64 v0_1, SL.av v0_2, .int .i64 v0_3] 0 false false))) 0 .i64 fun n_3 => @cnd
 Prop (cnd true (decide (n_3 ≤ 4)) false) (ZAnd (false = false) (ZAnd (false = false) (ZLdL (hput (Heap.newO (Heap.newO h (.cells [.int .i64 v0_0, .int .i64 v0_1, SL.av v0_2, .int .i64 v0_3] 0 false
 false)) (.cells [.int .i64 0, .nils] 0 false false)) (Heap.next (Heap.newO h (.cells [.int .i64 v0_0, .int .i64 v0_1, SL.av v0_2, .int .i64 v0_3] 0 false false))) 0 [.int .i64
 n_1, SL.av s_1]) (Heap.next (Heap.newO h (.cells [.int .i64 v0_0, .int .i64 v0_1, SL.av v0_2, .int .i64 v0_3] 0 false false))) 1 fun s_2 => @cnd Prop (cnd true (decide (Int.ofNat (SL.n s_2) ≤ 65536))
 false) (ZAnd (false = false) (ZAnd (false = false) (ZLdI (hput (Heap.newO (Heap.newO h (.cells [.int .i64 v0_0, .int .i64 v0_1, SL.av v0_2, .int .i64 v0_3] 0 false false)) (.cells [.int
 .i64 0, .nils] 0 false false)) (Heap.next (Heap.newO h (.cells [.int .i64 v0_0, .int .i64 v0_1, SL.av v0_2, .int .i64 v0_3] 0 false false))) 0 [.int .i64 n_1, SL.av s_1]) (Heap.next
 (Heap.newO h (.cells [.int .i64 v0_0, .int .i64 v0_1, SL.av v0_2, .int .i64 v0_3] 0 false false))) 0 .i64 fun n_4 => @cnd Prop (decide (n_4 = 4)) (ZAnd (false = false) (ZAnd (false = false)
 (ZLdI (hput (Heap.newO (Heap.newO h (.cells [.int .i64 v0_0, .int .i64 v0_1, SL.av v0_2, .int .i64 v0_3] 0 false false)) (.cells [.int .i64 0, .nils] 0 false false)) (Heap.next
 (Heap.newO h (.cells [.int .i64 v0_0, .int .i64 v0_1, SL.av v0_2, .int .i64 v0_3] 0 false false))) 0 [.int .i64 n_1, SL.av s_1]) h.next 3 .i64 fun n_5 => @cnd Prop (decide (1 ≤
 n_5)) (ZAnd (false = false) (ZAnd (false = false) (ZLdI (hput (Heap.newO (Heap.newO h (.cells [.int .i64 v0_0, .int .i64 v0_1, SL.av v0_2, .int .i64 v0_3] 0 false false)) (.cells [.int
 .i64 0, .nils] 0 false false)) (Heap.next (Heap.newO h (.cells [.int .i64 v0_0, .int .i64 v0_1, SL.av v0_2, .int .i64 v0_3] 0 false false))) 0 [.int .i64 n_1, SL.av s_1]) (Heap.next
 h) 3 .i64 fun n_6 => K (.tup [.bool (cnd true (decide (n_6 ≤ 65536)) false), .bool true]) (hput (Heap.newO (Heap.newO h (.cells [.int .i64 v0_0, .int .i64 v0_1, SL.av v0_2, .int .i64
 v0_3] 0 false false)) (.cells [.int .i64 0, .nils] 0 false false)) (Heap.next (Heap.newO h (.cells [.int .i64 v0_0, .int .i64 v0_1, SL.av v0_2, .int .i64 v0_3] 0 false false))) 0
 [.int .i64 n_1, SL.av s_1])))) (K (.tup [.bool false, .bool true]) (hput (Heap.newO (Heap.newO h (.cells [.int .i64 v0_0, .int .i64 v0_1, SL.av v0_2, .int .i64 v0_3] 0 false false))
 (.cells [.int .i64 0, .nils] 0 false false)) (Heap.next (Heap.newO h (.cells [.int .i64 v0_0, .int .i64 v0_1, SL.av v0_2, .int .i64 v0_3] 0 false false))) 0 [.int .i64 n_1,
 SL.av s_1]))))) (ZAnd (false = false) (ZAnd (false = false) (ZLdL (hput (Heap.newO (Heap.newO h (.cells [.int .i64 v0_0, .int .i64 v0_1, SL.av v0_2, .int .i64 v0_3] 0 false false)) (.cells
 [.int .i64 0, .nils] 0 false false)) (Heap.next (Heap.newO h (.cells [.int .i64 v0_0, .int .i64 v0_1, SL.av v0_2, .int .i64 v0_3] 0 false false))) 0 [.int .i64 n_1, SL.av s_1])
 (Heap.next (Heap.newO h (.cells [.int .i64 v0_0, .int .i64 v0_1, SL.av v0_2, .int .i64 v0_3] 0 false false))) 1 fun s_3 => ZAnd (false = false) (ZAnd (false = false) (ZLdI (hput (Heap.newO (Heap.newO
 h (.cells [.int .i64 v0_0, .int .i64 v0_1, SL.av v0_2, .int .i64 v0_3] 0 false false)) (.cells [.int .i64 0, .nils] 0 false false)) (Heap.next (Heap.newO h (.cells [.int
 .i64 v0_0, .int .i64 v0_1, SL.av v0_2, .int .i64 v0_3] 0 false false))) 0 [.int .i64 n_1, SL.av s_1]) h.next 3 .i64 fun n_5 => @cnd Prop (decide (1 ≤ n_5)) (ZAnd (false = false)
 (ZAnd (false = false) (ZLdI (hput (Heap.newO (Heap.newO h (.cells [.int .i64 v0_0, .int .i64 v0_1, SL.av v0_2, .int .i64 v0_3] 0 false false)) (.cells [.int .i64 0, .nils] 0 false
 false)) (Heap.next (Heap.newO h (.cells [.int .i64 v0_0, .int .i64 v0_1, SL.av v0_2, .int .i64 v0_3] 0 false false))) 0 [.int .i64 n_1, SL.av s_1]) h.next 3 .i64 fun n_6 => K
 (.tup [.bool (cnd true (decide (n_6 ≤ 65536)) false), .bool (cnd true (cnd false true (decide (Int.ofNat (SL.n s_3) = 0))) false)]) (hput (Heap.newO (Heap.newO h (.cells [.int .i64 v0_0, .int .i64 v0_1,
 SL.av v0_2, .int .i64 v0_3] 0 false false)) (.cells [.int .i64 0, .nils] 0 false false)) (Heap.next (Heap.newO h (.cells [.int .i64 v0_0, .int .i64 v0_1, SL.av v0_2, .int .i64
 v0_3] 0 false false))) 0 [.int .i64 n_1, SL.av s_1])))) (K (.tup [.bool false, .bool (cnd true (cnd false true (decide (Int.ofNat (SL.n s_3) = 0))) false)]) (hput (Heap.newO (Heap.newO h (.cells [.int
 .i64 v0_0, .int .i64 v0_1, SL.av v0_2, .int .i64 v0_3] 0 false false)) (.cells [.int .i64 0, .nils] 0 false false)) (Heap.next (Heap.newO h (.cells [.int .i64 v0_0, .int
 .i64 v0_1, SL.av v0_2, .int .i64 v0_3] 0 false false))) 0 [.int .i64 n_1, SL.av s_1])))))))))) (ZAnd (false = false) (ZAnd (false = false) (ZLdI (hput (Heap.newO (Heap.newO h (.cells [.int
 .i64 v0_0, .int .i64 v0_1, SL.av v0_2, .int .i64 v0_3] 0 false false)) (.cells [.int .i64 0, .nils] 0 false false)) (Heap.next (Heap.newO h (.cells [.int .i64 v0_0, .int
 .i64 v0_1, SL.av v0_2, .int .i64 v0_3] 0 false false))) 0 [.int .i64 n_1, SL.av s_1]) h.next 3 .i64 fun n_4 => @cnd Prop (decide (1 ≤ n_4)) (ZAnd (false = false) (ZAnd (false = false) (ZLdI
 (hput (Heap.newO (Heap.newO h (.cells [.int .i64 v0_0, .int .i64 v0_1, SL.av v0_2, .int .i64 v0_3] 0 false false)) (.cells [.int .i64 0, .nils] 0 false false)) (Heap.next (Heap.newO h
 (.cells [.int .i64 v0_0, .int .i64 v0_1, SL.av v0_2, .int .i64 v0_3] 0 false false))) 0 [.int .i64 n_1, SL.av s_1]) h.next 3 .i64 fun n_5 => K (.tup [.bool (cnd true
 (decide (n_5 ≤ 65536)) false), .bool false]) (hput (Heap.newO (Heap.newO h (.cells [.int .i64 v0_0, .int .i64 v0_1, SL.av v0_2, .int .i64 v0_3] 0 false false)) (.cells [.int .i64 0,
 .nils] 0 false false)) (Heap.next (Heap.newO h (.cells [.int .i64 v0_0, .int .i64 v0_1, SL.av v0_2, .int .i64 v0_3] 0 false false))) 0 [.int .i64 n_1, SL.av s_1])))) (K (.tup [.bool
 false, .bool false]) (hput (Heap.newO (Heap.newO h (.cells [.int .i64 v0_0, .int .i64 v0_1, SL.av v0_2, .int .i64 v0_3] 0 false false)) (.cells [.int .i64 0, .nils] 0 false false))
 (Heap.next (Heap.newO h (.cells [.int .i64 v0_0, .int .i64 v0_1, SL.av v0_2, .int .i64 v0_3] 0 false false))) 0 [.int .i64 n_1, SL.av s_1])))))))) (ZAnd (false = false) (ZAnd (false = false)
 (ZLdI (hput (Heap.newO (Heap.newO h (.cells [.int .i64 v0_0, .int .i64 v0_1, SL.av v0_2, .int .i64 v0_3] 0 false false)) (.cells [.int .i64 0, .nils] 0 false false)) (Heap.next
 (Heap.newO h (.cells [.int .i64 v0_0, .int .i64 v0_1, SL.av v0_2, .int .i64 v0_3] 0 false false))) 0 [.int .i64 n_1, SL.av s_1]) h.next 3 .i64 fun n_4 => @cnd Prop (decide (1 ≤
 n_4)) (ZAnd (false = false) (ZAnd (false = false) (ZLdI (hput (Heap.newO (Heap.newO h (.cells [.int .i64 v0_0, .int .i64 v0_1, SL.av v0_2, .int .i64 v0_3] 0 false false)) (.cells [.int
 .i64 0, .nils] 0 false false)) (Heap.next (Heap.newO h (.cells [.int .i64 v0_0, .int .i64 v0_1, SL.av v0_2, .int .i64 v0_3] 0 false false))) 0 [.int .i64 n_1, SL.av s_1]) (Heap.next
 h) 3 .i64 fun n_5 => K (.tup [.bool (cnd true (decide (n_5 ≤ 65536)) false), .bool false]) (hput (Heap.newO (Heap.newO h (.cells [.int .i64 v0_0, .int .i64 v0_1, SL.av v0_2, .int .i64
 v0_3] 0 false false)) (.cells [.int .i64 0, .nils] 0 false false)) (Heap.next (Heap.newO h (.cells [.int .i64 v0_0, .int .i64 v0_1, SL.av v0_2, .int .i64 v0_3] 0 false false))) 0
 [.int .i64 n_1, SL.av s_1])))) (K (.tup [.bool false, .bool false]) (hput (Heap.newO (Heap.newO h (.cells [.int .i64 v0_0, .int .i64 v0_1, SL.av v0_2, .int .i64 v0_3] 0 false false))
 (.cells [.int .i64 0, .nils] 0 false false)) (Heap.next (Heap.newO h (.cells [.int .i64 v0_0, .int .i64 v0_1, SL.av v0_2, .int .i64 v0_3] 0 false false))) 0 [.int .i64 n_1,
 SL.av s_1])))))))) (ZAnd (false = false) (ZAnd (false = false) (ZLdI (hput (Heap.newO (Heap.newO h (.cells [.int .i64 v0_0, .int .i64 v0_1, SL.av v0_2, .int .i64 v0_3] 0 false false)) (.cells
 [.int .i64 0, .nils] 0 false false)) (Heap.next (Heap.newO h (.cells [.int .i64 v0_0, .int .i64 v0_1, SL.av v0_2, .int .i64 v0_3] 0 false false))) 0 [.int .i64 n_1, SL.av s_1])
 h.next 3 .i64 fun n_3 => @cnd Prop (decide (1 ≤ n_3)) (ZAnd (false = false) (ZAnd (false = false) (ZLdI (hput (Heap.newO (Heap.newO h (.cells [.int .i64 v0_0, .int .i64 v0_1, SL.av v0_2, .int
 .i64 v0_3] 0 false false)) (.cells [.int .i64 0, .nils] 0 false false)) (Heap.next (Heap.newO h (.cells [.int .i64 v0_0, .int .i64 v0_1, SL.av v0_2, .int .i64 v0_3] 0 false
 false))) 0 [.int .i64 n_1, SL.av s_1]) h.next 3 .i64 fun n_4 => K (.tup [.bool (cnd true (decide (n_4 ≤ 65536)) false), .bool false]) (hput (Heap.newO (Heap.newO h (.cells [.int .i64 v0_0,
 .int .i64 v0_1, SL.av v0_2, .int .i64 v0_3] 0 false false)) (.cells [.int .i64 0, .nils] 0 false false)) (Heap.next (Heap.newO h (.cells [.int .i64 v0_0, .int .i64 v0_1, SL.av
 v0_2, .int .i64 v0_3] 0 false false))) 0 [.int .i64 n_1, SL.av s_1])))) (K (.tup [.bool false, .bool false]) (hput (Heap.newO (Heap.newO h (.cells [.int .i64 v0_0, .int .i64 v0_1,
 SL.av v0_2, .int .i64 v0_3] 0 false false)) (.cells [.int .i64 0, .nils] 0 false false)) (Heap.next (Heap.newO h (.cells [.int .i64 v0_0, .int .i64 v0_1, SL.av v0_2, .int .i64
 v0_3] 0 false false))) 0 [.int .i64 n_1, SL.av s_1])))))))))))) := by kernel_rfl
theorem check_nf (C : ZCall) (lf : Nat) (K : ZK) (h : Heap) (v0_0 : Int) (v0_1 : SL) : zAt Tryz.prog C lf 33 [] (padT (ntOf Tryz.prog 33) [.agg [.int .i64 v0_0, .sl v0_1]]) (zFin Tryz.prog 33 K) ⟨[], zFin Tryz.prog 33 K⟩ h = (ZAnd
 (false = false) (ZAnd (false = false) (ZLdI (Heap.newO h (.cells [.int .i64 v0_0, SL.av v0_1] 0 false false)) h.next 0 .i64 fun n_1 => C 67 [] (fun v_1 h'_1 => ZRM (ZV.av v_1) fun n_2 j_1 => ZAnd (ZAnd
 (false = false) (ZLdI h'_1 h.next 0 .i64 fun n_3 => AV.int .i64 n_3 = .int .i64 n_1)) (ZLook h'_1 n_2 j_1 (.int .i64 n_1) (fun v_2 => ZAnd (isFn v_2 = true) (@cnd Prop (isNilFn v_2) (K
 (.int .i64 161) h'_1) (ZAnd (false = false) (ZAnd (false = false) (ZLdL h'_1 h.next 1 fun s_1 => @cnd Prop (cnd false true (decide (65536 < Int.ofNat (SL.n s_1)))) (K (.int .i64 161) h'_1) (ZAnd (false =
 false) (ZAnd (false = false) (ZLdL h'_1 h.next 1 fun s_2 => @cnd Prop (decide (0 < Int.ofNat (SL.n s_2))) (ZAnd (false = false) (ZAnd (false = false) (ZLdI h'_1 h.next 0 .i64 fun n_3 => @cnd Prop (cnd false
 true (cnd true (!decide (n_3 = 4)) false)) (K (.int .i64 161) h'_1) (K (.int .i64 0) h'_1)))) (K (.int .i64 0) h'_1))))))))) (ZAnd (true = true) (K (.int .i64 161) h'_1)))) (Heap.newO h
 (.cells [.int .i64 v0_0, SL.av v0_1] 0 false false))))) := by kernel_rfl
theorem pnew_nf (C : ZCall) (lf : Nat) (K : ZK) (h : Heap) (v0_0 : Int) (v0_1 : SL) : zAt Tryz.prog C lf 44 [] (padT (ntOf Tryz.prog 44) [.agg [.int .i64 v0_0, .sl v0_1]]) (zFin Tryz.prog 44 K) ⟨[], zFin Tryz.prog 44 K⟩ h = (ZAnd
 (false = false) (ZLdI (Heap.newO h (.cells [.int .i64 v0_0, SL.av v0_1] 0 false false)) h.next 0 .i64 fun n_1 => ZLdL (Heap.newO h (.cells [.int .i64 v0_0, SL.av v0_1] 0 false false))
 h.next 1 fun s_1 => C 33 [.agg [.int .i64 n_1, .sl s_1]] (fun v_1 h'_1 => ZRI (ZV.av v_1) .i64 fun n_2 => @cnd Prop (!decide (n_2 = 0)) (K (.tup [.pv true 0 0, .int .i64 n_2]) h'_1) (ZAnd
 (false = false) (ZAnd (false = false) (ZLdL h'_1 h.next 1 fun s_2 => C 77 [.sl s_2] (fun v_2 h'_2 => ZRL (ZV.av v_2) fun s_3 => ZAnd (false = false) (ZAnd (false = false) (ZPut h'_2 h.next 1 1 (ZAnd (false = false)
 (ZLdI (hput h'_2 h.next 1 [SL.av s_3]) h.next 0 .i64 fun n_3 => ZLdL (hput h'_2 h.next 1 [SL.av s_3]) h.next 1 fun s_4 => K (.tup [.pv false (Heap.next (hput h'_2 h.next 1 [SL.av
 s_3])) 0, .int .i64 0]) (Heap.newO (hput h'_2 h.next 1 [SL.av s_3]) (.cells [.int .i64 n_3, SL.av s_4, .int .i64 (-1), .int .i64 0] 0 false false))))))) h'_1)))) (Heap.newO h
 (.cells [.int .i64 v0_0, SL.av v0_1] 0 false false)))) := by kernel_rfl
theorem clone_nf (C : ZCall) (lf : Nat) (K : ZK) (h : Heap) (v0 : SL) : zAt Tryz.prog C lf 77 [] (padT (ntOf Tryz.prog 77) [.sl v0]) (zFin Tryz.prog 77 K) ⟨[], zFin Tryz.prog 77 K⟩ h = (@cnd Prop (SL.isNil v0) (K (.sl (SL.mk
 true 0 0 0 0 false)) h) (ZSrc (Heap.newO h (.cells [] 1 false false)) v0 1 fun ds_1 => ZApp Tryz.prog (Heap.newO h (.cells [] 1 false false)) (SL.mk false h.next 0 0 0 false) 3 1 (SL.n v0) ds_1 (K (.sl (SL.app
 (SL.mk false h.next 0 0 0 false) (Heap.next (Heap.newO h (.cells [] 1 false false))) (SL.n v0))) (happ (Heap.newO h (.cells [] 1 false false)) (SL.mk false h.next 0 0 0 false) 1 (SL.n v0) ds_1)))) := by
 kernel_rfl
theorem is_nf (C : ZCall) (lf : Nat) (K : ZK) (h : Heap) (v0 : AV) (v1 : Int) : zAt Tryz.prog C lf 10 [] (padT (ntOf Tryz.prog 10) [.any v0, .int .i64 v1]) (zFin Tryz.prog 10 K) ⟨[], zFin Tryz.prog 10 K⟩ h = (@cnd Prop (decide (v1
 = 0)) (ZAnd (isIf v0 = true) (K (.bool (isNilIf v0)) h)) (C 24 [.any v0, .iface 43 (.int .i64 v1)] (fun v_1 h'_1 => ZRB (ZV.av v_1) fun b_1 => K (.bool b_1) h'_1) h)) := by kernel_rfl
theorem num_nf (C : ZCall) (lf : Nat) (K : ZK) (h : Heap) (v0 : Int) : zAt Tryz.prog C lf 32 [] (padT (ntOf Tryz.prog 32) [.int .i64 v0]) (zFin Tryz.prog 32 K) ⟨[], zFin Tryz.prog 32 K⟩ h = (@cnd Prop (decide (v0 = 0)) (K (.any
 .nilIface) h) (K (.iface 43 (.int .i64 v0)) h)) := by kernel_rfl
end EnN
namespace EnN
open Go Go.X Go.Proofs
theorem choices_nf (C : ZCall) (lf : Nat) (K : ZK) (h : Heap) : zAt Tryz.prog C lf 67 [] (padT (ntOf Tryz.prog 67) []) (zFin Tryz.prog 67 K) ⟨[], zFin Tryz.prog 67 K⟩ h = (ZMap (Heap.newO h (AObj.map [] 0)) false h.next
 (AV.int .i64 1) (ZMap (hmap (Heap.newO h (AObj.map [] 0)) h.next (mset (AV.int .i64 1) (AV.func (AFn.plain (Fn.func 121)) [] []))) false h.next (AV.int .i64 3) (ZMap (hmap (hmap (Heap.newO h
 (AObj.map [] 0)) h.next (mset (AV.int .i64 1) (AV.func (AFn.plain (Fn.func 121)) [] []))) h.next (mset (AV.int .i64 3) (AV.func (AFn.plain (Fn.func 121)) [] []))) false h.next (AV.int .i64
 2) (ZMap (hmap (hmap (hmap (Heap.newO h (AObj.map [] 0)) h.next (mset (AV.int .i64 1) (AV.func (AFn.plain (Fn.func 121)) [] []))) h.next (mset (AV.int .i64 3) (AV.func (AFn.plain (Fn.func 121)) [] [])))
 h.next (mset (AV.int .i64 2) (AV.func (AFn.plain (Fn.func 122)) [] []))) false h.next (AV.int .i64 4) (K (ZV.mp false h.next) (hmap (hmap (hmap (hmap (Heap.newO h (AObj.map [] 0)) h.next
 (mset (AV.int .i64 1) (AV.func (AFn.plain (Fn.func 121)) [] []))) h.next (mset (AV.int .i64 3) (AV.func (AFn.plain (Fn.func 121)) [] []))) h.next (mset (AV.int .i64 2) (AV.func (AFn.plain
 (Fn.func 122)) [] []))) h.next (mset (AV.int .i64 4) (AV.func (AFn.plain (Fn.func 123)) [] [])))))))) := by kernel_rfl
end EnN
namespace EnN
open Go Go.X Go.Proofs
section
variable {S : ZSums} {lf n : Nat} {h : Heap} {K : ZK}
abbrev cfg (k pk : Int) (s : SL) (c : Int) : List AV := [AV.int IntKind.i64 k, AV.int IntKind.i64 pk, s.av, AV.int IntKind.i64 c]
noncomputable def mayH (h : Heap) (k pk : Int) (s : SL) (c : Int) : Heap :=
  hput (Heap.newO (Heap.newO h (.cells (cfg k pk s c) 0 false false)) (.cells [AV.int IntKind.i64 0, AV.nils] 0 false false)) (Heap.next (Heap.newO h (.cells (cfg k pk s c) 0 false false))) 0 [AV.int IntKind.i64 pk, s.av]
def cacB (c : Int) : Bool := decide (1 ≤ c) && decide (c ≤ 65536)
def polB (pk : Int) (n : Nat) : Bool := decide (1 ≤ pk) && decide (pk ≤ 4) && decide (n ≤ 65536) && (decide (pk = 4) || decide (n = 0))
theorem cac_tail {H : Heap} {i : Nat} {k pk c : Int} {s : SL} (v : Var H i (cfg k pk s c)) {b2 : Bool} (hk : K (.tup [.bool (cacB c), .bool b2]) H) :
    ZAnd (false = false) (ZAnd (false = false) (ZLdI H i 3 IntKind.i64 fun n_5 => @cnd Prop (decide (1 ≤ n_5)) (ZAnd (false = false) (ZAnd (false = false) (ZLdI H i 3 IntKind.i64 fun n_6 => K (ZV.tup [ZV.bool (cnd true (decide (n_6 ≤ 65536)) false), ZV.bool b2]) H))) (K (ZV.tup [ZV.bool false, ZV.bool b2]) H))) := by
  refine ⟨rfl, rfl, v.ldI c rfl ?_⟩
  by_cases h5 : 1 ≤ c
  · refine cndP_t (decide_eq_true h5) ⟨rfl, rfl, v.ldI c rfl ?_⟩
    have : cacB c = cnd true (decide (c ≤ 65536)) false := by unfold cacB; rw [decide_eq_true h5, Bool.true_and]; rfl
    rw [this] at hk; exact hk
  · refine cndP_f (decide_eq_false h5) ?_
    have : cacB c = false := by unfold cacB; rw [decide_eq_false h5, Bool.false_and]
    rw [this] at hk; exact hk
theorem may_ok (hS : S 6 = none) (k pk : Int) (s : SL) (c : Int) (hk : K (.tup [.bool (cacB c), .bool (polB pk s.n)]) (mayH h k pk s c)) :
    zCall Tryz.prog S lf (n + 1) 6 [.agg [.int .i64 k, .int .i64 pk, .sl s, .int .i64 c]] K h := by
  refine zCall_at hS (by kernel_rfl) ?_
  rw [may_nf]
  have v1 := Var.new h (cfg k pk s c)
  have f2 : Fram nowhere (Heap.newO h (.cells (cfg k pk s c) 0 false false)) _ := Fram.newO nowhere _ (.cells [AV.int IntKind.i64 0, AV.nils] 0 false false)
  have v2 := Var.new (Heap.newO h (.cells (cfg k pk s c) 0 false false)) [AV.int IntKind.i64 0, AV.nils]
  have v3 := Var.put_all v2 (vs := [AV.int IntKind.i64 pk, s.av]) rfl
  have v4 := (v1.fr f2 id).fr (Fram.hput (S := fun j => j = h.next + 1) _ (i := h.next + 1) 0 [AV.int IntKind.i64 pk, s.av] fun _ => rfl) (by show ¬ h.next = h.next + 1; omega)
  refine ⟨rfl, rfl, v1.ldI pk rfl (v1.ldL s rfl ⟨rfl, v2.zput (by simp) ⟨rfl, rfl, v3.ldI pk rfl ?_⟩⟩)⟩
  have e_ : ∀ m : Nat, (Int.ofNat m : Int) = m := fun _ => rfl
  have tl : ∀ b2, polB pk s.n = b2 → K (.tup [.bool (cacB c), .bool b2]) (mayH h k pk s c) := fun b2 hb => by subst hb; exact hk
  unfold mayH at tl
  by_cases h1 : 1 ≤ pk
  · refine cndP_t (decide_eq_true h1) ⟨rfl, rfl, v3.ldI pk rfl ?_⟩
    by_cases h2 : pk ≤ 4
    · refine cndP_t (decide_eq_true h2) ⟨rfl, rfl, v3.ldL s rfl ?_⟩
      by_cases h3 : s.n ≤ 65536
      · refine cndP_t (show decide (Int.ofNat s.n ≤ 65536) = true from decide_eq_true (by rw [e_]; omega)) ⟨rfl, rfl, v3.ldI pk rfl ?_⟩
        by_cases h4 : pk = 4
        · refine cndP_t (decide_eq_true h4) (cac_tail v4 (tl _ ?_))
          unfold polB; rw [decide_eq_true h1, decide_eq_true h2, decide_eq_true h3, decide_eq_true h4]; rfl
        · refine cndP_f (decide_eq_false h4) ⟨rfl, rfl, v3.ldL s rfl (cac_tail v4 (tl _ ?_))⟩
          unfold polB; rw [decide_eq_true h1, decide_eq_true h2, decide_eq_true h3, decide_eq_false h4]
          show decide (s.n = 0) = decide (Int.ofNat s.n = 0)
          exact decide_eq_decide.2 (by rw [e_]; omega)
      · refine cndP_f (show decide (Int.ofNat s.n ≤ 65536) = false from decide_eq_false (by rw [e_]; omega)) (cac_tail v4 (tl _ ?_))
        unfold polB; rw [decide_eq_false h3, Bool.and_false, Bool.false_and]
    · refine cndP_f (decide_eq_false h2) (cac_tail v4 (tl _ ?_))
      unfold polB; rw [decide_eq_false h2, Bool.and_false, Bool.false_and, Bool.false_and]
  · refine cndP_f (decide_eq_false h1) (cac_tail v4 (tl _ ?_))
    unfold polB; rw [decide_eq_false h1, Bool.false_and, Bool.false_and, Bool.false_and]
noncomputable def choE : List (AV × AV) := mset (AV.int IntKind.i64 4) (AV.func (AFn.plain (Fn.func 123)) [] []) (mset (AV.int IntKind.i64 2) (AV.func (AFn.plain (Fn.func 122)) [] []) (mset (AV.int IntKind.i64 3) (AV.func (AFn.plain (Fn.func 121)) [] []) (mset (AV.int IntKind.i64 1) (AV.func (AFn.plain (Fn.func 121)) [] []) [])))
noncomputable def choH (h : Heap) : Heap := h.newO (.map choE 4)
theorem choices_ok (hS : S 67 = none) (hk : K (.mp false h.next) (choH h)) : zCall Tryz.prog S lf (n + 1) 67 [] K h := by
  refine zCall_at hS (by kernel_rfl) ?_
  rw [choices_nf, hmap_newO, hmap_newO, hmap_newO, hmap_newO]
  have mk : ∀ (es : List (AV × AV)) (v : Nat) (key : AV) (A : Prop), keysFit es key = true → A → ZMap (h.newO (.map es v)) false h.next key A := fun es v key A hf ha => ⟨rfl, Nat.lt_succ_self _, ⟨es, v, newO_get_self _ _, hf⟩, ha⟩
  exact mk _ _ _ _ (by kernel_rfl) (mk _ _ _ _ (by kernel_rfl) (mk _ _ _ _ (by kernel_rfl) (mk _ _ _ _ (by kernel_rfl) hk)))
noncomputable def chkH (h : Heap) (pk : Int) (s : SL) : Heap := choH (h.newO (.cells [AV.int IntKind.i64 pk, s.av] 0 false false))
theorem look_cho (pk : Int) : (mlook choE (AV.int IntKind.i64 pk) = none ∧ ¬ (1 ≤ pk ∧ pk ≤ 4)) ∨ (∃ f, mlook choE (AV.int IntKind.i64 pk) = some (AV.func (AFn.plain (Fn.func f)) [] []) ∧ 1 ≤ pk ∧ pk ≤ 4) := by
  match pk with
  | .negSucc m => exact .inl ⟨by kernel_rfl, by omega⟩
  | .ofNat 0 => exact .inl ⟨by kernel_rfl, by decide⟩
  | .ofNat 1 => exact .inr ⟨121, by kernel_rfl, by decide, by decide⟩
  | .ofNat 2 => exact .inr ⟨122, by kernel_rfl, by decide, by decide⟩
  | .ofNat 3 => exact .inr ⟨121, by kernel_rfl, by decide, by decide⟩
  | .ofNat 4 => exact .inr ⟨123, by kernel_rfl, by decide, by decide⟩
  | .ofNat (m + 5) => exact .inl ⟨by kernel_rfl, fun ⟨_, h⟩ => by have : ((m + 5 : Nat) : Int) ≤ 4 := h; omega⟩
theorem check_ok (hS : S 33 = none) (hS2 : S 67 = none) (pk : Int) (s : SL) (hk : K (.int .i64 (if polB pk s.n = true then 0 else 161)) (chkH h pk s)) :
    zCall Tryz.prog S lf (n + 2) 33 [.agg [.int .i64 pk, .sl s]] K h := by
  refine zCall_at hS (by kernel_rfl) ?_
  rw [check_nf]
  have v1 := Var.new h [AV.int IntKind.i64 pk, s.av]
  have f2 : Fram nowhere (h.newO (.cells [AV.int IntKind.i64 pk, s.av] 0 false false)) (chkH h pk s) := Fram.newO nowhere _ _
  have v2 := v1.fr f2 id
  have e_ : ∀ m : Nat, (Int.ofNat m : Int) = m := fun _ => rfl
  have yes : polB pk s.n = true → K (.int .i64 0) (chkH h pk s) := fun e => by rw [if_pos e] at hk; exact hk
  have no : polB pk s.n = false → K (.int .i64 161) (chkH h pk s) := fun e => by rw [e] at hk; exact hk
  refine ⟨rfl, rfl, v1.ldI pk rfl (choices_ok hS2 ⟨false, _, by kernel_rfl, ⟨⟨rfl, v2.ldI pk rfl rfl⟩, ⟨fun e => (by cases e), fun _ => ⟨choE, 4, newO_get_self _ _, by kernel_rfl, fun v hv => ?_, fun hv => ?_⟩⟩⟩⟩)⟩
  · rcases look_cho pk with ⟨e, _⟩ | ⟨f, e, h1, h2⟩
    · rw [e] at hv; cases hv
    · rw [e] at hv
      cases hv
      refine ⟨rfl, nay ⟨rfl, rfl, v2.ldL s rfl ?_⟩⟩
      by_cases h3 : s.n ≤ 65536
      · refine cndP_f (show decide (65536 < Int.ofNat s.n) = false from decide_eq_false (by rw [e_]; omega)) ⟨rfl, rfl, v2.ldL s rfl ?_⟩
        by_cases h7 : s.n = 0
        · refine cndP_f (decide_eq_false (by rw [e_]; omega)) (yes ?_)
          unfold polB; rw [decide_eq_true h1, decide_eq_true h2, decide_eq_true h3, decide_eq_true h7, Bool.or_true]; rfl
        · refine cndP_t (decide_eq_true (by rw [e_]; omega)) ⟨rfl, rfl, v2.ldI pk rfl ?_⟩
          by_cases h4 : pk = 4
          · refine cndP_f (show (!decide (pk = 4)) = false by rw [decide_eq_true h4]; rfl) (yes ?_)
            unfold polB; rw [decide_eq_true h1, decide_eq_true h2, decide_eq_true h3, decide_eq_true h4]; rfl
          · refine cndP_t (show (!decide (pk = 4)) = true by rw [decide_eq_false h4]; rfl) (no ?_)
            unfold polB; rw [decide_eq_false h4, decide_eq_false h7, Bool.or_false, Bool.and_false]
      · refine cndP_t (show decide (65536 < Int.ofNat s.n) = true from decide_eq_true (by rw [e_]; omega)) (no ?_)
        unfold polB; rw [decide_eq_false h3, Bool.and_false, Bool.false_and]
  · rcases look_cho pk with ⟨_, h1⟩ | ⟨f, e, _⟩
    · refine ⟨rfl, no ?_⟩
      unfold polB
      by_cases h2 : 1 ≤ pk
      · rw [decide_eq_false (show ¬ pk ≤ 4 from fun h => h1 ⟨h2, h⟩), Bool.and_false, Bool.false_and, Bool.false_and]
      · rw [decide_eq_false h2, Bool.false_and, Bool.false_and, Bool.false_and]
    · rw [e] at hv; cases hv
theorem num_ok (hS : S 32 = none) (e : Int) (hk : K (if e = 0 then .any .nilIface else .iface 43 (.int .i64 e)) h) : zCall Tryz.prog S lf (n + 1) 32 [.int .i64 e] K h := by
  refine zCall_at hS (by kernel_rfl) ?_
  rw [num_nf]
  by_cases h0 : e = 0
  · rw [if_pos h0] at hk; exact cndP_t (decide_eq_true h0) hk
  · rw [if_neg h0] at hk; exact cndP_f (decide_eq_false h0) hk
noncomputable def cfgH (h : Heap) (k pk : Int) (s : SL) (c : Int) : Heap := h.newO (.cells (cfg k pk s c) 0 false false)
theorem emayN_ok (hS : S 16 = none) (k pk : Int) (s : SL) (c : Int) (hk : K (.iface 43 (.int .i64 1)) (cfgH h k pk s c)) :
    zCall Tryz.prog S lf (n + 1) 16 [.pv true 0 0, .agg [.int .i64 k, .int .i64 pk, .sl s, .int .i64 c]] K h := by
  refine zCall_at hS (by kernel_rfl) ?_
  rw [emayN_nf]
  exact hk
theorem emay_ok (hS : S 16 = none) (hS3 : S 33 = none) (hS6 : S 67 = none) (hS2 : S 32 = none) (d : Nat) (k pk : Int) (s : SL) (c : Int)
    (hc : cacB c = false → K (.iface 43 (.int .i64 1)) (cfgH h k pk s c))
    (hp : cacB c = true → polB pk s.n = false → K (.any (.iface 43 (.int .i64 161))) (chkH (cfgH h k pk s c) pk s))
    (ho : cacB c = true → polB pk s.n = true → K (.any .nilIface) (chkH (cfgH h k pk s c) pk s)) :
    zCall Tryz.prog S lf (n + 3) 16 [.pv false d 0, .agg [.int .i64 k, .int .i64 pk, .sl s, .int .i64 c]] K h := by
  refine zCall_at hS (by kernel_rfl) ?_
  rw [emay_nf]
  have v1 := Var.new h (cfg k pk s c)
  refine ⟨rfl, rfl, v1.ldI c rfl ?_⟩
  by_cases h1 : c < 1
  · refine cndP_t (show decide (c < 1) = true from decide_eq_true h1) (hc ?_)
    unfold cacB; rw [decide_eq_false (by omega), Bool.false_and]
  · refine cndP_f (show decide (c < 1) = false from decide_eq_false h1) ⟨rfl, rfl, v1.ldI c rfl ?_⟩
    by_cases h2 : 65536 < c
    · refine cndP_t (show decide (65536 < c) = true from decide_eq_true h2) (hc ?_)
      unfold cacB; rw [decide_eq_false (show ¬ c ≤ 65536 by omega), Bool.and_false]
    · have hcac : cacB c = true := by unfold cacB; rw [decide_eq_true (show 1 ≤ c by omega), decide_eq_true (show c ≤ 65536 by omega)]; rfl
      refine cndP_f (show decide (65536 < c) = false from decide_eq_false h2) ⟨rfl, rfl, v1.ldI pk rfl (v1.ldL s rfl (check_ok hS3 hS6 pk s ?_))⟩
      cases hb : polB pk s.n with
      | true =>
        rw [if_pos rfl]
        exact ⟨0, by rw [av_int], num_ok hS2 0 (by rw [if_pos rfl, av_any]; exact ho hcac hb)⟩
      | false =>
        rw [if_neg (by decide)]
        refine ⟨161, by rw [av_int], num_ok hS2 161 ?_⟩
        rw [if_neg (by decide), av_iface, av_int]
        exact hp hcac hb
theorem createN_bad (hS : S 7 = none) (k pk : Int) (s : SL) (c : Int) (h1 : k ≠ 1) (h2 : k ≠ 2) (hk : K (.tup [.pv true 0 0, .iface 43 (.int .i64 1)]) (cfgH h k pk s c)) :
    zCall Tryz.prog S lf (n + 1) 7 [.pv true 0 0, .agg [.int .i64 k, .int .i64 pk, .sl s, .int .i64 c]] K h := by
  refine zCall_at hS (by kernel_rfl) ?_
  rw [createN_nf]
  have v1 := Var.new h (cfg k pk s c)
  refine ⟨rfl, rfl, v1.ldI k rfl (cndP_t (show (!decide (k = 1)) = true by rw [decide_eq_false h1]; rfl) ⟨rfl, rfl, v1.ldI k rfl (cndP_t (show (!decide (k = 2)) = true by rw [decide_eq_false h2]; rfl) hk)⟩)⟩
theorem createN_ok (hS : S 7 = none) (hS2 : S 16 = none) (k pk : Int) (s : SL) (c : Int) (h1 : k = 1 ∨ k = 2) (hk : K (.tup [.pv true 0 0, .any (.iface 43 (.int .i64 1))]) (cfgH (cfgH h k pk s c) k pk s c)) :
    zCall Tryz.prog S lf (n + 2) 7 [.pv true 0 0, .agg [.int .i64 k, .int .i64 pk, .sl s, .int .i64 c]] K h := by
  refine zCall_at hS (by kernel_rfl) ?_
  rw [createN_nf]
  have v1 := Var.new h (cfg k pk s c)
  by_cases e1 : k = 1
  · refine ⟨rfl, rfl, v1.ldI k rfl (cndP_f (show (!decide (k = 1)) = false by rw [decide_eq_true e1]; rfl) ⟨rfl, v1.ldI k rfl (v1.ldI pk rfl (v1.ldL s rfl (v1.ldI c rfl (emayN_ok hS2 k pk s c ?_))))⟩)⟩
    rw [av_iface, av_int]
    exact ⟨rfl, yea hk⟩
  · have e2 : k = 2 := h1.resolve_left e1
    refine ⟨rfl, rfl, v1.ldI k rfl (cndP_t (show (!decide (k = 1)) = true by rw [decide_eq_false e1]; rfl) ⟨rfl, rfl, v1.ldI k rfl (cndP_f (show (!decide (k = 2)) = false by rw [decide_eq_true e2]; rfl) ⟨rfl, v1.ldI k rfl (v1.ldI pk rfl (v1.ldL s rfl (v1.ldI c rfl (emayN_ok hS2 k pk s c ?_))))⟩)⟩)⟩
    rw [av_iface, av_int]
    exact ⟨rfl, yea hk⟩
abbrev fnd : List AV := [AV.int IntKind.u64 0, AV.int IntKind.i64 0, AV.int IntKind.i64 0]
noncomputable def openH (h : Heap) (k pk : Int) (s : SL) (c : Int) : Heap := hput (cfgH ((cfgH h k pk s c).newO (.cells fnd 0 false false)) k pk s c) (cfgH h k pk s c).next 0 fnd
theorem openN_ok (hS : S 8 = none) (hS2 : S 16 = none) (k pk : Int) (s : SL) (c : Int) (hk : K (.tup [.pv true 0 0, .agg [.int .u64 0, .int .i64 0, .int .i64 0], .any (.iface 43 (.int .i64 1))]) (openH h k pk s c)) :
    zCall Tryz.prog S lf (n + 2) 8 [.pv true 0 0, .agg [.int .i64 k, .int .i64 pk, .sl s, .int .i64 c]] K h := by
  refine zCall_at hS (by kernel_rfl) ?_
  rw [openN_nf]
  have f1 : Fram nowhere (cfgH h k pk s c) _ := Fram.newO nowhere _ (.cells fnd 0 false false)
  have v1 := (Var.new h (cfg k pk s c)).fr f1 id
  have v2 := Var.new (cfgH h k pk s c) fnd
  have f3 : Fram nowhere ((cfgH h k pk s c).newO (.cells fnd 0 false false)) (cfgH ((cfgH h k pk s c).newO (.cells fnd 0 false false)) k pk s c) := Fram.newO nowhere _ _
  have v3 := v2.fr f3 id
  have v4 := Var.put_all v3 (vs := fnd) rfl
  refine ⟨rfl, v1.ldI k rfl (v1.ldI pk rfl (v1.ldL s rfl (v1.ldI c rfl (emayN_ok hS2 k pk s c ?_))))⟩
  rw [av_iface, av_int]
  exact ⟨rfl, yea ⟨rfl, v3.zput (by simp) ⟨rfl, v4.ldI 0 rfl (v4.ldI 0 rfl (v4.ldI 0 rfl hk))⟩⟩⟩
theorem is_ok (hS : S 10 = none) (hS2 : S 24 = some (fun args K h => ∃ n : Int, avs args = [AV.iface 43 (.int .i64 n), AV.iface 43 (.int .i64 n)] ∧ K (.bool true) h)) (e : Int) (h0 : e ≠ 0) (hk : K (.bool true) h) :
    zCall Tryz.prog S lf (n + 2) 10 [.any (.iface 43 (.int .i64 e)), .int .i64 e] K h := by
  refine zCall_at hS (by kernel_rfl) ?_
  rw [is_nf]
  refine cndP_f (decide_eq_false h0) (zCall_sum (by kernel_rfl) hS2 ⟨e, ?_, ?_⟩)
  · rw [avs_cons, avs_cons, avs_nil, av_any, av_iface, av_int]
  · exact ⟨true, by rw [av_bool], hk⟩
theorem is_nil_ok (hS : S 10 = none) (hk : K (.bool true) h) : zCall Tryz.prog S lf (n + 1) 10 [.any .nilIface, .int .i64 0] K h := by
  refine zCall_at hS (by kernel_rfl) ?_
  rw [is_nf]
  exact yea ⟨rfl, hk⟩
end
end EnN
namespace EnN
open Go Go.X Go.Proofs
section
variable {S : ZSums} {lf n : Nat} {h : Heap} {K : ZK}
theorem check_yes (hS : S 33 = none) (hS2 : S 67 = none) (pk : Int) (s : SL) (hp : polB pk s.n = true) (hk : K (.int .i64 0) (chkH h pk s)) :
    zCall Tryz.prog S lf (n + 2) 33 [.agg [.int .i64 pk, .sl s]] K h :=
  check_ok hS hS2 pk s (by rw [if_pos hp]; exact hk)
theorem create_kind (hS : S 7 = none) (d : Nat) (k pk : Int) (s : SL) (c : Int) (h1 : k ≠ 1) (h2 : k ≠ 2) (hk : K (.tup [.pv true 0 0, .iface 43 (.int .i64 1)]) (cfgH h k pk s c)) :
    zCall Tryz.prog S lf (n + 1) 7 [.pv false d 0, .agg [.int .i64 k, .int .i64 pk, .sl s, .int .i64 c]] K h := by
  refine zCall_at hS (by kernel_rfl) ?_
  rw [create_nf]
  have v1 := Var.new h (cfg k pk s c)
  exact ⟨rfl, rfl, v1.ldI k rfl (cndP_t (show (!decide (k = 1)) = true by rw [decide_eq_false h1]; rfl) ⟨rfl, rfl, v1.ldI k rfl (cndP_t (show (!decide (k = 2)) = true by rw [decide_eq_false h2]; rfl) hk)⟩)⟩
theorem create_bad (hS : S 7 = none) (hS0 : S 16 = none) (hS3 : S 33 = none) (hS6 : S 67 = none) (hS2 : S 32 = none) (d : Nat) (k pk : Int) (s : SL) (c : Int) (h1 : k = 1 ∨ k = 2)
    (hc : cacB c = false → K (.tup [.pv true 0 0, .any (.iface 43 (.int .i64 1))]) (cfgH (cfgH h k pk s c) k pk s c))
    (hp : cacB c = true → polB pk s.n = false → K (.tup [.pv true 0 0, .any (.iface 43 (.int .i64 161))]) (chkH (cfgH (cfgH h k pk s c) k pk s c) pk s))
    (ho : ¬ (cacB c = true ∧ polB pk s.n = true)) :
    zCall Tryz.prog S lf (n + 4) 7 [.pv false d 0, .agg [.int .i64 k, .int .i64 pk, .sl s, .int .i64 c]] K h := by
  refine zCall_at hS (by kernel_rfl) ?_
  rw [create_nf]
  have v1 := Var.new h (cfg k pk s c)
  have e1 : ∀ x : Int, (ZV.iface 43 (.int .i64 x)).av = .iface 43 (.int .i64 x) := fun x => by rw [av_iface, av_int]
  by_cases e : k = 1
  · refine ⟨rfl, rfl, v1.ldI k rfl (cndP_f (show (!decide (k = 1)) = false by rw [decide_eq_true e]; rfl) ⟨rfl, v1.ldI k rfl (v1.ldI pk rfl (v1.ldL s rfl (v1.ldI c rfl (emay_ok hS0 hS3 hS6 hS2 d k pk s c ?_ ?_ ?_))))⟩)⟩
    · exact fun a => by rw [e1]; exact ⟨rfl, yea (hc a)⟩
    · exact fun a b => ⟨by rw [av_any]; rfl, yea (by rw [av_any]; exact hp a b)⟩
    · exact fun a b => absurd ⟨a, b⟩ ho
  · have e2 : k = 2 := h1.resolve_left e
    refine ⟨rfl, rfl, v1.ldI k rfl (cndP_t (show (!decide (k = 1)) = true by rw [decide_eq_false e]; rfl) ⟨rfl, rfl, v1.ldI k rfl (cndP_f (show (!decide (k = 2)) = false by rw [decide_eq_true e2]; rfl) ⟨rfl, v1.ldI k rfl (v1.ldI pk rfl (v1.ldL s rfl (v1.ldI c rfl (emay_ok hS0 hS3 hS6 hS2 d k pk s c ?_ ?_ ?_))))⟩)⟩)⟩
    · exact fun a => by rw [e1]; exact ⟨rfl, yea (hc a)⟩
    · exact fun a b => ⟨by rw [av_any]; rfl, yea (by rw [av_any]; exact hp a b)⟩
    · exact fun a b => absurd ⟨a, b⟩ ho
abbrev clEmpty (h : Heap) : Heap := h.newO (.cells [] 1 false false)
abbrev clInts (h : Heap) (l : List Int) : Heap := (clEmpty h).newO (.cells (l.map (AV.int .i64)) 1 true false)
theorem clone_nil (hS : S 77 = none) (s : SL) (e : s.isNil = true) (hk : K (.sl ⟨true, 0, 0, 0, 0, false⟩) h) : zCall Tryz.prog S lf (n + 1) 77 [.sl s] K h := by
  refine zCall_at hS (by kernel_rfl) ?_
  rw [clone_nf]
  exact cndP_t e hk
theorem clone_none (hS : S 77 = none) (s : SL) (e : s.isNil = false) (e0 : s.nil = true) (hk : K (.sl ⟨false, h.next, 0, 0, 0, false⟩) (clEmpty h)) : zCall Tryz.prog S lf (n + 1) 77 [.sl s] K h := by
  refine zCall_at hS (by kernel_rfl) ?_
  rw [clone_nf]
  refine cndP_f e ⟨[], fun _ => rfl, fun e1 => (by rw [e0] at e1; cases e1), ?_⟩
  exact app_new_none (Q := fun h s => K (.sl s) h) (by unfold SL.n; rw [e0]) hk
theorem clone_ints (hS : S 77 = none) (s : SL) (l : List Int) (hb : Ints (clEmpty h) s l) (hb0 : Ints h s l) (hl : l ≠ []) (hn : l.length ≤ 65536) (e : s.isNil = false)
    (hk : K (.sl ⟨false, h.next + 1, 0, l.length, l.length, true⟩) (clInts h l)) : zCall Tryz.prog S lf (n + 1) 77 [.sl s] K h := by
  refine zCall_at hS (by kernel_rfl) ?_
  rw [clone_nf]
  refine cndP_f e (hb.zsrc ?_)
  refine app_new_ints (Q := fun h s => K (.sl s) h) hb0 hl ?_ hk
  have hb : bytesO Tryz.prog 3 = some 8 := by kernel_rfl
  unfold roomB
  rw [hb]
  show cnd (Nat.ble (Nat.mul l.length 8) most) (Nat.ble l.length most) false = true
  have hm : 524288 ≤ most := by decide
  rw [Nat.ble_eq_true_of_le (show Nat.mul l.length 8 ≤ most from Nat.le_trans (show l.length * 8 ≤ 524288 by omega) hm), cnd_t, Nat.ble_eq_true_of_le (show l.length ≤ most by omega)]
abbrev polV (h : Heap) (pk : Int) (s : SL) : Heap := h.newO (.cells [AV.int IntKind.i64 pk, s.av] 0 false false)
end
end EnN
