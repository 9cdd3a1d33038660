/-
  PROVED: what pieces of the code of pages, of their making and opening, and of the law say, as propositions over abstract heaps. No condition.
-/
import Derived.Test.YtghpkpddmicleaaGreatDoorXh
import Derived.Test.YtghpkpddmicleaaGreatDoorProg
import Derived.KernelRfl
set_option linter.unusedVariables false
set_option linter.unusedSimpArgs false
set_option maxRecDepth 1000000
namespace BnN
open Go Go.X Go.Proofs
theorem seal_nf (C : ZCall) (lf : Nat) (K : ZK) (h : Heap) (v0 : Int) (v1_0 : Int) (v1_1 : Int) (v1_2 : Int) (v2 : SL) : zAt Tryz.prog C lf 90 [] (padT (ntOf Tryz.prog 90) [.int .i64 v0, .agg [.int .i64 v1_0, .int .i64 v1_1, .int
 .u64 v1_2], .sl v2]) (zFin Tryz.prog 90 K) ⟨[], zFin Tryz.prog 90 K⟩ h = (C 91 [ZV.int .i64 v0] (fun v_1 h'_1 => ZRB (ZV.av v_1) fun b_1 => @cnd Prop (!b_1) (K (ZV.tup [ZV.sl (SL.mk true 0 0 0 0 false), ZV.int .i64
 1]) h'_1) (ZAnd (false = false) (ZAnd (false = false) (ZLdI h'_1 h.next 1 .i64 fun n_1 => @cnd Prop (cnd false true (decide (n_1 < 0))) (K (ZV.tup [ZV.sl (SL.mk true 0 0 0 0 false), ZV.int .i64 1]) h'_1) (ZAnd
 (false = false) (ZAnd (false = false) (ZLdI h'_1 h.next 0 .i64 fun n_2 => ZAnd (false = false) (ZAnd (false = false) (ZLdI h'_1 h.next 1 .i64 fun n_3 => ZW .u64 n_3 fun r_1 => C 118 [ZV.int
 .i64 n_2, ZV.int .u64 r_1] (fun v_2 h'_2 => ZRB (ZV.av v_2) fun b_2 => @cnd Prop (cnd false true !b_2) (K (ZV.tup [ZV.sl (SL.mk true 0 0 0 0 false), ZV.int .i64 1]) h'_2) (C 56 [ZV.int .i64 v0] (fun v_3
 h'_3 => ZRI (ZV.av v_3) .i64 fun n_4 => @cnd Prop (decide (n_4 < Int.ofNat (SL.n v2))) (K (ZV.tup [ZV.sl (SL.mk true 0 0 0 0 false), ZV.int .i64 31]) h'_3) (ZNat v0 fun n_5 => ZNat v0 fun p_1 => ZAnd (Nat.le n_5 p_1)
 (ZRoom Tryz.prog 5 p_1 (C 117 [] (fun v_4 h'_4 => ZRA (ZV.av v_4) 7 fun f_1 => ZRI (f_1 0) .u8 fun n_6 => ZRI (f_1 1) .u8 fun n_7 => ZRI (f_1 2) .u8 fun n_8 => ZRI (f_1 3) .u8 fun n_9 => ZRI (f_1 4)
 .u8 fun n_10 => ZRI (f_1 5) .u8 fun n_11 => ZRI (f_1 6) .u8 fun n_12 => ZAnd (false = false) (ZPut (Heap.newO h'_4 (AObj.cells [AV.int .u8 0, AV.int .u8 0, AV.int .u8 0, AV.int .u8
 0, AV.int .u8 0, AV.int .u8 0, AV.int .u8 0] 0 false false)) h'_4.next 0 7 (ZAnd (false = false) (ZAnd (false = false) (ZLdI (hput (Heap.newO h'_4 (AObj.cells [AV.int .u8 0, AV.int .u8 0,
 AV.int .u8 0, AV.int .u8 0, AV.int .u8 0, AV.int .u8 0, AV.int .u8 0] 0 false false)) h'_4.next 0 [AV.int .u8 n_6, AV.int .u8 n_7, AV.int .u8 n_8, AV.int .u8
 n_9, AV.int .u8 n_10, AV.int .u8 n_11, AV.int .u8 n_12]) h'_4.next 0 .u8 fun n_13 => ZAnd (false = false) (ZAnd (false = false) (ZLdI (hput (Heap.newO h'_4 (AObj.cells [AV.int .u8 0,
 AV.int .u8 0, AV.int .u8 0, AV.int .u8 0, AV.int .u8 0, AV.int .u8 0, AV.int .u8 0] 0 false false)) h'_4.next 0 [AV.int .u8 n_6, AV.int .u8 n_7, AV.int .u8 n_8,
 AV.int .u8 n_9, AV.int .u8 n_10, AV.int .u8 n_11, AV.int .u8 n_12]) h'_4.next 1 .u8 fun n_14 => ZAnd (false = false) (ZAnd (false = false) (ZLdI (hput (Heap.newO h'_4 (AObj.cells [AV.int
 .u8 0, AV.int .u8 0, AV.int .u8 0, AV.int .u8 0, AV.int .u8 0, AV.int .u8 0, AV.int .u8 0] 0 false false)) h'_4.next 0 [AV.int .u8 n_6, AV.int .u8 n_7, AV.int
 .u8 n_8, AV.int .u8 n_9, AV.int .u8 n_10, AV.int .u8 n_11, AV.int .u8 n_12]) h.next 0 .i64 fun n_15 => ZW .u8 n_15 fun r_2 => ZAnd (false = false) (ZIdx 0 n_5 fun m_1 => ZAnd
 (false = false) (ZPut (hput (Heap.newO h'_4 (AObj.cells [AV.int .u8 0, AV.int .u8 0, AV.int .u8 0, AV.int .u8 0, AV.int .u8 0, AV.int .u8 0, AV.int .u8 0] 0 false false)) (Heap.next
 h'_4) 0 [AV.int .u8 n_6, AV.int .u8 n_7, AV.int .u8 n_8, AV.int .u8 n_9, AV.int .u8 n_10, AV.int .u8 n_11, AV.int .u8 n_12]) (SL.i (SL.mk false h'_3.next 0 n_5 p_1 false)) (0
 + m_1 * 1) 1 (ZAnd (ZW .u8 n_15 fun r_3 => AV.int .u8 r_3 = AV.int .u8 r_2) (ZAnd (ZAnd (false = false) (ZLdI (hput (hput (Heap.newO h'_4 (AObj.cells [AV.int .u8 0, AV.int .u8 0, AV.int
 .u8 0, AV.int .u8 0, AV.int .u8 0, AV.int .u8 0, AV.int .u8 0] 0 false false)) h'_4.next 0 [AV.int .u8 n_6, AV.int .u8 n_7, AV.int .u8 n_8, AV.int .u8 n_9,
 AV.int .u8 n_10, AV.int .u8 n_11, AV.int .u8 n_12]) (SL.i (SL.mk false h'_3.next 0 n_5 p_1 false)) (0 + m_1 * 1) [AV.int .u8 n_13]) h.next 0 .i64 fun n_16 => AV.int .i64 n_16
 = AV.int .i64 n_15)) (ZAnd (ZAnd (false = false) (ZLdI (hput (hput (Heap.newO h'_4 (AObj.cells [AV.int .u8 0, AV.int .u8 0, AV.int .u8 0, AV.int .u8 0, AV.int .u8 0, AV.int .u8 0,
 AV.int .u8 0] 0 false false)) h'_4.next 0 [AV.int .u8 n_6, AV.int .u8 n_7, AV.int .u8 n_8, AV.int .u8 n_9, AV.int .u8 n_10, AV.int .u8 n_11, AV.int .u8 n_12]) (SL.i
 (SL.mk false h'_3.next 0 n_5 p_1 false)) (0 + m_1 * 1) [AV.int .u8 n_13]) h'_4.next 1 .u8 fun n_16 => AV.int .u8 n_16 = AV.int .u8 n_14)) (ZAnd (false = false) (ZIdx 1 n_5 fun m_2 => ZAnd
 (false = false) (ZPut (hput (hput (Heap.newO h'_4 (AObj.cells [AV.int .u8 0, AV.int .u8 0, AV.int .u8 0, AV.int .u8 0, AV.int .u8 0, AV.int .u8 0, AV.int .u8 0] 0 false false))
 h'_4.next 0 [AV.int .u8 n_6, AV.int .u8 n_7, AV.int .u8 n_8, AV.int .u8 n_9, AV.int .u8 n_10, AV.int .u8 n_11, AV.int .u8 n_12]) (SL.i (SL.mk false h'_3.next 0 n_5 p_1
 false)) (0 + m_1 * 1) [AV.int .u8 n_13]) (SL.i (SL.mk false h'_3.next 0 n_5 p_1 false)) (0 + m_2 * 1) 1 (ZAnd (ZW .u8 n_15 fun r_3 => AV.int .u8 r_3 = AV.int .u8 r_2) (ZAnd (ZAnd (false = false)
 (ZLdI (hput (hput (hput (Heap.newO h'_4 (AObj.cells [AV.int .u8 0, AV.int .u8 0, AV.int .u8 0, AV.int .u8 0, AV.int .u8 0, AV.int .u8 0, AV.int .u8 0] 0 false false)) (Heap.next
 h'_4) 0 [AV.int .u8 n_6, AV.int .u8 n_7, AV.int .u8 n_8, AV.int .u8 n_9, AV.int .u8 n_10, AV.int .u8 n_11, AV.int .u8 n_12]) (SL.i (SL.mk false h'_3.next 0 n_5 p_1 false)) (0
 + m_1 * 1) [AV.int .u8 n_13]) (SL.i (SL.mk false h'_3.next 0 n_5 p_1 false)) (0 + m_2 * 1) [AV.int .u8 n_14]) h.next 0 .i64 fun n_16 => AV.int .i64 n_16 = AV.int .i64 n_15)) (ZAnd
 (false = false) (ZIdx 2 n_5 fun m_3 => ZAnd (false = false) (ZPut (hput (hput (hput (Heap.newO h'_4 (AObj.cells [AV.int .u8 0, AV.int .u8 0, AV.int .u8 0, AV.int .u8 0, AV.int .u8 0, AV.int
 .u8 0, AV.int .u8 0] 0 false false)) h'_4.next 0 [AV.int .u8 n_6, AV.int .u8 n_7, AV.int .u8 n_8, AV.int .u8 n_9, AV.int .u8 n_10, AV.int .u8 n_11, AV.int .u8
 n_12]) (SL.i (SL.mk false h'_3.next 0 n_5 p_1 false)) (0 + m_1 * 1) [AV.int .u8 n_13]) (SL.i (SL.mk false h'_3.next 0 n_5 p_1 false)) (0 + m_2 * 1) [AV.int .u8 n_14]) (SL.i (SL.mk false h'_3.next
 0 n_5 p_1 false)) (0 + m_3 * 1) 1 (ZNat 4 fun l_1 => ZNat 8 fun h_1 => ZAnd ((SL.nil (SL.mk false h'_3.next 0 n_5 p_1 false) = true → l_1 = 0 ∧ h_1 = 0) ∧ (SL.nil (SL.mk false h'_3.next 0 n_5 p_1 false) = false →
 Nat.le l_1 h_1 ∧ Nat.le h_1 p_1)) (ZAnd (false = false) (ZAnd (false = false) (ZLdI (hput (hput (hput (hput (Heap.newO h'_4 (AObj.cells [AV.int .u8 0, AV.int .u8 0, AV.int .u8 0, AV.int .u8 0, AV.int
 .u8 0, AV.int .u8 0, AV.int .u8 0] 0 false false)) h'_4.next 0 [AV.int .u8 n_6, AV.int .u8 n_7, AV.int .u8 n_8, AV.int .u8 n_9, AV.int .u8 n_10, AV.int .u8
 n_11, AV.int .u8 n_12]) (SL.i (SL.mk false h'_3.next 0 n_5 p_1 false)) (0 + m_1 * 1) [AV.int .u8 n_13]) (SL.i (SL.mk false h'_3.next 0 n_5 p_1 false)) (0 + m_2 * 1) [AV.int .u8 n_14]) (SL.i
 (SL.mk false h'_3.next 0 n_5 p_1 false)) (0 + m_3 * 1) [AV.int .u8 r_2]) h.next 1 .i64 fun n_16 => ZW .u64 n_16 fun r_3 => C 138 [ZV.sl (SL.cut (SL.mk false h'_3.next 0 n_5 p_1 false) 1
 l_1 h_1 p_1 false), ZV.int .u64 r_3] (fun v_5 h'_5 => ZRT (ZV.av v_5) 0 fun f_2 => ZNat 8 fun l_2 => ZNat 16 fun h_2 => ZAnd ((SL.nil (SL.mk false h'_3.next 0 n_5 p_1 false) = true → l_2 = 0 ∧ h_2 = 0) ∧ (SL.nil
 (SL.mk false h'_3.next 0 n_5 p_1 false) = false → Nat.le l_2 h_2 ∧ Nat.le h_2 p_1)) (ZAnd (false = false) (ZAnd (false = false) (ZLdI h'_5 h.next 2 .u64 fun n_17 => C 138 [ZV.sl (SL.cut (SL.mk false (Heap.next
 h'_3) 0 n_5 p_1 false) 1 l_2 h_2 p_1 false), ZV.int .u64 n_17] (fun v_6 h'_6 => ZRT (ZV.av v_6) 0 fun f_3 => ZNat 16 fun l_3 => ZNat 20 fun h_3 => ZAnd ((SL.nil (SL.mk false h'_3.next 0 n_5 p_1 false) = true → l_3 =
 0 ∧ h_3 = 0) ∧ (SL.nil (SL.mk false h'_3.next 0 n_5 p_1 false) = false → Nat.le l_3 h_3 ∧ Nat.le h_3 p_1)) (ZW .u64 (Int.ofNat (SL.n v2)) fun r_4 => C 138 [ZV.sl (SL.cut (SL.mk false h'_3.next 0 n_5 p_1 false)
 1 l_3 h_3 p_1 false), ZV.int .u64 r_4] (fun v_7 h'_7 => ZRT (ZV.av v_7) 0 fun f_4 => ZNat 24 fun l_4 => ZAnd ((SL.nil (SL.mk false h'_3.next 0 n_5 p_1 false) = true → l_4 = 0 ∧ n_5 = 0) ∧ (SL.nil (SL.mk false
 h'_3.next 0 n_5 p_1 false) = false → Nat.le l_4 n_5 ∧ Nat.le n_5 p_1)) (ZSrc h'_7 v2 1 fun ds_1 => ZPut h'_7 (SL.i (SL.cut (SL.mk false h'_3.next 0 n_5 p_1 false) 1 l_4 n_5 p_1 false)) (SL.o (SL.cut (SL.mk false
 h'_3.next 0 n_5 p_1 false) 1 l_4 n_5 p_1 false)) (min (SL.n (SL.cut (SL.mk false h'_3.next 0 n_5 p_1 false) 1 l_4 n_5 p_1 false)) (SL.n v2) * 1) (ZAnd (List.rec true (fun v x ih => cnd (AV.plainC v) ih false) ds_1 =
 true) (ZW .i64 (v0 - 8) fun r_5 => ZNat r_5 fun h_4 => ZAnd ((SL.nil (SL.mk false h'_3.next 0 n_5 p_1 false) = true → 0 = 0 ∧ h_4 = 0) ∧ (SL.nil (SL.mk false h'_3.next 0 n_5 p_1 false) = false → Nat.le 0 h_4 ∧
 Nat.le h_4 p_1)) (C 77 [ZV.sl (SL.cut (SL.mk false h'_3.next 0 n_5 p_1 false) 1 0 h_4 p_1 false)] (fun v_8 h'_8 => ZRI (ZV.av v_8) .u64 fun n_18 => ZLoop lf (zAt Tryz.prog C lf 90 [1, 1, 1, 1, 1, 1, 1, 1, 1, 1, 1, 0,
 1, 0, 0]) [ZV.int .i64 v0, ZV.agg [ZV.int .i64 v1_0, ZV.int .i64 v1_1, ZV.int .u64 v1_2], ZV.sl v2, ZV.tup [], ZV.pv false h.next 0, ZV.tup [], ZV.sl (SL.mk true 0 0 0 0 false), ZV.int
 .i64 0, ZV.sl (SL.mk false h'_3.next 0 n_5 p_1 false), ZV.pv false h'_4.next 0, ZV.int .u64 n_18, ZV.tup [], ZV.int .i64 v0, ZV.bool b_1, ZV.bool !b_1, ZV.bool false, ZV.pv false h.next 1,
 ZV.int .i64 n_1, ZV.bool (decide (n_1 < 0)), ZV.bool (cnd false true (decide (n_1 < 0))), ZV.bool false, ZV.pv false h.next 0, ZV.int .i64 n_2, ZV.pv false h.next 1, ZV.int .i64 n_3, ZV.int
 .u64 r_1, ZV.bool b_2, ZV.bool !b_2, ZV.bool false, ZV.sl v2, ZV.int .i64 (Int.ofNat (SL.n v2)), ZV.int .i64 v0, ZV.int .i64 n_4, ZV.bool false, ZV.int .i64 v0, ZV.sl (SL.mk false (Heap.next
 h'_3) 0 n_5 p_1 false), ZV.agg [ZV.int .u8 n_6, ZV.int .u8 n_7, ZV.int .u8 n_8, ZV.int .u8 n_9, ZV.int .u8 n_10, ZV.int .u8 n_11, ZV.int .u8 n_12], ZV.sl (SL.mk false (Heap.next
 h'_3) 0 n_5 p_1 false), ZV.sl (SL.mk false h'_3.next 0 n_5 p_1 false), ZV.sl (SL.mk false h'_3.next 0 n_5 p_1 false), ZV.pv false h'_4.next 0, ZV.int .u8 n_13, ZV.pv false h'_4.next 1, ZV.int
 .u8 n_14, ZV.pv false h.next 0, ZV.int .i64 n_15, ZV.int .u8 r_2, ZV.pv false (SL.i (SL.mk false h'_3.next 0 n_5 p_1 false)) (0 + m_1 * 1), ZV.pv false (SL.i (SL.mk false h'_3.next 0 n_5
 p_1 false)) (0 + m_2 * 1), ZV.pv false (SL.i (SL.mk false h'_3.next 0 n_5 p_1 false)) (0 + m_3 * 1), ZV.sl (SL.mk false h'_3.next 0 n_5 p_1 false), ZV.sl (SL.cut (SL.mk false h'_3.next 0 n_5 p_1 false) 1 l_1
 h_1 p_1 false), ZV.pv false h.next 1, ZV.int .i64 n_16, ZV.int .u64 r_3, ZV.tup [], ZV.sl (SL.mk false h'_3.next 0 n_5 p_1 false), ZV.sl (SL.cut (SL.mk false h'_3.next 0 n_5 p_1 false) 1 l_2 h_2
 p_1 false), ZV.pv false h.next 2, ZV.int .u64 n_17, ZV.tup [], ZV.sl (SL.mk false h'_3.next 0 n_5 p_1 false), ZV.sl (SL.cut (SL.mk false h'_3.next 0 n_5 p_1 false) 1 l_3 h_3 p_1 false), ZV.sl v2, ZV.int
 .i64 (Int.ofNat (SL.n v2)), ZV.int .u64 r_4, ZV.tup [], ZV.sl (SL.mk false h'_3.next 0 n_5 p_1 false), ZV.sl (SL.cut (SL.mk false h'_3.next 0 n_5 p_1 false) 1 l_4 n_5 p_1 false), ZV.sl v2, ZV.int
 .i64 (Int.ofNat (min (SL.n (SL.cut (SL.mk false h'_3.next 0 n_5 p_1 false) 1 l_4 n_5 p_1 false)) (SL.n v2))), ZV.sl (SL.mk false h'_3.next 0 n_5 p_1 false), ZV.int .i64 v0, ZV.int .i64 r_5, ZV.sl
 (SL.cut (SL.mk false h'_3.next 0 n_5 p_1 false) 1 0 h_4 p_1 false), ZV.int .u64 n_18, ZV.int .i64 0, ZV.tup [], ZV.tup [], ZV.tup [], ZV.tup [], ZV.tup [], ZV.tup [], ZV.tup [], ZV.tup [], ZV.tup [], ZV.tup
 [], ZV.tup [], ZV.tup [], ZV.tup [], ZV.tup [], ZV.tup []] (KZ.mk ((0, fun z' h' => zAt Tryz.prog C lf 90 [1, 1, 1, 1, 1, 1, 1, 1, 1, 1, 1, 1] z' (zFin Tryz.prog 90 K) (KZ.mk [] (zFin Tryz.prog 90 K)) h') :: KZ.env (KZ.mk [] (zFin
 Tryz.prog 90 K))) (KZ.ret (KZ.mk [] (zFin Tryz.prog 90 K)))) h'_8) (hput h'_7 (SL.i (SL.cut (SL.mk false h'_3.next 0 n_5 p_1 false) 1 l_4 n_5 p_1 false)) (SL.o (SL.cut (SL.mk false h'_3.next 0 n_5 p_1 false) 1 l_4
 n_5 p_1 false)) (List.take (min (SL.n (SL.cut (SL.mk false h'_3.next 0 n_5 p_1 false) 1 l_4 n_5 p_1 false)) (SL.n v2) * 1) ds_1))))))) h'_6)) h'_5)))) (hput (hput (hput (hput (Heap.newO h'_4 (AObj.cells [AV.int .u8
 0, AV.int .u8 0, AV.int .u8 0, AV.int .u8 0, AV.int .u8 0, AV.int .u8 0, AV.int .u8 0] 0 false false)) h'_4.next 0 [AV.int .u8 n_6, AV.int .u8 n_7, AV.int .u8
 n_8, AV.int .u8 n_9, AV.int .u8 n_10, AV.int .u8 n_11, AV.int .u8 n_12]) (SL.i (SL.mk false h'_3.next 0 n_5 p_1 false)) (0 + m_1 * 1) [AV.int .u8 n_13]) (SL.i (SL.mk false h'_3.next
 0 n_5 p_1 false)) (0 + m_2 * 1) [AV.int .u8 n_14]) (SL.i (SL.mk false h'_3.next 0 n_5 p_1 false)) (0 + m_3 * 1) [AV.int .u8 r_2]))))))))))))))))))))))))))) (Heap.newO h'_3 (AObj.cells (List.flatten
 (List.replicate p_1 [AV.int .u8 0])) 1 false false)))))) h'_2)) h'_1))))))))) (Heap.newO h (AObj.cells [AV.int .i64 v1_0, AV.int .i64 v1_1, AV.int .u64 v1_2] 0 false false))) := by kernel_rfl
theorem seal_a111111111111 (C : ZCall) (lf : Nat) (K : ZK) (h : Heap) (v8 : SL) (d : Nat → ZV) : zAt Tryz.prog C lf 90 [1, 1, 1, 1, 1, 1, 1, 1, 1, 1, 1, 1] (zt (ntOf Tryz.prog 90) (ov [(8, .sl v8)] d)) (zFin Tryz.prog 90 K) ⟨[],
 zFin Tryz.prog 90 K⟩ h = (K (ZV.tup [ZV.sl v8, ZV.int .i64 0]) h) := by kernel_rfl
theorem seal_l111111111110100 (C : ZCall) (lf : Nat) (K : ZK) (h : Heap) (v0 : Int) (v8 : SL) (v10 : Int) (v76 : Int) (d : Nat → ZV) (k : ZT → Heap → Prop) (X0 : ZT → Heap → Prop) (E : List (Nat × (ZT → Heap → Prop))) : zAt
 Tryz.prog C lf 90 [1, 1, 1, 1, 1, 1, 1, 1, 1, 1, 1, 0, 1, 0, 0] (zt (ntOf Tryz.prog 90) (ov [(0, .int .i64 v0), (8, .sl v8), (10, .int .u64 v10), (76, .int .i64 v76)] d)) k ⟨(0, X0) :: E, zFin Tryz.prog 90 K⟩ h = (@cnd Prop
 (decide (v76 < 8)) (ZW .i64 (v0 - 8) fun r_1 => ZW .i64 (r_1 + v76) fun r_2 => ZW .i64 (8 * v76) fun r_3 => ZNat r_3 fun j_1 => ZW .u8 (Int.fdiv v10 (Int.ofNat (Nat.pow 2 (cnd (Nat.ble j_1 64) j_1
 64)))) fun r_4 => ZAnd (SL.nil v8 = false) (ZIdx r_2 (SL.len v8) fun m_1 => ZAnd (false = false) (ZPut h (SL.i v8) (SL.o v8 + m_1 * 1) 1 (ZW .i64 (v76 + 1) fun r_5 => k [ZV.int .i64 v0, d 1, d 2, d 3, d 4, d 5, d 6,
 d 7, ZV.sl v8, d 9, ZV.int .u64 v10, ZV.int .i64 v76, d 12, d 13, d 14, d 15, d 16, d 17, d 18, d 19, d 20, d 21, d 22, d 23, d 24, d 25, d 26, d 27, d 28, d 29, d 30, d 31, d 32, d 33, d 34, d 35, d 36, d 37, d 38,
 d 39, d 40, d 41, d 42, d 43, d 44, d 45, d 46, d 47, d 48, d 49, d 50, d 51, d 52, d 53, d 54, d 55, d 56, d 57, d 58, d 59, d 60, d 61, d 62, d 63, d 64, d 65, d 66, d 67, d 68, d 69, d 70, d 71, d 72, d 73, d 74, d 75, ZV.int
 .i64 r_5, ZV.bool true, ZV.int .i64 v76, ZV.sl v8, ZV.int .i64 v0, ZV.int .i64 r_1, ZV.int .i64 v76, ZV.int .i64 r_2, ZV.int .u64 v10, ZV.int .i64 v76, ZV.int .i64
 r_3, ZV.int .u64 (Int.fdiv v10 (Int.ofNat (Nat.pow 2 (cnd (Nat.ble j_1 64) j_1 64)))), ZV.int .u8 r_4, ZV.pv false (SL.i v8) (SL.o v8 + m_1 * 1), ZV.int .i64 r_5, d 91] (hput h (SL.i v8) (SL.o v8 + m_1 * 1)
 [AV.int .u8 r_4]))))) (X0 [ZV.int .i64 v0, d 1, d 2, d 3, d 4, d 5, d 6, d 7, ZV.sl v8, d 9, ZV.int .u64 v10, d 11, d 12, d 13, d 14, d 15, d 16, d 17, d 18, d 19, d 20, d 21, d 22, d 23, d 24, d 25, d 26, d
 27, d 28, d 29, d 30, d 31, d 32, d 33, d 34, d 35, d 36, d 37, d 38, d 39, d 40, d 41, d 42, d 43, d 44, d 45, d 46, d 47, d 48, d 49, d 50, d 51, d 52, d 53, d 54, d 55, d 56, d 57, d 58, d 59, d 60, d 61, d 62, d 63, d 64, d
 65, d 66, d 67, d 68, d 69, d 70, d 71, d 72, d 73, d 74, d 75, ZV.int .i64 v76, ZV.bool false, d 78, d 79, d 80, d 81, d 82, d 83, d 84, d 85, d 86, d 87, d 88, d 89, d 90, d 91] h)) := by kernel_rfl
theorem put_nf (C : ZCall) (lf : Nat) (K : ZK) (h : Heap) (v0 : SL) (v1 : Int) : zAt Tryz.prog C lf 138 [] (padT (ntOf Tryz.prog 138) [.sl v0, .int .u64 v1]) (zFin Tryz.prog 138 K) ⟨[], zFin Tryz.prog 138 K⟩ h = (ZLoop lf (zAt
 Tryz.prog C lf 138 [1, 0, 0]) [ZV.sl v0, ZV.int .u64 v1, ZV.tup [], ZV.tup [], ZV.tup [], ZV.sl v0, ZV.int .i64 (Int.ofNat (SL.n v0)), ZV.int .i64 0, ZV.tup [], ZV.tup [], ZV.tup [], ZV.tup [], ZV.tup [],
 ZV.tup [], ZV.tup [], ZV.tup [], ZV.tup [], ZV.tup [], ZV.tup [], ZV.tup [], ZV.tup [], ZV.tup [], ZV.tup []] (KZ.mk ((0, zFin Tryz.prog 138 K) :: KZ.env (KZ.mk [] (zFin Tryz.prog 138 K))) (KZ.ret (KZ.mk [] (zFin Tryz.prog 138
 K)))) h) := by kernel_rfl
theorem put_l100 (C : ZCall) (lf : Nat) (K : ZK) (h : Heap) (v0 : SL) (v1 : Int) (v6 : Int) (v7 : Int) (d : Nat → ZV) (k : ZT → Heap → Prop) (X0 : ZT → Heap → Prop) (E : List (Nat × (ZT → Heap → Prop))) : zAt Tryz.prog C lf 138
 [1, 0, 0] (zt (ntOf Tryz.prog 138) (ov [(0, .sl v0), (1, .int .u64 v1), (6, .int .i64 v6), (7, .int .i64 v7)] d)) k ⟨(0, X0) :: E, zFin Tryz.prog 138 K⟩ h = (@cnd Prop (decide (v7 < v6)) (ZW .i64 (Int.ofNat (SL.n v0) - 1)
 fun r_1 => ZW .i64 (r_1 - v7) fun r_2 => ZW .i64 (8 * r_2) fun r_3 => ZNat r_3 fun j_1 => ZW .u8 (Int.fdiv v1 (Int.ofNat (Nat.pow 2 (cnd (Nat.ble j_1 64) j_1 64)))) fun r_4 => ZAnd (SL.nil v0 = false) (ZIdx v7
 (SL.len v0) fun m_1 => ZAnd (false = false) (ZPut h (SL.i v0) (SL.o v0 + m_1 * 1) 1 (ZW .i64 (v7 + 1) fun r_5 => k [ZV.sl v0, ZV.int .u64 v1, d 2, d 3, ZV.int .i64 v7, d 5, ZV.int .i64 v6, ZV.int
 .i64 r_5, ZV.bool true, ZV.int .i64 v7, ZV.sl v0, ZV.int .i64 v7, ZV.int .u64 v1, ZV.sl v0, ZV.int .i64 (Int.ofNat (SL.n v0)), ZV.int .i64 r_1, ZV.int .i64 v7, ZV.int .i64
 r_2, ZV.int .i64 r_3, ZV.int .u64 (Int.fdiv v1 (Int.ofNat (Nat.pow 2 (cnd (Nat.ble j_1 64) j_1 64)))), ZV.int .u8 r_4, ZV.pv false (SL.i v0) (SL.o v0 + m_1 * 1), ZV.int .i64 r_5] (hput h (SL.i v0) (SL.o
 v0 + m_1 * 1) [AV.int .u8 r_4]))))) (X0 [ZV.sl v0, ZV.int .u64 v1, d 2, d 3, d 4, d 5, ZV.int .i64 v6, ZV.int .i64 v7, ZV.bool false, d 9, d 10, d 11, d 12, d 13, d 14, d 15, d 16, d 17, d 18, d 19, d
 20, d 21, d 22] h)) := by kernel_rfl
theorem get_nf (C : ZCall) (lf : Nat) (K : ZK) (h : Heap) (v0 : SL) : zAt Tryz.prog C lf 116 [] (padT (ntOf Tryz.prog 116) [.sl v0]) (zFin Tryz.prog 116 K) ⟨[], zFin Tryz.prog 116 K⟩ h = (ZLoop lf (zAt Tryz.prog C lf 116 [1, 1, 0,
 1, 0, 0]) [ZV.sl v0, ZV.tup [], ZV.int .u64 0, ZV.int .u64 0, ZV.tup [], ZV.tup [], ZV.sl v0, ZV.int .i64 (Int.ofNat (SL.n v0)), ZV.int .i64 0, ZV.tup [], ZV.tup [], ZV.tup [], ZV.tup [], ZV.tup [],
 ZV.tup [], ZV.tup [], ZV.tup [], ZV.tup [], ZV.tup []] (KZ.mk ((0, fun z' h' => zAt Tryz.prog C lf 116 [1, 1, 1] z' (zFin Tryz.prog 116 K) (KZ.mk [] (zFin Tryz.prog 116 K)) h') :: KZ.env (KZ.mk [] (zFin Tryz.prog 116 K))) (KZ.ret
 (KZ.mk [] (zFin Tryz.prog 116 K)))) h) := by kernel_rfl
theorem get_a111 (C : ZCall) (lf : Nat) (K : ZK) (h : Heap) (v3 : Int) (d : Nat → ZV) : zAt Tryz.prog C lf 116 [1, 1, 1] (zt (ntOf Tryz.prog 116) (ov [(3, .int .u64 v3)] d)) (zFin Tryz.prog 116 K) ⟨[], zFin Tryz.prog 116 K⟩ h = (K
 (ZV.int .u64 v3) h) := by kernel_rfl
theorem get_l110100 (C : ZCall) (lf : Nat) (K : ZK) (h : Heap) (v3 : Int) (v6 : SL) (v7 : Int) (v8 : Int) (d : Nat → ZV) (k : ZT → Heap → Prop) (X0 : ZT → Heap → Prop) (E : List (Nat × (ZT → Heap → Prop))) : zAt Tryz.prog C lf 116
 [1, 1, 0, 1, 0, 0] (zt (ntOf Tryz.prog 116) (ov [(3, .int .u64 v3), (6, .sl v6), (7, .int .i64 v7), (8, .int .i64 v8)] d)) k ⟨(0, X0) :: E, zFin Tryz.prog 116 K⟩ h = (@cnd Prop (decide (v8 < v7)) (ZAnd (SL.nil v6 = false) (ZIdx v8
 (SL.len v6) fun m_1 => ZAnd (false = false) (ZLdI h (SL.i v6) (SL.o v6 + m_1 * 1) .u8 fun n_1 => ZNat 8 fun j_1 => ZW .u64 (v3 * Int.ofNat (Nat.pow 2 (cnd (Nat.ble j_1 64) j_1 64))) fun r_1 => ZW .u64 n_1 fun
 r_2 => ZW .u64 (Int.ofNat (Nat.lor (toU .u64 r_1) (toU .u64 r_2))) fun r_3 => ZW .i64 (v8 + 1) fun r_4 => k [d 0, d 1, d 2, ZV.int .u64 r_3, d 4, ZV.int .u8 n_1, ZV.sl v6, ZV.int
 .i64 v7, ZV.int .i64 r_4, ZV.bool true, ZV.pv false (SL.i v6) (SL.o v6 + m_1 * 1), ZV.int .u8 n_1, ZV.int .u64 v3, ZV.int .u64 r_1, ZV.int .u8 n_1, ZV.int .u64 r_2, ZV.int
 .u64 r_3, ZV.int .i64 r_4, d 18] h))) (X0 [d 0, d 1, d 2, ZV.int .u64 v3, d 4, d 5, ZV.sl v6, ZV.int .i64 v7, ZV.int .i64 v8, ZV.bool false, d 10, d 11, d 12, d 13, d 14, d 15, d 16, d 17, d 18]
 h)) := by kernel_rfl
theorem may_nf (C : ZCall) (lf : Nat) (K : ZK) (h : Heap) (v0 : Int) (v1 : Int) : zAt Tryz.prog C lf 118 [] (padT (ntOf Tryz.prog 118) [.int .i64 v0, .int .u64 v1]) (zFin Tryz.prog 118 K) ⟨[], zFin Tryz.prog 118 K⟩ h = (@cnd Prop
 (decide (1 ≤ v0)) (@cnd Prop (cnd true (decide (v0 ≤ 5)) false) (K (ZV.bool (cnd true (decide (v1 < 65536)) false)) h) (K (ZV.bool false) h)) (K (ZV.bool false) h)) := by kernel_rfl
theorem sized_nf (C : ZCall) (lf : Nat) (K : ZK) (h : Heap) (v0 : Int) : zAt Tryz.prog C lf 91 [] (padT (ntOf Tryz.prog 91) [.int .i64 v0]) (zFin Tryz.prog 91 K) ⟨[], zFin Tryz.prog 91 K⟩ h = (@cnd Prop (decide (v0 = 512)) (K
 (ZV.bool true) h) (@cnd Prop (decide (v0 = 1024)) (K (ZV.bool true) h) (@cnd Prop (decide (v0 = 2048)) (K (ZV.bool true) h) (@cnd Prop (decide (v0 = 4096)) (K (ZV.bool true) h) (K (ZV.bool false) h))))) := by kernel_rfl
theorem right_nf (C : ZCall) (lf : Nat) (K : ZK) (h : Heap) : zAt Tryz.prog C lf 117 [] (padT (ntOf Tryz.prog 117) []) (zFin Tryz.prog 117 K) ⟨[], zFin Tryz.prog 117 K⟩ h = (ZAnd (false = false) (ZPut (Heap.newO h (AObj.cells
 [AV.int .u8 0, AV.int .u8 0, AV.int .u8 0, AV.int .u8 0, AV.int .u8 0, AV.int .u8 0, AV.int .u8 0] 0 false false)) h.next 0 7 (ZAnd (false = false) (ZLdI (hput (Heap.newO h
 (AObj.cells [AV.int .u8 0, AV.int .u8 0, AV.int .u8 0, AV.int .u8 0, AV.int .u8 0, AV.int .u8 0, AV.int .u8 0] 0 false false)) h.next 0 [AV.int .u8 66, AV.int
 .u8 89, AV.int .u8 0, AV.int .u8 0, AV.int .u8 0, AV.int .u8 0, AV.int .u8 0]) h.next 0 .u8 fun n_1 => ZLdI (hput (Heap.newO h (AObj.cells [AV.int .u8 0, AV.int
 .u8 0, AV.int .u8 0, AV.int .u8 0, AV.int .u8 0, AV.int .u8 0, AV.int .u8 0] 0 false false)) h.next 0 [AV.int .u8 66, AV.int .u8 89, AV.int .u8 0, AV.int
 .u8 0, AV.int .u8 0, AV.int .u8 0, AV.int .u8 0]) h.next 1 .u8 fun n_2 => ZLdI (hput (Heap.newO h (AObj.cells [AV.int .u8 0, AV.int .u8 0, AV.int .u8 0, AV.int
 .u8 0, AV.int .u8 0, AV.int .u8 0, AV.int .u8 0] 0 false false)) h.next 0 [AV.int .u8 66, AV.int .u8 89, AV.int .u8 0, AV.int .u8 0, AV.int .u8 0, AV.int
 .u8 0, AV.int .u8 0]) h.next 2 .u8 fun n_3 => ZLdI (hput (Heap.newO h (AObj.cells [AV.int .u8 0, AV.int .u8 0, AV.int .u8 0, AV.int .u8 0, AV.int .u8 0, AV.int
 .u8 0, AV.int .u8 0] 0 false false)) h.next 0 [AV.int .u8 66, AV.int .u8 89, AV.int .u8 0, AV.int .u8 0, AV.int .u8 0, AV.int .u8 0, AV.int .u8 0]) (Heap.next
 h) 3 .u8 fun n_4 => ZLdI (hput (Heap.newO h (AObj.cells [AV.int .u8 0, AV.int .u8 0, AV.int .u8 0, AV.int .u8 0, AV.int .u8 0, AV.int .u8 0, AV.int .u8 0] 0 false false))
 h.next 0 [AV.int .u8 66, AV.int .u8 89, AV.int .u8 0, AV.int .u8 0, AV.int .u8 0, AV.int .u8 0, AV.int .u8 0]) h.next 4 .u8 fun n_5 => ZLdI (hput (Heap.newO h
 (AObj.cells [AV.int .u8 0, AV.int .u8 0, AV.int .u8 0, AV.int .u8 0, AV.int .u8 0, AV.int .u8 0, AV.int .u8 0] 0 false false)) h.next 0 [AV.int .u8 66, AV.int
 .u8 89, AV.int .u8 0, AV.int .u8 0, AV.int .u8 0, AV.int .u8 0, AV.int .u8 0]) h.next 5 .u8 fun n_6 => ZLdI (hput (Heap.newO h (AObj.cells [AV.int .u8 0, AV.int
 .u8 0, AV.int .u8 0, AV.int .u8 0, AV.int .u8 0, AV.int .u8 0, AV.int .u8 0] 0 false false)) h.next 0 [AV.int .u8 66, AV.int .u8 89, AV.int .u8 0, AV.int
 .u8 0, AV.int .u8 0, AV.int .u8 0, AV.int .u8 0]) h.next 6 .u8 fun n_7 => K (ZV.agg [ZV.int .u8 n_1, ZV.int .u8 n_2, ZV.int .u8 n_3, ZV.int .u8 n_4, ZV.int
 .u8 n_5, ZV.int .u8 n_6, ZV.int .u8 n_7]) (hput (Heap.newO h (AObj.cells [AV.int .u8 0, AV.int .u8 0, AV.int .u8 0, AV.int .u8 0, AV.int .u8 0, AV.int .u8 0, AV.int
 .u8 0] 0 false false)) h.next 0 [AV.int .u8 66, AV.int .u8 89, AV.int .u8 0, AV.int .u8 0, AV.int .u8 0, AV.int .u8 0, AV.int .u8 0]))))) := by kernel_rfl
theorem room_nf (C : ZCall) (lf : Nat) (K : ZK) (h : Heap) (v0 : Int) : zAt Tryz.prog C lf 56 [] (padT (ntOf Tryz.prog 56) [.int .i64 v0]) (zFin Tryz.prog 56 K) ⟨[], zFin Tryz.prog 56 K⟩ h = (C 91 [ZV.int .i64 v0] (fun v_1
 h'_1 => ZRB (ZV.av v_1) fun b_1 => @cnd Prop (!b_1) (K (ZV.int .i64 0) h'_1) (ZW .i64 (v0 - 32) fun r_1 => K (ZV.int .i64 r_1) h'_1)) h) := by kernel_rfl
theorem popen_nf (C : ZCall) (lf : Nat) (K : ZK) (h : Heap) (v0 : SL) (v1 : Int) : zAt Tryz.prog C lf 47 [] (padT (ntOf Tryz.prog 47) [.sl v0, .int .i64 v1]) (zFin Tryz.prog 47 K) ⟨[], zFin Tryz.prog 47 K⟩ h = (C 76 [ZV.sl v0]
 (fun v_1 h'_1 => ZRT (ZV.av v_1) 3 fun f_1 => ZRA (f_1 0) 3 fun f_2 => ZRI (f_2 0) .i64 fun n_1 => ZRI (f_2 1) .i64 fun n_2 => ZRI (f_2 2) .u64 fun n_3 => ZRI (f_1 1) .i64 fun n_4 => ZRB (f_1 2) fun b_1
 => ZAnd (false = false) (ZPut (Heap.newO h'_1 (AObj.cells [AV.int .i64 0, AV.int .i64 0, AV.int .u64 0] 0 false false)) h'_1.next 0 3 (@cnd Prop (!b_1) (ZAnd (false = false) (ZPut (hput (Heap.newO h'_1
 (AObj.cells [AV.int .i64 0, AV.int .i64 0, AV.int .u64 0] 0 false false)) h'_1.next 0 [AV.int .i64 n_1, AV.int .i64 n_2, AV.int .u64 n_3]) h.next 0 3 (ZAnd (false = false)
 (ZLdI (hput (hput (Heap.newO h'_1 (AObj.cells [AV.int .i64 0, AV.int .i64 0, AV.int .u64 0] 0 false false)) h'_1.next 0 [AV.int .i64 n_1, AV.int .i64 n_2, AV.int .u64 n_3])
 h.next 0 [AV.int .i64 0, AV.int .i64 0, AV.int .u64 0]) h.next 0 .i64 fun n_5 => ZLdI (hput (hput (Heap.newO h'_1 (AObj.cells [AV.int .i64 0, AV.int .i64 0, AV.int
 .u64 0] 0 false false)) h'_1.next 0 [AV.int .i64 n_1, AV.int .i64 n_2, AV.int .u64 n_3]) h.next 0 [AV.int .i64 0, AV.int .i64 0, AV.int .u64 0]) h.next 1
 .i64 fun n_6 => ZLdI (hput (hput (Heap.newO h'_1 (AObj.cells [AV.int .i64 0, AV.int .i64 0, AV.int .u64 0] 0 false false)) h'_1.next 0 [AV.int .i64 n_1, AV.int .i64 n_2, AV.int
 .u64 n_3]) h.next 0 [AV.int .i64 0, AV.int .i64 0, AV.int .u64 0]) h.next 2 .u64 fun n_7 => K (ZV.tup [ZV.agg [ZV.int .i64 n_5, ZV.int .i64 n_6, ZV.int .u64
 n_7], ZV.sl (SL.mk true 0 0 0 0 false), ZV.int .i64 32]) (hput (hput (Heap.newO h'_1 (AObj.cells [AV.int .i64 0, AV.int .i64 0, AV.int .u64 0] 0 false false)) h'_1.next 0 [AV.int .i64 n_1,
 AV.int .i64 n_2, AV.int .u64 n_3]) h.next 0 [AV.int .i64 0, AV.int .i64 0, AV.int .u64 0]))))) (ZW .i64 (Int.ofNat (SL.n v0) - 8) fun r_1 => ZNat r_1 fun h_1 => ZAnd ((SL.nil v0 =
 true → 0 = 0 ∧ h_1 = 0) ∧ (SL.nil v0 = false → Nat.le 0 h_1 ∧ Nat.le h_1 (SL.cap v0))) (C 77 [ZV.sl (SL.cut v0 1 0 h_1 (SL.cap v0) (SL.ext v0))] (fun v_2 h'_2 => ZRI (ZV.av v_2) .u64 fun n_5 => ZLoop lf (zAt Tryz.prog C lf
 47 [1, 1, 1, 1, 1, 0, 1, 0, 0]) [ZV.sl v0, ZV.int .i64 v1, ZV.tup [], ZV.tup [], ZV.pv false h.next 0, ZV.sl (SL.mk true 0 0 0 0 false), ZV.int .i64 0, ZV.pv false h'_1.next 0, ZV.int .i64 n_4,
 ZV.bool b_1, ZV.int .i64 r_1, ZV.int .u64 n_5, ZV.tup [], ZV.tup [ZV.agg [ZV.int .i64 n_1, ZV.int .i64 n_2, ZV.int .u64 n_3], ZV.int .i64 n_4, ZV.bool b_1], ZV.sl v0, ZV.tup [ZV.agg
 [ZV.int .i64 n_1, ZV.int .i64 n_2, ZV.int .u64 n_3], ZV.int .i64 n_4, ZV.bool b_1], ZV.agg [ZV.int .i64 n_1, ZV.int .i64 n_2, ZV.int .u64 n_3], ZV.int .i64 n_4, ZV.bool b_1,
 ZV.bool b_1, ZV.bool false, ZV.tup [], ZV.sl v0, ZV.int .i64 (Int.ofNat (SL.n v0)), ZV.int .i64 r_1, ZV.sl v0, ZV.int .i64 r_1, ZV.sl (SL.cut v0 1 0 h_1 (SL.cap v0) (SL.ext v0)), ZV.int .u64 n_5, ZV.int
 .i64 0, ZV.tup [], ZV.tup [], ZV.tup [], ZV.tup [], ZV.tup [], ZV.tup [], ZV.tup [], ZV.tup [], ZV.tup [], ZV.tup [], ZV.tup [], ZV.tup [], ZV.tup [], ZV.tup [], ZV.tup [], ZV.tup [], ZV.tup [], ZV.tup [], ZV.tup [], ZV.tup
 [], ZV.tup [], ZV.tup [], ZV.tup [], ZV.tup [], ZV.tup [], ZV.tup [], ZV.tup [], ZV.tup [], ZV.tup []] (KZ.mk ((0, fun z' h' => zAt Tryz.prog C lf 47 [1, 1, 1, 1, 1, 1] z' (zFin Tryz.prog 47 K) (KZ.mk [] (zFin Tryz.prog 47 K)) h')
 :: KZ.env (KZ.mk [] (zFin Tryz.prog 47 K))) (KZ.ret (KZ.mk [] (zFin Tryz.prog 47 K)))) h'_2) (hput (Heap.newO h'_1 (AObj.cells [AV.int .i64 0, AV.int .i64 0, AV.int .u64 0] 0 false false)) h'_1.next 0
 [AV.int .i64 n_1, AV.int .i64 n_2, AV.int .u64 n_3])))))) (Heap.newO h (AObj.cells [AV.int .i64 0, AV.int .i64 0, AV.int .u64 0] 0 false false))) := by kernel_rfl
theorem popen_a111111 (C : ZCall) (lf : Nat) (K : ZK) (h : Heap) (v0 : SL) (v1 : Int) (v4 : Nat) (v7 : Nat) (v8 : Int) (d : Nat → ZV) : zAt Tryz.prog C lf 47 [1, 1, 1, 1, 1, 1] (zt (ntOf Tryz.prog 47) (ov [(0, .sl v0), (1, .int
 .i64 v1), (4, .pv false v4 0), (7, .pv false v7 0), (8, .int .i64 v8)] d)) (zFin Tryz.prog 47 K) ⟨[], zFin Tryz.prog 47 K⟩ h = (ZAnd (false = false) (ZAnd (false = false) (ZLdI h v7 1 .i64 fun n_1 => @cnd Prop (!decide (n_1
 = v1)) (ZAnd (false = false) (ZPut h v4 0 3 (ZAnd (false = false) (ZLdI (hput h v4 0 [AV.int .i64 0, AV.int .i64 0, AV.int .u64 0]) v4 0 .i64 fun n_2 => ZLdI (hput h v4 0 [AV.int .i64 0, AV.int
 .i64 0, AV.int .u64 0]) v4 1 .i64 fun n_3 => ZLdI (hput h v4 0 [AV.int .i64 0, AV.int .i64 0, AV.int .u64 0]) v4 2 .u64 fun n_4 => K (ZV.tup [ZV.agg [ZV.int .i64 n_2, ZV.int
 .i64 n_3, ZV.int .u64 n_4], ZV.sl (SL.mk true 0 0 0 0 false), ZV.int .i64 33]) (hput h v4 0 [AV.int .i64 0, AV.int .i64 0, AV.int .u64 0]))))) (ZAnd (false = false) (ZLdI h v7 0
 .i64 fun n_2 => ZLdI h v7 1 .i64 fun n_3 => ZLdI h v7 2 .u64 fun n_4 => ZW .i64 (24 + v8) fun r_1 => ZNat 24 fun l_1 => ZNat r_1 fun h_1 => ZAnd ((SL.nil v0 = true → l_1 = 0 ∧ h_1 = 0) ∧ (SL.nil v0 =
 false → Nat.le l_1 h_1 ∧ Nat.le h_1 (SL.cap v0))) (ZNat 0 fun n_5 => ZNat v8 fun p_1 => ZAnd (Nat.le n_5 p_1) (ZRoom Tryz.prog 5 p_1 (ZAnd (ZW .i64 (24 + v8) fun r_2 => AV.int .i64 r_2 = AV.int .i64 r_1) (ZAnd
 (ZAnd (false = false) (ZLdI (Heap.newO h (AObj.cells (List.flatten (List.replicate p_1 [AV.int .u8 0])) 1 false false)) v7 0 .i64 fun n_6 => ZLdI (Heap.newO h (AObj.cells (List.flatten (List.replicate p_1 [AV.int
 .u8 0])) 1 false false)) v7 1 .i64 fun n_7 => ZLdI (Heap.newO h (AObj.cells (List.flatten (List.replicate p_1 [AV.int .u8 0])) 1 false false)) v7 2 .u64 fun n_8 => AV.agg [AV.int .i64 n_6, AV.int
 .i64 n_7, AV.int .u64 n_8] = AV.agg [AV.int .i64 n_2, AV.int .i64 n_3, AV.int .u64 n_4])) (ZSrc (Heap.newO h (AObj.cells (List.flatten (List.replicate p_1 [AV.int .u8 0])) 1 false false))
 (SL.cut v0 1 l_1 h_1 (SL.cap v0) (SL.ext v0)) 1 fun ds_1 => ZApp Tryz.prog (Heap.newO h (AObj.cells (List.flatten (List.replicate p_1 [AV.int .u8 0])) 1 false false)) (SL.mk false h.next 0 n_5 p_1 false) 5 1 (SL.n
 (SL.cut v0 1 l_1 h_1 (SL.cap v0) (SL.ext v0))) ds_1 (ZAnd (ZAnd (false = false) (ZLdI (happ (Heap.newO h (AObj.cells (List.flatten (List.replicate p_1 [AV.int .u8 0])) 1 false false)) (SL.mk false h.next 0 n_5 p_1
 false) 1 (SL.n (SL.cut v0 1 l_1 h_1 (SL.cap v0) (SL.ext v0))) ds_1) v7 0 .i64 fun n_6 => ZLdI (happ (Heap.newO h (AObj.cells (List.flatten (List.replicate p_1 [AV.int .u8 0])) 1 false false)) (SL.mk false (Heap.next
 h) 0 n_5 p_1 false) 1 (SL.n (SL.cut v0 1 l_1 h_1 (SL.cap v0) (SL.ext v0))) ds_1) v7 1 .i64 fun n_7 => ZLdI (happ (Heap.newO h (AObj.cells (List.flatten (List.replicate p_1 [AV.int .u8 0])) 1 false false)) (SL.mk
 false h.next 0 n_5 p_1 false) 1 (SL.n (SL.cut v0 1 l_1 h_1 (SL.cap v0) (SL.ext v0))) ds_1) v7 2 .u64 fun n_8 => AV.agg [AV.int .i64 n_6, AV.int .i64 n_7, AV.int .u64 n_8] = AV.agg [AV.int
 .i64 n_2, AV.int .i64 n_3, AV.int .u64 n_4])) (ZAnd (false = false) (ZPut (happ (Heap.newO h (AObj.cells (List.flatten (List.replicate p_1 [AV.int .u8 0])) 1 false false)) (SL.mk false h.next 0
 n_5 p_1 false) 1 (SL.n (SL.cut v0 1 l_1 h_1 (SL.cap v0) (SL.ext v0))) ds_1) v4 0 3 (ZAnd (false = false) (ZLdI (hput (happ (Heap.newO h (AObj.cells (List.flatten (List.replicate p_1 [AV.int .u8 0])) 1 false false)) (SL.mk
 false h.next 0 n_5 p_1 false) 1 (SL.n (SL.cut v0 1 l_1 h_1 (SL.cap v0) (SL.ext v0))) ds_1) v4 0 [AV.int .i64 n_2, AV.int .i64 n_3, AV.int .u64 n_4]) v4 0 .i64 fun n_6 => ZLdI (hput (happ
 (Heap.newO h (AObj.cells (List.flatten (List.replicate p_1 [AV.int .u8 0])) 1 false false)) (SL.mk false h.next 0 n_5 p_1 false) 1 (SL.n (SL.cut v0 1 l_1 h_1 (SL.cap v0) (SL.ext v0))) ds_1) v4 0 [AV.int .i64
 n_2, AV.int .i64 n_3, AV.int .u64 n_4]) v4 1 .i64 fun n_7 => ZLdI (hput (happ (Heap.newO h (AObj.cells (List.flatten (List.replicate p_1 [AV.int .u8 0])) 1 false false)) (SL.mk false h.next 0 n_5
 p_1 false) 1 (SL.n (SL.cut v0 1 l_1 h_1 (SL.cap v0) (SL.ext v0))) ds_1) v4 0 [AV.int .i64 n_2, AV.int .i64 n_3, AV.int .u64 n_4]) v4 2 .u64 fun n_8 => K (ZV.tup [ZV.agg [ZV.int .i64 n_6, ZV.int
 .i64 n_7, ZV.int .u64 n_8], ZV.sl (SL.app (SL.mk false h.next 0 n_5 p_1 false) (Heap.next (Heap.newO h (AObj.cells (List.flatten (List.replicate p_1 [AV.int .u8 0])) 1 false false))) (SL.n (SL.cut v0 1
 l_1 h_1 (SL.cap v0) (SL.ext v0)))), ZV.int .i64 0]) (hput (happ (Heap.newO h (AObj.cells (List.flatten (List.replicate p_1 [AV.int .u8 0])) 1 false false)) (SL.mk false h.next 0 n_5 p_1 false) 1 (SL.n (SL.cut
 v0 1 l_1 h_1 (SL.cap v0) (SL.ext v0))) ds_1) v4 0 [AV.int .i64 n_2, AV.int .i64 n_3, AV.int .u64 n_4])))))))))))))))) := by kernel_rfl
theorem popen_l111110100 (C : ZCall) (lf : Nat) (K : ZK) (h : Heap) (v0 : SL) (v1 : Int) (v4 : Nat) (v7 : Nat) (v8 : Int) (v10 : Int) (v11 : Int) (v29 : Int) (d : Nat → ZV) (k : ZT → Heap → Prop) (X0 : ZT → Heap → Prop) (E : List
 (Nat × (ZT → Heap → Prop))) : zAt Tryz.prog C lf 47 [1, 1, 1, 1, 1, 0, 1, 0, 0] (zt (ntOf Tryz.prog 47) (ov [(0, .sl v0), (1, .int .i64 v1), (4, .pv false v4 0), (7, .pv false v7 0), (8, .int .i64 v8), (10, .int .i64 v10), (11,
 .int .u64 v11), (29, .int .i64 v29)] d)) k ⟨(0, X0) :: E, zFin Tryz.prog 47 K⟩ h = (@cnd Prop (decide (v29 < 8)) (ZW .i64 (v10 + v29) fun r_1 => ZAnd (SL.nil v0 = false) (ZIdx r_1 (SL.len v0) fun m_1 => ZAnd (false = false)
 (ZLdI h (SL.i v0) (SL.o v0 + m_1 * 1) .u8 fun n_1 => ZW .i64 (8 * v29) fun r_2 => ZNat r_2 fun j_1 => ZW .u8 (Int.fdiv v11 (Int.ofNat (Nat.pow 2 (cnd (Nat.ble j_1 64) j_1 64)))) fun r_3 => @cnd Prop (!decide
 (n_1 = r_3)) (ZAnd (false = false) (ZPut h v4 0 3 (ZAnd (false = false) (ZLdI (hput h v4 0 [AV.int .i64 0, AV.int .i64 0, AV.int .u64 0]) v4 0 .i64 fun n_2 => ZLdI (hput h v4 0 [AV.int .i64 0,
 AV.int .i64 0, AV.int .u64 0]) v4 1 .i64 fun n_3 => ZLdI (hput h v4 0 [AV.int .i64 0, AV.int .i64 0, AV.int .u64 0]) v4 2 .u64 fun n_4 => K (ZV.tup [ZV.agg [ZV.int .i64 n_2,
 ZV.int .i64 n_3, ZV.int .u64 n_4], ZV.sl (SL.mk true 0 0 0 0 false), ZV.int .i64 34]) (hput h v4 0 [AV.int .i64 0, AV.int .i64 0, AV.int .u64 0]))))) (ZW .i64 (v29 + 1) fun r_4 => k
 [ZV.sl v0, ZV.int .i64 v1, d 2, d 3, ZV.pv false v4 0, d 5, d 6, ZV.pv false v7 0, ZV.int .i64 v8, d 9, ZV.int .i64 v10, ZV.int .u64 v11, ZV.int .i64 v29, d 13, d 14, d 15, d 16, d 17, d 18, d
 19, d 20, d 21, d 22, d 23, d 24, d 25, d 26, d 27, d 28, ZV.int .i64 r_4, ZV.bool true, ZV.int .i64 v29, ZV.sl v0, ZV.int .i64 v10, ZV.int .i64 v29, ZV.int .i64 r_1, ZV.pv false (SL.i v0) (SL.o
 v0 + m_1 * 1), ZV.int .u8 n_1, ZV.int .u64 v11, ZV.int .i64 v29, ZV.int .i64 r_2, ZV.int .u64 (Int.fdiv v11 (Int.ofNat (Nat.pow 2 (cnd (Nat.ble j_1 64) j_1 64)))), ZV.int .u8 r_3, ZV.bool
 false, d 44, ZV.int .i64 r_4, d 46, d 47, d 48, d 49, d 50, d 51, d 52, d 53, d 54, d 55, d 56, d 57, d 58] h)))) (X0 [ZV.sl v0, ZV.int .i64 v1, d 2, d 3, ZV.pv false v4 0, d 5, d 6, ZV.pv false v7 0, ZV.int
 .i64 v8, d 9, ZV.int .i64 v10, ZV.int .u64 v11, d 12, d 13, d 14, d 15, d 16, d 17, d 18, d 19, d 20, d 21, d 22, d 23, d 24, d 25, d 26, d 27, d 28, ZV.int .i64 v29, ZV.bool false, d 31, d 32, d 33, d
 34, d 35, d 36, d 37, d 38, d 39, d 40, d 41, d 42, d 43, d 44, d 45, d 46, d 47, d 48, d 49, d 50, d 51, d 52, d 53, d 54, d 55, d 56, d 57, d 58] h)) := by kernel_rfl
theorem head_nf (C : ZCall) (lf : Nat) (K : ZK) (h : Heap) (v0 : SL) : zAt Tryz.prog C lf 76 [] (padT (ntOf Tryz.prog 76) [.sl v0]) (zFin Tryz.prog 76 K) ⟨[], zFin Tryz.prog 76 K⟩ h = (C 91 [ZV.int .i64 (Int.ofNat (SL.n
 v0))] (fun v_1 h'_1 => ZRB (ZV.av v_1) fun b_1 => @cnd Prop (!b_1) (ZAnd (false = false) (ZPut h'_1 h.next 0 3 (ZAnd (false = false) (ZLdI (hput h'_1 h.next 0 [AV.int .i64 0, AV.int .i64 0, AV.int
 .u64 0]) h.next 0 .i64 fun n_1 => ZLdI (hput h'_1 h.next 0 [AV.int .i64 0, AV.int .i64 0, AV.int .u64 0]) h.next 1 .i64 fun n_2 => ZLdI (hput h'_1 h.next 0
 [AV.int .i64 0, AV.int .i64 0, AV.int .u64 0]) h.next 2 .u64 fun n_3 => K (ZV.tup [ZV.agg [ZV.int .i64 n_1, ZV.int .i64 n_2, ZV.int .u64 n_3], ZV.int .i64 0, ZV.bool
 false]) (hput h'_1 h.next 0 [AV.int .i64 0, AV.int .i64 0, AV.int .u64 0]))))) (ZAnd (SL.nil v0 = false) (ZIdx 0 (SL.len v0) fun m_1 => ZAnd (false = false) (ZLdI h'_1 (SL.i v0) (SL.o v0 + m_1 * 1)
 .u8 fun n_1 => ZAnd (SL.nil v0 = false) (ZIdx 1 (SL.len v0) fun m_2 => ZAnd (false = false) (ZLdI h'_1 (SL.i v0) (SL.o v0 + m_2 * 1) .u8 fun n_2 => ZAnd (SL.nil v0 = false) (ZIdx 3 (SL.len v0) fun m_3 => ZAnd (false
 = false) (ZLdI h'_1 (SL.i v0) (SL.o v0 + m_3 * 1) .u8 fun n_3 => ZAnd (ZAnd (false = false) (ZLdI (Heap.newO h'_1 (AObj.cells [AV.int .u8 0, AV.int .u8 0, AV.int .u8 0, AV.int .u8 0, AV.int
 .u8 0, AV.int .u8 0, AV.int .u8 0] 0 false false)) (SL.i v0) (SL.o v0 + m_3 * 1) .u8 fun n_4 => AV.int .u8 n_4 = AV.int .u8 n_3)) (ZAnd (ZAnd (false = false) (ZLdI (Heap.newO h'_1
 (AObj.cells [AV.int .u8 0, AV.int .u8 0, AV.int .u8 0, AV.int .u8 0, AV.int .u8 0, AV.int .u8 0, AV.int .u8 0] 0 false false)) (SL.i v0) (SL.o v0 + m_2 * 1) .u8 fun n_4 =>
 AV.int .u8 n_4 = AV.int .u8 n_2)) (ZAnd (ZAnd (false = false) (ZLdI (Heap.newO h'_1 (AObj.cells [AV.int .u8 0, AV.int .u8 0, AV.int .u8 0, AV.int .u8 0, AV.int .u8 0, AV.int
 .u8 0, AV.int .u8 0] 0 false false)) (SL.i v0) (SL.o v0 + m_1 * 1) .u8 fun n_4 => AV.int .u8 n_4 = AV.int .u8 n_1)) (ZAnd (false = false) (ZPut (Heap.newO h'_1 (AObj.cells [AV.int .u8 0,
 AV.int .u8 0, AV.int .u8 0, AV.int .u8 0, AV.int .u8 0, AV.int .u8 0, AV.int .u8 0] 0 false false)) h'_1.next 0 7 (ZAnd (false = false) (ZAnd (false = false) (ZAnd (Nat.le 0 4 ∧
 Nat.le 4 4) (ZNat 20 fun l_1 => ZNat 24 fun h_1 => ZAnd ((SL.nil v0 = true → l_1 = 0 ∧ h_1 = 0) ∧ (SL.nil v0 = false → Nat.le l_1 h_1 ∧ Nat.le h_1 (SL.cap v0))) (ZSrc (hput (Heap.newO h'_1 (AObj.cells [AV.int .u8 0, AV.int
 .u8 0, AV.int .u8 0, AV.int .u8 0, AV.int .u8 0, AV.int .u8 0, AV.int .u8 0] 0 false false)) h'_1.next 0 [AV.int .u8 n_1, AV.int .u8 n_2, AV.int .u8 n_3, AV.int
 .u8 0, AV.int .u8 0, AV.int .u8 0, AV.int .u8 0]) (SL.cut v0 1 l_1 h_1 (SL.cap v0) (SL.ext v0)) 1 fun ds_1 => ZPut (hput (Heap.newO h'_1 (AObj.cells [AV.int .u8 0, AV.int .u8 0, AV.int
 .u8 0, AV.int .u8 0, AV.int .u8 0, AV.int .u8 0, AV.int .u8 0] 0 false false)) h'_1.next 0 [AV.int .u8 n_1, AV.int .u8 n_2, AV.int .u8 n_3, AV.int .u8 0, AV.int
 .u8 0, AV.int .u8 0, AV.int .u8 0]) (SL.i (SL.cut (SL.mk false h'_1.next 3 4 4 false) 1 0 4 4 false)) 3 (min 4 (SL.n (SL.cut v0 1 l_1 h_1 (SL.cap v0) (SL.ext v0))) * 1) (ZAnd (List.rec true (fun v x ih
 => cnd (AV.plainC v) ih false) ds_1 = true) (ZNat 4 fun l_2 => ZNat 8 fun h_2 => ZAnd ((SL.nil v0 = true → l_2 = 0 ∧ h_2 = 0) ∧ (SL.nil v0 = false → Nat.le l_2 h_2 ∧ Nat.le h_2 (SL.cap v0))) (ZNat 16 fun l_3 => ZNat 20 fun h_3 =>
 ZAnd ((SL.nil v0 = true → l_3 = 0 ∧ h_3 = 0) ∧ (SL.nil v0 = false → Nat.le l_3 h_3 ∧ Nat.le h_3 (SL.cap v0))) (C 116 [ZV.sl (SL.cut v0 1 l_2 h_2 (SL.cap v0) (SL.ext v0))] (fun v_2 h'_2 => ZRI (ZV.av v_2) .u64 fun n_4 => C
 116 [ZV.sl (SL.cut v0 1 l_3 h_3 (SL.cap v0) (SL.ext v0))] (fun v_3 h'_3 => ZRI (ZV.av v_3) .u64 fun n_5 => ZAnd (ZAnd (SL.nil v0 = false) (ZIdx 2 (SL.len v0) fun m_4 => ZAnd (false = false) (ZLdI h'_3 (SL.i v0) (SL.o v0 +
 m_4 * 1) .u8 fun n_6 => ZW .i64 n_6 fun r_1 => ZW .i64 n_4 fun r_2 => ZNat 8 fun l_4 => ZNat 16 fun h_4 => ZAnd ((SL.nil v0 = true → l_4 = 0 ∧ h_4 = 0) ∧ (SL.nil v0 = false → Nat.le l_4 h_4 ∧ Nat.le h_4
 (SL.cap v0))) (C 116 [ZV.sl (SL.cut v0 1 l_4 h_4 (SL.cap v0) (SL.ext v0))] (fun v_4 h'_4 => ZRI (ZV.av v_4) .u64 fun n_7 => ZAnd (ZW .i64 n_4 fun r_3 => AV.int .i64 r_3 = AV.int .i64 r_2) (ZAnd (ZW
 .i64 n_6 fun r_3 => AV.int .i64 r_3 = AV.int .i64 r_1) (ZAnd (ZAnd (false = false) (ZLdI h'_4 (SL.i v0) (SL.o v0 + m_4 * 1) .u8 fun n_8 => AV.int .u8 n_8 = AV.int .u8 n_6)) (ZAnd (ZW
 .i64 n_4 fun r_3 => AV.int .i64 r_3 = AV.int .i64 r_2) (ZAnd (ZW .i64 n_6 fun r_3 => AV.int .i64 r_3 = AV.int .i64 r_1) (ZAnd (ZAnd (false = false) (ZLdI (Heap.newO h'_4 (AObj.cells
 [AV.int .i64 0, AV.int .i64 0, AV.int .u64 0] 0 false false)) (SL.i v0) (SL.o v0 + m_4 * 1) .u8 fun n_8 => AV.int .u8 n_8 = AV.int .u8 n_6)) (ZAnd (false = false) (ZPut (Heap.newO h'_4
 (AObj.cells [AV.int .i64 0, AV.int .i64 0, AV.int .u64 0] 0 false false)) h'_4.next 0 3 (ZAnd (false = false) (ZLdI (hput (Heap.newO h'_4 (AObj.cells [AV.int .i64 0, AV.int .i64 0, AV.int
 .u64 0] 0 false false)) h'_4.next 0 [AV.int .i64 r_1, AV.int .i64 r_2, AV.int .u64 n_7]) h'_1.next 0 .u8 fun n_8 => ZLdI (hput (Heap.newO h'_4 (AObj.cells [AV.int .i64 0,
 AV.int .i64 0, AV.int .u64 0] 0 false false)) h'_4.next 0 [AV.int .i64 r_1, AV.int .i64 r_2, AV.int .u64 n_7]) h'_1.next 1 .u8 fun n_9 => ZLdI (hput (Heap.newO h'_4
 (AObj.cells [AV.int .i64 0, AV.int .i64 0, AV.int .u64 0] 0 false false)) h'_4.next 0 [AV.int .i64 r_1, AV.int .i64 r_2, AV.int .u64 n_7]) h'_1.next 2 .u8 fun n_10 =>
 ZLdI (hput (Heap.newO h'_4 (AObj.cells [AV.int .i64 0, AV.int .i64 0, AV.int .u64 0] 0 false false)) h'_4.next 0 [AV.int .i64 r_1, AV.int .i64 r_2, AV.int .u64 n_7]) (Heap.next
 h'_1) 3 .u8 fun n_11 => ZLdI (hput (Heap.newO h'_4 (AObj.cells [AV.int .i64 0, AV.int .i64 0, AV.int .u64 0] 0 false false)) h'_4.next 0 [AV.int .i64 r_1, AV.int .i64 r_2, AV.int
 .u64 n_7]) h'_1.next 4 .u8 fun n_12 => ZLdI (hput (Heap.newO h'_4 (AObj.cells [AV.int .i64 0, AV.int .i64 0, AV.int .u64 0] 0 false false)) h'_4.next 0 [AV.int .i64 r_1,
 AV.int .i64 r_2, AV.int .u64 n_7]) h'_1.next 5 .u8 fun n_13 => ZLdI (hput (Heap.newO h'_4 (AObj.cells [AV.int .i64 0, AV.int .i64 0, AV.int .u64 0] 0 false false)) h'_4.next
 0 [AV.int .i64 r_1, AV.int .i64 r_2, AV.int .u64 n_7]) h'_1.next 6 .u8 fun n_14 => C 117 [] (fun v_5 h'_5 => ZRA (ZV.av v_5) 7 fun f_1 => ZRI (f_1 0) .u8 fun n_15 => ZRI (f_1 1) .u8
 fun n_16 => ZRI (f_1 2) .u8 fun n_17 => ZRI (f_1 3) .u8 fun n_18 => ZRI (f_1 4) .u8 fun n_19 => ZRI (f_1 5) .u8 fun n_20 => ZRI (f_1 6) .u8 fun n_21 => ZAnd (ZAnd (false = false) (ZLdI h'_5
 h'_1.next 0 .u8 fun n_22 => ZLdI h'_5 h'_1.next 1 .u8 fun n_23 => ZLdI h'_5 h'_1.next 2 .u8 fun n_24 => ZLdI h'_5 h'_1.next 3 .u8 fun n_25 => ZLdI h'_5 h'_1.next 4
 .u8 fun n_26 => ZLdI h'_5 h'_1.next 5 .u8 fun n_27 => ZLdI h'_5 h'_1.next 6 .u8 fun n_28 => AV.agg [AV.int .u8 n_22, AV.int .u8 n_23, AV.int .u8 n_24, AV.int .u8 n_25,
 AV.int .u8 n_26, AV.int .u8 n_27, AV.int .u8 n_28] = AV.agg [AV.int .u8 n_8, AV.int .u8 n_9, AV.int .u8 n_10, AV.int .u8 n_11, AV.int .u8 n_12, AV.int .u8 n_13, AV.int
 .u8 n_14])) (ZAnd (false = false) (@cnd Prop (decide (n_8 = n_15)) (@cnd Prop (decide (n_9 = n_16)) (@cnd Prop (decide (n_10 = n_17)) (@cnd Prop (decide (n_11 = n_18)) (@cnd Prop (decide (n_12 = n_19)) (@cnd Prop (decide
 (n_13 = n_20)) (@cnd Prop (decide (n_14 = n_21)) (ZAnd (false = false) (ZAnd (false = false) (ZLdI h'_5 h'_4.next 0 .i64 fun n_22 => C 118 [ZV.int .i64 n_22, ZV.int .u64 n_4] (fun v_6 h'_6 => ZRB (ZV.av
 v_6) fun b_2 => @cnd Prop (cnd false true !b_2) (ZAnd (false = false) (ZPut h'_6 h.next 0 3 (ZAnd (false = false) (ZLdI (hput h'_6 h.next 0 [AV.int .i64 0, AV.int .i64 0, AV.int .u64 0])
 h.next 0 .i64 fun n_23 => ZLdI (hput h'_6 h.next 0 [AV.int .i64 0, AV.int .i64 0, AV.int .u64 0]) h.next 1 .i64 fun n_24 => ZLdI (hput h'_6 h.next 0 [AV.int
 .i64 0, AV.int .i64 0, AV.int .u64 0]) h.next 2 .u64 fun n_25 => K (ZV.tup [ZV.agg [ZV.int .i64 n_23, ZV.int .i64 n_24, ZV.int .u64 n_25], ZV.int .i64 0, ZV.bool
 false]) (hput h'_6 h.next 0 [AV.int .i64 0, AV.int .i64 0, AV.int .u64 0]))))) (C 56 [ZV.int .i64 (Int.ofNat (SL.n v0))] (fun v_7 h'_7 => ZRI (ZV.av v_7) .i64 fun n_23 => ZW .u64
 n_23 fun r_3 => @cnd Prop (cnd false true (decide (r_3 < n_5))) (ZAnd (false = false) (ZPut h'_7 h.next 0 3 (ZAnd (false = false) (ZLdI (hput h'_7 h.next 0 [AV.int .i64 0, AV.int .i64 0, AV.int
 .u64 0]) h.next 0 .i64 fun n_24 => ZLdI (hput h'_7 h.next 0 [AV.int .i64 0, AV.int .i64 0, AV.int .u64 0]) h.next 1 .i64 fun n_25 => ZLdI (hput h'_7 h.next 0
 [AV.int .i64 0, AV.int .i64 0, AV.int .u64 0]) h.next 2 .u64 fun n_26 => K (ZV.tup [ZV.agg [ZV.int .i64 n_24, ZV.int .i64 n_25, ZV.int .u64 n_26], ZV.int .i64 0,
 ZV.bool false]) (hput h'_7 h.next 0 [AV.int .i64 0, AV.int .i64 0, AV.int .u64 0]))))) (ZW .u64 (24 + n_5) fun r_4 => ZW .i64 (Int.ofNat (SL.n v0) - 8) fun r_5 => ZNat r_4 fun l_5 => ZNat
 r_5 fun h_5 => ZAnd ((SL.nil v0 = true → l_5 = 0 ∧ h_5 = 0) ∧ (SL.nil v0 = false → Nat.le l_5 h_5 ∧ Nat.le h_5 (SL.cap v0))) (ZLoop lf (zAt Tryz.prog C lf 76 [1, 1, 1, 1, 1, 1, 1, 0, 1, 0, 0]) [ZV.sl v0, ZV.tup [], ZV.pv false
 h.next 0, ZV.int .i64 0, ZV.bool false, ZV.pv false h'_1.next 0, ZV.int .u64 n_4, ZV.int .u64 n_5, ZV.pv false h'_4.next 0, ZV.tup [], ZV.tup [], ZV.sl v0, ZV.int .i64 (Int.ofNat
 (SL.n v0)), ZV.bool b_1, ZV.bool false, ZV.tup [], ZV.sl v0, ZV.pv false (SL.i v0) (SL.o v0 + m_1 * 1), ZV.int .u8 n_1, ZV.sl v0, ZV.pv false (SL.i v0) (SL.o v0 + m_2 * 1), ZV.int .u8 n_2, ZV.sl v0, ZV.pv false (SL.i
 v0) (SL.o v0 + m_3 * 1), ZV.int .u8 n_3, ZV.agg [ZV.int .u8 n_1, ZV.int .u8 n_2, ZV.int .u8 n_3, ZV.int .u8 0, ZV.int .u8 0, ZV.int .u8 0, ZV.int .u8 0], ZV.pv false
 h'_1.next 3, ZV.sl (SL.cut (SL.mk false h'_1.next 3 4 4 false) 1 0 4 4 false), ZV.sl v0, ZV.sl (SL.cut v0 1 l_1 h_1 (SL.cap v0) (SL.ext v0)), ZV.int .i64 (Int.ofNat (min 4 (SL.n (SL.cut v0 1 l_1 h_1 (SL.cap
 v0) (SL.ext v0))))), ZV.sl v0, ZV.sl (SL.cut v0 1 l_2 h_2 (SL.cap v0) (SL.ext v0)), ZV.int .u64 n_4, ZV.sl v0, ZV.sl (SL.cut v0 1 l_3 h_3 (SL.cap v0) (SL.ext v0)), ZV.int .u64 n_5, ZV.sl v0, ZV.pv false (SL.i v0)
 (SL.o v0 + m_4 * 1), ZV.int .u8 n_6, ZV.int .i64 r_1, ZV.int .u64 n_4, ZV.int .i64 r_2, ZV.sl v0, ZV.sl (SL.cut v0 1 l_4 h_4 (SL.cap v0) (SL.ext v0)), ZV.int .u64 n_7, ZV.agg [ZV.int .i64
 r_1, ZV.int .i64 r_2, ZV.int .u64 n_7], ZV.agg [ZV.int .u8 n_8, ZV.int .u8 n_9, ZV.int .u8 n_10, ZV.int .u8 n_11, ZV.int .u8 n_12, ZV.int .u8 n_13, ZV.int .u8 n_14],
 ZV.agg [ZV.int .u8 n_15, ZV.int .u8 n_16, ZV.int .u8 n_17, ZV.int .u8 n_18, ZV.int .u8 n_19, ZV.int .u8 n_20, ZV.int .u8 n_21], ZV.bool false, ZV.bool false, ZV.pv false (Heap.next
 h'_4) 0, ZV.int .i64 n_22, ZV.int .u64 n_4, ZV.bool b_2, ZV.bool !b_2, ZV.bool (cnd false true !b_2), ZV.bool false, ZV.int .u64 n_5, ZV.sl v0, ZV.int .i64 (Int.ofNat (SL.n v0)), ZV.int .i64
 n_23, ZV.int .u64 r_3, ZV.bool (decide (r_3 < n_5)), ZV.bool false, ZV.tup [], ZV.sl v0, ZV.int .u64 n_5, ZV.int .u64 r_4, ZV.sl v0, ZV.int .i64 (Int.ofNat (SL.n v0)), ZV.int .i64 r_5, ZV.sl
 (SL.cut v0 1 l_5 h_5 (SL.cap v0) (SL.ext v0)), ZV.int .i64 (Int.ofNat (SL.n (SL.cut v0 1 l_5 h_5 (SL.cap v0) (SL.ext v0)))), ZV.int .i64 0, ZV.tup [], ZV.tup [], ZV.tup [], ZV.tup [], ZV.tup [], ZV.tup [], ZV.tup [],
 ZV.tup [], ZV.tup [], ZV.tup []] (KZ.mk ((0, fun z' h' => zAt Tryz.prog C lf 76 [1, 1, 1, 1, 1, 1, 1, 1] z' (zFin Tryz.prog 76 K) (KZ.mk [] (zFin Tryz.prog 76 K)) h') :: KZ.env (KZ.mk [] (zFin Tryz.prog 76 K))) (KZ.ret (KZ.mk []
 (zFin Tryz.prog 76 K)))) h'_7))) h'_6)) h'_5))) (ZAnd (false = false) (ZPut h'_5 h.next 0 3 (ZAnd (false = false) (ZLdI (hput h'_5 h.next 0 [AV.int .i64 0, AV.int .i64 0, AV.int .u64 0])
 h.next 0 .i64 fun n_22 => ZLdI (hput h'_5 h.next 0 [AV.int .i64 0, AV.int .i64 0, AV.int .u64 0]) h.next 1 .i64 fun n_23 => ZLdI (hput h'_5 h.next 0 [AV.int
 .i64 0, AV.int .i64 0, AV.int .u64 0]) h.next 2 .u64 fun n_24 => K (ZV.tup [ZV.agg [ZV.int .i64 n_22, ZV.int .i64 n_23, ZV.int .u64 n_24], ZV.int .i64 0, ZV.bool
 false]) (hput h'_5 h.next 0 [AV.int .i64 0, AV.int .i64 0, AV.int .u64 0])))))) (ZAnd (false = false) (ZPut h'_5 h.next 0 3 (ZAnd (false = false) (ZLdI (hput h'_5 h.next 0 [AV.int
 .i64 0, AV.int .i64 0, AV.int .u64 0]) h.next 0 .i64 fun n_22 => ZLdI (hput h'_5 h.next 0 [AV.int .i64 0, AV.int .i64 0, AV.int .u64 0]) h.next 1 .i64
 fun n_23 => ZLdI (hput h'_5 h.next 0 [AV.int .i64 0, AV.int .i64 0, AV.int .u64 0]) h.next 2 .u64 fun n_24 => K (ZV.tup [ZV.agg [ZV.int .i64 n_22, ZV.int .i64 n_23, ZV.int
 .u64 n_24], ZV.int .i64 0, ZV.bool false]) (hput h'_5 h.next 0 [AV.int .i64 0, AV.int .i64 0, AV.int .u64 0])))))) (ZAnd (false = false) (ZPut h'_5 h.next 0 3 (ZAnd (false = false)
 (ZLdI (hput h'_5 h.next 0 [AV.int .i64 0, AV.int .i64 0, AV.int .u64 0]) h.next 0 .i64 fun n_22 => ZLdI (hput h'_5 h.next 0 [AV.int .i64 0, AV.int .i64 0, AV.int
 .u64 0]) h.next 1 .i64 fun n_23 => ZLdI (hput h'_5 h.next 0 [AV.int .i64 0, AV.int .i64 0, AV.int .u64 0]) h.next 2 .u64 fun n_24 => K (ZV.tup [ZV.agg [ZV.int
 .i64 n_22, ZV.int .i64 n_23, ZV.int .u64 n_24], ZV.int .i64 0, ZV.bool false]) (hput h'_5 h.next 0 [AV.int .i64 0, AV.int .i64 0, AV.int .u64 0])))))) (ZAnd (false = false)
 (ZPut h'_5 h.next 0 3 (ZAnd (false = false) (ZLdI (hput h'_5 h.next 0 [AV.int .i64 0, AV.int .i64 0, AV.int .u64 0]) h.next 0 .i64 fun n_22 => ZLdI (hput h'_5 h.next 0
 [AV.int .i64 0, AV.int .i64 0, AV.int .u64 0]) h.next 1 .i64 fun n_23 => ZLdI (hput h'_5 h.next 0 [AV.int .i64 0, AV.int .i64 0, AV.int .u64 0]) h.next 2
 .u64 fun n_24 => K (ZV.tup [ZV.agg [ZV.int .i64 n_22, ZV.int .i64 n_23, ZV.int .u64 n_24], ZV.int .i64 0, ZV.bool false]) (hput h'_5 h.next 0 [AV.int .i64 0, AV.int .i64 0,
 AV.int .u64 0])))))) (ZAnd (false = false) (ZPut h'_5 h.next 0 3 (ZAnd (false = false) (ZLdI (hput h'_5 h.next 0 [AV.int .i64 0, AV.int .i64 0, AV.int .u64 0]) h.next 0 .i64
 fun n_22 => ZLdI (hput h'_5 h.next 0 [AV.int .i64 0, AV.int .i64 0, AV.int .u64 0]) h.next 1 .i64 fun n_23 => ZLdI (hput h'_5 h.next 0 [AV.int .i64 0, AV.int .i64 0,
 AV.int .u64 0]) h.next 2 .u64 fun n_24 => K (ZV.tup [ZV.agg [ZV.int .i64 n_22, ZV.int .i64 n_23, ZV.int .u64 n_24], ZV.int .i64 0, ZV.bool false]) (hput h'_5 h.next 0 [AV.int
 .i64 0, AV.int .i64 0, AV.int .u64 0])))))) (ZAnd (false = false) (ZPut h'_5 h.next 0 3 (ZAnd (false = false) (ZLdI (hput h'_5 h.next 0 [AV.int .i64 0, AV.int .i64 0, AV.int
 .u64 0]) h.next 0 .i64 fun n_22 => ZLdI (hput h'_5 h.next 0 [AV.int .i64 0, AV.int .i64 0, AV.int .u64 0]) h.next 1 .i64 fun n_23 => ZLdI (hput h'_5 h.next 0
 [AV.int .i64 0, AV.int .i64 0, AV.int .u64 0]) h.next 2 .u64 fun n_24 => K (ZV.tup [ZV.agg [ZV.int .i64 n_22, ZV.int .i64 n_23, ZV.int .u64 n_24], ZV.int .i64 0,
 ZV.bool false]) (hput h'_5 h.next 0 [AV.int .i64 0, AV.int .i64 0, AV.int .u64 0])))))) (ZAnd (false = false) (ZPut h'_5 h.next 0 3 (ZAnd (false = false) (ZLdI (hput h'_5 h.next 0 [AV.int
 .i64 0, AV.int .i64 0, AV.int .u64 0]) h.next 0 .i64 fun n_22 => ZLdI (hput h'_5 h.next 0 [AV.int .i64 0, AV.int .i64 0, AV.int .u64 0]) h.next 1 .i64
 fun n_23 => ZLdI (hput h'_5 h.next 0 [AV.int .i64 0, AV.int .i64 0, AV.int .u64 0]) h.next 2 .u64 fun n_24 => K (ZV.tup [ZV.agg [ZV.int .i64 n_22, ZV.int .i64 n_23, ZV.int
 .u64 n_24], ZV.int .i64 0, ZV.bool false]) (hput h'_5 h.next 0 [AV.int .i64 0, AV.int .i64 0, AV.int .u64 0])))))))) (hput (Heap.newO h'_4 (AObj.cells [AV.int .i64 0, AV.int
 .i64 0, AV.int .u64 0] 0 false false)) h'_4.next 0 [AV.int .i64 r_1, AV.int .i64 r_2, AV.int .u64 n_7]))))))))))) h'_3)))) (ZAnd (SL.nil v0 = false) (ZIdx 2 (SL.len v0) fun m_4 => ZAnd
 (false = false) (ZLdI h'_3 (SL.i v0) (SL.o v0 + m_4 * 1) .u8 fun n_6 => ZW .i64 n_6 fun r_1 => ZW .i64 n_4 fun r_2 => ZNat 8 fun l_4 => ZNat 16 fun h_4 => ZAnd ((SL.nil v0 = true → l_4 = 0 ∧ h_4 = 0) ∧ (SL.nil
 v0 = false → Nat.le l_4 h_4 ∧ Nat.le h_4 (SL.cap v0))) (ZAnd (ZW .i64 n_4 fun r_3 => AV.int .i64 r_3 = AV.int .i64 r_2) (ZAnd (ZW .i64 n_6 fun r_3 => AV.int .i64 r_3 = AV.int .i64 r_1)
 (ZAnd (ZAnd (false = false) (ZLdI (Heap.newO h'_3 (AObj.cells [AV.int .i64 0, AV.int .i64 0, AV.int .u64 0] 0 false false)) (SL.i v0) (SL.o v0 + m_4 * 1) .u8 fun n_7 => AV.int .u8 n_7 = AV.int
 .u8 n_6)) (C 116 [ZV.sl (SL.cut v0 1 l_4 h_4 (SL.cap v0) (SL.ext v0))] (fun v_4 h'_4 => ZRI (ZV.av v_4) .u64 fun n_7 => ZAnd (ZW .i64 n_4 fun r_3 => AV.int .i64 r_3 = AV.int .i64 r_2) (ZAnd (ZW
 .i64 n_6 fun r_3 => AV.int .i64 r_3 = AV.int .i64 r_1) (ZAnd (ZAnd (false = false) (ZLdI h'_4 (SL.i v0) (SL.o v0 + m_4 * 1) .u8 fun n_8 => AV.int .u8 n_8 = AV.int .u8 n_6)) (ZAnd (false =
 false) (ZPut h'_4 h'_3.next 0 3 (ZAnd (false = false) (ZLdI (hput h'_4 h'_3.next 0 [AV.int .i64 r_1, AV.int .i64 r_2, AV.int .u64 n_7]) h'_1.next 0 .u8 fun n_8 => ZLdI (hput h'_4
 h'_3.next 0 [AV.int .i64 r_1, AV.int .i64 r_2, AV.int .u64 n_7]) h'_1.next 1 .u8 fun n_9 => ZLdI (hput h'_4 h'_3.next 0 [AV.int .i64 r_1, AV.int .i64 r_2, AV.int
 .u64 n_7]) h'_1.next 2 .u8 fun n_10 => ZLdI (hput h'_4 h'_3.next 0 [AV.int .i64 r_1, AV.int .i64 r_2, AV.int .u64 n_7]) h'_1.next 3 .u8 fun n_11 => ZLdI (hput h'_4
 h'_3.next 0 [AV.int .i64 r_1, AV.int .i64 r_2, AV.int .u64 n_7]) h'_1.next 4 .u8 fun n_12 => ZLdI (hput h'_4 h'_3.next 0 [AV.int .i64 r_1, AV.int .i64 r_2, AV.int
 .u64 n_7]) h'_1.next 5 .u8 fun n_13 => ZLdI (hput h'_4 h'_3.next 0 [AV.int .i64 r_1, AV.int .i64 r_2, AV.int .u64 n_7]) h'_1.next 6 .u8 fun n_14 => C 117 [] (fun v_5
 h'_5 => ZRA (ZV.av v_5) 7 fun f_1 => ZRI (f_1 0) .u8 fun n_15 => ZRI (f_1 1) .u8 fun n_16 => ZRI (f_1 2) .u8 fun n_17 => ZRI (f_1 3) .u8 fun n_18 => ZRI (f_1 4) .u8 fun n_19 => ZRI (f_1 5)
 .u8 fun n_20 => ZRI (f_1 6) .u8 fun n_21 => ZAnd (ZAnd (false = false) (ZLdI h'_5 h'_1.next 0 .u8 fun n_22 => ZLdI h'_5 h'_1.next 1 .u8 fun n_23 => ZLdI h'_5 h'_1.next 2 .u8
 fun n_24 => ZLdI h'_5 h'_1.next 3 .u8 fun n_25 => ZLdI h'_5 h'_1.next 4 .u8 fun n_26 => ZLdI h'_5 h'_1.next 5 .u8 fun n_27 => ZLdI h'_5 h'_1.next 6 .u8 fun n_28 => AV.agg
 [AV.int .u8 n_22, AV.int .u8 n_23, AV.int .u8 n_24, AV.int .u8 n_25, AV.int .u8 n_26, AV.int .u8 n_27, AV.int .u8 n_28] = AV.agg [AV.int .u8 n_8, AV.int .u8 n_9,
 AV.int .u8 n_10, AV.int .u8 n_11, AV.int .u8 n_12, AV.int .u8 n_13, AV.int .u8 n_14])) (ZAnd (false = false) (@cnd Prop (decide (n_8 = n_15)) (@cnd Prop (decide (n_9 = n_16)) (@cnd Prop (decide
 (n_10 = n_17)) (@cnd Prop (decide (n_11 = n_18)) (@cnd Prop (decide (n_12 = n_19)) (@cnd Prop (decide (n_13 = n_20)) (@cnd Prop (decide (n_14 = n_21)) (ZAnd (false = false) (ZAnd (false = false) (ZLdI h'_5 h'_3.next 0
 .i64 fun n_22 => C 118 [ZV.int .i64 n_22, ZV.int .u64 n_4] (fun v_6 h'_6 => ZRB (ZV.av v_6) fun b_2 => @cnd Prop (cnd false true !b_2) (ZAnd (false = false) (ZPut h'_6 h.next 0 3 (ZAnd (false = false)
 (ZLdI (hput h'_6 h.next 0 [AV.int .i64 0, AV.int .i64 0, AV.int .u64 0]) h.next 0 .i64 fun n_23 => ZLdI (hput h'_6 h.next 0 [AV.int .i64 0, AV.int .i64 0, AV.int
 .u64 0]) h.next 1 .i64 fun n_24 => ZLdI (hput h'_6 h.next 0 [AV.int .i64 0, AV.int .i64 0, AV.int .u64 0]) h.next 2 .u64 fun n_25 => K (ZV.tup [ZV.agg [ZV.int
 .i64 n_23, ZV.int .i64 n_24, ZV.int .u64 n_25], ZV.int .i64 0, ZV.bool false]) (hput h'_6 h.next 0 [AV.int .i64 0, AV.int .i64 0, AV.int .u64 0]))))) (C 56 [ZV.int
 .i64 (Int.ofNat (SL.n v0))] (fun v_7 h'_7 => ZRI (ZV.av v_7) .i64 fun n_23 => ZW .u64 n_23 fun r_3 => @cnd Prop (cnd false true (decide (r_3 < n_5))) (ZAnd (false = false) (ZPut h'_7 h.next 0 3 (ZAnd
 (false = false) (ZLdI (hput h'_7 h.next 0 [AV.int .i64 0, AV.int .i64 0, AV.int .u64 0]) h.next 0 .i64 fun n_24 => ZLdI (hput h'_7 h.next 0 [AV.int .i64 0, AV.int .i64
 0, AV.int .u64 0]) h.next 1 .i64 fun n_25 => ZLdI (hput h'_7 h.next 0 [AV.int .i64 0, AV.int .i64 0, AV.int .u64 0]) h.next 2 .u64 fun n_26 => K (ZV.tup [ZV.agg
 [ZV.int .i64 n_24, ZV.int .i64 n_25, ZV.int .u64 n_26], ZV.int .i64 0, ZV.bool false]) (hput h'_7 h.next 0 [AV.int .i64 0, AV.int .i64 0, AV.int .u64 0]))))) (ZW .u64
 (24 + n_5) fun r_4 => ZW .i64 (Int.ofNat (SL.n v0) - 8) fun r_5 => ZNat r_4 fun l_5 => ZNat r_5 fun h_5 => ZAnd ((SL.nil v0 = true → l_5 = 0 ∧ h_5 = 0) ∧ (SL.nil v0 = false → Nat.le l_5 h_5 ∧ Nat.le h_5 (SL.cap v0))) (ZLoop
 lf (zAt Tryz.prog C lf 76 [1, 1, 1, 1, 1, 1, 1, 0, 1, 0, 0]) [ZV.sl v0, ZV.tup [], ZV.pv false h.next 0, ZV.int .i64 0, ZV.bool false, ZV.pv false h'_1.next 0, ZV.int .u64 n_4, ZV.int .u64 n_5,
 ZV.pv false h'_3.next 0, ZV.tup [], ZV.tup [], ZV.sl v0, ZV.int .i64 (Int.ofNat (SL.n v0)), ZV.bool b_1, ZV.bool false, ZV.tup [], ZV.sl v0, ZV.pv false (SL.i v0) (SL.o v0 + m_1 * 1), ZV.int .u8 n_1, ZV.sl v0,
 ZV.pv false (SL.i v0) (SL.o v0 + m_2 * 1), ZV.int .u8 n_2, ZV.sl v0, ZV.pv false (SL.i v0) (SL.o v0 + m_3 * 1), ZV.int .u8 n_3, ZV.agg [ZV.int .u8 n_1, ZV.int .u8 n_2, ZV.int .u8 n_3, ZV.int
 .u8 0, ZV.int .u8 0, ZV.int .u8 0, ZV.int .u8 0], ZV.pv false h'_1.next 3, ZV.sl (SL.cut (SL.mk false h'_1.next 3 4 4 false) 1 0 4 4 false), ZV.sl v0, ZV.sl (SL.cut v0 1 l_1 h_1 (SL.cap
 v0) (SL.ext v0)), ZV.int .i64 (Int.ofNat (min 4 (SL.n (SL.cut v0 1 l_1 h_1 (SL.cap v0) (SL.ext v0))))), ZV.sl v0, ZV.sl (SL.cut v0 1 l_2 h_2 (SL.cap v0) (SL.ext v0)), ZV.int .u64 n_4, ZV.sl v0, ZV.sl (SL.cut v0 1 l_3
 h_3 (SL.cap v0) (SL.ext v0)), ZV.int .u64 n_5, ZV.sl v0, ZV.pv false (SL.i v0) (SL.o v0 + m_4 * 1), ZV.int .u8 n_6, ZV.int .i64 r_1, ZV.int .u64 n_4, ZV.int .i64 r_2, ZV.sl v0, ZV.sl (SL.cut v0 1
 l_4 h_4 (SL.cap v0) (SL.ext v0)), ZV.int .u64 n_7, ZV.agg [ZV.int .i64 r_1, ZV.int .i64 r_2, ZV.int .u64 n_7], ZV.agg [ZV.int .u8 n_8, ZV.int .u8 n_9, ZV.int .u8 n_10, ZV.int
 .u8 n_11, ZV.int .u8 n_12, ZV.int .u8 n_13, ZV.int .u8 n_14], ZV.agg [ZV.int .u8 n_15, ZV.int .u8 n_16, ZV.int .u8 n_17, ZV.int .u8 n_18, ZV.int .u8 n_19, ZV.int
 .u8 n_20, ZV.int .u8 n_21], ZV.bool false, ZV.bool false, ZV.pv false h'_3.next 0, ZV.int .i64 n_22, ZV.int .u64 n_4, ZV.bool b_2, ZV.bool !b_2, ZV.bool (cnd false true !b_2), ZV.bool false,
 ZV.int .u64 n_5, ZV.sl v0, ZV.int .i64 (Int.ofNat (SL.n v0)), ZV.int .i64 n_23, ZV.int .u64 r_3, ZV.bool (decide (r_3 < n_5)), ZV.bool false, ZV.tup [], ZV.sl v0, ZV.int .u64 n_5, ZV.int
 .u64 r_4, ZV.sl v0, ZV.int .i64 (Int.ofNat (SL.n v0)), ZV.int .i64 r_5, ZV.sl (SL.cut v0 1 l_5 h_5 (SL.cap v0) (SL.ext v0)), ZV.int .i64 (Int.ofNat (SL.n (SL.cut v0 1 l_5 h_5 (SL.cap v0) (SL.ext v0)))),
 ZV.int .i64 0, ZV.tup [], ZV.tup [], ZV.tup [], ZV.tup [], ZV.tup [], ZV.tup [], ZV.tup [], ZV.tup [], ZV.tup [], ZV.tup []] (KZ.mk ((0, fun z' h' => zAt Tryz.prog C lf 76 [1, 1, 1, 1, 1, 1, 1, 1] z' (zFin Tryz.prog 76 K)
 (KZ.mk [] (zFin Tryz.prog 76 K)) h') :: KZ.env (KZ.mk [] (zFin Tryz.prog 76 K))) (KZ.ret (KZ.mk [] (zFin Tryz.prog 76 K)))) h'_7))) h'_6)) h'_5))) (ZAnd (false = false) (ZPut h'_5 h.next 0 3 (ZAnd (false = false) (ZLdI
 (hput h'_5 h.next 0 [AV.int .i64 0, AV.int .i64 0, AV.int .u64 0]) h.next 0 .i64 fun n_22 => ZLdI (hput h'_5 h.next 0 [AV.int .i64 0, AV.int .i64 0, AV.int .u64
 0]) h.next 1 .i64 fun n_23 => ZLdI (hput h'_5 h.next 0 [AV.int .i64 0, AV.int .i64 0, AV.int .u64 0]) h.next 2 .u64 fun n_24 => K (ZV.tup [ZV.agg [ZV.int .i64 n_22,
 ZV.int .i64 n_23, ZV.int .u64 n_24], ZV.int .i64 0, ZV.bool false]) (hput h'_5 h.next 0 [AV.int .i64 0, AV.int .i64 0, AV.int .u64 0])))))) (ZAnd (false = false) (ZPut h'_5
 h.next 0 3 (ZAnd (false = false) (ZLdI (hput h'_5 h.next 0 [AV.int .i64 0, AV.int .i64 0, AV.int .u64 0]) h.next 0 .i64 fun n_22 => ZLdI (hput h'_5 h.next 0 [AV.int
 .i64 0, AV.int .i64 0, AV.int .u64 0]) h.next 1 .i64 fun n_23 => ZLdI (hput h'_5 h.next 0 [AV.int .i64 0, AV.int .i64 0, AV.int .u64 0]) h.next 2 .u64
 fun n_24 => K (ZV.tup [ZV.agg [ZV.int .i64 n_22, ZV.int .i64 n_23, ZV.int .u64 n_24], ZV.int .i64 0, ZV.bool false]) (hput h'_5 h.next 0 [AV.int .i64 0, AV.int .i64 0, AV.int
 .u64 0])))))) (ZAnd (false = false) (ZPut h'_5 h.next 0 3 (ZAnd (false = false) (ZLdI (hput h'_5 h.next 0 [AV.int .i64 0, AV.int .i64 0, AV.int .u64 0]) h.next 0 .i64 fun
 n_22 => ZLdI (hput h'_5 h.next 0 [AV.int .i64 0, AV.int .i64 0, AV.int .u64 0]) h.next 1 .i64 fun n_23 => ZLdI (hput h'_5 h.next 0 [AV.int .i64 0, AV.int .i64 0,
 AV.int .u64 0]) h.next 2 .u64 fun n_24 => K (ZV.tup [ZV.agg [ZV.int .i64 n_22, ZV.int .i64 n_23, ZV.int .u64 n_24], ZV.int .i64 0, ZV.bool false]) (hput h'_5 h.next 0 [AV.int
 .i64 0, AV.int .i64 0, AV.int .u64 0])))))) (ZAnd (false = false) (ZPut h'_5 h.next 0 3 (ZAnd (false = false) (ZLdI (hput h'_5 h.next 0 [AV.int .i64 0, AV.int .i64 0, AV.int
 .u64 0]) h.next 0 .i64 fun n_22 => ZLdI (hput h'_5 h.next 0 [AV.int .i64 0, AV.int .i64 0, AV.int .u64 0]) h.next 1 .i64 fun n_23 => ZLdI (hput h'_5 h.next 0
 [AV.int .i64 0, AV.int .i64 0, AV.int .u64 0]) h.next 2 .u64 fun n_24 => K (ZV.tup [ZV.agg [ZV.int .i64 n_22, ZV.int .i64 n_23, ZV.int .u64 n_24], ZV.int .i64 0,
 ZV.bool false]) (hput h'_5 h.next 0 [AV.int .i64 0, AV.int .i64 0, AV.int .u64 0])))))) (ZAnd (false = false) (ZPut h'_5 h.next 0 3 (ZAnd (false = false) (ZLdI (hput h'_5 h.next 0 [AV.int
 .i64 0, AV.int .i64 0, AV.int .u64 0]) h.next 0 .i64 fun n_22 => ZLdI (hput h'_5 h.next 0 [AV.int .i64 0, AV.int .i64 0, AV.int .u64 0]) h.next 1 .i64
 fun n_23 => ZLdI (hput h'_5 h.next 0 [AV.int .i64 0, AV.int .i64 0, AV.int .u64 0]) h.next 2 .u64 fun n_24 => K (ZV.tup [ZV.agg [ZV.int .i64 n_22, ZV.int .i64 n_23, ZV.int
 .u64 n_24], ZV.int .i64 0, ZV.bool false]) (hput h'_5 h.next 0 [AV.int .i64 0, AV.int .i64 0, AV.int .u64 0])))))) (ZAnd (false = false) (ZPut h'_5 h.next 0 3 (ZAnd (false = false)
 (ZLdI (hput h'_5 h.next 0 [AV.int .i64 0, AV.int .i64 0, AV.int .u64 0]) h.next 0 .i64 fun n_22 => ZLdI (hput h'_5 h.next 0 [AV.int .i64 0, AV.int .i64 0, AV.int
 .u64 0]) h.next 1 .i64 fun n_23 => ZLdI (hput h'_5 h.next 0 [AV.int .i64 0, AV.int .i64 0, AV.int .u64 0]) h.next 2 .u64 fun n_24 => K (ZV.tup [ZV.agg [ZV.int
 .i64 n_22, ZV.int .i64 n_23, ZV.int .u64 n_24], ZV.int .i64 0, ZV.bool false]) (hput h'_5 h.next 0 [AV.int .i64 0, AV.int .i64 0, AV.int .u64 0])))))) (ZAnd (false = false)
 (ZPut h'_5 h.next 0 3 (ZAnd (false = false) (ZLdI (hput h'_5 h.next 0 [AV.int .i64 0, AV.int .i64 0, AV.int .u64 0]) h.next 0 .i64 fun n_22 => ZLdI (hput h'_5 h.next 0
 [AV.int .i64 0, AV.int .i64 0, AV.int .u64 0]) h.next 1 .i64 fun n_23 => ZLdI (hput h'_5 h.next 0 [AV.int .i64 0, AV.int .i64 0, AV.int .u64 0]) h.next 2
 .u64 fun n_24 => K (ZV.tup [ZV.agg [ZV.int .i64 n_22, ZV.int .i64 n_23, ZV.int .u64 n_24], ZV.int .i64 0, ZV.bool false]) (hput h'_5 h.next 0 [AV.int .i64 0, AV.int .i64 0,
 AV.int .u64 0])))))))) (hput h'_4 h'_3.next 0 [AV.int .i64 r_1, AV.int .i64 r_2, AV.int .u64 n_7])))))))) (Heap.newO h'_3 (AObj.cells [AV.int .i64 0, AV.int .i64 0, AV.int
 .u64 0] 0 false false)))))))))) h'_2) (hput (hput (Heap.newO h'_1 (AObj.cells [AV.int .u8 0, AV.int .u8 0, AV.int .u8 0, AV.int .u8 0, AV.int .u8 0, AV.int .u8 0, AV.int .u8
 0] 0 false false)) h'_1.next 0 [AV.int .u8 n_1, AV.int .u8 n_2, AV.int .u8 n_3, AV.int .u8 0, AV.int .u8 0, AV.int .u8 0, AV.int .u8 0]) (SL.i (SL.cut (SL.mk false (Heap.next
 h'_1) 3 4 4 false) 1 0 4 4 false)) 3 (List.take (min 4 (SL.n (SL.cut v0 1 l_1 h_1 (SL.cap v0) (SL.ext v0))) * 1) ds_1))))))))))))))))))))))) (Heap.newO h (AObj.cells [AV.int .i64 0, AV.int .i64 0, AV.int .u64
 0] 0 false false))) := by kernel_rfl
theorem head_a11111111 (C : ZCall) (lf : Nat) (K : ZK) (h : Heap) (v2 : Nat) (v7 : Int) (v8 : Nat) (d : Nat → ZV) : zAt Tryz.prog C lf 76 [1, 1, 1, 1, 1, 1, 1, 1] (zt (ntOf Tryz.prog 76) (ov [(2, .pv false v2 0), (7, .int .u64
 v7), (8, .pv false v8 0)] d)) (zFin Tryz.prog 76 K) ⟨[], zFin Tryz.prog 76 K⟩ h = (ZAnd (false = false) (ZLdI h v8 0 .i64 fun n_1 => ZLdI h v8 1 .i64 fun n_2 => ZLdI h v8 2 .u64 fun n_3 => ZW .i64 v7
 fun r_1 => ZAnd (false = false) (ZPut h v2 0 3 (ZAnd (false = false) (ZLdI (hput h v2 0 [AV.int .i64 n_1, AV.int .i64 n_2, AV.int .u64 n_3]) v2 0 .i64 fun n_4 => ZLdI (hput h v2 0 [AV.int .i64
 n_1, AV.int .i64 n_2, AV.int .u64 n_3]) v2 1 .i64 fun n_5 => ZLdI (hput h v2 0 [AV.int .i64 n_1, AV.int .i64 n_2, AV.int .u64 n_3]) v2 2 .u64 fun n_6 => K (ZV.tup [ZV.agg [ZV.int
 .i64 n_4, ZV.int .i64 n_5, ZV.int .u64 n_6], ZV.int .i64 r_1, ZV.bool true]) (hput h v2 0 [AV.int .i64 n_1, AV.int .i64 n_2, AV.int .u64 n_3])))))) := by kernel_rfl
theorem head_l11111110100 (C : ZCall) (lf : Nat) (K : ZK) (h : Heap) (v2 : Nat) (v7 : Int) (v8 : Nat) (v72 : SL) (v73 : Int) (v74 : Int) (d : Nat → ZV) (k : ZT → Heap → Prop) (X0 : ZT → Heap → Prop) (E : List (Nat × (ZT → Heap →
 Prop))) : zAt Tryz.prog C lf 76 [1, 1, 1, 1, 1, 1, 1, 0, 1, 0, 0] (zt (ntOf Tryz.prog 76) (ov [(2, .pv false v2 0), (7, .int .u64 v7), (8, .pv false v8 0), (72, .sl v72), (73, .int .i64 v73), (74, .int .i64 v74)] d)) k ⟨(0, X0) ::
 E, zFin Tryz.prog 76 K⟩ h = (@cnd Prop (decide (v74 < v73)) (ZAnd (SL.nil v72 = false) (ZIdx v74 (SL.len v72) fun m_1 => ZAnd (false = false) (ZLdI h (SL.i v72) (SL.o v72 + m_1 * 1) .u8 fun n_1 => @cnd Prop (!decide (n_1 =
 0)) (ZAnd (false = false) (ZPut h v2 0 3 (ZAnd (false = false) (ZLdI (hput h v2 0 [AV.int .i64 0, AV.int .i64 0, AV.int .u64 0]) v2 0 .i64 fun n_2 => ZLdI (hput h v2 0 [AV.int .i64 0, AV.int
 .i64 0, AV.int .u64 0]) v2 1 .i64 fun n_3 => ZLdI (hput h v2 0 [AV.int .i64 0, AV.int .i64 0, AV.int .u64 0]) v2 2 .u64 fun n_4 => K (ZV.tup [ZV.agg [ZV.int .i64 n_2, ZV.int
 .i64 n_3, ZV.int .u64 n_4], ZV.int .i64 0, ZV.bool false]) (hput h v2 0 [AV.int .i64 0, AV.int .i64 0, AV.int .u64 0]))))) (ZW .i64 (v74 + 1) fun r_1 => k [d 0, d 1, ZV.pv false v2
 0, d 3, d 4, d 5, d 6, ZV.int .u64 v7, ZV.pv false v8 0, d 9, ZV.int .u8 n_1, d 11, d 12, d 13, d 14, d 15, d 16, d 17, d 18, d 19, d 20, d 21, d 22, d 23, d 24, d 25, d 26, d 27, d 28, d 29, d 30, d 31, d 32, d 33,
 d 34, d 35, d 36, d 37, d 38, d 39, d 40, d 41, d 42, d 43, d 44, d 45, d 46, d 47, d 48, d 49, d 50, d 51, d 52, d 53, d 54, d 55, d 56, d 57, d 58, d 59, d 60, d 61, d 62, d 63, d 64, d 65, d 66, d 67, d 68, d 69, d 70, d 71,
 ZV.sl v72, ZV.int .i64 v73, ZV.int .i64 r_1, ZV.bool true, ZV.pv false (SL.i v72) (SL.o v72 + m_1 * 1), ZV.int .u8 n_1, ZV.int .u8 n_1, ZV.bool false, d 80, ZV.int .i64 r_1, d 82, d 83, d 84]
 h)))) (X0 [d 0, d 1, ZV.pv false v2 0, d 3, d 4, d 5, d 6, ZV.int .u64 v7, ZV.pv false v8 0, d 9, d 10, d 11, d 12, d 13, d 14, d 15, d 16, d 17, d 18, d 19, d 20, d 21, d 22, d 23, d 24, d 25, d 26, d 27, d 28, d 29, d 30,
 d 31, d 32, d 33, d 34, d 35, d 36, d 37, d 38, d 39, d 40, d 41, d 42, d 43, d 44, d 45, d 46, d 47, d 48, d 49, d 50, d 51, d 52, d 53, d 54, d 55, d 56, d 57, d 58, d 59, d 60, d 61, d 62, d 63, d 64, d 65, d 66, d 67, d 68, d
 69, d 70, d 71, ZV.sl v72, ZV.int .i64 v73, ZV.int .i64 v74, ZV.bool false, d 76, d 77, d 78, d 79, d 80, d 81, d 82, d 83, d 84] h)) := by kernel_rfl
theorem of_nf (C : ZCall) (lf : Nat) (K : ZK) (h : Heap) (v0 : SL) : zAt Tryz.prog C lf 77 [] (padT (ntOf Tryz.prog 77) [.sl v0]) (zFin Tryz.prog 77 K) ⟨[], zFin Tryz.prog 77 K⟩ h = (C 119 [ZV.int .u64 0, ZV.sl v0] (fun v_1
 h'_1 => ZRI (ZV.av v_1) .u64 fun n_1 => K (ZV.int .u64 n_1) h'_1) h) := by kernel_rfl
theorem bopen_nf (C : ZCall) (lf : Nat) (K : ZK) (h : Heap) (v0n : Bool) (v0 v0o : Nat) : zAt Tryz.prog C lf 6 [] (padT (ntOf Tryz.prog 6) [.pv v0n v0 v0o]) (zFin Tryz.prog 6 K) ⟨[], zFin Tryz.prog 6 K⟩ h = (@cnd Prop v0n (K (ZV.tup [ZV.pv true 0 0, ZV.int .i64 1]) h) (C 17 [ZV.pv v0n v0 v0o] (fun v_1 h'_1 => ZRI (ZV.av v_1) .i64 fun n_1 => @cnd Prop (decide (n_1 = 0)) (K (ZV.tup [ZV.pv true 0 0, ZV.int .i64 171]) h'_1) (C 17 [ZV.pv v0n v0 v0o] (fun v_2 h'_2 => ZRI (ZV.av v_2) .i64 fun n_2 => C 18 [ZV.pv v0n v0 v0o, ZV.int .i64 n_2] (fun v_3 h'_3 => ZRT (ZV.av v_3) 3 fun f_1 => ZRI (f_1 0) .i64 fun n_3 => ZRL (f_1 1) fun s_1 => ZRI (f_1 2) .i64 fun n_4 => @cnd Prop (!decide (n_4 = 0)) (K (ZV.tup [ZV.pv true 0 0, ZV.int .i64 n_4]) h'_3) (@cnd Prop (!decide (n_3 = 3)) (@cnd Prop (cnd true (!decide (n_3 = 2)) false) (K (ZV.tup [ZV.pv true 0 0, ZV.int .i64 171]) h'_3) (K (ZV.tup [ZV.pv false h'_3.next 0, ZV.int .i64 0]) (Heap.newO h'_3 (AObj.cells [match v0n with | true => AV.nilp | false => AV.ptr v0 v0o] 0 false false)))) (K (ZV.tup [ZV.pv false h'_3.next 0, ZV.int .i64 0]) (Heap.newO h'_3 (AObj.cells [match v0n with | true => AV.nilp | false => AV.ptr v0 v0o] 0 false false))))) h'_2) h'_1)) h)) := by kernel_rfl
theorem law_nf (C : ZCall) (lf : Nat) (K : ZK) (h : Heap) (v0 : Int) (v1 : SL) : zAt Tryz.prog C lf 3 [] (padT (ntOf Tryz.prog 3) [.int .i64 v0, .sl v1]) (zFin Tryz.prog 3 K) ⟨[], zFin Tryz.prog 3 K⟩ h = (C 4 [] (fun v_1 h'_1 =>
 ZRB (ZV.av v_1) fun b_1 => C 5 [ZV.pv true 0 0] (fun v_2 h'_2 => ZRT (ZV.av v_2) 2 fun f_1 => ZRP (f_1 0) fun n_1 j_1 p_1 => ZRI (f_1 1) .i64 fun n_2 => C 6 [ZV.pv true 0 0] (fun v_3 h'_3 => ZRT (ZV.av v_3) 2 fun f_2 => ZRP
 (f_2 0) fun n_3 j_2 p_2 => ZRI (f_2 1) .i64 fun n_4 => C 7 [ZV.int .i64 512, ZV.int .i64 64] (fun v_4 h'_4 => ZRT (ZV.av v_4) 2 fun f_3 => ZRP (f_3 0) fun n_5 j_3 p_3 => ZRI (f_3 1) .i64 fun n_6 => @cnd
 Prop (!b_1) (K (ZV.bool false) h'_4) (@cnd Prop (cnd false true !n_1) (K (ZV.bool false) h'_4) (@cnd Prop (cnd false true !n_3) (K (ZV.bool false) h'_4) (@cnd Prop (cnd false true !decide (n_2 = 1)) (K (ZV.bool false) h'_4) (@cnd
 Prop (cnd false true !decide (n_4 = 1)) (K (ZV.bool false) h'_4) (@cnd Prop n_5 (K (ZV.bool false) h'_4) (@cnd Prop (cnd false true !decide (n_6 = 0)) (K (ZV.bool false) h'_4) (C 8 [ZV.pv n_5 j_3 p_3] (fun v_5 h'_5 => ZRT (ZV.av
 v_5) 2 fun f_4 => ZRP (f_4 0) fun n_7 j_4 p_4 => ZRI (f_4 1) .i64 fun n_8 => @cnd Prop n_7 (K (ZV.bool false) h'_5) (@cnd Prop (cnd false true !decide (n_8 = 0)) (K (ZV.bool false) h'_5) (C 6 [ZV.pv n_7 j_4 p_4] (fun v_6
 h'_6 => ZRT (ZV.av v_6) 2 fun f_5 => ZRP (f_5 0) fun n_9 j_5 p_5 => ZRI (f_5 1) .i64 fun n_10 => C 9 [ZV.int .i64 v0, ZV.int .i64 2] (fun v_7 h'_7 => ZRI (ZV.av v_7) .i64 fun n_11 => @cnd Prop (decide
 (n_11 = 1)) (@cnd Prop (decide (480 < Int.ofNat (SL.n v1))) (ZNat 480 fun h_1 => ZAnd ((SL.nil v1 = true → 0 = 0 ∧ h_1 = 0) ∧ (SL.nil v1 = false → Nat.le 0 h_1 ∧ Nat.le h_1 (SL.cap v1))) (C 10 [ZV.pv n_7 j_4 p_4, ZV.int
 .i64 5, ZV.sl (SL.cut v1 1 0 h_1 (SL.cap v1) (SL.ext v1))] (fun v_8 h'_8 => ZRT (ZV.av v_8) 2 fun f_6 => ZRI (f_6 0) .i64 fun n_12 => ZRI (f_6 1) .i64 fun n_13 => @cnd Prop (!n_9) (K (ZV.bool false) h'_8)
 (@cnd Prop (cnd false true !decide (n_10 = 171)) (K (ZV.bool false) h'_8) (@cnd Prop (cnd false true !decide (n_13 = 0)) (K (ZV.bool false) h'_8) (C 11 [ZV.pv n_7 j_4 p_4, ZV.int .i64 n_12] (fun v_9 h'_9 => ZRI (ZV.av v_9)
 .i64 fun n_14 => @cnd Prop (cnd false true !decide (n_14 = 0)) (K (ZV.bool false) h'_9) (C 6 [ZV.pv n_7 j_4 p_4] (fun v_10 h'_10 => ZRT (ZV.av v_10) 2 fun f_7 => ZRP (f_7 0) fun n_15 j_6 p_6 => ZRI (f_7 1) .i64 fun
 n_16 => C 5 [ZV.pv n_7 j_4 p_4] (fun v_11 h'_11 => ZRT (ZV.av v_11) 2 fun f_8 => ZRP (f_8 0) fun n_17 j_7 p_7 => ZRI (f_8 1) .i64 fun n_18 => @cnd Prop n_15 (@cnd Prop (cnd true (decide (n_16 = 171)) false) (@cnd Prop n_17
 (K (ZV.bool (cnd true (decide (n_18 = 152)) false)) h'_11) (K (ZV.bool false) h'_11)) (K (ZV.bool false) h'_11)) (K (ZV.bool false) h'_11)) h'_10) h'_9)) h'_8)))) h'_7)) (C 10 [ZV.pv n_7 j_4 p_4, ZV.int .i64 5, ZV.sl v1]
 (fun v_8 h'_8 => ZRT (ZV.av v_8) 2 fun f_6 => ZRI (f_6 0) .i64 fun n_12 => ZRI (f_6 1) .i64 fun n_13 => @cnd Prop (!n_9) (K (ZV.bool false) h'_8) (@cnd Prop (cnd false true !decide (n_10 = 171)) (K (ZV.bool false)
 h'_8) (@cnd Prop (cnd false true !decide (n_13 = 0)) (K (ZV.bool false) h'_8) (C 11 [ZV.pv n_7 j_4 p_4, ZV.int .i64 n_12] (fun v_9 h'_9 => ZRI (ZV.av v_9) .i64 fun n_14 => @cnd Prop (cnd false true !decide (n_14 =
 0)) (K (ZV.bool false) h'_9) (C 6 [ZV.pv n_7 j_4 p_4] (fun v_10 h'_10 => ZRT (ZV.av v_10) 2 fun f_7 => ZRP (f_7 0) fun n_15 j_6 p_6 => ZRI (f_7 1) .i64 fun n_16 => C 5 [ZV.pv n_7 j_4 p_4] (fun v_11 h'_11 => ZRT (ZV.av v_11)
 2 fun f_8 => ZRP (f_8 0) fun n_17 j_7 p_7 => ZRI (f_8 1) .i64 fun n_18 => @cnd Prop n_15 (@cnd Prop (cnd true (decide (n_16 = 171)) false) (@cnd Prop n_17 (K (ZV.bool (cnd true (decide (n_18 = 152)) false)) h'_11) (K
 (ZV.bool false) h'_11)) (K (ZV.bool false) h'_11)) (K (ZV.bool false) h'_11)) h'_10) h'_9)) h'_8)))) h'_7)) (@cnd Prop (decide (480 < Int.ofNat (SL.n v1))) (ZNat 480 fun h_1 => ZAnd ((SL.nil v1 = true → 0 = 0 ∧ h_1 = 0) ∧ (SL.nil
 v1 = false → Nat.le 0 h_1 ∧ Nat.le h_1 (SL.cap v1))) (C 10 [ZV.pv n_7 j_4 p_4, ZV.int .i64 4, ZV.sl (SL.cut v1 1 0 h_1 (SL.cap v1) (SL.ext v1))] (fun v_8 h'_8 => ZRT (ZV.av v_8) 2 fun f_6 => ZRI (f_6 0) .i64 fun n_12
 => ZRI (f_6 1) .i64 fun n_13 => @cnd Prop (!n_9) (K (ZV.bool false) h'_8) (@cnd Prop (cnd false true !decide (n_10 = 171)) (K (ZV.bool false) h'_8) (@cnd Prop (cnd false true !decide (n_13 = 0)) (K (ZV.bool false) h'_8) (C
 11 [ZV.pv n_7 j_4 p_4, ZV.int .i64 n_12] (fun v_9 h'_9 => ZRI (ZV.av v_9) .i64 fun n_14 => @cnd Prop (cnd false true !decide (n_14 = 0)) (K (ZV.bool false) h'_9) (C 6 [ZV.pv n_7 j_4 p_4] (fun v_10 h'_10 => ZRT (ZV.av
 v_10) 2 fun f_7 => ZRP (f_7 0) fun n_15 j_6 p_6 => ZRI (f_7 1) .i64 fun n_16 => C 5 [ZV.pv n_7 j_4 p_4] (fun v_11 h'_11 => ZRT (ZV.av v_11) 2 fun f_8 => ZRP (f_8 0) fun n_17 j_7 p_7 => ZRI (f_8 1) .i64 fun n_18 =>
 @cnd Prop n_15 (@cnd Prop (cnd true (decide (n_16 = 171)) false) (@cnd Prop n_17 (K (ZV.bool (cnd true (decide (n_18 = 152)) false)) h'_11) (K (ZV.bool false) h'_11)) (K (ZV.bool false) h'_11)) (K (ZV.bool false) h'_11)) h'_10)
 h'_9)) h'_8)))) h'_7)) (C 10 [ZV.pv n_7 j_4 p_4, ZV.int .i64 4, ZV.sl v1] (fun v_8 h'_8 => ZRT (ZV.av v_8) 2 fun f_6 => ZRI (f_6 0) .i64 fun n_12 => ZRI (f_6 1) .i64 fun n_13 => @cnd Prop (!n_9) (K (ZV.bool
 false) h'_8) (@cnd Prop (cnd false true !decide (n_10 = 171)) (K (ZV.bool false) h'_8) (@cnd Prop (cnd false true !decide (n_13 = 0)) (K (ZV.bool false) h'_8) (C 11 [ZV.pv n_7 j_4 p_4, ZV.int .i64 n_12] (fun v_9 h'_9 => ZRI
 (ZV.av v_9) .i64 fun n_14 => @cnd Prop (cnd false true !decide (n_14 = 0)) (K (ZV.bool false) h'_9) (C 6 [ZV.pv n_7 j_4 p_4] (fun v_10 h'_10 => ZRT (ZV.av v_10) 2 fun f_7 => ZRP (f_7 0) fun n_15 j_6 p_6 => ZRI (f_7 1)
 .i64 fun n_16 => C 5 [ZV.pv n_7 j_4 p_4] (fun v_11 h'_11 => ZRT (ZV.av v_11) 2 fun f_8 => ZRP (f_8 0) fun n_17 j_7 p_7 => ZRI (f_8 1) .i64 fun n_18 => @cnd Prop n_15 (@cnd Prop (cnd true (decide (n_16 = 171)) false)
 (@cnd Prop n_17 (K (ZV.bool (cnd true (decide (n_18 = 152)) false)) h'_11) (K (ZV.bool false) h'_11)) (K (ZV.bool false) h'_11)) (K (ZV.bool false) h'_11)) h'_10) h'_9)) h'_8)))) h'_7))) h'_6) h'_5))) h'_4)))))))) h'_3) h'_2)
 h'_1) h) := by kernel_rfl
theorem pick_nf (C : ZCall) (lf : Nat) (K : ZK) (h : Heap) (v0 : Int) (v1 : Int) : zAt Tryz.prog C lf 9 [] (padT (ntOf Tryz.prog 9) [.int .i64 v0, .int .i64 v1]) (zFin Tryz.prog 9 K) ⟨[], zFin Tryz.prog 9 K⟩ h = (@cnd Prop (decide
 (v0 < 0)) (ZW .i64 (v0 + 1) fun r_1 => ZW .i64 (-r_1) fun r_2 => ZAnd (v1 = 0 → False) (K (ZV.int .i64 (Int.tmod r_2 v1)) h)) (ZAnd (v1 = 0 → False) (K (ZV.int .i64 (Int.tmod v0 v1)) h))) := by
 kernel_rfl
theorem sget_nf (C : ZCall) (lf : Nat) (K : ZK) (h : Heap) (v0n : Bool) (v0 v0o : Nat) (v1 : Int) : zAt Tryz.prog C lf 18 [] (padT (ntOf Tryz.prog 18) [.pv v0n v0 v0o, .int .i64 v1]) (zFin Tryz.prog 18 K) ⟨[], zFin Tryz.prog 18 K⟩
 h = (C 45 [ZV.pv v0n v0 v0o] (fun v_1 h'_1 => ZRP (ZV.av v_1) fun n_1 j_1 p_1 => ZAnd (n_1 = false) (ZAnd (false = false) (ZAnd (false = false) (ZLdM h'_1 j_1 (Nat.add p_1 3) fun n_2 j_2 => ZLook h'_1 n_2 j_2 (AV.int .i64
 v1) (fun v_2 => ZRA v_2 2 fun f_1 => ZRI (f_1 0) .i64 fun n_3 => ZRI (f_1 1) .u64 fun n_4 => ZAnd (false = false) (ZPut (Heap.newO h'_1 (AObj.cells [AV.int .i64 0, AV.int .u64 0] 0 false false))
 h'_1.next 0 2 (ZAnd (v0n = false) (ZAnd (false = false) (ZAnd (false = false) (ZLdP (hput (Heap.newO h'_1 (AObj.cells [AV.int .i64 0, AV.int .u64 0] 0 false false)) h'_1.next 0 [AV.int .i64 n_3,
 AV.int .u64 n_4]) v0 v0o fun n_5 j_3 p_2 => ZAnd (n_5 = false) (ZAnd (false = false) (ZAnd (false = false) (ZLdP (hput (Heap.newO h'_1 (AObj.cells [AV.int .i64 0, AV.int .u64 0] 0 false false)) (Heap.next
 h'_1) 0 [AV.int .i64 n_3, AV.int .u64 n_4]) j_3 p_2 fun n_6 j_4 p_3 => C 46 [ZV.pv n_6 j_4 p_3, ZV.int .i64 v1] (fun v_3 h'_2 => ZRT (ZV.av v_3) 2 fun f_2 => ZRL (f_2 0) fun s_1 => ZRI (f_2 1) .i64 fun
 n_7 => @cnd Prop (!decide (n_7 = 0)) (K (ZV.tup [ZV.int .i64 0, ZV.sl (SL.mk true 0 0 0 0 false), ZV.int .i64 n_7]) h'_2) (C 47 [ZV.sl s_1, ZV.int .i64 v1] (fun v_4 h'_3 => ZRT (ZV.av v_4) 3 fun f_3 => ZRA
 (f_3 0) 3 fun f_4 => ZRI (f_4 0) .i64 fun n_8 => ZRI (f_4 1) .i64 fun n_9 => ZRI (f_4 2) .u64 fun n_10 => ZRL (f_3 1) fun s_2 => ZRI (f_3 2) .i64 fun n_11 => ZAnd (false = false) (ZPut (Heap.newO h'_3
 (AObj.cells [AV.int .i64 0, AV.int .i64 0, AV.int .u64 0] 0 false false)) h'_3.next 0 3 (@cnd Prop (!decide (n_11 = 0)) (K (ZV.tup [ZV.int .i64 0, ZV.sl (SL.mk true 0 0 0 0 false), ZV.int
 .i64 n_11]) (hput (Heap.newO h'_3 (AObj.cells [AV.int .i64 0, AV.int .i64 0, AV.int .u64 0] 0 false false)) h'_3.next 0 [AV.int .i64 n_8, AV.int .i64 n_9, AV.int .u64 n_10]))
 (ZAnd (false = false) (ZAnd (false = false) (ZLdI (hput (Heap.newO h'_3 (AObj.cells [AV.int .i64 0, AV.int .i64 0, AV.int .u64 0] 0 false false)) h'_3.next 0 [AV.int .i64 n_8, AV.int .i64
 n_9, AV.int .u64 n_10]) h'_3.next 0 .i64 fun n_12 => ZAnd (false = false) (ZAnd (false = false) (ZLdI (hput (Heap.newO h'_3 (AObj.cells [AV.int .i64 0, AV.int .i64 0, AV.int .u64 0] 0
 false false)) h'_3.next 0 [AV.int .i64 n_8, AV.int .i64 n_9, AV.int .u64 n_10]) h'_1.next 0 .i64 fun n_13 => @cnd Prop (!decide (n_12 = n_13)) (K (ZV.tup [ZV.int .i64 0, ZV.sl
 (SL.mk true 0 0 0 0 false), ZV.int .i64 33]) (hput (Heap.newO h'_3 (AObj.cells [AV.int .i64 0, AV.int .i64 0, AV.int .u64 0] 0 false false)) h'_3.next 0 [AV.int .i64 n_8, AV.int
 .i64 n_9, AV.int .u64 n_10])) (ZAnd (false = false) (ZAnd (false = false) (ZLdI (hput (Heap.newO h'_3 (AObj.cells [AV.int .i64 0, AV.int .i64 0, AV.int .u64 0] 0 false false)) h'_3.next 0
 [AV.int .i64 n_8, AV.int .i64 n_9, AV.int .u64 n_10]) h'_3.next 2 .u64 fun n_14 => ZAnd (false = false) (ZAnd (false = false) (ZLdI (hput (Heap.newO h'_3 (AObj.cells [AV.int .i64 0, AV.int
 .i64 0, AV.int .u64 0] 0 false false)) h'_3.next 0 [AV.int .i64 n_8, AV.int .i64 n_9, AV.int .u64 n_10]) h'_1.next 1 .u64 fun n_15 => @cnd Prop (cnd false true !decide (n_14
 = n_15)) (K (ZV.tup [ZV.int .i64 0, ZV.sl (SL.mk true 0 0 0 0 false), ZV.int .i64 33]) (hput (Heap.newO h'_3 (AObj.cells [AV.int .i64 0, AV.int .i64 0, AV.int .u64 0] 0 false false)) (Heap.next
 h'_3) 0 [AV.int .i64 n_8, AV.int .i64 n_9, AV.int .u64 n_10])) (ZAnd (false = false) (ZAnd (false = false) (ZLdI (hput (Heap.newO h'_3 (AObj.cells [AV.int .i64 0, AV.int .i64 0, AV.int
 .u64 0] 0 false false)) h'_3.next 0 [AV.int .i64 n_8, AV.int .i64 n_9, AV.int .u64 n_10]) h'_3.next 0 .i64 fun n_16 => K (ZV.tup [ZV.int .i64 n_16, ZV.sl s_2, ZV.int
 .i64 0]) (hput (Heap.newO h'_3 (AObj.cells [AV.int .i64 0, AV.int .i64 0, AV.int .u64 0] 0 false false)) h'_3.next 0 [AV.int .i64 n_8, AV.int .i64 n_9, AV.int .u64
 n_10]))))))))))))))))) h'_2)) (hput (Heap.newO h'_1 (AObj.cells [AV.int .i64 0, AV.int .u64 0] 0 false false)) h'_1.next 0 [AV.int .i64 n_3, AV.int .u64 n_4])))))))))) (ZAnd (false = false) (ZPut
 (Heap.newO h'_1 (AObj.cells [AV.int .i64 0, AV.int .u64 0] 0 false false)) h'_1.next 0 2 (K (ZV.tup [ZV.int .i64 0, ZV.sl (SL.mk true 0 0 0 0 false), ZV.int .i64 111]) (hput (Heap.newO h'_1
 (AObj.cells [AV.int .i64 0, AV.int .u64 0] 0 false false)) h'_1.next 0 [AV.int .i64 0, AV.int .u64 0])))))))) h) := by kernel_rfl
theorem write_nf (C : ZCall) (lf : Nat) (K : ZK) (h : Heap) (v0n : Bool) (v0 v0o : Nat) (v1 : Int) (v2 : Int) (v3 : SL) : zAt Tryz.prog C lf 59 [] (padT (ntOf Tryz.prog 59) [.pv v0n v0 v0o, .int .i64 v1, .int .i64 v2, .sl v3])
 (zFin Tryz.prog 59 K) ⟨[], zFin Tryz.prog 59 K⟩ h = (ZAnd (v0n = false) (ZAnd (false = false) (ZAnd (false = false) (ZLdP h v0 v0o fun n_1 j_1 p_1 => C 23 [ZV.pv n_1 j_1 p_1] (fun v_1 h'_1 => ZRI (ZV.av v_1) .i64 fun n_2 =>
 C 60 [ZV.pv v0n v0 v0o] (fun v_2 h'_2 => ZRI (ZV.av v_2) .u64 fun n_3 => C 90 [ZV.int .i64 n_2, ZV.agg [ZV.int .i64 v2, ZV.int .i64 v1, ZV.int .u64 n_3], ZV.sl v3] (fun v_3 h'_3 => ZRT (ZV.av
 v_3) 2 fun f_1 => ZRL (f_1 0) fun s_1 => ZRI (f_1 1) .i64 fun n_4 => C 27 [ZV.int .i64 n_4] (fun v_4 h'_4 => ZRT (ZV.av v_4) 0 fun f_2 => ZAnd (v0n = false) (ZAnd (false = false) (ZAnd (false = false) (ZLdP h'_4 v0
 v0o fun n_5 j_2 p_2 => C 22 [ZV.pv n_5 j_2 p_2, ZV.int .i64 v1, ZV.sl s_1] (fun v_5 h'_5 => ZRI (ZV.av v_5) .i64 fun n_6 => C 21 [ZV.pv v0n v0 v0o, ZV.int .i64 n_6] (fun v_6 h'_6 => ZRT (ZV.av v_6) 0 fun f_3
 => K (ZV.tup []) h'_6) h'_5) h'_4)))) h'_3) h'_2) h'_1) h)))) := by kernel_rfl
theorem made_nf (C : ZCall) (lf : Nat) (K : ZK) (h : Heap) (v0n : Bool) (v0 v0o : Nat) (v1 : Int) (v2 : SL) : zAt Tryz.prog C lf 29 [] (padT (ntOf Tryz.prog 29) [.pv v0n v0 v0o, .int .i64 v1, .sl v2]) (zFin Tryz.prog 29 K) ⟨[],
 zFin Tryz.prog 29 K⟩ h = (C 57 [ZV.pv v0n v0 v0o] (fun v_1 h'_1 => ZRI (ZV.av v_1) .i64 fun n_1 => @cnd Prop (decide (n_1 = 0)) (C 27 [ZV.int .i64 2] (fun v_2 h'_2 => ZRT (ZV.av v_2) 0 fun f_1 => ZAnd (v0n = false)
 (ZAnd (false = false) (ZAnd (false = false) (ZLdP h'_2 v0 (Nat.add v0o 3) fun n_2 j_1 p_1 => C 58 [ZV.pv n_2 j_1 p_1] (fun v_3 h'_3 => ZRT (ZV.av v_3) 2 fun f_2 => ZRI (f_2 0) .i64 fun n_3 => ZRI (f_2 1) .i64 fun n_4
 => C 27 [ZV.int .i64 n_4] (fun v_4 h'_4 => ZRT (ZV.av v_4) 0 fun f_3 => C 59 [ZV.pv v0n v0 v0o, ZV.int .i64 n_3, ZV.int .i64 v1, ZV.sl v2] (fun v_5 h'_5 => ZRT (ZV.av v_5) 0 fun f_4 => ZAnd (v0n = false) (ZAnd
 (false = false) (ZAnd (false = false) (ZLdP h'_5 v0 (Nat.add v0o 2) fun n_5 j_2 p_2 => ZAnd (n_5 = false) (ZAnd (false = false) (ZAnd (false = false) (ZLdM h'_5 j_2 (Nat.add p_2 3) fun n_6 j_3 => C 60 [ZV.pv v0n v0 v0o] (fun v_6
 h'_6 => ZRI (ZV.av v_6) .u64 fun n_7 => ZAnd (ZAnd (false = false) (ZLdM h'_6 j_2 (Nat.add p_2 3) fun n_8 j_4 => ZV.av (ZV.mp n_8 j_4) = ZV.av (ZV.mp n_6 j_3))) (ZAnd (ZAnd (false = false) (ZLdP h'_6 v0 (Nat.add v0o 2) fun
 n_8 j_4 p_3 => ZV.av (ZV.pv n_8 j_4 p_3) = ZV.av (ZV.pv n_5 j_2 p_2))) (ZMap h'_6 n_6 j_3 (AV.int .i64 n_3) (K (ZV.int .i64 n_3) (hmap h'_6 j_3 (mset (AV.int .i64 n_3) (AV.agg [AV.int .i64 v1, AV.int
 .u64 n_7]))))))) h'_5))))))) h'_4) h'_3) h'_2)))) h'_1) (ZAnd (v0n = false) (ZAnd (false = false) (ZAnd (false = false) (ZLdP h'_1 v0 (Nat.add v0o 3) fun n_2 j_1 p_1 => C 58 [ZV.pv n_2 j_1 p_1] (fun v_2 h'_2 => ZRT (ZV.av
 v_2) 2 fun f_1 => ZRI (f_1 0) .i64 fun n_3 => ZRI (f_1 1) .i64 fun n_4 => C 27 [ZV.int .i64 n_4] (fun v_3 h'_3 => ZRT (ZV.av v_3) 0 fun f_2 => C 59 [ZV.pv v0n v0 v0o, ZV.int .i64 n_3, ZV.int .i64
 v1, ZV.sl v2] (fun v_4 h'_4 => ZRT (ZV.av v_4) 0 fun f_3 => ZAnd (v0n = false) (ZAnd (false = false) (ZAnd (false = false) (ZLdP h'_4 v0 (Nat.add v0o 2) fun n_5 j_2 p_2 => ZAnd (n_5 = false) (ZAnd (false = false) (ZAnd (false =
 false) (ZLdM h'_4 j_2 (Nat.add p_2 3) fun n_6 j_3 => C 60 [ZV.pv v0n v0 v0o] (fun v_5 h'_5 => ZRI (ZV.av v_5) .u64 fun n_7 => ZAnd (ZAnd (false = false) (ZLdM h'_5 j_2 (Nat.add p_2 3) fun n_8 j_4 => ZV.av (ZV.mp n_8 j_4) =
 ZV.av (ZV.mp n_6 j_3))) (ZAnd (ZAnd (false = false) (ZLdP h'_5 v0 (Nat.add v0o 2) fun n_8 j_4 p_3 => ZV.av (ZV.pv n_8 j_4 p_3) = ZV.av (ZV.pv n_5 j_2 p_2))) (ZMap h'_5 n_6 j_3 (AV.int .i64 n_3) (K (ZV.int .i64 n_3)
 (hmap h'_5 j_3 (mset (AV.int .i64 n_3) (AV.agg [AV.int .i64 v1, AV.int .u64 n_7]))))))) h'_4))))))) h'_3) h'_2) h'_1))))) h) := by kernel_rfl
theorem next_nf (C : ZCall) (lf : Nat) (K : ZK) (h : Heap) (v0n : Bool) (v0 v0o : Nat) : zAt Tryz.prog C lf 60 [] (padT (ntOf Tryz.prog 60) [.pv v0n v0 v0o]) (zFin Tryz.prog 60 K) ⟨[], zFin Tryz.prog 60 K⟩ h = (ZAnd (v0n = false)
 (ZAnd (false = false) (ZAnd (false = false) (ZLdP h v0 (Nat.add v0o 1) fun n_1 j_1 p_1 => ZAnd (n_1 = false) (ZAnd (false = false) (ZAnd (false = false) (ZLdI h j_1 p_1 .u64 fun n_2 => ZW .u64 (n_2 + 1) fun r_1 => K
 (ZV.int .u64 r_1) h))))))) := by kernel_rfl
end BnN
namespace BnN
open Go Go.X Go.Proofs
theorem give_nf (C : ZCall) (lf : Nat) (K : ZK) (h : Heap) (v0 : Int) : zAt Tryz.prog C lf 27 [] (padT (ntOf Tryz.prog 27) [.int .i64 v0]) (zFin Tryz.prog 27 K) ⟨[], zFin Tryz.prog 27 K⟩ h = (@cnd Prop (!decide (v0 = 0)) False (K
 (ZV.tup []) h)) := by kernel_rfl
theorem device_nf (C : ZCall) (lf : Nat) (K : ZK) (h : Heap) (v0n : Bool) (v0 v0o : Nat) (v1 : Int) : zAt Tryz.prog C lf 21 [] (padT (ntOf Tryz.prog 21) [.pv v0n v0 v0o, .int .i64 v1]) (zFin Tryz.prog 21 K) ⟨[], zFin Tryz.prog 21
 K⟩ h = (@cnd Prop (!decide (v1 = 0)) (ZAnd (v0n = false) (ZAnd (false = false) (ZAnd (false = false) (ZPut h v0 (Nat.add v0o 5) 1 False)))) (K (ZV.tup []) h)) := by kernel_rfl
end BnN
namespace BnN
open Go Go.X Go.Proofs
theorem snew_nf (C : ZCall) (lf : Nat) (K : ZK) (h : Heap) (v0n : Bool) (v0 v0o : Nat) (v1 : Int) (v2 : SL) : zAtD Tryz.prog C lf 10 [] [] (padT (ntOf Tryz.prog 10) [.pv v0n v0 v0o, .int .i64 v1, .sl v2]) (zFinD Tryz.prog C lf 10
 K) (fun D => ⟨[], zFinD Tryz.prog C lf 10 K D⟩) h = (C 26 [ZV.pv v0n v0 v0o] (fun v_1 h'_1 => ZRP (ZV.av v_1) fun n_1 j_1 p_1 => @cnd Prop (decide (v1 < 2)) (C 27 [ZV.int .i64 1] (fun v_2 h'_2 => ZRT (ZV.av v_2) 0 fun f_1
 => C 28 [ZV.pv n_1 j_1 p_1] (fun v_3 h'_3 => ZRI (ZV.av v_3) .i64 fun n_2 => @cnd Prop (decide (n_2 < Int.ofNat (SL.n v2))) (C 27 [ZV.int .i64 31] (fun v_4 h'_4 => ZRT (ZV.av v_4) 0 fun f_2 => C 29 [ZV.pv n_1 j_1
 p_1, ZV.int .i64 v1, ZV.sl v2] (fun v_5 h'_5 => ZRI (ZV.av v_5) .i64 fun n_3 => ZAnd (false = false) (ZPut h'_5 h.next 0 1 (ZAnd (true = true) (ZAnd (true = true) (ZAnd (false = false) (ZLdI (hput h'_5
 h.next 0 [AV.int .i64 0]) h.next 0 .i64 fun n_4 => K (ZV.tup [ZV.int .i64 n_3, ZV.int .i64 n_4]) (hput h'_5 h.next 0 [AV.int .i64 0]))))))) h'_4) h'_3) (C 29 [ZV.pv n_1 j_1
 p_1, ZV.int .i64 v1, ZV.sl v2] (fun v_4 h'_4 => ZRI (ZV.av v_4) .i64 fun n_3 => ZAnd (false = false) (ZPut h'_4 h.next 0 1 (ZAnd (true = true) (ZAnd (true = true) (ZAnd (false = false) (ZLdI (hput h'_4
 h.next 0 [AV.int .i64 0]) h.next 0 .i64 fun n_4 => K (ZV.tup [ZV.int .i64 n_3, ZV.int .i64 n_4]) (hput h'_4 h.next 0 [AV.int .i64 0]))))))) h'_3)) h'_2) h'_1) (@cnd Prop (cnd
 false true (decide (5 < v1))) (C 27 [ZV.int .i64 1] (fun v_2 h'_2 => ZRT (ZV.av v_2) 0 fun f_1 => C 28 [ZV.pv n_1 j_1 p_1] (fun v_3 h'_3 => ZRI (ZV.av v_3) .i64 fun n_2 => @cnd Prop (decide (n_2 < Int.ofNat (SL.n
 v2))) (C 27 [ZV.int .i64 31] (fun v_4 h'_4 => ZRT (ZV.av v_4) 0 fun f_2 => C 29 [ZV.pv n_1 j_1 p_1, ZV.int .i64 v1, ZV.sl v2] (fun v_5 h'_5 => ZRI (ZV.av v_5) .i64 fun n_3 => ZAnd (false = false) (ZPut h'_5
 h.next 0 1 (ZAnd (true = true) (ZAnd (true = true) (ZAnd (false = false) (ZLdI (hput h'_5 h.next 0 [AV.int .i64 0]) h.next 0 .i64 fun n_4 => K (ZV.tup [ZV.int .i64 n_3, ZV.int .i64
 n_4]) (hput h'_5 h.next 0 [AV.int .i64 0]))))))) h'_4) h'_3) (C 29 [ZV.pv n_1 j_1 p_1, ZV.int .i64 v1, ZV.sl v2] (fun v_4 h'_4 => ZRI (ZV.av v_4) .i64 fun n_3 => ZAnd (false = false) (ZPut h'_4
 h.next 0 1 (ZAnd (true = true) (ZAnd (true = true) (ZAnd (false = false) (ZLdI (hput h'_4 h.next 0 [AV.int .i64 0]) h.next 0 .i64 fun n_4 => K (ZV.tup [ZV.int .i64 n_3, ZV.int .i64
 n_4]) (hput h'_4 h.next 0 [AV.int .i64 0]))))))) h'_3)) h'_2) h'_1) (C 28 [ZV.pv n_1 j_1 p_1] (fun v_2 h'_2 => ZRI (ZV.av v_2) .i64 fun n_2 => @cnd Prop (decide (n_2 < Int.ofNat (SL.n v2))) (C 27 [ZV.int
 .i64 31] (fun v_3 h'_3 => ZRT (ZV.av v_3) 0 fun f_1 => C 29 [ZV.pv n_1 j_1 p_1, ZV.int .i64 v1, ZV.sl v2] (fun v_4 h'_4 => ZRI (ZV.av v_4) .i64 fun n_3 => ZAnd (false = false) (ZPut h'_4 h.next 0 1
 (ZAnd (true = true) (ZAnd (true = true) (ZAnd (false = false) (ZLdI (hput h'_4 h.next 0 [AV.int .i64 0]) h.next 0 .i64 fun n_4 => K (ZV.tup [ZV.int .i64 n_3, ZV.int .i64 n_4]) (hput h'_4
 h.next 0 [AV.int .i64 0]))))))) h'_3) h'_2) (C 29 [ZV.pv n_1 j_1 p_1, ZV.int .i64 v1, ZV.sl v2] (fun v_3 h'_3 => ZRI (ZV.av v_3) .i64 fun n_3 => ZAnd (false = false) (ZPut h'_3 h.next 0 1 (ZAnd
 (true = true) (ZAnd (true = true) (ZAnd (false = false) (ZLdI (hput h'_3 h.next 0 [AV.int .i64 0]) h.next 0 .i64 fun n_4 => K (ZV.tup [ZV.int .i64 n_3, ZV.int .i64 n_4]) (hput h'_3
 h.next 0 [AV.int .i64 0]))))))) h'_2)) h'_1))) (Heap.newO h (AObj.cells [AV.int .i64 0] 0 false false))) := by kernel_rfl
end BnN
