/-
  PROVED: banyan/sum.More answers a sum of its bytes and leaves nothing behind. Condition: the world has the program's variables.
-/
import Derived.Test.YtghpkpddmicleaaGreatDoorXh
import Derived.Test.YtghpkpddmicleaaGreatDoorProg
import Derived.KernelRfl
set_option linter.unusedVariables false
set_option linter.unusedSimpArgs false
set_option maxRecDepth 1000000
namespace SuN
open Go Go.X Go.Proofs
theorem more_nf (C : ZCall) (lf : Nat) (K : ZK) (h : Heap) (v0 : Int) (v1 : SL) : zAt Tryz.prog C lf 119 [] (padT (ntOf Tryz.prog 119) [.int .u64 v0, .sl v1]) (zFin Tryz.prog 119 K) ⟨[], zFin Tryz.prog 119 K⟩ h = (C 160 [] (fun
 v_1 h'_1 => ZRA (ZV.av v_1) 16 fun f_1 => ZRI (f_1 0) IntKind.u64 fun n_1 => ZRI (f_1 1) IntKind.u64 fun n_2 => ZRI (f_1 2) IntKind.u64 fun n_3 => ZRI (f_1 3) IntKind.u64 fun n_4 => ZRI (f_1 4) IntKind.u64 fun n_5 => ZRI (f_1 5)
 IntKind.u64 fun n_6 => ZRI (f_1 6) IntKind.u64 fun n_7 => ZRI (f_1 7) IntKind.u64 fun n_8 => ZRI (f_1 8) IntKind.u64 fun n_9 => ZRI (f_1 9) IntKind.u64 fun n_10 => ZRI (f_1 10) IntKind.u64 fun n_11 => ZRI (f_1 11) IntKind.u64 fun
 n_12 => ZRI (f_1 12) IntKind.u64 fun n_13 => ZRI (f_1 13) IntKind.u64 fun n_14 => ZRI (f_1 14) IntKind.u64 fun n_15 => ZRI (f_1 15) IntKind.u64 fun n_16 => ZAnd (false = false) (ZPut (Heap.newO h'_1 (AObj.cells [AV.int IntKind.u64
 0, AV.int IntKind.u64 0, AV.int IntKind.u64 0, AV.int IntKind.u64 0, AV.int IntKind.u64 0, AV.int IntKind.u64 0, AV.int IntKind.u64 0, AV.int IntKind.u64 0, AV.int IntKind.u64 0, AV.int IntKind.u64 0, AV.int IntKind.u64 0, AV.int
 IntKind.u64 0, AV.int IntKind.u64 0, AV.int IntKind.u64 0, AV.int IntKind.u64 0, AV.int IntKind.u64 0] 0 false false)) (Heap.next h'_1) 0 16 (ZW IntKind.u64 (Int.ofNat (Nat.xor 18446744073709551615 (toU IntKind.u64 v0))) fun r_1
 => ZLoop lf (zAt Tryz.prog C lf 119 [1, 1, 1, 0, 1, 0, 0]) [ZV.int IntKind.u64 v0, ZV.sl v1, ZV.tup [], ZV.tup [], ZV.int IntKind.u64 0, ZV.pv false (Heap.next h'_1) 0, ZV.int IntKind.u64 r_1, ZV.tup [], ZV.tup [], ZV.agg [ZV.int
 IntKind.u64 n_1, ZV.int IntKind.u64 n_2, ZV.int IntKind.u64 n_3, ZV.int IntKind.u64 n_4, ZV.int IntKind.u64 n_5, ZV.int IntKind.u64 n_6, ZV.int IntKind.u64 n_7, ZV.int IntKind.u64 n_8, ZV.int IntKind.u64 n_9, ZV.int IntKind.u64
 n_10, ZV.int IntKind.u64 n_11, ZV.int IntKind.u64 n_12, ZV.int IntKind.u64 n_13, ZV.int IntKind.u64 n_14, ZV.int IntKind.u64 n_15, ZV.int IntKind.u64 n_16], ZV.int IntKind.u64 v0, ZV.int IntKind.u64 r_1, ZV.sl v1, ZV.int
 IntKind.i64 (Int.ofNat (SL.n v1)), ZV.int IntKind.i64 0, ZV.tup [], ZV.tup [], ZV.tup [], ZV.tup [], ZV.tup [], ZV.tup [], ZV.tup [], ZV.tup [], ZV.tup [], ZV.tup [], ZV.tup [], ZV.tup [], ZV.tup [], ZV.tup [], ZV.tup [], ZV.tup
 [], ZV.tup [], ZV.tup [], ZV.tup [], ZV.tup [], ZV.tup [], ZV.tup [], ZV.tup [], ZV.tup []] (KZ.mk ((0, fun z' h' => zAt Tryz.prog C lf 119 [1, 1, 1, 1] z' (zFin Tryz.prog 119 K) (KZ.mk [] (zFin Tryz.prog 119 K)) h') :: KZ.env
 (KZ.mk [] (zFin Tryz.prog 119 K))) (KZ.ret (KZ.mk [] (zFin Tryz.prog 119 K)))) (hput (Heap.newO h'_1 (AObj.cells [AV.int IntKind.u64 0, AV.int IntKind.u64 0, AV.int IntKind.u64 0, AV.int IntKind.u64 0, AV.int IntKind.u64 0, AV.int
 IntKind.u64 0, AV.int IntKind.u64 0, AV.int IntKind.u64 0, AV.int IntKind.u64 0, AV.int IntKind.u64 0, AV.int IntKind.u64 0, AV.int IntKind.u64 0, AV.int IntKind.u64 0, AV.int IntKind.u64 0, AV.int IntKind.u64 0, AV.int
 IntKind.u64 0] 0 false false)) (Heap.next h'_1) 0 [AV.int IntKind.u64 n_1, AV.int IntKind.u64 n_2, AV.int IntKind.u64 n_3, AV.int IntKind.u64 n_4, AV.int IntKind.u64 n_5, AV.int IntKind.u64 n_6, AV.int IntKind.u64 n_7, AV.int
 IntKind.u64 n_8, AV.int IntKind.u64 n_9, AV.int IntKind.u64 n_10, AV.int IntKind.u64 n_11, AV.int IntKind.u64 n_12, AV.int IntKind.u64 n_13, AV.int IntKind.u64 n_14, AV.int IntKind.u64 n_15, AV.int IntKind.u64 n_16])))) h) := by
 kernel_rfl
theorem more_a1111 (C : ZCall) (lf : Nat) (K : ZK) (h : Heap) (v6 : Int) (d : Nat → ZV) : zAt Tryz.prog C lf 119 [1, 1, 1, 1] (zt (ntOf Tryz.prog 119) (ov [(6, .int .u64 v6)] d)) (zFin Tryz.prog 119 K) ⟨[], zFin Tryz.prog 119 K⟩ h
 = (ZW IntKind.u64 (Int.ofNat (Nat.xor 18446744073709551615 (toU IntKind.u64 v6))) fun r_1 => K (ZV.int IntKind.u64 r_1) h) := by kernel_rfl
theorem more_l1110100 (C : ZCall) (lf : Nat) (K : ZK) (h : Heap) (v5 : Nat) (v6 : Int) (v12 : SL) (v13 : Int) (v14 : Int) (d : Nat → ZV) (k : ZT → Heap → Prop) (X0 : ZT → Heap → Prop) (E : List (Nat × (ZT → Heap → Prop))) : zAt
 Tryz.prog C lf 119 [1, 1, 1, 0, 1, 0, 0] (zt (ntOf Tryz.prog 119) (ov [(5, .pv false v5 0), (6, .int .u64 v6), (12, .sl v12), (13, .int .i64 v13), (14, .int .i64 v14)] d)) k ⟨(0, X0) :: E, zFin Tryz.prog 119 K⟩ h = (@cnd Prop
 (decide (v14 < v13)) (ZAnd (SL.nil v12 = false) (ZIdx v14 (SL.len v12) fun m_1 => ZAnd (false = false) (ZLdI h (SL.i v12) (SL.o v12 + m_1 * 1) IntKind.u8 fun n_1 => ZW IntKind.u64 n_1 fun r_1 => ZW IntKind.u64 (Int.ofNat (Nat.xor
 (toU IntKind.u64 v6) (toU IntKind.u64 r_1))) fun r_2 => ZNat 4 fun j_1 => ZW IntKind.u64 (Int.ofNat (Nat.land (toU IntKind.u64 r_2) 15)) fun r_3 => ZAnd (false = false) (ZIdx r_3 16 fun m_2 => ZAnd (false = false) (ZLdI h v5 (0 +
 m_2 * 1) IntKind.u64 fun n_2 => ZW IntKind.u64 (Int.ofNat (Nat.xor (toU IntKind.u64 (Int.fdiv r_2 (Int.ofNat (Nat.pow 2 (cnd (Nat.ble j_1 64) j_1 64))))) (toU IntKind.u64 n_2))) fun r_4 => ZNat 4 fun j_2 => ZW IntKind.u64
 (Int.ofNat (Nat.land (toU IntKind.u64 r_4) 15)) fun r_5 => ZAnd (false = false) (ZIdx r_5 16 fun m_3 => ZAnd (false = false) (ZLdI h v5 (0 + m_3 * 1) IntKind.u64 fun n_3 => ZW IntKind.u64 (Int.ofNat (Nat.xor (toU IntKind.u64
 (Int.fdiv r_4 (Int.ofNat (Nat.pow 2 (cnd (Nat.ble j_2 64) j_2 64))))) (toU IntKind.u64 n_3))) fun r_6 => ZW IntKind.i64 (v14 + 1) fun r_7 => k [d 0, d 1, d 2, d 3, d 4, ZV.pv false v5 0, ZV.int IntKind.u64 r_6, d 7, ZV.int
 IntKind.u8 n_1, d 9, d 10, d 11, ZV.sl v12, ZV.int IntKind.i64 v13, ZV.int IntKind.i64 r_7, ZV.bool true, ZV.pv false (SL.i v12) (SL.o v12 + m_1 * 1), ZV.int IntKind.u8 n_1, ZV.int IntKind.u64 v6, ZV.int IntKind.u8 n_1, ZV.int
 IntKind.u64 r_1, ZV.int IntKind.u64 r_2, ZV.int IntKind.u64 r_2, ZV.int IntKind.u64 (Int.fdiv r_2 (Int.ofNat (Nat.pow 2 (cnd (Nat.ble j_1 64) j_1 64)))), ZV.int IntKind.u64 r_2, ZV.int IntKind.u64 r_3, ZV.pv false v5 (0 + m_2 *
 1), ZV.int IntKind.u64 n_2, ZV.int IntKind.u64 r_4, ZV.int IntKind.u64 r_4, ZV.int IntKind.u64 (Int.fdiv r_4 (Int.ofNat (Nat.pow 2 (cnd (Nat.ble j_2 64) j_2 64)))), ZV.int IntKind.u64 r_4, ZV.int IntKind.u64 r_5, ZV.pv false v5 (0
 + m_3 * 1), ZV.int IntKind.u64 n_3, ZV.int IntKind.u64 r_6, ZV.int IntKind.i64 r_7, d 37, d 38] h))))))) (X0 [d 0, d 1, d 2, d 3, d 4, ZV.pv false v5 0, ZV.int IntKind.u64 v6, d 7, d 8, d 9, d 10, d 11, ZV.sl v12, ZV.int
 IntKind.i64 v13, ZV.int IntKind.i64 v14, ZV.bool false, d 16, d 17, d 18, d 19, d 20, d 21, d 22, d 23, d 24, d 25, d 26, d 27, d 28, d 29, d 30, d 31, d 32, d 33, d 34, d 35, d 36, d 37, d 38] h)) := by kernel_rfl
end SuN
namespace SuN
open Go Go.X Go.Proofs
noncomputable def TN : N16 Nat := .mk 0 9051005139383707209 18102010278767414418 9704381199536204507 7257036000092981153 1814259000023245288 11493583972846619443 16292555063049989498 14514072000185962306 13040162471224305931 3628518000046490576 5746791986423309721 12527462061959317731 15006518869663149738 6263731030979658865 3131865515489829432
noncomputable def TB : List Int := [0, 9051005139383707209, 18102010278767414418, 9704381199536204507, 7257036000092981153, 1814259000023245288, 11493583972846619443, 16292555063049989498, 14514072000185962306, 13040162471224305931, 3628518000046490576, 5746791986423309721, 12527462061959317731, 15006518869663149738, 6263731030979658865, 3131865515489829432]
noncomputable def tb (m : Nat) : Nat := N16.get (digit m) TN
noncomputable def half (s : Nat) : Nat := Nat.xor (Nat.shiftRight s 4) (tb s)
noncomputable def step (s b : Nat) : Nat := half (half (Nat.xor s b))
noncomputable def fold (l : List Nat) (s : Nat) : Nat := List.rec (motive := fun _ => Nat → Nat) (fun s => s) (fun b _ ih s => ih (step s b)) l s
/-- .. for the kernel -/
noncomputable def foldK (l : List Nat) : Nat → (Nat → FM) → FM :=
  List.rec (motive := fun _ => Nat → (Nat → FM) → FM) (fun s k => k s) (fun b _ ih s k => forceNat (Nat.xor s b) fun s => forceNat (half s) fun s => forceNat (half s) fun s => ih s k) l
theorem foldK_eq : ∀ (l : List Nat) (s : Nat) (k : Nat → FM), foldK l s k = k (fold l s)
  | [], s, k => rfl
  | b :: l, s, k => by
    show (forceNat (Nat.xor s b) fun s => forceNat (half s) fun s => forceNat (half s) fun s => foldK l s k) = k (fold l (step s b))
    rw [forceNat_eq, forceNat_eq, forceNat_eq]
    exact foldK_eq l _ k
def top64 : Nat := 18446744073709551616
noncomputable def more (a : Nat) (l : List Nat) : Nat := Nat.xor 18446744073709551615 (fold l (Nat.xor 18446744073709551615 a))
noncomputable def moreK (a : Nat) (l : List Nat) (k : Nat → FM) : FM := forceNat (Nat.xor 18446744073709551615 a) fun s => foldK l s fun s => forceNat (Nat.xor 18446744073709551615 s) k
theorem moreK_eq (a : Nat) (l : List Nat) (k : Nat → FM) : moreK a l k = k (more a l) := by
  unfold moreK more
  rw [forceNat_eq, foldK_eq, forceNat_eq]
theorem digit_mod (n : Nat) : digit (n % 16) = digit n := dN_inj (by rw [dN_digit, dN_digit]; omega)
theorem tb_at : ∀ m, m < 16 → (TB.map fun z => AV.int .u64 z)[m]? = some (.int .u64 (.ofNat (tb m))) := by
  intro m hm
  have : m = 0 ∨ m = 1 ∨ m = 2 ∨ m = 3 ∨ m = 4 ∨ m = 5 ∨ m = 6 ∨ m = 7 ∨ m = 8 ∨ m = 9 ∨ m = 10 ∨ m = 11 ∨ m = 12 ∨ m = 13 ∨ m = 14 ∨ m = 15 := by omega
  rcases this with rfl | rfl | rfl | rfl | rfl | rfl | rfl | rfl | rfl | rfl | rfl | rfl | rfl | rfl | rfl | rfl <;> rfl
theorem tb_lt (m : Nat) : tb m < 2 ^ 64 := by
  unfold tb
  cases digit m <;> exact of_decide_eq_true (by kernel_rfl)
theorem shr_lt {s : Nat} (h : s < 2 ^ 64) : Nat.shiftRight s 4 < 2 ^ 64 := by rw [shr_eq]; omega
theorem half_lt {s : Nat} (h : s < 2 ^ 64) : half s < 2 ^ 64 := Nat.xor_lt_two_pow (shr_lt h) (tb_lt s)
theorem wrap64 {m : Nat} (h : m < 2 ^ 64) : IntKind.u64.wrap (Int.ofNat m) = Int.ofNat m := by
  unfold IntKind.wrap
  show (if (false && _) = true then _ else (Int.ofNat m) % (2 ^ 64 : Int)) = _
  rw [Bool.false_and, if_neg (by decide)]
  show ((m : Int)) % (2 ^ 64 : Int) = (m : Int)
  omega
theorem toU64 {m : Nat} (h : m < 2 ^ 64) : toU .u64 (Int.ofNat m) = m := Nat.mod_eq_of_lt h
theorem fdiv16 (s : Nat) : Int.fdiv (Int.ofNat s) (Int.ofNat (Nat.pow 2 (cnd (Nat.ble 4 64) 4 64))) = Int.ofNat (Nat.shiftRight s 4) := by
  rw [shr_eq]
  show Int.fdiv (s : Int) ((16 : Nat) : Int) = ((s / 2 ^ 4 : Nat) : Int)
  rw [Int.fdiv_eq_ediv_of_nonneg _ (by omega)]
  omega
theorem land15 (s : Nat) : Nat.land s 15 = s % 16 := Nat.and_two_pow_sub_one_eq_mod s 4
noncomputable def SM : ZSums := constZ 160 (rowV .u64 TB)
theorem more_ok {lf n : Nat} {h : Heap} {K : ZK} {s : SL} {l : List Nat} {a : Nat} (hb : Byts h s l) (hl : l.length ≤ 1048576) (hlf : l.length < lf) (ha : a < 2 ^ 64) (k : ∀ h', K (.int .u64 (.ofNat (more a l))) h') :
    zCall Tryz.prog SM lf (n + 2) 119 [.int .u64 (.ofNat a), .sl s] K h := by
  refine zCall_at (by kernel_rfl) (by kernel_rfl) ?_
  rw [more_nf]
  refine zCall_sum (s := fun args K h => args = [] ∧ K (.any (rowV .u64 TB)) h) (by kernel_rfl) (by kernel_rfl) ⟨rfl, ?_⟩
  refine ⟨fun m => .int .u64 (.ofNat (tb m)), by kernel_rfl, ?_⟩
  refine ⟨_, rfl, ⟨_, rfl, ⟨_, rfl, ⟨_, rfl, ⟨_, rfl, ⟨_, rfl, ⟨_, rfl, ⟨_, rfl, ⟨_, rfl, ⟨_, rfl, ⟨_, rfl, ⟨_, rfl, ⟨_, rfl, ⟨_, rfl, ⟨_, rfl, ⟨_, rfl, ⟨rfl, ?_⟩⟩⟩⟩⟩⟩⟩⟩⟩⟩⟩⟩⟩⟩⟩⟩⟩
  have v1 := Var.new h [AV.int IntKind.u64 0, AV.int IntKind.u64 0, AV.int IntKind.u64 0, AV.int IntKind.u64 0, AV.int IntKind.u64 0, AV.int IntKind.u64 0, AV.int IntKind.u64 0, AV.int IntKind.u64 0, AV.int IntKind.u64 0, AV.int IntKind.u64 0, AV.int IntKind.u64 0, AV.int IntKind.u64 0, AV.int IntKind.u64 0, AV.int IntKind.u64 0, AV.int IntKind.u64 0, AV.int IntKind.u64 0]
  have f1 : Fram nowhere h _ := Fram.newO nowhere h (.cells [AV.int IntKind.u64 0, AV.int IntKind.u64 0, AV.int IntKind.u64 0, AV.int IntKind.u64 0, AV.int IntKind.u64 0, AV.int IntKind.u64 0, AV.int IntKind.u64 0, AV.int IntKind.u64 0, AV.int IntKind.u64 0, AV.int IntKind.u64 0, AV.int IntKind.u64 0, AV.int IntKind.u64 0, AV.int IntKind.u64 0, AV.int IntKind.u64 0, AV.int IntKind.u64 0, AV.int IntKind.u64 0] 0 false false)
  refine v1.zput (by simp) ?_
  have v2 := v1.put 0 [AV.int IntKind.u64 (.ofNat (tb 0)), AV.int IntKind.u64 (.ofNat (tb 1)), AV.int IntKind.u64 (.ofNat (tb 2)), AV.int IntKind.u64 (.ofNat (tb 3)), AV.int IntKind.u64 (.ofNat (tb 4)), AV.int IntKind.u64 (.ofNat (tb 5)), AV.int IntKind.u64 (.ofNat (tb 6)), AV.int IntKind.u64 (.ofNat (tb 7)), AV.int IntKind.u64 (.ofNat (tb 8)), AV.int IntKind.u64 (.ofNat (tb 9)), AV.int IntKind.u64 (.ofNat (tb 10)), AV.int IntKind.u64 (.ofNat (tb 11)), AV.int IntKind.u64 (.ofNat (tb 12)), AV.int IntKind.u64 (.ofNat (tb 13)), AV.int IntKind.u64 (.ofNat (tb 14)), AV.int IntKind.u64 (.ofNat (tb 15))]
  have f2 := v1.put_fr 0 [AV.int IntKind.u64 (.ofNat (tb 0)), AV.int IntKind.u64 (.ofNat (tb 1)), AV.int IntKind.u64 (.ofNat (tb 2)), AV.int IntKind.u64 (.ofNat (tb 3)), AV.int IntKind.u64 (.ofNat (tb 4)), AV.int IntKind.u64 (.ofNat (tb 5)), AV.int IntKind.u64 (.ofNat (tb 6)), AV.int IntKind.u64 (.ofNat (tb 7)), AV.int IntKind.u64 (.ofNat (tb 8)), AV.int IntKind.u64 (.ofNat (tb 9)), AV.int IntKind.u64 (.ofNat (tb 10)), AV.int IntKind.u64 (.ofNat (tb 11)), AV.int IntKind.u64 (.ofNat (tb 12)), AV.int IntKind.u64 (.ofNat (tb 13)), AV.int IntKind.u64 (.ofNat (tb 14)), AV.int IntKind.u64 (.ofNat (tb 15))]
  have b2 := (hb.fr f1 fun _ => id).fr f2 fun e => by have := hb.seg.lt e; intro e2; omega
  have tcell : ∀ {H : Heap} {m : Nat}, Var H h.next [AV.int IntKind.u64 (.ofNat (tb 0)), AV.int IntKind.u64 (.ofNat (tb 1)), AV.int IntKind.u64 (.ofNat (tb 2)), AV.int IntKind.u64 (.ofNat (tb 3)), AV.int IntKind.u64 (.ofNat (tb 4)), AV.int IntKind.u64 (.ofNat (tb 5)), AV.int IntKind.u64 (.ofNat (tb 6)), AV.int IntKind.u64 (.ofNat (tb 7)), AV.int IntKind.u64 (.ofNat (tb 8)), AV.int IntKind.u64 (.ofNat (tb 9)), AV.int IntKind.u64 (.ofNat (tb 10)), AV.int IntKind.u64 (.ofNat (tb 11)), AV.int IntKind.u64 (.ofNat (tb 12)), AV.int IntKind.u64 (.ofNat (tb 13)), AV.int IntKind.u64 (.ofNat (tb 14)), AV.int IntKind.u64 (.ofNat (tb 15))] → m < 16 → cellAt H h.next (0 + m * 1) = some (.int .u64 (.ofNat (tb m))) := by
    intro H m x hm
    rw [x.cell, Nat.zero_add, Nat.mul_one]
    have : m = 0 ∨ m = 1 ∨ m = 2 ∨ m = 3 ∨ m = 4 ∨ m = 5 ∨ m = 6 ∨ m = 7 ∨ m = 8 ∨ m = 9 ∨ m = 10 ∨ m = 11 ∨ m = 12 ∨ m = 13 ∨ m = 14 ∨ m = 15 := by omega
    rcases this with rfl | rfl | rfl | rfl | rfl | rfl | rfl | rfl | rfl | rfl | rfl | rfl | rfl | rfl | rfl | rfl <;> rfl
  have h0 : Nat.xor 18446744073709551615 a < 2 ^ 64 := Nat.xor_lt_two_pow (by decide) ha
  rw [zW_iff, toU64 ha, wrap64 h0]
  have v3 : Var _ h.next _ := v2
  generalize hput (h.newO _) h.next 0 _ = h2 at v2 v3 b2 f2 ⊢
  have e_ : (Int.ofNat s.n : Int) = s.n := rfl
  have ln := b2.len
  refine ZLoop.inv (fun q z h' => ∃ (j st : Nat), ZAt 39 [(5, .pv false h.next 0), (6, .int .u64 (.ofNat st)), (12, .sl s), (13, .int .i64 (Int.ofNat s.n)), (14, .int .i64 (j : Int))] z ∧ h' = h2 ∧ j + q = l.length ∧ st < 2 ^ 64 ∧ fold (l.drop j) st = fold l (Nat.xor 18446744073709551615 a)) (n := l.length) hlf
    ⟨0, _, ⟨rfl, rfl, rfl, rfl, rfl, rfl, trivial⟩, rfl, by omega, h0, rfl⟩ ?_
  rintro q z h' kk hq ⟨j, st, hz, rfl, hj, hst, heq⟩ ih
  refine zAt_of _ hz fun d => (more_l1110100 _ _ _ _ _ _ _ _ _ _ _ _ _).mpr ?_
  rw [cnd_dec]
  refine ⟨fun hlt => ?_, fun hge => ?_⟩
  · have hlt2 : j < l.length := by omega
    have hn : s.nil = false := by
      cases e : s.nil with
      | false => rfl
      | true => rw [SL.n_nil e] at ln; omega
    obtain ⟨b, hbj⟩ : ∃ b, l[j]? = some b := ⟨_, List.getElem?_eq_getElem hlt2⟩
    have hb8 : b < 256 := b2.byte b (List.mem_of_getElem? hbj)
    have hb64 : b < 2 ^ 64 := by omega
    have hs1 : Nat.xor st b < 2 ^ 64 := Nat.xor_lt_two_pow hst hb64
    have hs2 := half_lt hs1
    have hs3 := half_lt hs2
    refine ⟨hn, ⟨j, rfl, by rw [← SL.n_of hn, ln]; exact hlt2, ⟨rfl, ⟨_, by rw [Nat.mul_one]; exact b2.at' hn hbj, ?_⟩⟩⟩⟩
    rw [zW_iff, wrap64 hb64, zW_iff, toU64 hst, toU64 hb64, wrap64 hs1]
    refine ⟨4, rfl, ?_⟩
    have hm1 : Nat.xor st b % 16 < 2 ^ 64 := by omega
    rw [zW_iff, toU64 hs1, land15, wrap64 hm1]
    refine ⟨rfl, ⟨_, rfl, Nat.mod_lt _ (by decide), ⟨rfl, ⟨_, tcell v3 (Nat.mod_lt _ (by decide)), ?_⟩⟩⟩⟩
    have et : ∀ x, tb (x % 16) = tb x := fun x => by unfold tb; rw [digit_mod]
    rw [zW_iff, fdiv16, toU64 (shr_lt hs1), toU64 (tb_lt _), et]
    have e2 : Nat.xor (Nat.shiftRight (Nat.xor st b) 4) (tb (Nat.xor st b)) = half (Nat.xor st b) := rfl
    rw [e2, wrap64 hs2]
    refine ⟨4, rfl, ?_⟩
    have hm2 : half (Nat.xor st b) % 16 < 2 ^ 64 := by omega
    rw [zW_iff, toU64 hs2, land15, wrap64 hm2]
    refine ⟨rfl, ⟨_, rfl, Nat.mod_lt _ (by decide), ⟨rfl, ⟨_, tcell v3 (Nat.mod_lt _ (by decide)), ?_⟩⟩⟩⟩
    rw [zW_iff, fdiv16, toU64 (shr_lt hs2), toU64 (tb_lt _), et]
    have e3 : Nat.xor (Nat.shiftRight (half (Nat.xor st b)) 4) (tb (half (Nat.xor st b))) = step st b := rfl
    rw [e3, wrap64 (show step st b < 2 ^ 64 from hs3)]
    have ew : IntKind.i64.wrap ((j : Int) + 1) = ((j + 1 : Nat) : Int) := by
      unfold IntKind.wrap
      show (if (true && decide (((j : Int) + 1) % (2 ^ 64 : Int) ≥ (2 ^ 63 : Int))) = true then ((j : Int) + 1) % (2 ^ 64 : Int) - (2 ^ 64 : Int) else ((j : Int) + 1) % (2 ^ 64 : Int)) = _
      rw [Bool.true_and, decide_eq_false (by omega), if_neg (by decide)]
      omega
    rw [zW_iff, ew]
    refine ih (q - 1) _ _ (by omega) ⟨j + 1, step st b, ⟨rfl, rfl, rfl, rfl, rfl, rfl, trivial⟩, rfl, by omega, hs3, ?_⟩
    rw [← heq, List.drop_eq_getElem_cons hlt2]
    have : l[j] = b := by rw [List.getElem?_eq_getElem hlt2] at hbj; exact Option.some.inj hbj
    rw [this]; rfl
  · have hjl : j = l.length := by omega
    refine zAt_of (n := 39) [(6, .int .u64 (.ofNat st))] ⟨rfl, rfl, trivial⟩ fun d => (more_a1111 _ _ _ _ _ _).mpr ?_
    have hd : fold (l.drop j) st = st := by rw [hjl, List.drop_length]; rfl
    have hm : Nat.xor 18446744073709551615 st < 2 ^ 64 := Nat.xor_lt_two_pow (by decide) hst
    rw [zW_iff, toU64 hst, wrap64 hm]
    have : more a l = Nat.xor 18446744073709551615 st := by unfold more; rw [← heq, hd]
    rw [← this]
    exact k _
end SuN
namespace SuN
open Go Go.X Go.Proofs Go.RowKit
theorem tab_runs : allIs (rowV .u64 TB) ((xCall Tryz.prog noHints (fun _ => none) 1000 50 160 []).run 0 (startH 1) Log.nil) = true := by decide +kernel
theorem tab_calls (W : World) (h3 : 1 ≤ W.heap.size) : Calls Tryz.prog 160 #[] W fun e W' => e = .returned (.agg (TB.map fun z => Value.int .u64 z).toArray) ∧ Below W.heap.size W W' := by
  refine Calls.mono (closed_is (G := 1) (by kernel_rfl) (by kernel_rfl) h3 (by decide) (by kernel_rfl) noSums (.inr fun _ => Nat.zero_le _) tab_runs) fun e W' ⟨u, E, e1, hv, hb⟩ => ⟨?_, hb⟩
  subst e1
  cases hv with
  | agg cs x hx =>
    have := VRs_ints_inv TB x.toList hx
    rw [toArr this]
theorem more_sound {W : World} {sums : Sums} (hs : SumsSound Tryz.prog W sums) (h3 : 1 ≤ W.heap.size) : SumsSound Tryz.prog W (byteX 119 moreK sums) := by
  refine byte_sound hs (fn := more) (fun a l k => moreK_eq a l k) fun w a v s l hb ha hv hby hl => ?_
  have h4 : 1 ≤ w.heap.size := Nat.le_trans h3 hb.size
  exact law_int (S := SM) (sums := constX 160 (rowV .u64 TB)) (const_sound fun w' hb' => tab_calls w' (Nat.le_trans h4 hb'.size)) (const_fit 160 _) (by kernel_rfl) (by rw [show Tryz.prog.globals.size = 1 by kernel_rfl]; exact h4) (lf := 1048577) (n := 2) (by kernel_rfl)
    (args := [.int .u64 (.ofNat a), .sl s]) (.cons _ _ _ _ (by rw [av_int]; exact .int _ _) (.cons _ _ _ _ (by rw [av_sl]; exact hv) .nil)) (more_ok (n := 0) hby hl (by omega) ha fun h' => by rw [av_int])
end SuN
