/-
  PROVED: normal forms of BulkArgs' own functions over abstract heaps. No condition.
-/
import Derived.Test.YtbhbiccfkkoanaaGreatDoorSu
import Derived.Test.YtbhbiccfkkoanaaGreatDoorProg
set_option linter.unusedVariables false
namespace BaN
open Go Go.X Go.Proofs
set_option maxRecDepth 100000
theorem law_nf (C : ZCall) (lf : Nat) (K : ZK) (h : Heap) (size : Int) (lz : Bool) (v2 : SL) (fill : Int) : zAt Tryz.prog C lf 4 [] (padT (ntOf Tryz.prog 4) [.int .i64 size, .bool lz, .sl v2, .int .i64 fill]) (zFin Tryz.prog 4 K)
 ⟨[], zFin Tryz.prog 4 K⟩ h = (C 5 [] (fun v_1 h'_1 => ZRB (ZV.av v_1) fun b_1 => C 6 [ZV.int IntKind.i64 size, ZV.int IntKind.i64 64] (fun v_2 h'_2 => ZRP (ZV.av v_2) fun n_1 j_1 p_1 => @cnd Prop (!b_1) (K (ZV.bool false) h'_2)
 (@cnd Prop n_1 (K (ZV.bool false) h'_2) (C 7 [ZV.pv true 0 0, ZV.bool lz, ZV.pv false (Heap.next h'_2) 0, ZV.int IntKind.i64 fill] (fun v_3 h'_3 => ZRT (ZV.av v_3) 2 fun f_1 => ZRI (f_1 0) IntKind.i64 fun n_2 => C 8 [ZV.pv n_1 j_1
 p_1, ZV.any AV.nilFunc, ZV.int IntKind.i64 fill] (fun v_4 h'_4 => ZRT (ZV.av v_4) 2 fun f_2 => ZRI (f_2 0) IntKind.i64 fun n_3 => C 9 [ZV.pv n_1 j_1 p_1, ZV.any AV.nilFunc, ZV.int IntKind.i64 fill] (fun v_5 h'_5 => ZRT (ZV.av v_5)
 2 fun f_3 => ZRI (f_3 0) IntKind.i64 fun n_4 => @cnd Prop (!decide (n_2 = 0)) (K (ZV.bool false) h'_5) (@cnd Prop (cnd false true !decide (n_3 = 0)) (K (ZV.bool false) h'_5) (@cnd Prop (cnd false true !decide (n_4 = 0)) (K
 (ZV.bool false) h'_5) (C 10 [ZV.any (f_1 1)] (fun v_6 h'_6 => ZRI (ZV.av v_6) IntKind.i64 fun n_5 => @cnd Prop (cnd false true !decide (n_5 = 1)) (K (ZV.bool false) h'_6) (C 10 [ZV.any (f_2 1)] (fun v_7 h'_7 => ZRI (ZV.av v_7)
 IntKind.i64 fun n_6 => @cnd Prop (cnd false true !decide (n_6 = 1)) (K (ZV.bool false) h'_7) (C 10 [ZV.any (f_3 1)] (fun v_8 h'_8 => ZRI (ZV.av v_8) IntKind.i64 fun n_7 => @cnd Prop (cnd false true !decide (n_7 = 1)) (K (ZV.bool
 false) h'_8) (C 11 [ZV.pv n_1 j_1 p_1, ZV.int IntKind.i64 3, ZV.sl (SL.mk false (Heap.next h'_8) 0 2 2 false)] (fun v_9 h'_9 => ZRT (ZV.av v_9) 2 fun f_4 => ZRI (f_4 0) IntKind.i64 fun n_8 => ZRI (f_4 1) IntKind.i64 fun n_9 =>
 @cnd Prop (!decide (n_9 = 0)) (K (ZV.bool false) h'_9) (C 12 [ZV.pv n_1 j_1 p_1, ZV.int IntKind.i64 n_8] (fun v_10 h'_10 => ZRI (ZV.av v_10) IntKind.i64 fun n_10 => @cnd Prop (cnd false true !decide (n_10 = 0)) (K (ZV.bool false)
 h'_10) (C 13 [ZV.pv n_1 j_1 p_1] (fun v_11 h'_11 => ZRI (ZV.av v_11) IntKind.i64 fun n_11 => @cnd Prop (cnd false true !decide (n_11 = 0)) (K (ZV.bool false) h'_11) (C 14 [ZV.pv n_1 j_1 p_1, ZV.str [97]] (fun v_12 h'_12 => ZRI
 (ZV.av v_12) IntKind.i64 fun n_12 => @cnd Prop (cnd false true !decide (n_12 = 0)) (K (ZV.bool false) h'_12) (C 15 [ZV.pv n_1 j_1 p_1, ZV.str [97]] (fun v_13 h'_13 => ZRT (ZV.av v_13) 2 fun f_5 => ZRP (f_5 0) fun n_13 j_2 p_2 =>
 ZRI (f_5 1) IntKind.i64 fun n_14 => @cnd Prop n_13 (K (ZV.bool false) h'_13) (@cnd Prop (cnd false true !decide (n_14 = 0)) (K (ZV.bool false) h'_13) (@cnd Prop (decide (fill < 50)) (C 7 [ZV.pv n_1 j_1 p_1, ZV.bool lz, ZV.pv false
 (Heap.next h'_2) 0, ZV.int IntKind.i64 fill] (fun v_14 h'_14 => ZRT (ZV.av v_14) 2 fun f_6 => ZRI (f_6 0) IntKind.i64 fun n_15 => C 7 [ZV.pv n_13 j_2 p_2, ZV.bool lz, ZV.pv false (Heap.next h'_2) 0, ZV.int IntKind.i64 fill] (fun
 v_15 h'_15 => ZRT (ZV.av v_15) 2 fun f_7 => ZRI (f_7 0) IntKind.i64 fun n_16 => @cnd Prop (decide (n_15 = 0)) (@cnd Prop (cnd true (decide (n_16 = 0)) false) (C 10 [ZV.any (f_6 1)] (fun v_16 h'_16 => ZRI (ZV.av v_16) IntKind.i64
 fun n_17 => @cnd Prop (cnd true (decide (n_17 = 1)) false) (C 10 [ZV.any (f_7 1)] (fun v_17 h'_17 => ZRI (ZV.av v_17) IntKind.i64 fun n_18 => @cnd Prop (cnd true (decide (n_18 = 1)) false) (ZAnd (false = false) (ZAnd (false =
 false) (ZAnd (false = false) (ZLdI h'_17 (Heap.next h'_2) 1 IntKind.i64 fun n_19 => @cnd Prop (cnd true (decide (n_19 = 0)) false) (C 16 [ZV.pv n_1 j_1 p_1] (fun v_18 h'_18 => ZRI (ZV.av v_18) IntKind.i64 fun n_20 => @cnd Prop
 (cnd true (decide (n_20 = n_8)) false) (C 18 [ZV.pv n_1 j_1 p_1] (fun v_19 h'_19 => ZRL (ZV.av v_19) fun s_1 => C 17 [ZV.sl s_1, ZV.sl (SL.mk false (Heap.next h'_19) 0 1 1 false)] (fun v_20 h'_20 => ZRB (ZV.av v_20) fun b_2 => K
 (ZV.bool b_2) h'_20) (Heap.newO h'_19 (AObj.cells [AV.int IntKind.i64 n_8] 1 false false))) h'_18) (K (ZV.bool false) h'_18)) h'_17) (K (ZV.bool false) h'_17))))) (K (ZV.bool false) h'_17)) h'_16) (K (ZV.bool false) h'_16)) h'_15)
 (K (ZV.bool false) h'_15)) (K (ZV.bool false) h'_15)) h'_14) h'_13) (@cnd Prop (cnd false true (decide (100 < fill))) (C 7 [ZV.pv n_1 j_1 p_1, ZV.bool lz, ZV.pv false (Heap.next h'_2) 0, ZV.int IntKind.i64 fill] (fun v_14 h'_14 =>
 ZRT (ZV.av v_14) 2 fun f_6 => ZRI (f_6 0) IntKind.i64 fun n_15 => C 7 [ZV.pv n_13 j_2 p_2, ZV.bool lz, ZV.pv false (Heap.next h'_2) 0, ZV.int IntKind.i64 fill] (fun v_15 h'_15 => ZRT (ZV.av v_15) 2 fun f_7 => ZRI (f_7 0)
 IntKind.i64 fun n_16 => @cnd Prop (decide (n_15 = 0)) (@cnd Prop (cnd true (decide (n_16 = 0)) false) (C 10 [ZV.any (f_6 1)] (fun v_16 h'_16 => ZRI (ZV.av v_16) IntKind.i64 fun n_17 => @cnd Prop (cnd true (decide (n_17 = 1))
 false) (C 10 [ZV.any (f_7 1)] (fun v_17 h'_17 => ZRI (ZV.av v_17) IntKind.i64 fun n_18 => @cnd Prop (cnd true (decide (n_18 = 1)) false) (ZAnd (false = false) (ZAnd (false = false) (ZAnd (false = false) (ZLdI h'_17 (Heap.next
 h'_2) 1 IntKind.i64 fun n_19 => @cnd Prop (cnd true (decide (n_19 = 0)) false) (C 16 [ZV.pv n_1 j_1 p_1] (fun v_18 h'_18 => ZRI (ZV.av v_18) IntKind.i64 fun n_20 => @cnd Prop (cnd true (decide (n_20 = n_8)) false) (C 18 [ZV.pv n_1
 j_1 p_1] (fun v_19 h'_19 => ZRL (ZV.av v_19) fun s_1 => C 17 [ZV.sl s_1, ZV.sl (SL.mk false (Heap.next h'_19) 0 1 1 false)] (fun v_20 h'_20 => ZRB (ZV.av v_20) fun b_2 => K (ZV.bool b_2) h'_20) (Heap.newO h'_19 (AObj.cells [AV.int
 IntKind.i64 n_8] 1 false false))) h'_18) (K (ZV.bool false) h'_18)) h'_17) (K (ZV.bool false) h'_17))))) (K (ZV.bool false) h'_17)) h'_16) (K (ZV.bool false) h'_16)) h'_15) (K (ZV.bool false) h'_15)) (K (ZV.bool false) h'_15))
 h'_14) h'_13) (C 7 [ZV.pv n_1 j_1 p_1, ZV.bool lz, ZV.pv false (Heap.next h'_2) 0, ZV.int IntKind.i64 fill] (fun v_14 h'_14 => ZRT (ZV.av v_14) 2 fun f_6 => ZRI (f_6 0) IntKind.i64 fun n_15 => C 7 [ZV.pv n_13 j_2 p_2, ZV.bool lz,
 ZV.pv false (Heap.next h'_2) 0, ZV.int IntKind.i64 fill] (fun v_15 h'_15 => ZRT (ZV.av v_15) 2 fun f_7 => ZRI (f_7 0) IntKind.i64 fun n_16 => @cnd Prop (decide (n_15 = 0)) (@cnd Prop (cnd true (decide (n_16 = 0)) false) (C 10
 [ZV.any (f_6 1)] (fun v_16 h'_16 => ZRI (ZV.av v_16) IntKind.i64 fun n_17 => @cnd Prop (cnd true (decide (n_17 = 152)) false) (C 10 [ZV.any (f_7 1)] (fun v_17 h'_17 => ZRI (ZV.av v_17) IntKind.i64 fun n_18 => @cnd Prop (cnd true
 (decide (n_18 = 117)) false) (ZAnd (false = false) (ZAnd (false = false) (ZAnd (false = false) (ZLdI h'_17 (Heap.next h'_2) 1 IntKind.i64 fun n_19 => @cnd Prop (cnd true (decide (n_19 = 0)) false) (C 16 [ZV.pv n_1 j_1 p_1] (fun
 v_18 h'_18 => ZRI (ZV.av v_18) IntKind.i64 fun n_20 => @cnd Prop (cnd true (decide (n_20 = n_8)) false) (C 18 [ZV.pv n_1 j_1 p_1] (fun v_19 h'_19 => ZRL (ZV.av v_19) fun s_1 => C 17 [ZV.sl s_1, ZV.sl (SL.mk false (Heap.next h'_19)
 0 1 1 false)] (fun v_20 h'_20 => ZRB (ZV.av v_20) fun b_2 => K (ZV.bool b_2) h'_20) (Heap.newO h'_19 (AObj.cells [AV.int IntKind.i64 n_8] 1 false false))) h'_18) (K (ZV.bool false) h'_18)) h'_17) (K (ZV.bool false) h'_17))))) (K
 (ZV.bool false) h'_17)) h'_16) (K (ZV.bool false) h'_16)) h'_15) (K (ZV.bool false) h'_15)) (K (ZV.bool false) h'_15)) h'_14) h'_13))))) h'_12)) h'_11)) h'_10)) h'_9)) (Heap.newO h'_8 (AObj.cells [AV.int IntKind.u8 0, AV.int
 IntKind.u8 0] 1 false false)))) h'_7)) h'_6)) h'_5)))) h'_4) h'_3) (Heap.newO h'_2 (AObj.cells [SL.av v2, AV.int IntKind.i64 0, AV.int IntKind.i64 0] 0 false false))))) h'_1) h) := by kernel_rfl
theorem store_nf (C : ZCall) (lf : Nat) (K : ZK) (h : Heap) (size : Int) (n : Int) : zAt Tryz.prog C lf 6 [] (padT (ntOf Tryz.prog 6) [.int .i64 size, .int .i64 n]) (zFin Tryz.prog 6 K) ⟨[], zFin Tryz.prog 6 K⟩ h = (C 25 [ZV.int
 IntKind.i64 size, ZV.int IntKind.i64 4] (fun v_1 h'_1 => ZRI (ZV.av v_1) IntKind.i64 fun n_1 => ZNat n_1 fun j_1 => ZW IntKind.i64 (512 * Int.ofNat (Nat.pow 2 (cnd (Nat.ble j_1 64) j_1 64))) fun r_1 => C 24 [ZV.int IntKind.i64
 r_1, ZV.int IntKind.i64 n] (fun v_2 h'_2 => ZRT (ZV.av v_2) 2 fun f_1 => ZRP (f_1 0) fun n_2 j_2 p_1 => ZRI (f_1 1) IntKind.i64 fun n_3 => @cnd Prop n_2 (K (ZV.pv true 0 0) h'_2) (@cnd Prop (cnd false true !decide (n_3 = 0)) (K
 (ZV.pv true 0 0) h'_2) (C 26 [ZV.pv n_2 j_2 p_1] (fun v_3 h'_3 => ZRT (ZV.av v_3) 2 fun f_2 => ZRP (f_2 0) fun n_4 j_3 p_2 => ZRI (f_2 1) IntKind.i64 fun n_5 => @cnd Prop (!decide (n_5 = 0)) (K (ZV.pv true 0 0) h'_3) (K (ZV.pv n_4
 j_3 p_2) h'_3)) h'_2))) h'_1) h) := by kernel_rfl
theorem pick_nf (C : ZCall) (lf : Nat) (K : ZK) (h : Heap) (v0 : Int) (v1 : Int) : zAt Tryz.prog C lf 25 [] (padT (ntOf Tryz.prog 25) [.int .i64 v0, .int .i64 v1]) (zFin Tryz.prog 25 K) ⟨[], zFin Tryz.prog 25 K⟩ h = (@cnd Prop
 (decide (v0 < 0)) (ZW IntKind.i64 (v0 + 1) fun r_1 => ZW IntKind.i64 (-r_1) fun r_2 => ZAnd (v1 = 0 → False) (K (ZV.int IntKind.i64 (Int.tmod r_2 v1)) h)) (ZAnd (v1 = 0 → False) (K (ZV.int IntKind.i64 (Int.tmod v0 v1)) h))) := by
 kernel_rfl
theorem cndP_f {b : Bool} {A B : Prop} (h : b = false) (k : B) : @cnd Prop b A B := by subst h; exact k
theorem cndP_t {b : Bool} {A B : Prop} (h : b = true) (k : A) : @cnd Prop b A B := by subst h; exact k
noncomputable def tabA : List AV := [.int .u8 (.ofNat 0), .int .u8 (.ofNat 1), .int .u8 (.ofNat 56), .int .u8 (.ofNat 2), .int .u8 (.ofNat 57), .int .u8 (.ofNat 49), .int .u8 (.ofNat 28), .int .u8 (.ofNat 3), .int .u8 (.ofNat 61), .int .u8 (.ofNat 58), .int .u8 (.ofNat 42), .int .u8 (.ofNat 50), .int .u8 (.ofNat 38), .int .u8 (.ofNat 29), .int .u8 (.ofNat 17), .int .u8 (.ofNat 4), .int .u8 (.ofNat 62), .int .u8 (.ofNat 47), .int .u8 (.ofNat 59), .int .u8 (.ofNat 36), .int .u8 (.ofNat 45), .int .u8 (.ofNat 43), .int .u8 (.ofNat 51), .int .u8 (.ofNat 22), .int .u8 (.ofNat 53), .int .u8 (.ofNat 39), .int .u8 (.ofNat 33), .int .u8 (.ofNat 30), .int .u8 (.ofNat 24), .int .u8 (.ofNat 18), .int .u8 (.ofNat 12), .int .u8 (.ofNat 5), .int .u8 (.ofNat 63), .int .u8 (.ofNat 55), .int .u8 (.ofNat 48), .int .u8 (.ofNat 27), .int .u8 (.ofNat 60), .int .u8 (.ofNat 41), .int .u8 (.ofNat 37), .int .u8 (.ofNat 16), .int .u8 (.ofNat 46), .int .u8 (.ofNat 35), .int .u8 (.ofNat 44), .int .u8 (.ofNat 21), .int .u8 (.ofNat 52), .int .u8 (.ofNat 32), .int .u8 (.ofNat 23), .int .u8 (.ofNat 11), .int .u8 (.ofNat 54), .int .u8 (.ofNat 26), .int .u8 (.ofNat 40), .int .u8 (.ofNat 15), .int .u8 (.ofNat 34), .int .u8 (.ofNat 20), .int .u8 (.ofNat 31), .int .u8 (.ofNat 10), .int .u8 (.ofNat 25), .int .u8 (.ofNat 14), .int .u8 (.ofNat 19), .int .u8 (.ofNat 9), .int .u8 (.ofNat 13), .int .u8 (.ofNat 8), .int .u8 (.ofNat 7), .int .u8 (.ofNat 6)]
theorem zRep_at {args : List ZV} {K : ZK} {h : Heap} {e : Ent} (hk : (e.next, e.args, rdL e.rd h, keysLt e.wr h.next, Nat.ble (h.next + e.new.length) 65536) = (h.next, avs args, rdR e.rd, true, true)) (k : K (zOf e.v) (entHeap e h)) :
    ∀ (i : Nat) (tab : List Ent), tab[i]? = some e → (tab.take i).all (fun x => !Nat.beq x.next h.next) = true → zRep tab args K h
  | 0, x :: tab, he, _ => by
    cases he
    simp only [Prod.mk.injEq] at hk
    exact Or.inl ⟨hk.1, hk.2.1, hk.2.2.1, hk.2.2.2.1, Nat.le_of_ble_eq_true hk.2.2.2.2, k⟩
  | i + 1, x :: tab, he, hm => by
    rw [List.take_succ_cons, List.all_cons, Bool.and_eq_true, Bool.not_eq_true'] at hm
    exact Or.inr ⟨fun hh => absurd hm.1 (by rw [hh.1, beq_iff.2 rfl]; decide), zRep_at hk k i tab he hm.2⟩
theorem hit {P : Program} {S : ZSums} {lf n : Nat} {f : FuncId} {args : List ZV} {K : ZK} {h : Heap} (i : Nat) (e : Ent) (tab : List Ent) (hS : S f = some (zRep tab))
    (hk : (ltb f P.funcs.size, tab[i]?, (tab.take i).all (fun x => !Nat.beq x.next h.next), e.next, e.args, rdL e.rd h, keysLt e.wr h.next, Nat.ble (h.next + e.new.length) 65536) = (true, some e, true, h.next, avs args, rdR e.rd, true, true)) (k : K (zOf e.v) (entHeap e h)) : zCall P S lf (n + 1) f args K h := by
  simp only [Prod.mk.injEq] at hk
  exact zCall_sum hk.1 hS (zRep_at (by simp only [Prod.mk.injEq]; exact hk.2.2.2) k i tab hk.2.1 hk.2.2.1)
theorem nay {b : Bool} {A B : Prop} (k : B) (h : b = false := by kernel_rfl) : @cnd Prop b A B := cndP_f h k
theorem yea {b : Bool} {A B : Prop} (k : A) (h : b = true := by kernel_rfl) : @cnd Prop b A B := cndP_t h k
/-- which of four -/
def pickI (n : Int) : Int := if n < 0 then (-(n + 1)).tmod 4 else n.tmod 4
theorem pick_ok {S : ZSums} {lf n : Nat} {size : Int} {r : Int} {K : ZK} {h : Heap} (hS : S 25 = none) (hs : pickI size = r) (hr : size < 0 → IntKind.i64.wrap (size + 1) = size + 1 ∧ IntKind.i64.wrap (-(size + 1)) = -(size + 1)) (k : K (.int .i64 r) h) :
    zCall Tryz.prog S lf (n + 1) 25 [.int .i64 size, .int .i64 4] K h := by
  refine zCall_at hS (by kernel_rfl) ?_
  rw [pick_nf]
  unfold pickI at hs
  by_cases hn : size < 0
  · rw [if_pos hn] at hs
    refine cndP_t (decide_eq_true hn) ?_
    rw [zW_iff, (hr hn).1, zW_iff, (hr hn).2, hs]
    exact ⟨by decide, k⟩
  · rw [if_neg hn] at hs
    refine cndP_f (decide_eq_false hn) ?_
    rw [hs]
    exact ⟨by decide, k⟩
end BaN
