/-
  PROVED: what the functions of package policy do (contracts over heaps). Condition: each contract's own.
-/
import Derived.Test.YtinihpeddhboeaaXg
import Derived.Test.YtinihpeddhboeaaChecked
set_option linter.unusedVariables false
set_option linter.unusedSimpArgs false

namespace PolN
open Go Go.X Go.Proofs
set_option linter.unusedVariables false
set_option maxRecDepth 100000
theorem pick_nf (C : ZCall) (lf : Nat) (K : ZK) (a b : Int) (h : Heap) :
  zAt Try.prog C lf 14 [] (padT (ntOf Try.prog 14) [.int .i64 a, .int .i64 b]) (zFin Try.prog 14 K) ⟨[], zFin Try.prog 14 K⟩ h =
  (@cnd Prop (decide (a < 0))
  (ZW IntKind.i64 (a + 1) fun r_1 =>
    ZW IntKind.i64 (-r_1) fun r_2 => ZAnd (b = 0 → False) (K (ZV.int IntKind.i64 (Int.tmod r_2 b)) h))
  (ZAnd (b = 0 → False) (K (ZV.int IntKind.i64 (Int.tmod a b)) h))) := by kernel_rfl

theorem choices_nf (C : ZCall) (lf : Nat) (K : ZK) (h : Heap) :
  zAt Try.prog C lf 20 [] (padT (ntOf Try.prog 20) []) (zFin Try.prog 20 K) ⟨[], zFin Try.prog 20 K⟩ h =
  (ZMap (Heap.newO h (AObj.map [] 0)) false (Heap.next h) (AV.int IntKind.i64 1)
  (ZMap
    (hmap (Heap.newO h (AObj.map [] 0)) (Heap.next h)
      (mset (AV.int IntKind.i64 1) (AV.func (AFn.plain (Fn.func 24)) [] [])))
    false (Heap.next h) (AV.int IntKind.i64 3)
    (ZMap
      (hmap
        (hmap (Heap.newO h (AObj.map [] 0)) (Heap.next h)
          (mset (AV.int IntKind.i64 1) (AV.func (AFn.plain (Fn.func 24)) [] [])))
        (Heap.next h)
        (mset (AV.int IntKind.i64 3) (AV.func (AFn.plain (Fn.func 24)) [] [])))
      false (Heap.next h) (AV.int IntKind.i64 2)
      (ZMap
        (hmap
          (hmap
            (hmap (Heap.newO h (AObj.map [] 0)) (Heap.next h)
              (mset (AV.int IntKind.i64 1) (AV.func (AFn.plain (Fn.func 24)) [] [])))
            (Heap.next h)
            (mset (AV.int IntKind.i64 3) (AV.func (AFn.plain (Fn.func 24)) [] [])))
          (Heap.next h)
          (mset (AV.int IntKind.i64 2) (AV.func (AFn.plain (Fn.func 25)) [] [])))
        false (Heap.next h) (AV.int IntKind.i64 4)
        (K (ZV.mp false (Heap.next h))
          (hmap
            (hmap
              (hmap
                (hmap (Heap.newO h (AObj.map [] 0)) (Heap.next h)
                  (mset (AV.int IntKind.i64 1) (AV.func (AFn.plain (Fn.func 24)) [] [])))
                (Heap.next h)
                (mset (AV.int IntKind.i64 3) (AV.func (AFn.plain (Fn.func 24)) [] [])))
              (Heap.next h)
              (mset (AV.int IntKind.i64 2) (AV.func (AFn.plain (Fn.func 25)) [] [])))
            (Heap.next h)
            (mset (AV.int IntKind.i64 4) (AV.func (AFn.plain (Fn.func 26)) [] [])))))))) := by kernel_rfl

theorem greatest_nf (C : ZCall) (lf : Nat) (K : ZK) (h : Heap) (c : Nat) (w m : SL) :
  zAt Try.prog C lf 24 [] (padT (ntOf Try.prog 24) [.pv false c 0, .sl w, .sl m]) (zFin Try.prog 24 K) ⟨[], zFin Try.prog 24 K⟩ h =
  (C 27
  [ZV.sl m, ZV.fn (AFn.plain (Fn.func 28)) [] [ZV.pv false (Heap.next h) 0]]
  (fun v_1 h'_1 => ZRI (ZV.av v_1) IntKind.i64 fun n_1 => K (ZV.int IntKind.i64 n_1) h'_1)
  (Heap.newO h (AObj.cells [SL.av w] 0 false false))) := by kernel_rfl

theorem onward_nf (C : ZCall) (lf : Nat) (K : ZK) (h : Heap) (c : Nat) (w m : SL) :
  zAt Try.prog C lf 25 [] (padT (ntOf Try.prog 25) [.pv false c 0, .sl w, .sl m]) (zFin Try.prog 25 K) ⟨[], zFin Try.prog 25 K⟩ h =
  (ZLoop lf
  (zAt Try.prog C lf 25 [1, 0, 1, 0, 0])
  [ZV.pv false c 0, ZV.sl w, ZV.sl m, ZV.tup [], ZV.tup [], ZV.tup [], ZV.int IntKind.i64 0,
    ZV.tup [], ZV.tup [], ZV.sl m, ZV.int IntKind.i64 (Int.ofNat (SL.n m)), ZV.int IntKind.i64 0,
    ZV.tup [], ZV.tup [], ZV.tup [], ZV.tup [], ZV.tup [], ZV.tup [], ZV.tup [], ZV.tup [], ZV.tup [], ZV.tup [],
    ZV.tup [], ZV.tup [], ZV.tup [], ZV.tup []]
  (KZ.mk
    ((0, fun z' h' =>
        zAt Try.prog C lf 25 [1, 1] z' (zFin Try.prog 25 K)
          (KZ.mk [] (zFin Try.prog 25 K)) h') ::
      KZ.env (KZ.mk [] (zFin Try.prog 25 K)))
    (KZ.ret (KZ.mk [] (zFin Try.prog 25 K))))
  h) := by kernel_rfl

theorem onward_body (C : ZCall) (lf : Nat) (K : ZK) (h : Heap) (c : Nat) (m : SL) (n j : Int) (d : Nat → ZV) (k X : ZT → Heap → Prop) (E : List (Nat × (ZT → Heap → Prop))) :
  zAt Try.prog C lf 25 [1, 0, 1, 0, 0] (zt (ntOf Try.prog 25) (ov [(0, .pv false c 0), (2, .sl m), (9, .sl m), (10, .int .i64 n), (11, .int .i64 j)] d)) k ⟨(0, X) :: E, zFin Try.prog 25 K⟩ h =
  (@cnd Prop (decide (j < n))
  (ZAnd (SL.nil m = false)
    (ZIdx j (SL.len m) fun m_1 =>
      ZAnd (false = false)
        (ZLdI h (SL.i m) (SL.o m + m_1 * 1) IntKind.i64 fun n_1 =>
          ZAnd (false = false)
            (ZAnd (false = false)
              (ZAnd (false = false)
                (ZLdI h c 2 IntKind.i64 fun n_2 =>
                  @cnd Prop (decide (n_2 < n_1)) (K (ZV.int IntKind.i64 n_1) h)
                    (ZW IntKind.i64 (j + 1) fun r_1 =>
                      k
                        [ZV.pv false c 0, d 1, ZV.sl m, d 3,
                          d 4, d 5, d 6, d 7,
                          ZV.int IntKind.i64 n_1, ZV.sl m, ZV.int IntKind.i64 n, ZV.int IntKind.i64 r_1, ZV.bool true,
                          ZV.pv false (SL.i m) (SL.o m + m_1 * 1), ZV.int IntKind.i64 n_1,
                          ZV.int IntKind.i64 n_1, ZV.pv false c 0, ZV.pv false c 0,
                          ZV.pv false c 2, ZV.int IntKind.i64 n_2, ZV.bool false, d 21,
                          ZV.int IntKind.i64 r_1, d 23, d 24, d 25]
                        h)))))))
  (X
    [ZV.pv false c 0, d 1, ZV.sl m, d 3, d 4, d 5,
      d 6, d 7, d 8, ZV.sl m, ZV.int IntKind.i64 n, ZV.int IntKind.i64 j,
      ZV.bool false, d 13, d 14, d 15, d 16, d 17,
      d 18, d 19, d 20, d 21, d 22,
      d 23, d 24, d 25]
    h)) := by kernel_rfl

theorem onward_end (C : ZCall) (lf : Nat) (K : ZK) (h : Heap) (m : SL) (d : Nat → ZV) :
  zAt Try.prog C lf 25 [1, 1] (zt (ntOf Try.prog 25) (ov [(2, .sl m)] d)) (zFin Try.prog 25 K) ⟨[], zFin Try.prog 25 K⟩ h =
  (ZAnd (SL.nil m = false)
  (ZIdx 0 (SL.len m) fun m_1 =>
    ZAnd (false = false)
      (ZLdI h (SL.i m) (SL.o m + m_1 * 1) IntKind.i64 fun n_1 => K (ZV.int IntKind.i64 n_1) h))) := by kernel_rfl

theorem picked_nf (C : ZCall) (lf : Nat) (K : ZK) (h : Heap) (c : Nat) (w m : SL) :
  zAt Try.prog C lf 26 [] (padT (ntOf Try.prog 26) [.pv false c 0, .sl w, .sl m]) (zFin Try.prog 26 K) ⟨[], zFin Try.prog 26 K⟩ h =
  (ZAnd (false = false)
  (ZAnd (false = false)
    (ZAnd (false = false)
      (ZAnd (false = false)
        (ZLdL h c 1 fun s_1 =>
          @cnd Prop (decide (Int.ofNat (SL.n s_1) = 0))
            (C 24 [ZV.pv false c 0, ZV.sl w, ZV.sl m]
              (fun v_1 h'_1 => ZRI (ZV.av v_1) IntKind.i64 fun n_1 => K (ZV.int IntKind.i64 n_1) h'_1) h)
            (ZAnd (false = false)
              (ZAnd (false = false)
                (ZAnd (false = false)
                  (ZAnd (false = false)
                    (ZLdL h c 1 fun s_2 =>
                      ZAnd (false = false)
                        (ZAnd (false = false)
                          (ZAnd (false = false)
                            (ZLdI h c 3 IntKind.i64 fun n_1 =>
                              ZAnd (false = false)
                                (ZAnd (false = false)
                                  (ZAnd (false = false)
                                    (ZAnd (false = false)
                                      (ZLdL h c 1 fun s_3 =>
                                        ZAnd (Int.ofNat (SL.n s_3) = 0 → False)
                                          (ZAnd (SL.nil s_2 = false)
                                            (ZIdx (Int.tmod n_1 (Int.ofNat (SL.n s_3))) (SL.len s_2) fun m_1 =>
                                              ZAnd (false = false)
                                                (ZLdI h (SL.i s_2) (SL.o s_2 + m_1 * 1) IntKind.i64
                                                  fun n_2 =>
                                                  @cnd Prop (decide (n_2 < 0))
                                                    (ZW IntKind.i64 (n_2 + 1) fun r_1 =>
                                                      ZW IntKind.i64 (-r_1) fun r_2 =>
                                                        ZAnd (Int.ofNat (SL.n m) = 0 → False)
                                                          (ZAnd (SL.nil m = false)
                                                            (ZIdx (Int.tmod r_2 (Int.ofNat (SL.n m))) (SL.len m)
                                                              fun m_2 =>
                                                              ZAnd (false = false)
                                                                (ZLdI h (SL.i m) (SL.o m + m_2 * 1)
                                                                  IntKind.i64 fun n_3 =>
                                                                  K (ZV.int IntKind.i64 n_3) h))))
                                                    (ZAnd (Int.ofNat (SL.n m) = 0 → False)
                                                      (ZAnd (SL.nil m = false)
                                                        (ZIdx (Int.tmod n_2 (Int.ofNat (SL.n m))) (SL.len m) fun m_2 =>
                                                          ZAnd (false = false)
                                                            (ZLdI h (SL.i m) (SL.o m + m_2 * 1) IntKind.i64
                                                              fun n_3 =>
                                                              K (ZV.int IntKind.i64 n_3) h)))))))))))))))))))))))) := by kernel_rfl

theorem less_nf (C : ZCall) (lf : Nat) (K : ZK) (h : Heap) (c : Nat) (a b : Int) :
  zAt Try.prog C lf 28 [] (padT (ntOf Try.prog 28) [.int .i64 a, .int .i64 b, .pv false c 0]) (zFin Try.prog 28 K) ⟨[], zFin Try.prog 28 K⟩ h =
  (ZAnd (false = false)
  (ZLdL h c 0 fun s_1 =>
    ZAnd (SL.nil s_1 = false)
      (ZIdx a (SL.len s_1) fun m_1 =>
        ZAnd (false = false)
          (ZLdI h (SL.i s_1) (SL.o s_1 + m_1 * 1) IntKind.i64 fun n_1 =>
            ZAnd (false = false)
              (ZLdL h c 0 fun s_2 =>
                ZAnd (SL.nil s_2 = false)
                  (ZIdx b (SL.len s_2) fun m_2 =>
                    ZAnd (false = false)
                      (ZLdI h (SL.i s_2) (SL.o s_2 + m_2 * 1) IntKind.i64 fun n_2 =>
                        @cnd Prop (decide (n_1 = n_2)) (ZW IntKind.i64 (b - a) fun r_1 => K (ZV.int IntKind.i64 r_1) h)
                          (ZAnd (false = false)
                            (ZLdL h c 0 fun s_3 =>
                              ZAnd (SL.nil s_3 = false)
                                (ZIdx a (SL.len s_3) fun m_3 =>
                                  ZAnd (false = false)
                                    (ZLdI h (SL.i s_3) (SL.o s_3 + m_3 * 1) IntKind.i64 fun n_3 =>
                                      ZAnd (false = false)
                                        (ZLdL h c 0 fun s_4 =>
                                          ZAnd (SL.nil s_4 = false)
                                            (ZIdx b (SL.len s_4) fun m_4 =>
                                              ZAnd (false = false)
                                                (ZLdI h (SL.i s_4) (SL.o s_4 + m_4 * 1) IntKind.i64
                                                  fun n_4 =>
                                                  @cnd Prop (decide (n_3 < n_4))
                                                    (K (ZV.int IntKind.i64 (-1)) h)
                                                    (K (ZV.int IntKind.i64 1) h))))))))))))))) := by kernel_rfl

theorem maxFunc_nf (C : ZCall) (lf : Nat) (K : ZK) (h : Heap) (m : SL) (f : ZV) :
  zAt Try.prog C lf 27 [] (padT (ntOf Try.prog 27) [.sl m, f]) (zFin Try.prog 27 K) ⟨[], zFin Try.prog 27 K⟩ h =
  (@cnd Prop (decide (Int.ofNat (SL.n m) < 1)) False
  (ZAnd (SL.nil m = false)
    (ZIdx 0 (SL.len m) fun m_1 =>
      ZAnd (false = false)
        (ZLdI h (SL.i m) (SL.o m + m_1 * 1) IntKind.i64 fun n_1 =>
          ZLoop lf
            (zAt Try.prog C lf 27
              [1, 1, 1, 0, 1, 0, 0])
            [ZV.sl m, f, ZV.tup [], ZV.tup [], ZV.int IntKind.i64 0, ZV.int IntKind.i64 n_1,
              ZV.int IntKind.i64 1, ZV.sl m, ZV.int IntKind.i64 (Int.ofNat (SL.n m)), ZV.bool false,
              ZV.tup [], ZV.sl m, ZV.pv false (SL.i m) (SL.o m + m_1 * 1), ZV.int IntKind.i64 n_1,
              ZV.tup [], ZV.tup [], ZV.tup [], ZV.tup [], ZV.tup [], ZV.tup [], ZV.tup [], ZV.tup [], ZV.tup [],
              ZV.tup [], ZV.tup [], ZV.tup [], ZV.tup [], ZV.tup [], ZV.tup [], ZV.tup [], ZV.tup [], ZV.tup [],
              ZV.tup []]
            (KZ.mk
              ((0, fun z' h' =>
                  zAt Try.prog C lf 27 [1, 1, 1, 1] z'
                    (zFin Try.prog 27 K) (KZ.mk [] (zFin Try.prog 27 K)) h') ::
                KZ.env (KZ.mk [] (zFin Try.prog 27 K)))
              (KZ.ret (KZ.mk [] (zFin Try.prog 27 K))))
            h)))) := by kernel_rfl

theorem maxFunc_body (C : ZCall) (lf : Nat) (K : ZK) (h : Heap) (m : SL) (b : Nat) (x j : Int) (d : Nat → ZV) (k X : ZT → Heap → Prop) (E : List (Nat × (ZT → Heap → Prop))) :
  zAt Try.prog C lf 27 [1, 1, 1, 0, 1, 0, 0] (zt (ntOf Try.prog 27) (ov [(0, .sl m), (1, .fn (.plain (.func 28)) [] [.pv false b 0]), (5, .int .i64 x), (6, .int .i64 j)] d)) k ⟨(0, X) :: E, zFin Try.prog 27 K⟩ h =
  (@cnd Prop (decide (j < Int.ofNat (SL.n m)))
  (ZAnd (SL.nil m = false)
    (ZIdx j (SL.len m) fun m_1 =>
      ZAnd (false = false)
        (ZLdI h (SL.i m) (SL.o m + m_1 * 1) IntKind.i64 fun n_1 =>
          C 28 [ZV.int IntKind.i64 n_1, ZV.int IntKind.i64 x, ZV.pv false b 0]
            (fun v_1 h'_1 =>
              ZRI (ZV.av v_1) IntKind.i64 fun n_2 =>
                @cnd Prop (decide (0 < n_2))
                  (ZAnd (SL.nil m = false)
                    (ZIdx j (SL.len m) fun m_2 =>
                      ZAnd (false = false)
                        (ZLdI h'_1 (SL.i m) (SL.o m + m_2 * 1) IntKind.i64 fun n_3 =>
                          ZW IntKind.i64 (j + 1) fun r_1 =>
                            k
                              [ZV.sl m, ZV.fn (AFn.plain (Fn.func 28)) [] [ZV.pv false b 0],
                                d 2, d 3, d 4, ZV.int IntKind.i64 n_3,
                                ZV.int IntKind.i64 r_1, d 7, d 8, d 9,
                                d 10, d 11, d 12, d 13,
                                ZV.int IntKind.i64 j, ZV.sl m, ZV.int IntKind.i64 (Int.ofNat (SL.n m)), ZV.bool true,
                                ZV.int IntKind.i64 j, ZV.int IntKind.i64 r_1,
                                ZV.fn (AFn.plain (Fn.func 28)) [] [ZV.pv false b 0],
                                ZV.sl m, ZV.int IntKind.i64 j, ZV.pv false (SL.i m) (SL.o m + m_1 * 1),
                                ZV.int IntKind.i64 n_1, ZV.int IntKind.i64 x, ZV.int IntKind.i64 n_2, ZV.bool true,
                                ZV.sl m, ZV.int IntKind.i64 j, ZV.pv false (SL.i m) (SL.o m + m_2 * 1),
                                ZV.int IntKind.i64 n_3, d 32]
                              h'_1)))
                  (ZW IntKind.i64 (j + 1) fun r_1 =>
                    k
                      [ZV.sl m, ZV.fn (AFn.plain (Fn.func 28)) [] [ZV.pv false b 0],
                        d 2, d 3, d 4, ZV.int IntKind.i64 x,
                        ZV.int IntKind.i64 r_1, d 7, d 8, d 9,
                        d 10, d 11, d 12, d 13,
                        ZV.int IntKind.i64 j, ZV.sl m, ZV.int IntKind.i64 (Int.ofNat (SL.n m)), ZV.bool true,
                        ZV.int IntKind.i64 j, ZV.int IntKind.i64 r_1,
                        ZV.fn (AFn.plain (Fn.func 28)) [] [ZV.pv false b 0], ZV.sl m,
                        ZV.int IntKind.i64 j, ZV.pv false (SL.i m) (SL.o m + m_1 * 1),
                        ZV.int IntKind.i64 n_1, ZV.int IntKind.i64 x, ZV.int IntKind.i64 n_2, ZV.bool false,
                        d 28, d 29, d 30, d 31,
                        d 32]
                      h'_1))
            h)))
  (X
    [ZV.sl m, ZV.fn (AFn.plain (Fn.func 28)) [] [ZV.pv false b 0], d 2,
      d 3, d 4, ZV.int IntKind.i64 x, ZV.int IntKind.i64 j, d 7,
      d 8, d 9, d 10, d 11, d 12,
      d 13, ZV.int IntKind.i64 j, ZV.sl m, ZV.int IntKind.i64 (Int.ofNat (SL.n m)), ZV.bool false,
      d 18, d 19, d 20, d 21, d 22,
      d 23, d 24, d 25, d 26, d 27,
      d 28, d 29, d 30, d 31, d 32]
    h)) := by kernel_rfl

theorem maxFunc_end (C : ZCall) (lf : Nat) (K : ZK) (h : Heap) (x : Int) (d : Nat → ZV) :
  zAt Try.prog C lf 27 [1, 1, 1, 1] (zt (ntOf Try.prog 27) (ov [(5, .int .i64 x)] d)) (zFin Try.prog 27 K) ⟨[], zFin Try.prog 27 K⟩ h =
  (K (ZV.int IntKind.i64 x) h) := by kernel_rfl

theorem check_nf (C : ZCall) (lf : Nat) (K : ZK) (h : Heap) (k : Int) (s : SL) :
  zAt Try.prog C lf 10 [] (padT (ntOf Try.prog 10) [.agg [.int .i64 k, .sl s]]) (zFin Try.prog 10 K) ⟨[], zFin Try.prog 10 K⟩ h =
  (ZAnd (false = false)
  (ZAnd (false = false)
    (ZLdI (Heap.newO h (AObj.cells [AV.int IntKind.i64 k, SL.av s] 0 false false)) (Heap.next h)
      0 IntKind.i64 fun n_1 =>
      C 20 []
        (fun v_1 h'_1 =>
          ZRM (ZV.av v_1) fun n_2 j_1 =>
            ZAnd
              (ZAnd (false = false)
                (ZLdI h'_1 (Heap.next h) 0 IntKind.i64 fun n_3 =>
                  AV.int IntKind.i64 n_3 = AV.int IntKind.i64 n_1))
              (ZLook h'_1 n_2 j_1 (AV.int IntKind.i64 n_1)
                (fun v_2 =>
                  ZAnd (isFn v_2 = true)
                    (@cnd Prop (isNilFn v_2) (K (ZV.int IntKind.i64 161) h'_1)
                      (ZAnd (false = false)
                        (ZAnd (false = false)
                          (ZLdL h'_1 (Heap.next h) 1 fun s_1 =>
                            @cnd Prop (cnd false true (decide (65536 < Int.ofNat (SL.n s_1))))
                              (K (ZV.int IntKind.i64 161) h'_1)
                              (ZAnd (false = false)
                                (ZAnd (false = false)
                                  (ZLdL h'_1 (Heap.next h) 1 fun s_2 =>
                                    @cnd Prop (decide (0 < Int.ofNat (SL.n s_2)))
                                      (ZAnd (false = false)
                                        (ZAnd (false = false)
                                          (ZLdI h'_1 (Heap.next h) 0 IntKind.i64 fun n_3 =>
                                            @cnd Prop (cnd false true (cnd true (!decide (n_3 = 4)) false))
                                              (K (ZV.int IntKind.i64 161) h'_1)
                                              (K (ZV.int IntKind.i64 0) h'_1))))
                                      (K (ZV.int IntKind.i64 0) h'_1)))))))))
                (ZAnd (true = true) (K (ZV.int IntKind.i64 161) h'_1))))
        (Heap.newO h (AObj.cells [AV.int IntKind.i64 k, SL.av s] 0 false false))))) := by kernel_rfl

theorem new_nf (C : ZCall) (lf : Nat) (K : ZK) (h : Heap) (k : Int) (s : SL) :
  zAt Try.prog C lf 8 [] (padT (ntOf Try.prog 8) [.agg [.int .i64 k, .sl s]]) (zFin Try.prog 8 K) ⟨[], zFin Try.prog 8 K⟩ h =
  (ZAnd (false = false)
  (ZLdI (Heap.newO h (AObj.cells [AV.int IntKind.i64 k, SL.av s] 0 false false)) (Heap.next h)
    0 IntKind.i64 fun n_1 =>
    ZLdL (Heap.newO h (AObj.cells [AV.int IntKind.i64 k, SL.av s] 0 false false)) (Heap.next h)
      1 fun s_1 =>
      C 10 [ZV.agg [ZV.int IntKind.i64 n_1, ZV.sl s_1]]
        (fun v_1 h'_1 =>
          ZRI (ZV.av v_1) IntKind.i64 fun n_2 =>
            @cnd Prop (!decide (n_2 = 0))
              (K (ZV.tup [ZV.pv true 0 0, ZV.int IntKind.i64 n_2]) h'_1)
              (ZAnd (false = false)
                (ZAnd (false = false)
                  (ZLdL h'_1 (Heap.next h) 1 fun s_2 =>
                    C 19 [ZV.sl s_2]
                      (fun v_2 h'_2 =>
                        ZRL (ZV.av v_2) fun s_3 =>
                          ZAnd (false = false)
                            (ZAnd (false = false)
                              (ZPut h'_2 (Heap.next h) 1 1
                                (ZAnd (false = false)
                                  (ZLdI (hput h'_2 (Heap.next h) 1 [SL.av s_3]) (Heap.next h)
                                    0 IntKind.i64 fun n_3 =>
                                    ZLdL (hput h'_2 (Heap.next h) 1 [SL.av s_3]) (Heap.next h)
                                      1 fun s_4 =>
                                      K
                                        (ZV.tup
                                          [ZV.pv false (Heap.next (hput h'_2 (Heap.next h) 1 [SL.av s_3]))
                                              0,
                                            ZV.int IntKind.i64 0])
                                        (Heap.newO (hput h'_2 (Heap.next h) 1 [SL.av s_3])
                                          (AObj.cells
                                            [AV.int IntKind.i64 n_3, SL.av s_4, AV.int IntKind.i64 (-1),
                                              AV.int IntKind.i64 0]
                                            0 false false)))))))
                      h'_1))))
        (Heap.newO h (AObj.cells [AV.int IntKind.i64 k, SL.av s] 0 false false)))) := by kernel_rfl

theorem choose_nf (C : ZCall) (lf : Nat) (K : ZK) (h : Heap) (c : Nat) (w : SL) :
  zAt Try.prog C lf 9 [] (padT (ntOf Try.prog 9) [.pv false c 0, .sl w]) (zFin Try.prog 9 K) ⟨[], zFin Try.prog 9 K⟩ h =
  (ZLoop lf
  (zAt Try.prog C lf 9
    [1, 1, 0, 1, 0, 0])
  [ZV.pv false c 0, ZV.sl w, ZV.tup [], ZV.tup [], ZV.int IntKind.i64 0,
    ZV.int IntKind.i64 0,
    ZV.sl (SL.mk true 0 0 0 0 false), ZV.tup [], ZV.tup [],
    ZV.sl w, ZV.int IntKind.i64 (Int.ofNat (SL.n w)), ZV.int IntKind.i64 0, ZV.tup [], ZV.tup [],
    ZV.tup [], ZV.tup [], ZV.tup [], ZV.tup [], ZV.tup [], ZV.tup [], ZV.tup [], ZV.tup [], ZV.tup [], ZV.tup [],
    ZV.tup [], ZV.tup [], ZV.tup [], ZV.tup [], ZV.tup [], ZV.tup [], ZV.tup [], ZV.tup [], ZV.tup [], ZV.tup [],
    ZV.tup [], ZV.tup [], ZV.tup [], ZV.tup [], ZV.tup [], ZV.tup [], ZV.tup [], ZV.tup [], ZV.tup [], ZV.tup [],
    ZV.tup [], ZV.tup [], ZV.tup [], ZV.tup [], ZV.tup [], ZV.tup [], ZV.tup []]
  (KZ.mk
    ((0, fun z' h' =>
        zAt Try.prog C lf 9 [1, 1, 1] z'
          (zFin Try.prog 9 K) (KZ.mk [] (zFin Try.prog 9 K)) h') ::
      KZ.env (KZ.mk [] (zFin Try.prog 9 K)))
    (KZ.ret (KZ.mk [] (zFin Try.prog 9 K))))
  h) := by kernel_rfl

theorem choose_body (C : ZCall) (lf : Nat) (K : ZK) (h : Heap) (c : Nat) (w m : SL) (n j : Int) (d : Nat → ZV) (k X : ZT → Heap → Prop) (E : List (Nat × (ZT → Heap → Prop))) :
  zAt Try.prog C lf 9 [1, 1, 0, 1, 0, 0] (zt (ntOf Try.prog 9) (ov [(0, .pv false c 0), (1, .sl w), (6, .sl m), (9, .sl w), (10, .int .i64 n), (11, .int .i64 j)] d)) k ⟨(0, X) :: E, zFin Try.prog 9 K⟩ h =
  (@cnd Prop (decide (j < n))
  (ZAnd (SL.nil w = false)
    (ZIdx j (SL.len w) fun m_1 =>
      ZAnd (false = false)
        (ZLdI h (SL.i w) (SL.o w + m_1 * 1) IntKind.i64 fun n_1 =>
          @cnd Prop (decide (0 < n_1))
            (ZSrc (Heap.newO h (AObj.cells [AV.int IntKind.i64 j] 1 false false))
              (SL.mk false (Heap.next h) 0 1 1 false) 1
              fun ds_1 =>
              ZApp Try.prog (Heap.newO h (AObj.cells [AV.int IntKind.i64 j] 1 false false)) m
                3 1 1 ds_1
                (ZW IntKind.i64 (j + 1) fun r_1 =>
                  k
                    [ZV.pv false c 0, ZV.sl w, d 2, d 3, d 4,
                      d 5,
                      ZV.sl
                        (SL.app m
                          (Heap.next (Heap.newO h (AObj.cells [AV.int IntKind.i64 j] 1 false false))) 1),
                      ZV.int IntKind.i64 j, ZV.int IntKind.i64 n_1, ZV.sl w, ZV.int IntKind.i64 n,
                      ZV.int IntKind.i64 r_1, ZV.bool true, ZV.int IntKind.i64 j,
                      ZV.pv false (SL.i w) (SL.o w + m_1 * 1), ZV.int IntKind.i64 n_1,
                      ZV.int IntKind.i64 n_1, ZV.bool true, ZV.sl m, ZV.int IntKind.i64 j,
                      ZV.sl (SL.mk false (Heap.next h) 0 1 1 false),
                      ZV.sl
                        (SL.app m
                          (Heap.next (Heap.newO h (AObj.cells [AV.int IntKind.i64 j] 1 false false))) 1),
                      ZV.int IntKind.i64 r_1, d 23, d 24, d 25,
                      d 26, d 27, d 28, d 29,
                      d 30, d 31, d 32, d 33,
                      d 34, d 35, d 36, d 37,
                      d 38, d 39, d 40, d 41,
                      d 42, d 43, d 44, d 45,
                      d 46, d 47, d 48, d 49,
                      d 50]
                    (happ (Heap.newO h (AObj.cells [AV.int IntKind.i64 j] 1 false false)) m
                      1 1 ds_1)))
            (ZW IntKind.i64 (j + 1) fun r_1 =>
              k
                [ZV.pv false c 0, ZV.sl w, d 2, d 3, d 4,
                  d 5, ZV.sl m, ZV.int IntKind.i64 j, ZV.int IntKind.i64 n_1, ZV.sl w,
                  ZV.int IntKind.i64 n, ZV.int IntKind.i64 r_1, ZV.bool true, ZV.int IntKind.i64 j,
                  ZV.pv false (SL.i w) (SL.o w + m_1 * 1), ZV.int IntKind.i64 n_1, ZV.int IntKind.i64 n_1,
                  ZV.bool false, d 18, d 19, d 20, d 21,
                  ZV.int IntKind.i64 r_1, d 23, d 24, d 25,
                  d 26, d 27, d 28, d 29, d 30,
                  d 31, d 32, d 33, d 34, d 35,
                  d 36, d 37, d 38, d 39, d 40,
                  d 41, d 42, d 43, d 44, d 45,
                  d 46, d 47, d 48, d 49, d 50]
                h))))
  (X
    [ZV.pv false c 0, ZV.sl w, d 2, d 3, d 4, d 5,
      ZV.sl m, d 7, d 8, ZV.sl w, ZV.int IntKind.i64 n, ZV.int IntKind.i64 j, ZV.bool false,
      d 13, d 14, d 15, d 16, d 17,
      d 18, d 19, d 20, d 21, d 22,
      d 23, d 24, d 25, d 26, d 27,
      d 28, d 29, d 30, d 31, d 32,
      d 33, d 34, d 35, d 36, d 37,
      d 38, d 39, d 40, d 41, d 42,
      d 43, d 44, d 45, d 46, d 47,
      d 48, d 49, d 50]
    h)) := by kernel_rfl

theorem choose_end (C : ZCall) (lf : Nat) (K : ZK) (h : Heap) (c : Nat) (w m : SL) (d : Nat → ZV) :
  zAt Try.prog C lf 9 [1, 1, 1] (zt (ntOf Try.prog 9) (ov [(0, .pv false c 0), (1, .sl w), (6, .sl m)] d)) (zFin Try.prog 9 K) ⟨[], zFin Try.prog 9 K⟩ h =
  (@cnd Prop (decide (Int.ofNat (SL.n m) = 0))
  (K (ZV.tup [ZV.int IntKind.i64 0, ZV.int IntKind.i64 162]) h)
  (ZAnd (false = false)
    (ZAnd (false = false)
      (ZAnd (false = false)
        (ZAnd (false = false)
          (ZLdI h c 0 IntKind.i64 fun n_1 =>
            C 20 []
              (fun v_1 h'_1 =>
                ZRM (ZV.av v_1) fun n_2 j_1 =>
                  ZAnd
                    (ZAnd (false = false)
                      (ZLdI h'_1 c 0 IntKind.i64 fun n_3 =>
                        AV.int IntKind.i64 n_3 = AV.int IntKind.i64 n_1))
                    (ZLook h'_1 n_2 j_1 (AV.int IntKind.i64 n_1)
                      (fun v_2 =>
                        ZFn v_2 fun g_1 fs_1 cap_1 =>
                          zFunc Try.prog C g_1
                            (List.map ZV.any fs_1 ++ [ZV.pv false c 0, ZV.sl w, ZV.sl m] ++
                              List.map ZV.any cap_1)
                            h'_1 fun v_3 h'_2 =>
                            ZRI (ZV.av v_3) IntKind.i64 fun n_3 =>
                              ZAnd (false = false)
                                (ZAnd (false = false)
                                  (ZAnd (false = false)
                                    (ZPut h'_2 c 2 1
                                      (ZAnd (false = false)
                                        (ZAnd (false = false)
                                          (ZAnd (false = false)
                                            (ZLdI (hput h'_2 c 2 [AV.int IntKind.i64 n_3]) c
                                              3 IntKind.i64 fun n_4 =>
                                              ZW IntKind.i64 (n_4 + 1) fun r_1 =>
                                                ZAnd (false = false)
                                                  (ZAnd (false = false)
                                                    (ZAnd (false = false)
                                                      (ZPut (hput h'_2 c 2 [AV.int IntKind.i64 n_3]) c
                                                        3 1
                                                        (ZAnd (false = false)
                                                          (ZAnd (false = false)
                                                            (ZAnd (false = false)
                                                              (ZLdI
                                                                (hput
                                                                  (hput h'_2 c 2 [AV.int IntKind.i64 n_3])
                                                                  c 3 [AV.int IntKind.i64 r_1])
                                                                c 2 IntKind.i64 fun n_5 =>
                                                                K
                                                                  (ZV.tup
                                                                    [ZV.int IntKind.i64 n_5,
                                                                      ZV.int IntKind.i64 0])
                                                                  (hput
                                                                    (hput h'_2 c 2
                                                                      [AV.int IntKind.i64 n_3])
                                                                    c 3
                                                                    [AV.int IntKind.i64 r_1]))))))))))))))))
                      (ZFn AV.nilFunc fun g_1 fs_1 cap_1 =>
                        zFunc Try.prog C g_1
                          (List.map ZV.any fs_1 ++ [ZV.pv false c 0, ZV.sl w, ZV.sl m] ++
                            List.map ZV.any cap_1)
                          h'_1 fun v_2 h'_2 =>
                          ZRI (ZV.av v_2) IntKind.i64 fun n_3 =>
                            ZAnd (false = false)
                              (ZAnd (false = false)
                                (ZAnd (false = false)
                                  (ZPut h'_2 c 2 1
                                    (ZAnd (false = false)
                                      (ZAnd (false = false)
                                        (ZAnd (false = false)
                                          (ZLdI (hput h'_2 c 2 [AV.int IntKind.i64 n_3]) c 3
                                            IntKind.i64 fun n_4 =>
                                            ZW IntKind.i64 (n_4 + 1) fun r_1 =>
                                              ZAnd (false = false)
                                                (ZAnd (false = false)
                                                  (ZAnd (false = false)
                                                    (ZPut (hput h'_2 c 2 [AV.int IntKind.i64 n_3]) c
                                                      3 1
                                                      (ZAnd (false = false)
                                                        (ZAnd (false = false)
                                                          (ZAnd (false = false)
                                                            (ZLdI
                                                              (hput
                                                                (hput h'_2 c 2 [AV.int IntKind.i64 n_3]) c
                                                                3 [AV.int IntKind.i64 r_1])
                                                              c 2 IntKind.i64 fun n_5 =>
                                                              K
                                                                (ZV.tup
                                                                  [ZV.int IntKind.i64 n_5,
                                                                    ZV.int IntKind.i64 0])
                                                                (hput
                                                                  (hput h'_2 c 2 [AV.int IntKind.i64 n_3])
                                                                  c 3
                                                                  [AV.int IntKind.i64 r_1]))))))))))))))))))
              h)))))) := by kernel_rfl

theorem clone_nf (C : ZCall) (lf : Nat) (K : ZK) (h : Heap) (s : SL) :
  zAt Try.prog C lf 19 [] (padT (ntOf Try.prog 19) [.sl s]) (zFin Try.prog 19 K) ⟨[], zFin Try.prog 19 K⟩ h =
  (@cnd Prop
  (match SL.nil s with
  | true =>
    match SL.ext s with
    | true => false
    | false => true
  | false => false)
  (K (ZV.sl (SL.mk true 0 0 0 0 false)) h)
  (ZSrc (Heap.newO h (AObj.cells [] 1 false false)) s 1 fun ds_1 =>
    ZApp Try.prog (Heap.newO h (AObj.cells [] 1 false false))
      (SL.mk false (Heap.next h) 0 0 0 false) 3 1
      (SL.n s) ds_1
      (K
        (ZV.sl
          (SL.app (SL.mk false (Heap.next h) 0 0 0 false)
            (Heap.next (Heap.newO h (AObj.cells [] 1 false false))) (SL.n s)))
        (happ (Heap.newO h (AObj.cells [] 1 false false))
          (SL.mk false (Heap.next h) 0 0 0 false) 1 (SL.n s)
          ds_1)))) := by kernel_rfl

theorem round_nf (C : ZCall) (lf : Nat) (K : ZK) (h : Heap) (w s : SL) :
  zAt Try.prog C lf 4 [] (padT (ntOf Try.prog 4) [.sl w, .sl s]) (zFin Try.prog 4 K) ⟨[], zFin Try.prog 4 K⟩ h =
  (C 7 []
  (fun v_1 h'_1 =>
    ZRB (ZV.av v_1) fun b_1 =>
      @cnd Prop (decide (46340 < Int.ofNat (SL.n w))) (K (ZV.bool b_1) h'_1)
        (C 8
          [ZV.agg
              [ZV.int IntKind.i64 2,
                ZV.sl (SL.mk true 0 0 0 0 false)]]
          (fun v_2 h'_2 =>
            ZRT (ZV.av v_2) 2 fun f_1 =>
              ZRP (f_1 0) fun n_1 j_1 p_1 =>
                ZRI (f_1 1) IntKind.i64 fun n_2 =>
                  @cnd Prop (!b_1) (K (ZV.bool false) h'_2)
                    (@cnd Prop n_1 (K (ZV.bool false) h'_2)
                      (@cnd Prop (cnd false true !decide (n_2 = 0)) (K (ZV.bool false) h'_2)
                        (ZLoop lf
                          (zAt Try.prog C lf 4
                            [1, 1, 1, 1, 1, 0,
                              1, 0, 0])
                          [ZV.sl w, ZV.sl s, ZV.tup [], ZV.tup [], ZV.bool false, ZV.bool b_1, ZV.pv n_1 j_1 p_1,
                            ZV.int IntKind.i64 n_2, ZV.int IntKind.i64 0, ZV.tup [], ZV.tup [], ZV.tup [],
                            ZV.tup [], ZV.tup [], ZV.tup [], ZV.tup [], ZV.tup [], ZV.bool b_1, ZV.sl w,
                            ZV.int IntKind.i64 (Int.ofNat (SL.n w)), ZV.bool false, ZV.tup [],
                            ZV.tup [ZV.pv n_1 j_1 p_1, ZV.int IntKind.i64 n_2],
                            ZV.agg
                              [ZV.int IntKind.i64 2,
                                ZV.sl
                                  (SL.mk true 0 0 0 0 false)],
                            ZV.tup [ZV.pv n_1 j_1 p_1, ZV.int IntKind.i64 n_2], ZV.pv n_1 j_1 p_1,
                            ZV.int IntKind.i64 n_2, ZV.bool b_1, ZV.bool !b_1, ZV.bool false, ZV.pv n_1 j_1 p_1,
                            ZV.bool n_1, ZV.bool n_1, ZV.bool false, ZV.int IntKind.i64 n_2,
                            ZV.bool !decide (n_2 = 0), ZV.bool false, ZV.tup [], ZV.tup [], ZV.tup [],
                            ZV.tup [], ZV.tup [], ZV.tup [], ZV.tup [], ZV.tup [], ZV.tup [], ZV.tup [], ZV.tup [],
                            ZV.tup [], ZV.tup [], ZV.tup [], ZV.tup [], ZV.tup [], ZV.tup [], ZV.tup [], ZV.tup [],
                            ZV.tup [], ZV.tup [], ZV.tup [], ZV.tup [], ZV.tup [], ZV.tup [], ZV.tup [], ZV.tup [],
                            ZV.tup [], ZV.tup [], ZV.tup [], ZV.tup [], ZV.tup [], ZV.tup [], ZV.tup [], ZV.tup [],
                            ZV.tup [], ZV.tup [], ZV.tup [], ZV.tup [], ZV.tup [], ZV.tup [], ZV.tup [], ZV.tup [],
                            ZV.tup [], ZV.tup [], ZV.tup [], ZV.tup [], ZV.tup [], ZV.tup [], ZV.tup [], ZV.tup [],
                            ZV.tup [], ZV.tup [], ZV.tup [], ZV.tup [], ZV.tup [], ZV.tup [], ZV.tup [], ZV.tup [],
                            ZV.tup [], ZV.tup [], ZV.tup [], ZV.tup [], ZV.tup [], ZV.tup [], ZV.tup [], ZV.tup [],
                            ZV.tup [], ZV.tup [], ZV.tup [], ZV.tup [], ZV.tup [], ZV.tup [], ZV.tup [], ZV.tup [],
                            ZV.tup [], ZV.tup [], ZV.tup [], ZV.tup [], ZV.tup [], ZV.tup [], ZV.tup [], ZV.tup [],
                            ZV.tup [], ZV.tup [], ZV.tup [], ZV.tup [], ZV.tup [], ZV.tup [], ZV.tup [], ZV.tup [],
                            ZV.tup []]
                          (KZ.mk
                            ((0, fun z' h' =>
                                zAt Try.prog C lf 4
                                  [1, 1, 1, 1, 1,
                                    1]
                                  z' (zFin Try.prog 4 K) (KZ.mk [] (zFin Try.prog 4 K))
                                  h') ::
                              KZ.env (KZ.mk [] (zFin Try.prog 4 K)))
                            (KZ.ret (KZ.mk [] (zFin Try.prog 4 K))))
                          h'_2))))
          h'_1))
  h) := by kernel_rfl

end PolN

namespace PolN
open Go Go.X Go.Proofs
set_option maxRecDepth 100000
section
variable {S : ZSums} {lf n : Nat} {h : Heap} {K : ZK}
/-! ## what the package's functions do -/
def wt (ws : List Int) (i : Nat) : Int := ws.getD i 0
theorem wt_at {ws : List Int} {i : Nat} (hi : i < ws.length) : ws[i]? = some (wt ws i) := by simp [wt, hi]
/-- slices of naturals -/
def iv (l : List Nat) : List Int := List.map (fun i : Nat => (i : Int)) l
theorem iv_at {l : List Nat} {j i : Nat} (hj : l[j]? = some i) : (iv l)[j]? = some (i : Int) := by simp [iv, hj]
@[simp] theorem iv_len (l : List Nat) : (iv l).length = l.length := by simp [iv]
def cmpF (ws : List Int) (a b : Nat) : Int := if wt ws a = wt ws b then (b : Int) - a else if wt ws a < wt ws b then -1 else 1
theorem less_ok (hS : S 28 = none) {p : Nat} {w : SL} {ws : List Int} {i j : Nat} (hp : cellAt h p 0 = some w.av) (hw : Ints h w ws) (hi : i < ws.length) (hj : j < ws.length) (hL : ws.length ≤ 1099511627776) (k : K (.int .i64 (cmpF ws i j)) h) :
    zCall Try.prog S lf (n + 1) 28 [.int .i64 (i : Int), .int .i64 (j : Int), .pv false p 0] K h := by
  refine zCall_at hS (by kernel_rfl) ?_
  rw [less_nf]
  simp only [zAnd_iff, eq_self, true_and, Nat.mul_one, zIdx_nat, zLdI_iff, cnd_dec, zW_iff]
  have hn := hw.nil_of hi
  have hl := hw.len' hn
  have ei := hw.at' hn i _ (wt_at hi)
  have ej := hw.at' hn j _ (wt_at hj)
  refine zLdL_of hp ⟨hn, by omega, wt ws i, ei, zLdL_of hp ⟨hn, by omega, wt ws j, ej, fun e => ?_, fun e => zLdL_of hp ⟨hn, by omega, wt ws i, ei, zLdL_of hp ⟨hn, by omega, wt ws j, ej, fun e2 => ?_, fun e2 => ?_⟩⟩⟩⟩
  · rw [i64_fit (by omega) (by omega)]; unfold cmpF at k; rw [if_pos e] at k; exact k
  · unfold cmpF at k; rw [if_neg e, if_pos e2] at k; exact k
  · unfold cmpF at k; rw [if_neg e, if_neg e2] at k; exact k
/-- the first of the greatest -/
def best (ws : List Int) (b : Nat) : List Nat → Nat
  | [] => b
  | i :: r => best ws (if wt ws b < wt ws i then i else b) r
/-- numbers that grow, behind b -/
def Up (b : Nat) : List Nat → Prop
  | [] => True
  | i :: r => b < i ∧ Up i r
theorem Up.weaken {a b : Nat} (h : a ≤ b) : ∀ {l : List Nat}, Up b l → Up a l
  | [], _ => trivial
  | _ :: _, u => ⟨Nat.lt_of_le_of_lt h u.1, u.2⟩
theorem maxFunc_ok (hS : ∀ f, f ≠ 7 → S f = none) {p : Nat} {w m : SL} {ws : List Int} {a : Nat} {t : List Nat} (hp : cellAt h p 0 = some w.av) (hw : Ints h w ws) (hm : Ints h m (iv (a :: t))) (hup : Up a t) (hlt : ∀ i, i ∈ a :: t → i < ws.length) (hL : ws.length ≤ 1099511627776) (hT : t.length < 1099511627776) (hlf : t.length < lf)
    (k : K (.int .i64 (best ws a t : Int)) h) :
    zCall Try.prog S lf (n + 2) 27 [.sl m, .fn (.plain (.func 28)) [] [.pv false p 0]] K h := by
  refine zCall_at (hS _ (by decide)) (by kernel_rfl) ?_
  rw [maxFunc_nf]
  have hn : m.nil = false := hm.nil_of (j := 0) (by simp)
  have hl := hm.len' hn
  have hml := hm.len
  simp only [iv_len, List.length_cons] at hl hml
  simp only [zAnd_iff, eq_self, true_and, Nat.mul_one, zIdx_zero, zLdI_iff, cnd_dec]
  refine ⟨fun e => ?_, fun _ => ⟨hn, by omega, (a : Int), hm.at' hn 0 _ (iv_at (by simp)), ?_⟩⟩
  · have : (Int.ofNat m.n : Int) = m.n := rfl
    omega
  refine ZLoop.inv (fun q z h' => ∃ (j x : Nat) (r : List Nat), ZAt 33 [(0, .sl m), (1, .fn (.plain (.func 28)) [] [.pv false p 0]), (5, .int .i64 (x : Int)), (6, .int .i64 (j : Int))] z ∧ h' = h ∧ r.length = q ∧ j + q = m.n ∧ (∀ i, (a :: t)[j + i]? = r[i]?) ∧ best ws x r = best ws a t ∧ Up x r ∧ x < ws.length) (n := t.length) hlf ⟨1, a, t, ⟨rfl, rfl, rfl, rfl, rfl, trivial⟩, rfl, rfl, by omega, fun i => by rw [Nat.add_comm]; rfl, rfl, hup, hlt a (by simp)⟩ ?_
  rintro q z h' kk hq ⟨j, x, r, hz, rfl, hr, hj, hat, hb, hu, hx⟩ ih
  obtain ⟨d, rfl⟩ := hz.tab
  refine (maxFunc_body _ _ _ _ _ _ _ _ _ _ _ _).mpr ?_
  have en : (Int.ofNat m.n : Int) = m.n := rfl
  simp only [zAnd_iff, eq_self, true_and, Nat.mul_one, zIdx_nat, zLdI_iff, cnd_dec, zW_iff]
  refine ⟨fun e => ?_, fun e => ?_⟩
  · cases r with
    | nil => simp only [List.length_nil] at hr; omega
    | cons y r =>
      have hy0 := hat 0
      simp only [Nat.add_zero, List.getElem?_cons_zero] at hy0
      have hylt : y < ws.length := hlt y (List.mem_of_getElem? hy0)
      have hcell := hm.at' hn j _ (iv_at hy0)
      refine ⟨hn, by omega, (y : Int), hcell, less_ok (hS _ (by decide)) hp hw hylt hx hL ?_⟩
      have hr' : r.length + 1 = q := by simpa using hr
      have hjf : IntKind.i64.wrap ((j : Int) + 1) = ((j + 1 : Nat) : Int) := by
        rw [i64_fit (by omega) (by omega)]; rfl
      simp only [av_int, zRI_av, cnd_dec, hjf]
      have hat' : ∀ i, (a :: t)[j + 1 + i]? = r[i]? := fun i => by
        have := hat (i + 1)
        rw [show j + 1 + i = j + (i + 1) by omega, this]; rfl
      refine ⟨fun e2 => ⟨hn, by omega, (y : Int), hcell, ih (q - 1) _ _ (by omega) ⟨j + 1, y, r, ⟨rfl, rfl, rfl, rfl, rfl, trivial⟩, rfl, by omega, by omega, hat', ?_, hu.2, hylt⟩⟩, fun e2 => ih (q - 1) _ _ (by omega) ⟨j + 1, x, r, ⟨rfl, rfl, rfl, rfl, rfl, trivial⟩, rfl, by omega, by omega, hat', ?_, hu.2.weaken (Nat.le_of_lt hu.1), hx⟩⟩
      · rw [← hb]
        have : wt ws x < wt ws y := by
          have hu1 := hu.1
          unfold cmpF at e2
          split at e2
          · omega
          · split at e2 <;> omega
        show _ = best ws (if wt ws x < wt ws y then y else x) r
        rw [if_pos this]
      · rw [← hb]
        have : ¬ wt ws x < wt ws y := by
          unfold cmpF at e2
          split at e2
          · omega
          · split at e2 <;> omega
        show _ = best ws (if wt ws x < wt ws y then y else x) r
        rw [if_neg this]
  · have : r = [] := List.eq_nil_of_length_eq_zero (by omega)
    subst this
    refine zAt_of (n := 33) [(5, .int .i64 (x : Int))] ⟨rfl, rfl, trivial⟩ fun d' => (maxFunc_end _ _ _ _ _ _).mpr ?_
    have hb' : x = best ws a t := hb
    rw [hb']; exact k
end
end PolN

namespace PolN
open Go Go.X Go.Proofs
set_option maxRecDepth 100000
section
variable {S : ZSums} {lf n : Nat} {h : Heap} {K : ZK}
abbrev no (_ : Nat) : Prop := False
theorem greatest_ok (hS : ∀ f, f ≠ 7 → S f = none) {c : Nat} {w m : SL} {ws : List Int} {a : Nat} {t : List Nat} (hw : Ints h w ws) (hm : Ints h m (iv (a :: t))) (hup : Up a t) (hlt : ∀ i, i ∈ a :: t → i < ws.length) (hL : ws.length ≤ 1099511627776) (hT : t.length < 1099511627776) (hlf : t.length < lf)
    (k : ∀ h', Fram no h h' → K (.int .i64 (best ws a t : Int)) h') :
    zCall Try.prog S lf (n + 3) 24 [.pv false c 0, .sl w, .sl m] K h := by
  refine zCall_at (hS _ (by decide)) (by kernel_rfl) ?_
  rw [greatest_nf]
  have fr : Fram no h (h.newO (.cells [w.av] 0 false false)) := Fram.newO _ _ _
  refine maxFunc_ok hS (w := w) ?_ (hw.fr fr fun _ => id) (hm.fr fr fun _ => id) hup hlt hL hT hlf ?_
  · rw [cellAt_of (newO_get_self _ _)]; rfl
  · simp only [av_int, zRI_av]
    exact k _ fr
/-- the first behind the last, else the first -/
def nextF (last : Int) (a : Nat) (l : List Nat) : Nat := match l with
  | [] => a
  | i :: r => if last < i then i else nextF last a r
theorem onward_ok (hS : ∀ f, f ≠ 7 → S f = none) {c : Nat} {w m : SL} {a : Nat} {t : List Nat} {last : Int} (hc : cellAt h c 2 = some (.int .i64 last)) (hm : Ints h m (iv (a :: t))) (hT : t.length < 1099511627776) (hlf : t.length + 1 < lf)
    (k : K (.int .i64 (nextF last a (a :: t) : Int)) h) :
    zCall Try.prog S lf (n + 1) 25 [.pv false c 0, .sl w, .sl m] K h := by
  refine zCall_at (hS _ (by decide)) (by kernel_rfl) ?_
  rw [onward_nf]
  have hn : m.nil = false := hm.nil_of (j := 0) (by simp)
  have hl := hm.len' hn
  have hml := hm.len
  simp only [iv_len, List.length_cons] at hl hml
  have en : (Int.ofNat m.n : Int) = m.n := rfl
  refine ZLoop.inv (fun q z h' => ∃ (j : Nat) (r : List Nat), ZAt 26 [(0, .pv false c 0), (2, .sl m), (9, .sl m), (10, .int .i64 (Int.ofNat m.n)), (11, .int .i64 (j : Int))] z ∧ h' = h ∧ r.length = q ∧ j + q = m.n ∧ (∀ i, (a :: t)[j + i]? = r[i]?) ∧ nextF last a r = nextF last a (a :: t)) (n := t.length + 1) hlf ⟨0, a :: t, ⟨rfl, rfl, rfl, rfl, rfl, rfl, trivial⟩, rfl, rfl, by omega, fun i => by rw [Nat.zero_add], rfl⟩ ?_
  rintro q z h' kk hq ⟨j, r, hz, rfl, hr, hj, hat, hb⟩ ih
  refine zAt_of _ hz fun d => (onward_body _ _ _ _ _ _ _ _ _ _ _ _).mpr ?_
  simp only [zAnd_iff, eq_self, true_and, Nat.mul_one, zIdx_nat, zLdI_iff, cnd_dec, zW_iff]
  refine ⟨fun e => ?_, fun e => ?_⟩
  · cases r with
    | nil => simp only [List.length_nil] at hr; omega
    | cons y r =>
      have hy0 := hat 0
      simp only [Nat.add_zero, List.getElem?_cons_zero] at hy0
      have hr' : r.length + 1 = q := by simpa using hr
      refine ⟨hn, by omega, (y : Int), hm.at' hn j _ (iv_at hy0), last, hc, fun e2 => ?_, fun e2 => ?_⟩
      · rw [← hb, show nextF last a (y :: r) = y from if_pos e2] at k; exact k
      · rw [i64_fit (by omega) (by omega)]
        refine ih (q - 1) _ _ (by omega) ⟨j + 1, r, ⟨rfl, rfl, rfl, rfl, rfl, rfl, trivial⟩, rfl, by omega, by omega, fun i => ?_, ?_⟩
        · have := hat (i + 1)
          rw [show j + 1 + i = j + (i + 1) by omega, this]; rfl
        · rw [← hb]; exact (if_neg e2).symm
  · have : r = [] := List.eq_nil_of_length_eq_zero (by omega)
    subst this
    refine zAt_of (n := 26) [(2, .sl m)] ⟨rfl, rfl, trivial⟩ fun d' => (onward_end _ _ _ _ _ _).mpr ?_
    simp only [zAnd_iff, eq_self, true_and, Nat.mul_one, zIdx_zero, zLdI_iff]
    refine ⟨hn, by omega, (a : Int), hm.at' hn 0 _ (iv_at (by simp)), ?_⟩
    rw [← hb] at k; exact k
/-- a pick's number -/
def pickI (p : Int) : Int := if p < 0 then -(p + 1) else p
theorem tmod_nat {a : Int} {b : Nat} (ha : 0 ≤ a) : a.tmod (Int.ofNat b) = ((a.toNat % b : Nat) : Int) := by
  obtain ⟨m, rfl⟩ := Int.eq_ofNat_of_zero_le ha
  rfl
def pickF (ps : List Int) (cnt : Int) (l : List Nat) : Nat := l.getD ((pickI (ps.getD (cnt.toNat % ps.length) 0)).toNat % l.length) 0
theorem picked_ok (hS : ∀ f, f ≠ 7 → S f = none) {c : Nat} {w m s : SL} {ws ps : List Int} {a : Nat} {t : List Nat} {cnt : Int} (hc1 : cellAt h c 1 = some s.av) (hc3 : cellAt h c 3 = some (.int .i64 cnt)) (h0 : 0 ≤ cnt) (hs : Ints h s ps) (hr : ∀ p, p ∈ ps → -9223372036854775808 ≤ p ∧ p ≤ 9223372036854775807)
    (hw : Ints h w ws) (hm : Ints h m (iv (a :: t))) (hup : Up a t) (hlt : ∀ i, i ∈ a :: t → i < ws.length) (hL : ws.length ≤ 1099511627776) (hT : t.length < 1099511627776) (hlf : t.length < lf)
    (k : ∀ h', Fram no h h' → K (.int .i64 (if ps.length = 0 then (best ws a t : Int) else (pickF ps cnt (a :: t) : Int))) h') :
    zCall Try.prog S lf (n + 4) 26 [.pv false c 0, .sl w, .sl m] K h := by
  refine zCall_at (hS _ (by decide)) (by kernel_rfl) ?_
  rw [picked_nf]
  simp only [zAnd_iff, eq_self, true_and, Nat.mul_one, zLdI_iff, cnd_dec, zW_iff]
  have hsn := hs.len
  have en : ∀ x : Nat, (Int.ofNat x : Int) = x := fun _ => rfl
  refine zLdL_of hc1 ⟨fun e => ?_, fun e => zLdL_of hc1 ⟨cnt, hc3, zLdL_of hc1 ⟨e, ?_⟩⟩⟩
  · refine greatest_ok hS hw hm hup hlt hL hT hlf fun h' f => ?_
    simp only [av_int, zRI_av]
    have := k h' f
    rw [if_pos (by have := en s.n; omega)] at this
    exact this
  · have hpl : ps.length ≠ 0 := by have := en s.n; omega
    have hk : (cnt.toNat % ps.length) < ps.length := Nat.mod_lt _ (by omega)
    have hsnil := hs.nil_of hk
    have hslen := hs.len' hsnil
    have hn : m.nil = false := hm.nil_of (j := 0) (by simp)
    have hl := hm.len' hn
    have hml := hm.len
    simp only [iv_len, List.length_cons] at hl hml
    obtain ⟨p, hp⟩ : ∃ p, ps[cnt.toNat % ps.length]? = some p := ⟨_, List.getElem?_eq_getElem hk⟩
    have hpd : ps.getD (cnt.toNat % ps.length) 0 = p := by rw [List.getD_eq_getElem?_getD, hp]; rfl
    have hrp := hr p (List.mem_of_getElem? hp)
    have key : ∀ q : Int, q = pickI p → Int.ofNat m.n = 0 → False := fun q _ e => by have := en m.n; omega
    have fin : ∀ q : Int, q = pickI p → ZIdx (q.tmod (Int.ofNat m.n)) m.len fun m_2 => ∃ n, cellAt h m.i (m.o + m_2) = some (.int .i64 n) ∧ K (.int .i64 n) h := by
      rintro q rfl
      have hq0 : 0 ≤ pickI p := by unfold pickI; split <;> omega
      rw [tmod_nat hq0, zIdx_nat]
      have hlt2 : (pickI p).toNat % m.n < m.n := Nat.mod_lt _ (by omega)
      obtain ⟨y, hy⟩ : ∃ y, (a :: t)[(pickI p).toNat % m.n]? = some y := ⟨_, List.getElem?_eq_getElem (by rw [List.length_cons]; omega)⟩
      refine ⟨by omega, (y : Int), hm.at' hn _ _ (iv_at hy), ?_⟩
      have := k h (Fram.refl _ _)
      rw [if_neg hpl] at this
      have e3 : pickF ps cnt (a :: t) = y := by
        unfold pickF
        rw [hpd, List.length_cons, ← hml, List.getD_eq_getElem?_getD, hy]; rfl
      rw [e3] at this; exact this
    rw [tmod_nat h0, zIdx_nat, hsn]
    refine ⟨hsnil, by omega, p, hs.at' hsnil _ _ hp, fun e2 => ⟨key _ rfl, hn, ?_⟩, fun e2 => ⟨key _ rfl, hn, ?_⟩⟩
    · rw [i64_fit (e := p + 1) (by omega) (by omega), i64_fit (by omega) (by omega)]
      exact fin _ (by unfold pickI; rw [if_pos e2])
    · exact fin _ (by unfold pickI; rw [if_neg e2])
end
end PolN

namespace PolN
open Go Go.X Go.Proofs
set_option maxRecDepth 100000
section
variable {S : ZSums} {lf n : Nat} {h : Heap} {K : ZK}
def fnV (f : Nat) : AV := .func (.plain (.func f)) [] []
noncomputable def choiceMap : List (AV × AV) := mset (.int .i64 4) (fnV 26) (mset (.int .i64 2) (fnV 25) (mset (.int .i64 3) (fnV 24) (mset (.int .i64 1) (fnV 24) [])))
theorem choiceMap_eq : choiceMap = [(.int .i64 1, fnV 24), (.int .i64 2, fnV 25), (.int .i64 3, fnV 24), (.int .i64 4, fnV 26)] := by kernel_rfl
theorem choices_ok (hS : ∀ f, f ≠ 7 → S f = none) (k : K (.mp false h.next) (h.newO (.map choiceMap 4))) : zCall Try.prog S lf (n + 1) 20 [] K h := by
  refine zCall_at (hS _ (by decide)) (by kernel_rfl) ?_
  rw [choices_nf]
  simp only [hmap_newO]
  exact zMap_newO (by kernel_rfl) (zMap_newO (by kernel_rfl) (zMap_newO (by kernel_rfl) (zMap_newO (by kernel_rfl) k)))
theorem look_nil (k : AV) : mlook [] k = none := rfl
theorem look_cons (e : AV × AV) (r : List (AV × AV)) (k : AV) : mlook (e :: r) k = cnd (eqAV k e.1) (some e.2) (mlook r k) := by
  show (match eqAV k e.1 with | true => some e.2 | false => mlook r k) = _
  cases eqAV k e.1 <;> rfl
theorem eqAV_i64 (a b : Int) : eqAV (.int .i64 a) (.int .i64 b) = decide (a = b) := by
  show eqI a b = _
  rw [Bool.eq_iff_iff, eqI_eq, decide_eq_true_iff]
theorem look_choice (k : Int) : mlook choiceMap (.int .i64 k) = if k = 1 then some (fnV 24) else if k = 2 then some (fnV 25) else if k = 3 then some (fnV 24) else if k = 4 then some (fnV 26) else none := by
  rw [choiceMap_eq]
  simp only [look_cons, look_nil, eqAV_i64]
  by_cases h1 : k = 1
  · simp [h1, cnd]
  · by_cases h2 : k = 2
    · simp [h2, cnd]
    · by_cases h3 : k = 3
      · simp [h3, cnd]
      · by_cases h4 : k = 4
        · simp [h4, cnd]
        · simp [h1, h2, h3, h4, cnd]
theorem fit_choice (k : Int) : keysFit choiceMap (.int .i64 k) = true := by rw [choiceMap_eq]; rfl
/-- does a policy fail: 161, else 0 -/
def checkE (k : Int) (n : Nat) : Int := if ¬ (1 ≤ k ∧ k ≤ 4) ∨ 65536 < n ∨ (0 < n ∧ k ≠ 4) then 161 else 0
theorem check_ok (hS : ∀ f, f ≠ 7 → S f = none) {k : Int} {s : SL} (hk : ∀ h', Fram no h h' → K (.int .i64 (checkE k s.n)) h') : zCall Try.prog S lf (n + 2) 10 [.agg [.int .i64 k, .sl s]] K h := by
  refine zCall_at (hS _ (by decide)) (by kernel_rfl) ?_
  rw [check_nf]
  have f1 : Fram no h (h.newO (.cells [.int .i64 k, s.av] 0 false false)) := Fram.newO _ _ _
  have c1 : ∀ o, cellAt (h.newO (.cells [.int .i64 k, s.av] 0 false false)) h.next o = [AV.int .i64 k, s.av][o]? := fun o => cellAt_of (newO_get_self _ _)
  simp only [zAnd_iff, eq_self, true_and, zLdI_iff, cnd_dec]
  refine ⟨k, c1 0, choices_ok hS ?_⟩
  have f2 := f1.trans (Fram.newO no _ (.map choiceMap 4))
  have c2 : ∀ o, cellAt ((h.newO (.cells [.int .i64 k, s.av] 0 false false)).newO (.map choiceMap 4)) h.next o = [AV.int .i64 k, s.av][o]? := fun o => (cellAt_eq (newO_get_ne (Nat.ne_of_lt (Nat.lt_succ_self _)))).trans (c1 o)
  have hk' := hk _ f2
  simp only [av_mpf]
  have en : (Int.ofNat s.n : Int) = s.n := rfl
  have bad : checkE k s.n = 161 → K (.int .i64 161) ((h.newO (.cells [.int .i64 k, s.av] 0 false false)).newO (.map choiceMap 4)) := fun e => by rw [e] at hk'; exact hk'
  have good : checkE k s.n = 0 → K (.int .i64 0) ((h.newO (.cells [.int .i64 k, s.av] 0 false false)).newO (.map choiceMap 4)) := fun e => by rw [e] at hk'; exact hk'
  refine zRM_map ⟨⟨k, c2 0, rfl⟩, ⟨fun e => (by cases e), fun _ => ⟨choiceMap, 4, newO_get_self _ _, fit_choice k, fun v hv => ?_, fun hv => bad ?_⟩⟩⟩
  · rw [look_choice] at hv
    have hv2 : (∃ g, v = fnV g) ∧ 1 ≤ k ∧ k ≤ 4 := by
      split at hv
      · cases hv; exact ⟨⟨_, rfl⟩, by omega, by omega⟩
      · split at hv
        · cases hv; exact ⟨⟨_, rfl⟩, by omega, by omega⟩
        · split at hv
          · cases hv; exact ⟨⟨_, rfl⟩, by omega, by omega⟩
          · split at hv
            · cases hv; exact ⟨⟨_, rfl⟩, by omega, by omega⟩
            · cases hv
    obtain ⟨⟨g, rfl⟩, hk1, hk2⟩ := hv2
    refine ⟨rfl, ?_⟩
    show ZLdL _ _ _ _
    refine zLdL_of (c2 1) ?_
    by_cases h1 : (65536 : Int) < Int.ofNat s.n
    · rw [decide_eq_true h1]
      exact bad (if_pos (by omega))
    · rw [decide_eq_false h1]
      refine zLdL_of (c2 1) ⟨fun e => ⟨k, c2 0, ?_⟩, fun e => good (if_neg (by omega))⟩
      by_cases h2 : k = 4
      · rw [decide_eq_true h2]
        exact good (if_neg (by omega))
      · rw [decide_eq_false h2]
        exact bad (if_pos (by omega))
  · rw [look_choice] at hv
    refine if_pos (.inl ?_)
    rintro ⟨h1, h2⟩
    split at hv
    · cases hv
    · split at hv
      · cases hv
      · split at hv
        · cases hv
        · split at hv
          · cases hv
          · omega
end
end PolN

namespace PolN
open Go Go.X Go.Proofs
set_option maxRecDepth 100000
section
variable {S : ZSums} {lf n : Nat} {h : Heap} {K : ZK}
theorem room3 {m : Nat} (hm : m ≤ 134217728) : roomB Try.prog 3 m = true := by
  have e : bytesO Try.prog 3 = some 8 := by kernel_rfl
  unfold roomB
  rw [e]
  have e1 : Nat.ble (Nat.mul m 8) most = true := Nat.ble_eq_true_of_le (by show m * 8 ≤ 1073741824; omega)
  have e2 : Nat.ble m most = true := Nat.ble_eq_true_of_le (by show m ≤ 1073741824; omega)
  show cnd (Nat.ble (Nat.mul m 8) most) (Nat.ble m most) false = true
  rw [e1, e2]; rfl
theorem clone_ok (hS : ∀ f, f ≠ 7 → S f = none) {s : SL} {ps : List Int} (hs : Ints h s ps) (hl : ps.length ≤ 134217728) (k : ∀ h' s', Fram no h h' → Ints h' s' ps → h.next ≤ s'.i ∨ s'.nil = true → K (.sl s') h') : zCall Try.prog S lf (n + 1) 19 [.sl s] K h := by
  refine zCall_at (hS _ (by decide)) (by kernel_rfl) ?_
  rw [clone_nf]
  have f1 : Fram no h (h.newO (.cells [] 1 false false)) := Fram.newO _ _ _
  by_cases hnn : s.nil = true ∧ s.ext = false
  · rw [hnn.1, hnn.2]
    show K _ _
    have : ps = [] := by
      have := hs.len
      unfold SL.n at this; rw [hnn.1] at this
      exact List.eq_nil_of_length_eq_zero this.symm
    subst this
    exact k h ⟨true, 0, 0, 0, 0, false⟩ (Fram.refl _ _) ⟨rfl, fun e => (by cases e), fun e => (by cases e)⟩ (.inr rfl)
  have enn : s.isNil = false := by
    unfold SL.isNil
    cases h1 : s.nil <;> cases h2 : s.ext <;> first | rfl | exact absurd ⟨h1, h2⟩ hnn
  show @cnd Prop s.isNil _ _
  rw [enn]
  show ZSrc _ _ _ _
  refine (hs.fr f1 fun _ => id).zsrc ?_
  have hn := hs.len
  by_cases h0 : ps.length = 0
  · have : ps = [] := List.eq_nil_of_length_eq_zero h0
    subst this
    have hn0 : s.n = 0 := hn
    rw [hn0]
    refine ⟨⟨fun _ => Nat.le_refl _, fun e => absurd rfl e, fun e => absurd rfl e, fun e => absurd rfl e, fun e => absurd rfl e, fun e => absurd rfl e⟩, rfl, ?_⟩
    exact k _ ⟨false, h.next, 0, 0, 0, false⟩ f1 (Ints.own rfl (Nat.lt_succ_self _) (newO_get_self _ _)) (.inl (Nat.le_refl _))
  · obtain ⟨q, hq⟩ : ∃ q, s.n = q + 1 := ⟨s.n - 1, by omega⟩
    have eh : happ (h.newO (.cells [] 1 false false)) ⟨false, h.next, 0, 0, 0, false⟩ 1 s.n (ps.map (AV.int .i64)) = (h.newO (.cells [] 1 false false)).newO (.cells (ps.map (AV.int .i64)) 1 true false) := by
      rw [hq]; unfold happ
      simp only [newO_get_self]
      rfl
    have es : (SL.mk false h.next 0 0 0 false).app (h.newO (.cells [] 1 false false)).next s.n = ⟨false, h.next + 1, 0, s.n, s.n, true⟩ := by
      rw [hq]; unfold SL.app
      simp only [Nat.zero_add]; rfl
    refine ⟨⟨fun _ => Nat.le_refl _, fun _ e => (by cases e), fun _ _ e => ?_, fun _ _ => ?_, fun _ _ _ e => (by cases e), fun _ _ _ _ => ⟨[], cellsAt_of (newO_get_self _ _), Nat.le_refl _⟩⟩, allPlain_ints _, ?_⟩
    · exfalso; have : 0 + s.n ≤ 0 := e; omega
    · show roomB Try.prog 3 (0 + s.n) = true
      exact room3 (by omega)
    · rw [eh, es]
      exact k _ ⟨false, h.next + 1, 0, s.n, s.n, true⟩ (f1.trans (Fram.newO _ _ _)) (Ints.own hn (Nat.lt_succ_self _) (newO_get_self _ _)) (.inl (Nat.le_succ _))
/-- a chooser -/
structure Chooser (h : Heap) (c : Nat) (k : Int) (s : SL) (last cnt : Int) : Prop where
  lt : c < h.next
  get : h.get c = some (.cells [.int .i64 k, s.av, .int .i64 last, .int .i64 cnt] 0 false false)
theorem new_ok (hS : ∀ f, f ≠ 7 → S f = none) {kd : Int} {s : SL} {ps : List Int} (hs : Ints h s ps)
    (bad : checkE kd ps.length = 161 → ∀ h', Fram no h h' → K (.tup [.pv true 0 0, .int .i64 161]) h')
    (good : checkE kd ps.length = 0 → ∀ h' c s', Fram no h h' → h.next ≤ c → Chooser h' c kd s' (-1) 0 → Ints h' s' ps → (s'.nil = false → h.next ≤ s'.i ∧ s'.i ≠ c) → K (.tup [.pv false c 0, .int .i64 0]) h') :
    zCall Try.prog S lf (n + 3) 8 [.agg [.int .i64 kd, .sl s]] K h := by
  refine zCall_at (hS _ (by decide)) (by kernel_rfl) ?_
  rw [new_nf]
  have f1 : Fram no h (h.newO (.cells [.int .i64 kd, s.av] 0 false false)) := Fram.newO _ _ _
  have c1 : ∀ o, cellAt (h.newO (.cells [.int .i64 kd, s.av] 0 false false)) h.next o = [AV.int .i64 kd, s.av][o]? := fun o => cellAt_of (newO_get_self _ _)
  simp only [zAnd_iff, eq_self, true_and, zLdI_iff]
  refine ⟨kd, c1 0, zLdL_of (c1 1) (check_ok hS fun h2 f2 => ?_)⟩
  have f2' := f1.trans f2
  simp only [av_int, zRI_av]
  have hn := hs.len
  rw [hn]
  have gb : h2.get h.next = some (.cells [.int .i64 kd, s.av] 0 false false) := (f2.same _ (Nat.lt_succ_self _) id).trans (newO_get_self _ _)
  have ne2 : h.next < h2.next := Nat.lt_of_lt_of_le (Nat.lt_succ_self _) f2.next
  rcases (show checkE kd ps.length = 161 ∨ checkE kd ps.length = 0 by unfold checkE; split <;> simp) with e | e
  · rw [e]
    exact bad e h2 f2'
  · have hl : ps.length ≤ 134217728 := by
      unfold checkE at e
      split at e
      · cases e
      · omega
    rw [e]
    show ZLdL _ _ _ _
    refine zLdL_of (s := s) (by rw [cellAt_of gb]; rfl) (clone_ok hS (hs.fr f2' fun _ => id) hl fun h3 s' f3 hs' hi => ?_)
    rw [av_sl]
    have gb3 : h3.get h.next = some (.cells [.int .i64 kd, s.av] 0 false false) := (f3.same _ ne2 id).trans gb
    have ne3 : h.next < h3.next := Nat.lt_of_lt_of_le ne2 f3.next
    have gb4 : (hput h3 h.next 1 [s'.av]).get h.next = some (.cells [.int .i64 kd, s'.av] 0 false false) := hput_get gb3
    refine zRL_of (zPut_of ⟨ne3, _, _, _, _, gb3, Nat.le_refl 2⟩ ⟨kd, by rw [cellAt_of gb4]; rfl, zLdL_of (s := s') (by rw [cellAt_of gb4]; rfl) ?_⟩)
    have f4 : Fram (fun i => h.next ≤ i) h3 (hput h3 h.next 1 [s'.av]) := Fram.hput _ _ _ fun _ => Nat.le_refl _
    have f4' := (f2'.trans f3).behind f4
    refine good e _ _ s' (f4'.trans (Fram.newO _ _ _)) f4'.next ⟨Nat.lt_succ_self _, newO_get_self _ _⟩ ?_ ?_
    · refine ((hs'.fr (Fram.hput (S := fun i => i = h.next) h3 1 [s'.av] fun _ => rfl) fun e => ?_).fr (Fram.newO no _ _) fun _ => id)
      rcases hi with hi | hi
      · have := f2.next
        have : h.next + 1 ≤ h2.next := f2.next
        omega
      · rw [hi] at e; cases e
    · intro e
      rcases hi with hi | hi
      · have := hs'.lt e
        have : h.next + 1 ≤ h2.next := f2.next
        refine ⟨by omega, ?_⟩
        rw [hput_next]; omega
      · rw [hi] at e; cases e
end
end PolN

namespace PolN
open Go Go.X Go.Proofs
set_option maxRecDepth 100000
section
variable {S : ZSums} {lf n : Nat} {h : Heap} {K : ZK}
/-- those that may be chosen, of the first n -/
def may (ws : List Int) (n : Nat) : List Nat := (List.range n).filter fun i => decide (0 < wt ws i)
theorem may_succ (ws : List Int) (n : Nat) : may ws (n + 1) = may ws n ++ (if 0 < wt ws n then [n] else []) := by
  unfold may
  rw [List.range_succ, List.filter_append]
  congr 1
  by_cases h : 0 < wt ws n <;> simp [h]
theorem may_mem {ws : List Int} {n i : Nat} : i ∈ may ws n ↔ i < n ∧ 0 < wt ws i := by simp [may]
theorem may_len (ws : List Int) (n : Nat) : (may ws n).length ≤ n := by
  have := List.length_filter_le (fun i => decide (0 < wt ws i)) (List.range n)
  rwa [List.length_range] at this
theorem may_sorted (ws : List Int) (n : Nat) : (may ws n).Pairwise (· < ·) := List.Pairwise.filter _ List.pairwise_lt_range
theorem up_of : ∀ {a : Nat} {t : List Nat}, (a :: t).Pairwise (· < ·) → Up a t
  | _, [], _ => trivial
  | a, b :: t, p => by
    rw [List.pairwise_cons] at p
    exact ⟨p.1 b (by simp), up_of p.2⟩
/-- which is chosen -/
def chosen (kd : Int) (ps ws : List Int) (last cnt : Int) (a : Nat) (t : List Nat) : Nat :=
  if kd = 2 then nextF last a (a :: t) else if kd = 4 ∧ ps.length ≠ 0 then pickF ps cnt (a :: t) else best ws a t
theorem choose_ok (hS : ∀ f, f ≠ 7 → S f = none) {c : Nat} {w s : SL} {ws ps : List Int} {kd last cnt : Int} (hk : 1 ≤ kd ∧ kd ≤ 4) (hc : Chooser h c kd s last cnt) (hs : Ints h s ps) (hr : ∀ p, p ∈ ps → -9223372036854775808 ≤ p ∧ p ≤ 9223372036854775807) (h0 : 0 ≤ cnt) (h1 : cnt < 4611686018427387904)
    (hw : Ints h w ws) (hL : ws.length ≤ 134217728) (hlf : ws.length + 1 < lf)
    (bad : may ws ws.length = [] → ∀ h', Fram no h h' → K (.tup [.int .i64 0, .int .i64 162]) h')
    (good : ∀ a t, may ws ws.length = a :: t → ∀ h', Fram (fun i => i = c) h h' → Chooser h' c kd s (chosen kd ps ws last cnt a t) (cnt + 1) → K (.tup [.int .i64 (chosen kd ps ws last cnt a t), .int .i64 0]) h') :
    zCall Try.prog S lf (n + 5) 9 [.pv false c 0, .sl w] K h := by
  refine zCall_at (hS _ (by decide)) (by kernel_rfl) ?_
  rw [choose_nf]
  have hwn := hw.len
  have en : ∀ x : Nat, (Int.ofNat x : Int) = x := fun _ => rfl
  refine ZLoop.inv (fun q z h' => ∃ (j : Nat) (m : SL), ZAt 51 [(0, .pv false c 0), (1, .sl w), (6, .sl m), (9, .sl w), (10, .int .i64 (Int.ofNat w.n)), (11, .int .i64 (j : Int))] z ∧ Fram no h h' ∧ Grown h h' m 1 (may ws j).length ((iv (may ws j)).map (AV.int .i64)) ∧ j + q = ws.length) (n := ws.length) (by omega)
    ⟨0, nilSL, ⟨rfl, rfl, rfl, rfl, rfl, rfl, rfl, trivial⟩, Fram.refl _ _, Grown.start _ _ _, by omega⟩ ?_
  rintro q z h2 kk hq ⟨j, m, hz, f2, hg, hj⟩ ih
  refine zAt_of _ hz fun d => (choose_body _ _ _ _ _ _ _ _ _ _ _ _ _).mpr ?_
  simp only [zAnd_iff, eq_self, true_and, Nat.mul_one, zIdx_nat, zLdI_iff, cnd_dec, zW_iff]
  refine ⟨fun e => ?_, fun e => ?_⟩
  · have hjl : j < ws.length := by have := en w.n; omega
    have hn := hw.nil_of hjl
    have hl := hw.len' hn
    rw [i64_fit (e := (j : Int) + 1) (by omega) (by omega)]
    refine ⟨hn, by omega, wt ws j, (hw.fr f2 fun _ => id).at' hn _ _ (wt_at hjl), fun e2 => ?_, fun e2 => ?_⟩
    · have f3 : Fram no h2 (h2.newO (.cells [.int .i64 (j : Int)] 1 false false)) := Fram.newO _ _ _
      have own : Ints (h2.newO (.cells [.int .i64 (j : Int)] 1 false false)) ⟨false, h2.next, 0, 1, 1, false⟩ [(j : Int)] := Ints.own rfl (Nat.lt_succ_self _) (newO_get_self _ _)
      refine own.zsrc ?_
      have hg3 : Grown h (h2.newO (.cells [.int .i64 (j : Int)] 1 false false)) m 1 (may ws j).length ((iv (may ws j)).map (AV.int .i64)) := by
        obtain ⟨a1, a2⟩ := hg
        refine ⟨a1, a2.imp id fun ⟨b1, b2, b3, b4, b5, b6, b7, b8⟩ => ⟨b1, b2, b3, b4, b5, b6, Nat.lt_succ_of_lt b7, (newO_get_ne (Nat.ne_of_lt b7)).trans b8⟩⟩
      have hml := may_len ws j
      refine hg3.append (Nat.le_trans f2.next (Nat.le_succ _)) (by decide) rfl (allPlain_ints _) (room3 (by omega)) fun g4 f4 => ?_
      refine ih (q - 1) _ _ (by omega) ⟨j + 1, _, ⟨rfl, rfl, rfl, rfl, rfl, rfl, rfl, trivial⟩, (f2.trans f3).behind f4, ?_, by omega⟩
      have em : may ws (j + 1) = may ws j ++ [j] := by rw [may_succ, if_pos e2]
      rw [em]
      have e5 : (iv (may ws j ++ [j])).map (AV.int .i64) = (iv (may ws j)).map (AV.int .i64) ++ [(j : Int)].map (AV.int .i64) := by simp [iv]
      rw [e5, List.length_append]
      exact g4
    · have em : may ws (j + 1) = may ws j := by rw [may_succ, if_neg e2, List.append_nil]
      refine ih (q - 1) _ _ (by omega) ⟨j + 1, m, ⟨rfl, rfl, rfl, rfl, rfl, rfl, rfl, trivial⟩, f2, ?_, by omega⟩
      rw [em]; exact hg
  · have hjl : j = ws.length := by have := en w.n; omega
    subst hjl
    refine zAt_of (n := 51) [(0, .pv false c 0), (1, .sl w), (6, .sl m)] ⟨rfl, rfl, rfl, rfl, trivial⟩ fun d' => (choose_end _ _ _ _ _ _ _ _).mpr ?_
    have hm := hg.ints
    have hmn := hm.len
    rw [iv_len] at hmn
    simp only [zAnd_iff, eq_self, true_and, zLdI_iff, zW_iff, cnd_dec]
    refine ⟨fun e2 => bad (List.eq_nil_of_length_eq_zero (by have := en m.n; omega)) h2 f2, fun e2 => ?_⟩
    obtain ⟨a, t, hat⟩ : ∃ a t, may ws ws.length = a :: t := by
      cases hx : may ws ws.length with
      | nil => rw [hx] at hmn; have := en m.n; simp only [List.length_nil] at hmn; omega
      | cons a t => exact ⟨a, t, rfl⟩
    rw [hat] at hm
    have hml := may_len ws ws.length
    rw [hat, List.length_cons] at hml
    have hup := up_of (hat ▸ may_sorted ws ws.length)
    have hlt : ∀ i, i ∈ a :: t → i < ws.length := fun i hi => (may_mem.1 (hat ▸ hi)).1
    have gc2 : h2.get c = _ := (f2.same _ hc.lt id).trans hc.get
    have hc2 : c < h2.next := Nat.lt_of_lt_of_le hc.lt f2.next
    refine ⟨kd, by rw [cellAt_of gc2]; rfl, choices_ok hS ?_⟩
    have f3 : Fram no h2 (h2.newO (.map choiceMap 4)) := Fram.newO _ _ _
    have f23 := f2.trans f3
    have gc3 : (h2.newO (.map choiceMap 4)).get c = _ := (f3.same _ hc2 id).trans gc2
    rw [av_mpf]
    -- behind the choice
    have tail : ∀ (x : Nat) h4, x = chosen kd ps ws last cnt a t → Fram no (h2.newO (.map choiceMap 4)) h4 → ZPut h4 c 2 1
        (∃ n, cellAt (hput h4 c 2 [.int .i64 (x : Int)]) c 3 = some (.int .i64 n) ∧ ZPut (hput h4 c 2 [.int .i64 (x : Int)]) c 3 1
          (∃ n_5, cellAt (hput (hput h4 c 2 [.int .i64 (x : Int)]) c 3 [.int .i64 (IntKind.i64.wrap (n + 1))]) c 2 = some (.int .i64 n_5) ∧ K (.tup [.int .i64 n_5, .int .i64 0]) (hput (hput h4 c 2 [.int .i64 (x : Int)]) c 3 [.int .i64 (IntKind.i64.wrap (n + 1))]))) := by
      rintro x h4 rfl f4
      have hc4 : c < h4.next := Nat.lt_of_lt_of_le hc2 (Nat.le_trans f3.next f4.next)
      have gc4 : h4.get c = _ := (f4.same _ (Nat.lt_succ_of_lt hc2) id).trans gc3
      have gc5 := hput_get (o := 2) (vs := [.int .i64 (chosen kd ps ws last cnt a t : Int)]) gc4
      have gc6 := hput_get (o := 3) (vs := [.int .i64 (cnt + 1)]) gc5
      refine zPut_of ⟨hc4, _, _, _, _, gc4, Nat.le_succ 3⟩ ⟨cnt, by rw [cellAt_of gc5]; rfl, zPut_of ⟨by rw [hput_next]; exact hc4, _, _, _, _, gc5, Nat.le_refl 4⟩ ⟨chosen kd ps ws last cnt a t, ?_, ?_⟩⟩
      · rw [i64_fit (by omega) (by omega), cellAt_of gc6]; rfl
      · rw [i64_fit (by omega) (by omega)]
        refine good a t hat _ ?_ ⟨?_, gc6⟩
        · refine ((f23.trans f4).mono fun _ _ x => x.elim).trans ((Fram.hput (S := fun i => i = c) h4 2 _ fun _ => rfl).trans (Fram.hput (S := fun i => i = c) _ 3 _ fun _ => rfl))
        · rw [hput_next, hput_next]; exact hc4
    have hw3 := hw.fr f23 fun _ => id
    have hm3 := hm.fr f3 fun _ => id
    have hs3 := hs.fr f23 fun _ => id
    refine zRM_map ⟨⟨kd, by rw [cellAt_of gc3]; rfl, rfl⟩, ⟨fun e => (by cases e), fun _ => ⟨choiceMap, 4, newO_get_self _ _, fit_choice kd, fun v hv => ?_, fun hv => ?_⟩⟩⟩
    · rw [look_choice] at hv
      have hT : t.length < 1099511627776 := by omega
      have hLL : ws.length ≤ 1099511627776 := by omega
      split at hv
      · rename_i e3; cases hv
        refine ⟨24, [], [], rfl, zFunc_of (by kernel_rfl) (greatest_ok hS hw3 hm3 hup hlt hLL hT (by omega) fun h4 f4 => ?_)⟩
        simp only [av_int, zRI_av]
        exact tail _ h4 (by unfold chosen; rw [if_neg (by omega), if_neg (by omega)]) f4
      · split at hv
        · rename_i e3; cases hv
          refine ⟨25, [], [], rfl, zFunc_of (by kernel_rfl) (onward_ok hS (last := last) (by rw [cellAt_of gc3]; rfl) hm3 hT (by omega) ?_)⟩
          simp only [av_int, zRI_av]
          exact tail _ _ (by unfold chosen; rw [if_pos (by omega)]) (Fram.refl _ _)
        · split at hv
          · rename_i e3; cases hv
            refine ⟨24, [], [], rfl, zFunc_of (by kernel_rfl) (greatest_ok hS hw3 hm3 hup hlt hLL hT (by omega) fun h4 f4 => ?_)⟩
            simp only [av_int, zRI_av]
            exact tail _ h4 (by unfold chosen; rw [if_neg (by omega), if_neg (by omega)]) f4
          · split at hv
            · rename_i e3; cases hv
              refine ⟨26, [], [], rfl, zFunc_of (by kernel_rfl) (picked_ok hS (s := s) (cnt := cnt) (by rw [cellAt_of gc3]; rfl) (by rw [cellAt_of gc3]; rfl) h0 hs3 hr hw3 hm3 hup hlt hLL hT (by omega) fun h4 f4 => ?_)⟩
              by_cases hp : ps.length = 0
              · rw [if_pos hp]
                simp only [av_int, zRI_av]
                exact tail _ h4 (by unfold chosen; rw [if_neg (by omega), if_neg (fun x => x.2 hp)]) f4
              · rw [if_neg hp]
                simp only [av_int, zRI_av]
                exact tail _ h4 (by unfold chosen; rw [if_neg (by omega), if_pos ⟨by omega, hp⟩]) f4
            · cases hv
    · exfalso
      rw [look_choice] at hv
      split at hv
      · cases hv
      · split at hv
        · cases hv
        · split at hv
          · cases hv
          · split at hv
            · cases hv
            · omega
end
end PolN
