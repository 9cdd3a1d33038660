/-
  PROVED: what the document's chooser, lent and stay do (contracts over heaps). Condition: each contract's own.
-/
import Derived.Test.YtinihpeddhboeaaPc
import Derived.Test.YtinihpeddhboeaaChecked
set_option linter.unusedVariables false
set_option linter.unusedSimpArgs false

namespace PolN
open Go Go.X Go.Proofs
set_option linter.unusedVariables false
set_option maxRecDepth 100000
theorem rcheck_nf (C : ZCall) (lf : Nat) (K : ZK) (h : Heap) (k : Int) (s : SL) :
  zAt Try.prog C lf 21 [] (padT (ntOf Try.prog 21) [.agg [.int .i64 k, .sl s]]) (zFin Try.prog 21 K) ⟨[], zFin Try.prog 21 K⟩ h =
  (ZAnd (false = false)
  (ZAnd (false = false)
    (ZLdI (Heap.newO h (AObj.cells [AV.int IntKind.i64 k, SL.av s] 0 false false)) (Heap.next h)
      0 IntKind.i64 fun n_1 =>
      @cnd Prop (decide (n_1 < 1))
        (K (ZV.int IntKind.i64 161)
          (Heap.newO h (AObj.cells [AV.int IntKind.i64 k, SL.av s] 0 false false)))
        (ZAnd (false = false)
          (ZAnd (false = false)
            (ZLdI (Heap.newO h (AObj.cells [AV.int IntKind.i64 k, SL.av s] 0 false false)) (Heap.next h)
              0 IntKind.i64 fun n_2 =>
              @cnd Prop (cnd false true (decide (4 < n_2)))
                (K (ZV.int IntKind.i64 161)
                  (Heap.newO h (AObj.cells [AV.int IntKind.i64 k, SL.av s] 0 false false)))
                (ZAnd (false = false)
                  (ZAnd (false = false)
                    (ZLdL (Heap.newO h (AObj.cells [AV.int IntKind.i64 k, SL.av s] 0 false false))
                      (Heap.next h) 1 fun s_1 =>
                      @cnd Prop (decide (0 < Int.ofNat (SL.n s_1)))
                        (ZAnd (false = false)
                          (ZAnd (false = false)
                            (ZLdI (Heap.newO h (AObj.cells [AV.int IntKind.i64 k, SL.av s] 0 false false))
                              (Heap.next h) 0 IntKind.i64 fun n_3 =>
                              @cnd Prop (!decide (n_3 = 4))
                                (K (ZV.int IntKind.i64 161)
                                  (Heap.newO h
                                    (AObj.cells [AV.int IntKind.i64 k, SL.av s] 0 false false)))
                                (ZAnd (false = false)
                                  (ZAnd (false = false)
                                    (ZLdL
                                      (Heap.newO h
                                        (AObj.cells [AV.int IntKind.i64 k, SL.av s] 0 false false))
                                      (Heap.next h) 1 fun s_2 =>
                                      @cnd Prop
                                        (cnd true (cnd false true (decide (65536 < Int.ofNat (SL.n s_2))))
                                          false)
                                        (K (ZV.int IntKind.i64 161)
                                          (Heap.newO h
                                            (AObj.cells [AV.int IntKind.i64 k, SL.av s] 0 false false)))
                                        (K (ZV.int IntKind.i64 0)
                                          (Heap.newO h
                                            (AObj.cells [AV.int IntKind.i64 k, SL.av s] 0 false
                                              false)))))))))
                        (K (ZV.int IntKind.i64 0)
                          (Heap.newO h
                            (AObj.cells [AV.int IntKind.i64 k, SL.av s] 0 false false)))))))))))) := by kernel_rfl

theorem rnew_nf (C : ZCall) (lf : Nat) (K : ZK) (h : Heap) (k : Int) (s : SL) :
  zAt Try.prog C lf 12 [] (padT (ntOf Try.prog 12) [.agg [.int .i64 k, .sl s]]) (zFin Try.prog 12 K) ⟨[], zFin Try.prog 12 K⟩ h =
  (ZAnd (false = false)
  (ZLdI (Heap.newO h (AObj.cells [AV.int IntKind.i64 k, SL.av s] 0 false false)) (Heap.next h)
    0 IntKind.i64 fun n_1 =>
    ZLdL (Heap.newO h (AObj.cells [AV.int IntKind.i64 k, SL.av s] 0 false false)) (Heap.next h)
      1 fun s_1 =>
      C 21 [ZV.agg [ZV.int IntKind.i64 n_1, ZV.sl s_1]]
        (fun v_1 h'_1 =>
          ZRI (ZV.av v_1) IntKind.i64 fun n_2 =>
            @cnd Prop (!decide (n_2 = 0))
              (K (ZV.tup [ZV.pv true 0 0, ZV.int IntKind.i64 n_2]) h'_1)
              (ZAnd (false = false)
                (ZAnd (false = false)
                  (ZLdI h'_1 (Heap.next h) 0 IntKind.i64 fun n_3 =>
                    ZAnd (false = false)
                      (ZAnd (false = false)
                        (ZLdL h'_1 (Heap.next h) 1 fun s_2 =>
                          ZAnd
                            (ZAnd (false = false)
                              (ZLdL (Heap.newO h'_1 (AObj.cells [] 1 false false)) (Heap.next h)
                                1 fun s_3 => ZV.av (ZV.sl s_3) = ZV.av (ZV.sl s_2)))
                            (ZAnd
                              (ZAnd (false = false)
                                (ZLdI (Heap.newO h'_1 (AObj.cells [] 1 false false)) (Heap.next h)
                                  0 IntKind.i64 fun n_4 =>
                                  AV.int IntKind.i64 n_4 = AV.int IntKind.i64 n_3))
                              (ZSrc (Heap.newO h'_1 (AObj.cells [] 1 false false)) s_2 1
                                fun ds_1 =>
                                ZApp Try.prog (Heap.newO h'_1 (AObj.cells [] 1 false false))
                                  (SL.mk false (Heap.next h'_1) 0 0 0 false)
                                  3 1 (SL.n s_2) ds_1
                                  (ZAnd
                                    (ZAnd (false = false)
                                      (ZLdI
                                        (happ (Heap.newO h'_1 (AObj.cells [] 1 false false))
                                          (SL.mk false (Heap.next h'_1) 0 0 0
                                            false)
                                          1 (SL.n s_2) ds_1)
                                        (Heap.next h) 0 IntKind.i64 fun n_4 =>
                                        AV.int IntKind.i64 n_4 = AV.int IntKind.i64 n_3))
                                    (K
                                      (ZV.tup
                                        [ZV.pv false
                                            (Heap.next
                                              (happ (Heap.newO h'_1 (AObj.cells [] 1 false false))
                                                (SL.mk false (Heap.next h'_1) 0 0
                                                  0 false)
                                                1 (SL.n s_2) ds_1))
                                            0,
                                          ZV.int IntKind.i64 0])
                                      (Heap.newO
                                        (happ (Heap.newO h'_1 (AObj.cells [] 1 false false))
                                          (SL.mk false (Heap.next h'_1) 0 0 0
                                            false)
                                          1 (SL.n s_2) ds_1)
                                        (AObj.cells
                                          [AV.int IntKind.i64 n_3,
                                            SL.av
                                              (SL.app
                                                (SL.mk false (Heap.next h'_1) 0 0
                                                  0 false)
                                                (Heap.next (Heap.newO h'_1 (AObj.cells [] 1 false false)))
                                                (SL.n s_2)),
                                            AV.int IntKind.i64 (-1), AV.int IntKind.i64 0]
                                          0 false false))))))))))))
        (Heap.newO h (AObj.cells [AV.int IntKind.i64 k, SL.av s] 0 false false)))) := by kernel_rfl

theorem rmay_nf (C : ZCall) (lf : Nat) (K : ZK) (h : Heap) (w : SL) :
  zAt Try.prog C lf 22 [] (padT (ntOf Try.prog 22) [.sl w]) (zFin Try.prog 22 K) ⟨[], zFin Try.prog 22 K⟩ h =
  (ZLoop lf
  (zAt Try.prog C lf 22
    [1, 1, 0, 1, 0, 0])
  [ZV.sl w, ZV.tup [], ZV.sl (SL.mk true 0 0 0 0 false),
    ZV.sl (SL.mk true 0 0 0 0 false),
    ZV.int IntKind.i64 0, ZV.tup [], ZV.tup [], ZV.tup [], ZV.tup [], ZV.tup [], ZV.tup [], ZV.tup [],
    ZV.tup [], ZV.tup [], ZV.tup [], ZV.tup [], ZV.tup [], ZV.tup [], ZV.tup [], ZV.tup [], ZV.tup []]
  (KZ.mk
    ((0, fun z' h' =>
        zAt Try.prog C lf 22 [1, 1, 1] z'
          (zFin Try.prog 22 K) (KZ.mk [] (zFin Try.prog 22 K)) h') ::
      KZ.env (KZ.mk [] (zFin Try.prog 22 K)))
    (KZ.ret (KZ.mk [] (zFin Try.prog 22 K))))
  h) := by kernel_rfl

theorem rchosen_nf (C : ZCall) (lf : Nat) (K : ZK) (h : Heap) (c : Nat) (m w : SL) :
  zAt Try.prog C lf 23 [] (padT (ntOf Try.prog 23) [.pv false c 0, .sl m, .sl w]) (zFin Try.prog 23 K) ⟨[], zFin Try.prog 23 K⟩ h =
  (ZAnd (false = false)
  (ZAnd (false = false)
    (ZAnd (false = false)
      (ZAnd (false = false)
        (ZLdI h c 0 IntKind.i64 fun n_1 =>
          @cnd Prop (decide (n_1 = 2))
            (ZLoop lf
              (zAt Try.prog C lf 23
                [1, 0, 0, 1, 0, 0,
                  1, 0, 0])
              [ZV.pv false c 0, ZV.sl m, ZV.sl w, ZV.tup [], ZV.tup [], ZV.tup [],
                ZV.int IntKind.i64 0, ZV.int IntKind.i64 0, ZV.tup [], ZV.tup [], ZV.tup [],
                ZV.bool true, ZV.pv false c 0, ZV.pv false c 0,
                ZV.pv false c 0, ZV.pv false c 0, ZV.int IntKind.i64 n_1,
                ZV.bool (decide (n_1 = 2)), ZV.tup [], ZV.tup [], ZV.tup [], ZV.tup [], ZV.tup [],
                ZV.tup [], ZV.tup [], ZV.tup [], ZV.tup [], ZV.tup [], ZV.tup [], ZV.tup [], ZV.tup [], ZV.tup [],
                ZV.tup [], ZV.tup [], ZV.tup [], ZV.tup [], ZV.tup [], ZV.tup [], ZV.tup [], ZV.tup [], ZV.tup [],
                ZV.tup [], ZV.tup [], ZV.tup [], ZV.tup [], ZV.tup [], ZV.tup [], ZV.tup [], ZV.tup [], ZV.tup [],
                ZV.tup [], ZV.tup [], ZV.tup [], ZV.tup [], ZV.tup [], ZV.tup [], ZV.tup [], ZV.tup [], ZV.tup [],
                ZV.tup [], ZV.tup [], ZV.tup [], ZV.tup [], ZV.tup [], ZV.tup [], ZV.tup [], ZV.tup [], ZV.tup [],
                ZV.tup [], ZV.tup [], ZV.tup [], ZV.tup [], ZV.tup [], ZV.tup [], ZV.tup [], ZV.tup [], ZV.tup [],
                ZV.tup [], ZV.tup [], ZV.tup [], ZV.tup [], ZV.tup [], ZV.tup [], ZV.tup [], ZV.tup [], ZV.tup [],
                ZV.tup [], ZV.tup [], ZV.tup [], ZV.tup [], ZV.tup [], ZV.tup [], ZV.tup [], ZV.tup [], ZV.tup [],
                ZV.tup [], ZV.tup [], ZV.tup [], ZV.tup [], ZV.tup [], ZV.tup [], ZV.tup [], ZV.tup [], ZV.tup [],
                ZV.tup [], ZV.tup [], ZV.tup [], ZV.tup [], ZV.tup [], ZV.tup [], ZV.tup [], ZV.tup []]
              (KZ.mk
                ((1, fun z' h' =>
                    zAt Try.prog C lf 23
                      [1, 0, 0, 1, 0, 1] z'
                      (fun z' h' =>
                        zAt Try.prog C lf 23 [1, 1] z'
                          (zFin Try.prog 23 K) (KZ.mk [] (zFin Try.prog 23 K)) h')
                      (KZ.mk
                        ((0, fun z' h' =>
                            zAt Try.prog C lf 23 [1, 1] z'
                              (zFin Try.prog 23 K) (KZ.mk [] (zFin Try.prog 23 K)) h') ::
                          KZ.env (KZ.mk [] (zFin Try.prog 23 K)))
                        (KZ.ret (KZ.mk [] (zFin Try.prog 23 K))))
                      h') ::
                  KZ.env
                    (KZ.mk
                      ((0, fun z' h' =>
                          zAt Try.prog C lf 23 [1, 1] z'
                            (zFin Try.prog 23 K) (KZ.mk [] (zFin Try.prog 23 K)) h') ::
                        KZ.env (KZ.mk [] (zFin Try.prog 23 K)))
                      (KZ.ret (KZ.mk [] (zFin Try.prog 23 K)))))
                (KZ.ret
                  (KZ.mk
                    ((0, fun z' h' =>
                        zAt Try.prog C lf 23 [1, 1] z'
                          (zFin Try.prog 23 K) (KZ.mk [] (zFin Try.prog 23 K)) h') ::
                      KZ.env (KZ.mk [] (zFin Try.prog 23 K)))
                    (KZ.ret (KZ.mk [] (zFin Try.prog 23 K))))))
              h)
            (ZAnd (false = false)
              (ZAnd (false = false)
                (ZAnd (false = false)
                  (ZAnd (false = false)
                    (ZLdI h c 0 IntKind.i64 fun n_2 =>
                      @cnd Prop (decide (n_2 = 4))
                        (ZAnd (false = false)
                          (ZAnd (false = false)
                            (ZAnd (false = false)
                              (ZAnd (false = false)
                                (ZLdL h c 1 fun s_1 =>
                                  @cnd Prop (cnd true (decide (0 < Int.ofNat (SL.n s_1))) false)
                                    (ZAnd (false = false)
                                      (ZAnd (false = false)
                                        (ZAnd (false = false)
                                          (ZAnd (false = false)
                                            (ZLdL h c 1 fun s_2 =>
                                              ZAnd (false = false)
                                                (ZAnd (false = false)
                                                  (ZAnd (false = false)
                                                    (ZLdI h c 3 IntKind.i64 fun n_3 =>
                                                      ZAnd (false = false)
                                                        (ZAnd (false = false)
                                                          (ZAnd (false = false)
                                                            (ZAnd (false = false)
                                                              (ZLdL h c 1 fun s_3 =>
                                                                ZAnd (Int.ofNat (SL.n s_3) = 0 → False)
                                                                  (ZAnd (SL.nil s_2 = false)
                                                                    (ZIdx (Int.tmod n_3 (Int.ofNat (SL.n s_3)))
                                                                      (SL.len s_2) fun m_1 =>
                                                                      ZAnd (false = false)
                                                                        (ZLdI h (SL.i s_2)
                                                                          (SL.o s_2 + m_1 * 1) IntKind.i64
                                                                          fun n_4 =>
                                                                          @cnd Prop (decide (n_4 < 0))
                                                                            (ZW IntKind.i64 (n_4 + 1)
                                                                              fun r_1 =>
                                                                              ZW IntKind.i64 (-r_1) fun r_2 =>
                                                                                ZAnd
                                                                                  (Int.ofNat (SL.n m) = 0 →
                                                                                    False)
                                                                                  (ZAnd (SL.nil m = false)
                                                                                    (ZIdx
                                                                                      (Int.tmod r_2
                                                                                        (Int.ofNat (SL.n m)))
                                                                                      (SL.len m) fun m_2 =>
                                                                                      ZAnd (false = false)
                                                                                        (ZLdI h (SL.i m)
                                                                                          (SL.o m + m_2 * 1)
                                                                                          IntKind.i64 fun n_5 =>
                                                                                          K (ZV.int IntKind.i64 n_5)
                                                                                            h))))
                                                                            (ZAnd
                                                                              (Int.ofNat (SL.n m) = 0 →
                                                                                False)
                                                                              (ZAnd (SL.nil m = false)
                                                                                (ZIdx
                                                                                  (Int.tmod n_4 (Int.ofNat (SL.n m)))
                                                                                  (SL.len m) fun m_2 =>
                                                                                  ZAnd (false = false)
                                                                                    (ZLdI h (SL.i m)
                                                                                      (SL.o m + m_2 * 1)
                                                                                      IntKind.i64 fun n_5 =>
                                                                                      K (ZV.int IntKind.i64 n_5)
                                                                                        h)))))))))))))))))))
                                    (ZAnd (SL.nil m = false)
                                      (ZIdx 0 (SL.len m) fun m_1 =>
                                        ZAnd (false = false)
                                          (ZLdI h (SL.i m) (SL.o m + m_1 * 1) IntKind.i64 fun n_3 =>
                                            ZLoop lf
                                              (zAt Try.prog C lf 23
                                                [1, 1, 1, 0,
                                                  1, 0, 0])
                                              [ZV.pv false c 0, ZV.sl m, ZV.sl w, ZV.tup [], ZV.tup [],
                                                ZV.tup [], ZV.int IntKind.i64 0, ZV.tup [], ZV.tup [],
                                                ZV.int IntKind.i64 n_3, ZV.int IntKind.i64 0,
                                                ZV.bool false, ZV.pv false c 0,
                                                ZV.pv false c 0, ZV.pv false c 0,
                                                ZV.pv false c 0, ZV.int IntKind.i64 n_1,
                                                ZV.bool (decide (n_1 = 2)), ZV.tup [], ZV.tup [], ZV.tup [],
                                                ZV.tup [], ZV.tup [], ZV.tup [], ZV.tup [], ZV.tup [], ZV.tup [],
                                                ZV.tup [], ZV.tup [], ZV.tup [], ZV.tup [], ZV.tup [], ZV.tup [],
                                                ZV.tup [], ZV.tup [], ZV.tup [], ZV.tup [], ZV.tup [], ZV.tup [],
                                                ZV.tup [], ZV.bool false, ZV.pv false c 0,
                                                ZV.pv false c 0, ZV.pv false c 0,
                                                ZV.pv false c 0, ZV.int IntKind.i64 n_2,
                                                ZV.bool (decide (n_2 = 4)), ZV.bool true,
                                                ZV.pv false c 0, ZV.pv false c 0,
                                                ZV.pv false c 0, ZV.pv false c 1, ZV.sl s_1,
                                                ZV.int IntKind.i64 (Int.ofNat (SL.n s_1)),
                                                ZV.bool (decide (0 < Int.ofNat (SL.n s_1))),
                                                ZV.bool
                                                  (cnd true (decide (0 < Int.ofNat (SL.n s_1))) false),
                                                ZV.tup [], ZV.tup [], ZV.tup [], ZV.tup [], ZV.tup [], ZV.tup [],
                                                ZV.tup [], ZV.tup [], ZV.tup [], ZV.tup [], ZV.tup [], ZV.tup [],
                                                ZV.tup [], ZV.tup [], ZV.tup [], ZV.tup [], ZV.tup [], ZV.tup [],
                                                ZV.tup [], ZV.tup [], ZV.tup [], ZV.tup [], ZV.tup [], ZV.tup [],
                                                ZV.tup [], ZV.tup [], ZV.tup [], ZV.tup [], ZV.tup [], ZV.tup [],
                                                ZV.sl m, ZV.pv false (SL.i m) (SL.o m + m_1 * 1),
                                                ZV.int IntKind.i64 n_3, ZV.tup [], ZV.tup [], ZV.tup [], ZV.tup [],
                                                ZV.tup [], ZV.tup [], ZV.tup [], ZV.tup [], ZV.tup [], ZV.tup [],
                                                ZV.tup [], ZV.tup [], ZV.tup [], ZV.tup [], ZV.tup [], ZV.tup [],
                                                ZV.tup [], ZV.tup [], ZV.tup [], ZV.tup [], ZV.tup [], ZV.tup [],
                                                ZV.tup []]
                                              (KZ.mk
                                                ((3, fun z' h' =>
                                                    zAt Try.prog C lf 23
                                                      [1, 1, 1, 1] z'
                                                      (zFin Try.prog 23 K)
                                                      (KZ.mk [] (zFin Try.prog 23 K)) h') ::
                                                  KZ.env (KZ.mk [] (zFin Try.prog 23 K)))
                                                (KZ.ret (KZ.mk [] (zFin Try.prog 23 K))))
                                              h))))))))
                        (ZAnd (SL.nil m = false)
                          (ZIdx 0 (SL.len m) fun m_1 =>
                            ZAnd (false = false)
                              (ZLdI h (SL.i m) (SL.o m + m_1 * 1) IntKind.i64 fun n_3 =>
                                ZLoop lf
                                  (zAt Try.prog C lf 23
                                    [1, 1, 1, 0, 1,
                                      0, 0])
                                  [ZV.pv false c 0, ZV.sl m, ZV.sl w, ZV.tup [], ZV.tup [], ZV.tup [],
                                    ZV.int IntKind.i64 0, ZV.tup [], ZV.tup [], ZV.int IntKind.i64 n_3,
                                    ZV.int IntKind.i64 0, ZV.bool false, ZV.pv false c 0,
                                    ZV.pv false c 0, ZV.pv false c 0,
                                    ZV.pv false c 0, ZV.int IntKind.i64 n_1,
                                    ZV.bool (decide (n_1 = 2)), ZV.tup [], ZV.tup [], ZV.tup [], ZV.tup [],
                                    ZV.tup [], ZV.tup [], ZV.tup [], ZV.tup [], ZV.tup [], ZV.tup [], ZV.tup [],
                                    ZV.tup [], ZV.tup [], ZV.tup [], ZV.tup [], ZV.tup [], ZV.tup [], ZV.tup [],
                                    ZV.tup [], ZV.tup [], ZV.tup [], ZV.tup [], ZV.bool false,
                                    ZV.pv false c 0, ZV.pv false c 0,
                                    ZV.pv false c 0, ZV.pv false c 0,
                                    ZV.int IntKind.i64 n_2, ZV.bool (decide (n_2 = 4)), ZV.bool false,
                                    ZV.tup [], ZV.tup [], ZV.tup [], ZV.tup [], ZV.tup [], ZV.tup [], ZV.tup [],
                                    ZV.bool false, ZV.tup [], ZV.tup [], ZV.tup [], ZV.tup [], ZV.tup [], ZV.tup [],
                                    ZV.tup [], ZV.tup [], ZV.tup [], ZV.tup [], ZV.tup [], ZV.tup [], ZV.tup [],
                                    ZV.tup [], ZV.tup [], ZV.tup [], ZV.tup [], ZV.tup [], ZV.tup [], ZV.tup [],
                                    ZV.tup [], ZV.tup [], ZV.tup [], ZV.tup [], ZV.tup [], ZV.tup [], ZV.tup [],
                                    ZV.tup [], ZV.tup [], ZV.tup [], ZV.sl m,
                                    ZV.pv false (SL.i m) (SL.o m + m_1 * 1), ZV.int IntKind.i64 n_3,
                                    ZV.tup [], ZV.tup [], ZV.tup [], ZV.tup [], ZV.tup [], ZV.tup [], ZV.tup [],
                                    ZV.tup [], ZV.tup [], ZV.tup [], ZV.tup [], ZV.tup [], ZV.tup [], ZV.tup [],
                                    ZV.tup [], ZV.tup [], ZV.tup [], ZV.tup [], ZV.tup [], ZV.tup [], ZV.tup [],
                                    ZV.tup [], ZV.tup []]
                                  (KZ.mk
                                    ((3, fun z' h' =>
                                        zAt Try.prog C lf 23
                                          [1, 1, 1, 1] z'
                                          (zFin Try.prog 23 K)
                                          (KZ.mk [] (zFin Try.prog 23 K)) h') ::
                                      KZ.env (KZ.mk [] (zFin Try.prog 23 K)))
                                    (KZ.ret (KZ.mk [] (zFin Try.prog 23 K))))
                                  h))))))))))))) := by kernel_rfl

theorem rchoose_nf (C : ZCall) (lf : Nat) (K : ZK) (h : Heap) (c : Nat) (w : SL) :
  zAt Try.prog C lf 15 [] (padT (ntOf Try.prog 15) [.pv false c 0, .sl w]) (zFin Try.prog 15 K) ⟨[], zFin Try.prog 15 K⟩ h =
  (C 22 [ZV.sl w]
  (fun v_1 h'_1 =>
    ZRL (ZV.av v_1) fun s_1 =>
      @cnd Prop (decide (Int.ofNat (SL.n s_1) = 0))
        (K (ZV.tup [ZV.int IntKind.i64 0, ZV.int IntKind.i64 162]) h'_1)
        (C 23 [ZV.pv false c 0, ZV.sl s_1, ZV.sl w]
          (fun v_2 h'_2 =>
            ZRI (ZV.av v_2) IntKind.i64 fun n_1 =>
              ZAnd (false = false)
                (ZAnd (false = false)
                  (ZAnd (false = false)
                    (ZPut h'_2 c 2 1
                      (ZAnd (false = false)
                        (ZAnd (false = false)
                          (ZAnd (false = false)
                            (ZLdI (hput h'_2 c 2 [AV.int IntKind.i64 n_1]) c 3 IntKind.i64
                              fun n_2 =>
                              ZW IntKind.i64 (n_2 + 1) fun r_1 =>
                                ZAnd (false = false)
                                  (ZAnd (false = false)
                                    (ZAnd (false = false)
                                      (ZPut (hput h'_2 c 2 [AV.int IntKind.i64 n_1]) c 3
                                        1
                                        (ZAnd (false = false)
                                          (ZAnd (false = false)
                                            (ZAnd (false = false)
                                              (ZLdI
                                                (hput (hput h'_2 c 2 [AV.int IntKind.i64 n_1]) c
                                                  3 [AV.int IntKind.i64 r_1])
                                                c 2 IntKind.i64 fun n_3 =>
                                                K (ZV.tup [ZV.int IntKind.i64 n_3, ZV.int IntKind.i64 0])
                                                  (hput (hput h'_2 c 2 [AV.int IntKind.i64 n_1]) c
                                                    3 [AV.int IntKind.i64 r_1]))))))))))))))))
          h'_1))
  h) := by kernel_rfl

theorem count_nf (C : ZCall) (lf : Nat) (K : ZK) (h : Heap) (c : Nat) :
  zAt Try.prog C lf 16 [] (padT (ntOf Try.prog 16) [.pv false c 0]) (zFin Try.prog 16 K) ⟨[], zFin Try.prog 16 K⟩ h =
  (ZAnd (false = false)
  (ZAnd (false = false)
    (ZAnd (false = false) (ZLdI h c 3 IntKind.i64 fun n_1 => K (ZV.int IntKind.i64 n_1) h)))) := by kernel_rfl

theorem settles_nf (C : ZCall) (lf : Nat) (K : ZK) (h : Heap) (c : Nat) :
  zAt Try.prog C lf 17 [] (padT (ntOf Try.prog 17) [.pv false c 0]) (zFin Try.prog 17 K) ⟨[], zFin Try.prog 17 K⟩ h =
  (ZAnd (false = false)
  (ZAnd (false = false)
    (ZAnd (false = false)
      (ZAnd (false = false)
        (ZLdI h c 0 IntKind.i64 fun n_1 => K (ZV.bool (decide (n_1 = 3))) h))))) := by kernel_rfl

theorem rsettles_nf (C : ZCall) (lf : Nat) (K : ZK) (h : Heap) (c : Nat) :
  zAt Try.prog C lf 18 [] (padT (ntOf Try.prog 18) [.pv false c 0]) (zFin Try.prog 18 K) ⟨[], zFin Try.prog 18 K⟩ h =
  (ZAnd (false = false)
  (ZAnd (false = false)
    (ZAnd (false = false)
      (ZAnd (false = false)
        (ZLdI h c 0 IntKind.i64 fun n_1 => K (ZV.bool (decide (n_1 = 3))) h))))) := by kernel_rfl

theorem lent_nf (C : ZCall) (lf : Nat) (K : ZK) (h : Heap) (s : SL) :
  zAt Try.prog C lf 11 [] (padT (ntOf Try.prog 11) [.sl s]) (zFin Try.prog 11 K) ⟨[], zFin Try.prog 11 K⟩ h =
  (ZW IntKind.i64 (Int.ofNat (SL.n s) + 3) fun r_1 =>
  ZNat r_1 fun n_1 =>
    ZNat r_1 fun p_1 =>
      ZAnd (Nat.le n_1 p_1)
        (ZRoom Try.prog 3 p_1
          (ZSrc
            (Heap.newO h
              (AObj.cells (List.flatten (List.replicate p_1 [AV.int IntKind.i64 0])) 1 false
                false))
            s 1 fun ds_1 =>
            ZPut
              (Heap.newO h
                (AObj.cells (List.flatten (List.replicate p_1 [AV.int IntKind.i64 0])) 1
                  false false))
              (SL.i (SL.mk false (Heap.next h) 0 n_1 p_1 false)) 0 (min n_1 (SL.n s) * 1)
              (ZAnd (List.rec true (fun v x ih => cnd (AV.plainC v) ih false) ds_1 = true)
                (ZLoop lf
                  (zAt Try.prog C lf 11
                    [1, 1, 1, 0, 1, 0,
                      0])
                  [ZV.sl s, ZV.tup [],
                    ZV.sl (SL.mk true 0 0 0 0 false),
                    ZV.sl (SL.mk false (Heap.next h) 0 n_1 p_1 false),
                    ZV.int IntKind.i64 (Int.ofNat (SL.n s)), ZV.sl s, ZV.int IntKind.i64 (Int.ofNat (SL.n s)),
                    ZV.int IntKind.i64 r_1, ZV.sl (SL.mk false (Heap.next h) 0 n_1 p_1 false),
                    ZV.sl (SL.mk false (Heap.next h) 0 n_1 p_1 false), ZV.sl s,
                    ZV.int IntKind.i64 (Int.ofNat (min n_1 (SL.n s))), ZV.sl s, ZV.int IntKind.i64 (Int.ofNat (SL.n s)),
                    ZV.tup [], ZV.tup [], ZV.tup [], ZV.tup [], ZV.tup [], ZV.tup [], ZV.tup [], ZV.tup [], ZV.tup [],
                    ZV.tup [], ZV.tup [], ZV.tup []]
                  (KZ.mk
                    ((0, fun z' h' =>
                        zAt Try.prog C lf 11 [1, 1, 1, 1]
                          z' (zFin Try.prog 11 K) (KZ.mk [] (zFin Try.prog 11 K)) h') ::
                      KZ.env (KZ.mk [] (zFin Try.prog 11 K)))
                    (KZ.ret (KZ.mk [] (zFin Try.prog 11 K))))
                  (hput
                    (Heap.newO h
                      (AObj.cells (List.flatten (List.replicate p_1 [AV.int IntKind.i64 0]))
                        1 false false))
                    (SL.i (SL.mk false (Heap.next h) 0 n_1 p_1 false)) 0
                    (List.take (min n_1 (SL.n s) * 1) ds_1))))))) := by kernel_rfl

theorem stay_nf (C : ZCall) (lf : Nat) (K : ZK) (h : Heap) (c l : SL) :
  zAt Try.prog C lf 13 [] (padT (ntOf Try.prog 13) [.sl c, .sl l]) (zFin Try.prog 13 K) ⟨[], zFin Try.prog 13 K⟩ h =
  (ZLoop lf
  (zAt Try.prog C lf 13 [1, 0, 1, 0, 0])
  [ZV.sl c, ZV.sl l, ZV.tup [], ZV.tup [], ZV.bool false, ZV.int IntKind.i64 0, ZV.tup [], ZV.tup [],
    ZV.tup [], ZV.tup [], ZV.tup [], ZV.tup [], ZV.tup [], ZV.tup [], ZV.tup [], ZV.tup [], ZV.tup [], ZV.tup [],
    ZV.tup [], ZV.tup [], ZV.tup [], ZV.tup [], ZV.tup [], ZV.tup [], ZV.tup [], ZV.tup [], ZV.tup [], ZV.tup [],
    ZV.tup [], ZV.tup [], ZV.tup [], ZV.tup [], ZV.tup [], ZV.tup [], ZV.tup [], ZV.tup [], ZV.tup [], ZV.tup [],
    ZV.tup [], ZV.tup [], ZV.tup [], ZV.tup []]
  (KZ.mk
    ((0, fun z' h' =>
        zAt Try.prog C lf 13 [1, 1] z' (zFin Try.prog 13 K)
          (KZ.mk [] (zFin Try.prog 13 K)) h') ::
      KZ.env (KZ.mk [] (zFin Try.prog 13 K)))
    (KZ.ret (KZ.mk [] (zFin Try.prog 13 K))))
  h) := by kernel_rfl

theorem plays_nf (C : ZCall) (lf : Nat) (K : ZK) (h : Heap) (p a : SL) :
  zAt Try.prog C lf 6 [] (padT (ntOf Try.prog 6) [.sl p, .sl a]) (zFin Try.prog 6 K) ⟨[], zFin Try.prog 6 K⟩ h =
  (C 7 []
  (fun v_1 h'_1 =>
    ZRB (ZV.av v_1) fun b_1 =>
      ZLoop lf
        (zAt Try.prog C lf 6
          [1, 1, 1, 0, 1, 0, 0])
        [ZV.sl p, ZV.sl a, ZV.tup [], ZV.tup [], ZV.bool false, ZV.bool b_1, ZV.int IntKind.i64 0,
          ZV.int IntKind.i64 0, ZV.tup [], ZV.tup [], ZV.tup [], ZV.tup [], ZV.tup [], ZV.tup [],
          ZV.tup [], ZV.tup [], ZV.tup [], ZV.tup [], ZV.tup [], ZV.tup [], ZV.tup [], ZV.tup [], ZV.tup [], ZV.tup [],
          ZV.tup [], ZV.tup [], ZV.tup [], ZV.tup [], ZV.tup [], ZV.tup [], ZV.bool b_1, ZV.tup [], ZV.tup [],
          ZV.tup [], ZV.tup [], ZV.tup [], ZV.tup [], ZV.tup [], ZV.tup [], ZV.tup [], ZV.tup [], ZV.tup [], ZV.tup [],
          ZV.tup [], ZV.tup [], ZV.tup [], ZV.tup [], ZV.tup [], ZV.tup [], ZV.tup [], ZV.tup [], ZV.tup [], ZV.tup [],
          ZV.tup [], ZV.tup [], ZV.tup [], ZV.tup [], ZV.tup [], ZV.tup [], ZV.tup [], ZV.tup [], ZV.tup [], ZV.tup [],
          ZV.tup [], ZV.tup [], ZV.tup [], ZV.tup [], ZV.tup [], ZV.tup [], ZV.tup [], ZV.tup [], ZV.tup [], ZV.tup [],
          ZV.tup [], ZV.tup [], ZV.tup [], ZV.tup [], ZV.tup [], ZV.tup [], ZV.tup [], ZV.tup [], ZV.tup [], ZV.tup [],
          ZV.tup [], ZV.tup [], ZV.tup [], ZV.tup [], ZV.tup [], ZV.tup [], ZV.tup [], ZV.tup [], ZV.tup [], ZV.tup [],
          ZV.tup [], ZV.tup [], ZV.tup [], ZV.tup [], ZV.tup [], ZV.tup [], ZV.tup [], ZV.tup [], ZV.tup [], ZV.tup [],
          ZV.tup [], ZV.tup [], ZV.tup [], ZV.tup [], ZV.tup [], ZV.tup [], ZV.tup [], ZV.tup [], ZV.tup [], ZV.tup [],
          ZV.tup [], ZV.tup [], ZV.tup [], ZV.tup [], ZV.tup [], ZV.tup [], ZV.tup [], ZV.tup [], ZV.tup [], ZV.tup [],
          ZV.tup [], ZV.tup [], ZV.tup [], ZV.tup [], ZV.tup [], ZV.tup [], ZV.tup [], ZV.tup [], ZV.tup [], ZV.tup [],
          ZV.tup [], ZV.tup [], ZV.tup [], ZV.tup [], ZV.tup [], ZV.tup [], ZV.tup [], ZV.tup [], ZV.tup [], ZV.tup [],
          ZV.tup [], ZV.tup [], ZV.tup [], ZV.tup [], ZV.tup [], ZV.tup [], ZV.tup [], ZV.tup [], ZV.tup [], ZV.tup [],
          ZV.tup [], ZV.tup [], ZV.tup [], ZV.tup [], ZV.tup [], ZV.tup [], ZV.tup [], ZV.tup [], ZV.tup [], ZV.tup [],
          ZV.tup [], ZV.tup [], ZV.tup [], ZV.tup [], ZV.tup [], ZV.tup [], ZV.tup [], ZV.tup [], ZV.tup [], ZV.tup [],
          ZV.tup [], ZV.tup [], ZV.tup [], ZV.tup [], ZV.tup [], ZV.tup [], ZV.tup [], ZV.tup [], ZV.tup [], ZV.tup [],
          ZV.tup [], ZV.tup [], ZV.tup [], ZV.tup [], ZV.tup [], ZV.tup [], ZV.tup [], ZV.tup [], ZV.tup [], ZV.tup [],
          ZV.tup [], ZV.tup [], ZV.tup [], ZV.tup [], ZV.tup [], ZV.tup [], ZV.tup [], ZV.tup [], ZV.tup [], ZV.tup [],
          ZV.tup [], ZV.tup [], ZV.tup [], ZV.tup [], ZV.tup [], ZV.tup [], ZV.tup [], ZV.tup [], ZV.tup [], ZV.tup [],
          ZV.tup [], ZV.tup [], ZV.tup [], ZV.tup [], ZV.tup [], ZV.tup [], ZV.tup [], ZV.tup [], ZV.tup [], ZV.tup [],
          ZV.tup [], ZV.tup [], ZV.tup [], ZV.tup [], ZV.tup [], ZV.tup [], ZV.tup [], ZV.tup [], ZV.tup [], ZV.tup [],
          ZV.tup [], ZV.tup [], ZV.tup [], ZV.tup [], ZV.tup [], ZV.tup [], ZV.tup [], ZV.tup [], ZV.tup [], ZV.tup [],
          ZV.tup [], ZV.tup [], ZV.tup [], ZV.tup [], ZV.tup [], ZV.tup [], ZV.tup [], ZV.tup [], ZV.tup [], ZV.tup [],
          ZV.tup [], ZV.tup [], ZV.tup [], ZV.tup [], ZV.tup [], ZV.tup [], ZV.tup [], ZV.tup [], ZV.tup [], ZV.tup [],
          ZV.tup [], ZV.tup [], ZV.tup [], ZV.tup [], ZV.tup [], ZV.tup [], ZV.tup [], ZV.tup [], ZV.tup [], ZV.tup [],
          ZV.tup [], ZV.tup [], ZV.tup [], ZV.tup [], ZV.tup [], ZV.tup [], ZV.tup [], ZV.tup [], ZV.tup [], ZV.tup [],
          ZV.tup [], ZV.tup [], ZV.tup [], ZV.tup [], ZV.tup [], ZV.tup [], ZV.tup [], ZV.tup [], ZV.tup []]
        (KZ.mk
          ((0, fun z' h' =>
              zAt Try.prog C lf 6 [1, 1, 1, 1] z'
                (zFin Try.prog 6 K) (KZ.mk [] (zFin Try.prog 6 K)) h') ::
            KZ.env (KZ.mk [] (zFin Try.prog 6 K)))
          (KZ.ret (KZ.mk [] (zFin Try.prog 6 K))))
        h'_1)
  h) := by kernel_rfl

theorem rmay_b (C : ZCall) (lf : Nat) (K : ZK) (h : Heap) (w m : SL) (j : Int) (d : Nat → ZV) (k X : ZT → Heap → Prop) (E : List (Nat × (ZT → Heap → Prop))) :
  zAt Try.prog C lf 22 [1, 1, 0, 1, 0, 0] (zt (ntOf Try.prog 22) (ov [(0, .sl w), (3, .sl m), (4, .int .i64 j)] d)) k ⟨(0, X) :: E, zFin Try.prog 22 K⟩ h =
  (@cnd Prop (decide (j < Int.ofNat (SL.n w)))
  (ZAnd (SL.nil w = false)
    (ZIdx j (SL.len w) fun m_1 =>
      ZAnd (false = false)
        (ZLdI h (SL.i w) (SL.o w + m_1 * 1) IntKind.i64 fun n_1 =>
          @cnd Prop (decide (0 < n_1))
            (ZSrc (Heap.newO h (AObj.cells [AV.int IntKind.i64 j] 1 false false))
              (SL.mk false (Heap.next h) 0 1 1 false) 1
              fun ds_1 =>
              ZApp Try.prog (Heap.newO h (AObj.cells [AV.int IntKind.i64 j] 1 false false)) m
                3 1 1 ds_1
                (ZW IntKind.i64 (j + 1) fun r_1 =>
                  k
                    [ZV.sl w, d 1, d 2,
                      ZV.sl
                        (SL.app m
                          (Heap.next (Heap.newO h (AObj.cells [AV.int IntKind.i64 j] 1 false false))) 1),
                      ZV.int IntKind.i64 r_1, ZV.int IntKind.i64 j, ZV.sl w, ZV.int IntKind.i64 (Int.ofNat (SL.n w)),
                      ZV.bool true, ZV.int IntKind.i64 j, ZV.int IntKind.i64 r_1, ZV.sl w, ZV.int IntKind.i64 j,
                      ZV.pv false (SL.i w) (SL.o w + m_1 * 1), ZV.int IntKind.i64 n_1, ZV.bool true,
                      ZV.sl m, ZV.int IntKind.i64 j,
                      ZV.sl (SL.mk false (Heap.next h) 0 1 1 false),
                      ZV.sl
                        (SL.app m
                          (Heap.next (Heap.newO h (AObj.cells [AV.int IntKind.i64 j] 1 false false))) 1),
                      d 20]
                    (happ (Heap.newO h (AObj.cells [AV.int IntKind.i64 j] 1 false false)) m
                      1 1 ds_1)))
            (ZW IntKind.i64 (j + 1) fun r_1 =>
              k
                [ZV.sl w, d 1, d 2, ZV.sl m, ZV.int IntKind.i64 r_1, ZV.int IntKind.i64 j,
                  ZV.sl w, ZV.int IntKind.i64 (Int.ofNat (SL.n w)), ZV.bool true, ZV.int IntKind.i64 j,
                  ZV.int IntKind.i64 r_1, ZV.sl w, ZV.int IntKind.i64 j,
                  ZV.pv false (SL.i w) (SL.o w + m_1 * 1), ZV.int IntKind.i64 n_1, ZV.bool false,
                  d 16, d 17, d 18, d 19, d 20]
                h))))
  (X
    [ZV.sl w, d 1, d 2, ZV.sl m, ZV.int IntKind.i64 j, ZV.int IntKind.i64 j, ZV.sl w,
      ZV.int IntKind.i64 (Int.ofNat (SL.n w)), ZV.bool false, d 9, d 10, d 11,
      d 12, d 13, d 14, d 15, d 16,
      d 17, d 18, d 19, d 20]
    h)) := by kernel_rfl

theorem rmay_a (C : ZCall) (lf : Nat) (K : ZK) (h : Heap) (m : SL) (d : Nat → ZV) :
  zAt Try.prog C lf 22 [1, 1, 1] (zt (ntOf Try.prog 22) (ov [(3, .sl m)] d)) (zFin Try.prog 22 K) ⟨[], zFin Try.prog 22 K⟩ h =
  (K (ZV.sl m) h) := by kernel_rfl

theorem rch_b1 (C : ZCall) (lf : Nat) (K : ZK) (h : Heap) (c : Nat) (m w : SL) (j : Int) (d : Nat → ZV) (k X : ZT → Heap → Prop) (E : List (Nat × (ZT → Heap → Prop))) :
  zAt Try.prog C lf 23 [1, 0, 0, 1, 0, 0, 1, 0, 0] (zt (ntOf Try.prog 23) (ov [(0, .pv false c 0), (1, .sl m), (2, .sl w), (7, .int .i64 j)] d)) k ⟨(1, X) :: E, zFin Try.prog 23 K⟩ h =
  (@cnd Prop (decide (j < Int.ofNat (SL.n m)))
  (ZAnd (SL.nil m = false)
    (ZIdx j (SL.len m) fun m_1 =>
      ZAnd (false = false)
        (ZLdI h (SL.i m) (SL.o m + m_1 * 1) IntKind.i64 fun n_1 =>
          ZAnd (false = false)
            (ZAnd (false = false)
              (ZAnd (false = false)
                (ZLdI h c 2 IntKind.i64 fun n_2 =>
                  @cnd Prop (decide (n_2 < n_1))
                    (ZAnd (SL.nil m = false)
                      (ZIdx j (SL.len m) fun m_2 =>
                        ZAnd (false = false)
                          (ZLdI h (SL.i m) (SL.o m + m_2 * 1) IntKind.i64 fun n_3 =>
                            K (ZV.int IntKind.i64 n_3) h)))
                    (ZW IntKind.i64 (j + 1) fun r_1 =>
                      k
                        [ZV.pv false c 0, ZV.sl m, ZV.sl w, d 3, d 4,
                          d 5, d 6, ZV.int IntKind.i64 r_1, d 8,
                          d 9, d 10, d 11, d 12,
                          d 13, d 14, d 15, d 16,
                          d 17, ZV.int IntKind.i64 j, ZV.sl m, ZV.int IntKind.i64 (Int.ofNat (SL.n m)),
                          ZV.bool true, ZV.int IntKind.i64 j, ZV.int IntKind.i64 r_1, ZV.sl m, ZV.int IntKind.i64 j,
                          ZV.pv false (SL.i m) (SL.o m + m_1 * 1), ZV.int IntKind.i64 n_1,
                          ZV.pv false c 0, ZV.pv false c 0, ZV.pv false c 2,
                          ZV.int IntKind.i64 n_2, ZV.bool false, d 33, d 34,
                          d 35, d 36, d 37, d 38,
                          d 39, d 40, d 41, d 42,
                          d 43, d 44, d 45, d 46,
                          d 47, d 48, d 49, d 50,
                          d 51, d 52, d 53, d 54,
                          d 55, d 56, d 57, d 58,
                          d 59, d 60, d 61, d 62,
                          d 63, d 64, d 65, d 66,
                          d 67, d 68, d 69, d 70,
                          d 71, d 72, d 73, d 74,
                          d 75, d 76, d 77, d 78,
                          d 79, d 80, d 81, d 82,
                          d 83, d 84, d 85, d 86,
                          d 87, d 88, d 89, d 90,
                          d 91, d 92, d 93, d 94,
                          d 95, d 96, d 97, d 98,
                          d 99, d 100, d 101, d 102,
                          d 103, d 104, d 105, d 106,
                          d 107, d 108, d 109, d 110,
                          d 111]
                        h)))))))
  (X
    [ZV.pv false c 0, ZV.sl m, ZV.sl w, d 3, d 4, d 5,
      d 6, ZV.int IntKind.i64 j, d 8, d 9, d 10,
      d 11, d 12, d 13, d 14, d 15,
      d 16, d 17, ZV.int IntKind.i64 j, ZV.sl m, ZV.int IntKind.i64 (Int.ofNat (SL.n m)),
      ZV.bool false, d 22, d 23, d 24, d 25, d 26,
      d 27, d 28, d 29, d 30, d 31,
      d 32, d 33, d 34, d 35, d 36,
      d 37, d 38, d 39, d 40, d 41,
      d 42, d 43, d 44, d 45, d 46,
      d 47, d 48, d 49, d 50, d 51,
      d 52, d 53, d 54, d 55, d 56,
      d 57, d 58, d 59, d 60, d 61,
      d 62, d 63, d 64, d 65, d 66,
      d 67, d 68, d 69, d 70, d 71,
      d 72, d 73, d 74, d 75, d 76,
      d 77, d 78, d 79, d 80, d 81,
      d 82, d 83, d 84, d 85, d 86,
      d 87, d 88, d 89, d 90, d 91,
      d 92, d 93, d 94, d 95, d 96,
      d 97, d 98, d 99, d 100, d 101,
      d 102, d 103, d 104, d 105, d 106,
      d 107, d 108, d 109, d 110, d 111]
    h)) := by kernel_rfl

theorem rch_a1 (C : ZCall) (lf : Nat) (K : ZK) (h : Heap) (m : SL) (d : Nat → ZV) (k : ZT → Heap → Prop) (E : List (Nat × (ZT → Heap → Prop))) :
  zAt Try.prog C lf 23 [1, 0, 0, 1, 0, 1] (zt (ntOf Try.prog 23) (ov [(1, .sl m)] d)) k ⟨E, zFin Try.prog 23 K⟩ h =
  (ZAnd (SL.nil m = false)
  (ZIdx 0 (SL.len m) fun m_1 =>
    ZAnd (false = false)
      (ZLdI h (SL.i m) (SL.o m + m_1 * 1) IntKind.i64 fun n_1 => K (ZV.int IntKind.i64 n_1) h))) := by kernel_rfl

theorem rch_b2 (C : ZCall) (lf : Nat) (K : ZK) (h : Heap) (c : Nat) (m w : SL) (b j : Int) (d : Nat → ZV) (k X : ZT → Heap → Prop) (E : List (Nat × (ZT → Heap → Prop))) :
  zAt Try.prog C lf 23 [1, 1, 1, 0, 1, 0, 0] (zt (ntOf Try.prog 23) (ov [(0, .pv false c 0), (1, .sl m), (2, .sl w), (9, .int .i64 b), (10, .int .i64 j)] d)) k ⟨(3, X) :: E, zFin Try.prog 23 K⟩ h =
  (@cnd Prop (decide (j < Int.ofNat (SL.n m)))
  (ZAnd (SL.nil m = false)
    (ZIdx j (SL.len m) fun m_1 =>
      ZAnd (false = false)
        (ZLdI h (SL.i m) (SL.o m + m_1 * 1) IntKind.i64 fun n_1 =>
          ZAnd (SL.nil w = false)
            (ZIdx n_1 (SL.len w) fun m_2 =>
              ZAnd (false = false)
                (ZLdI h (SL.i w) (SL.o w + m_2 * 1) IntKind.i64 fun n_2 =>
                  ZAnd (SL.nil w = false)
                    (ZIdx b (SL.len w) fun m_3 =>
                      ZAnd (false = false)
                        (ZLdI h (SL.i w) (SL.o w + m_3 * 1) IntKind.i64 fun n_3 =>
                          @cnd Prop (decide (n_3 < n_2))
                            (ZAnd (SL.nil m = false)
                              (ZIdx j (SL.len m) fun m_4 =>
                                ZAnd (false = false)
                                  (ZLdI h (SL.i m) (SL.o m + m_4 * 1) IntKind.i64 fun n_4 =>
                                    ZW IntKind.i64 (j + 1) fun r_1 =>
                                      k
                                        [ZV.pv false c 0, ZV.sl m, ZV.sl w, d 3,
                                          d 4, d 5, d 6, d 7,
                                          d 8, ZV.int IntKind.i64 n_4, ZV.int IntKind.i64 r_1,
                                          d 11, d 12, d 13,
                                          d 14, d 15, d 16,
                                          d 17, d 18, d 19,
                                          d 20, d 21, d 22,
                                          d 23, d 24, d 25,
                                          d 26, d 27, d 28,
                                          d 29, d 30, d 31,
                                          d 32, d 33, d 34,
                                          d 35, d 36, d 37,
                                          d 38, d 39, d 40,
                                          d 41, d 42, d 43,
                                          d 44, d 45, d 46,
                                          d 47, d 48, d 49,
                                          d 50, d 51, d 52,
                                          d 53, d 54, d 55,
                                          d 56, d 57, d 58,
                                          d 59, d 60, d 61,
                                          d 62, d 63, d 64,
                                          d 65, d 66, d 67,
                                          d 68, d 69, d 70,
                                          d 71, d 72, d 73,
                                          d 74, d 75, d 76,
                                          d 77, d 78, d 79,
                                          d 80, d 81, d 82,
                                          d 83, d 84, d 85,
                                          d 86, d 87, d 88,
                                          ZV.int IntKind.i64 j, ZV.sl m, ZV.int IntKind.i64 (Int.ofNat (SL.n m)),
                                          ZV.bool true, ZV.int IntKind.i64 j, ZV.int IntKind.i64 r_1, ZV.sl w, ZV.sl m,
                                          ZV.int IntKind.i64 j, ZV.pv false (SL.i m) (SL.o m + m_1 * 1),
                                          ZV.int IntKind.i64 n_1, ZV.pv false (SL.i w) (SL.o w + m_2 * 1),
                                          ZV.int IntKind.i64 n_2, ZV.sl w, ZV.int IntKind.i64 b,
                                          ZV.pv false (SL.i w) (SL.o w + m_3 * 1), ZV.int IntKind.i64 n_3,
                                          ZV.bool true, ZV.sl m, ZV.int IntKind.i64 j,
                                          ZV.pv false (SL.i m) (SL.o m + m_4 * 1), ZV.int IntKind.i64 n_4,
                                          d 111]
                                        h)))
                            (ZW IntKind.i64 (j + 1) fun r_1 =>
                              k
                                [ZV.pv false c 0, ZV.sl m, ZV.sl w, d 3, d 4,
                                  d 5, d 6, d 7, d 8,
                                  ZV.int IntKind.i64 b, ZV.int IntKind.i64 r_1, d 11, d 12,
                                  d 13, d 14, d 15, d 16,
                                  d 17, d 18, d 19, d 20,
                                  d 21, d 22, d 23, d 24,
                                  d 25, d 26, d 27, d 28,
                                  d 29, d 30, d 31, d 32,
                                  d 33, d 34, d 35, d 36,
                                  d 37, d 38, d 39, d 40,
                                  d 41, d 42, d 43, d 44,
                                  d 45, d 46, d 47, d 48,
                                  d 49, d 50, d 51, d 52,
                                  d 53, d 54, d 55, d 56,
                                  d 57, d 58, d 59, d 60,
                                  d 61, d 62, d 63, d 64,
                                  d 65, d 66, d 67, d 68,
                                  d 69, d 70, d 71, d 72,
                                  d 73, d 74, d 75, d 76,
                                  d 77, d 78, d 79, d 80,
                                  d 81, d 82, d 83, d 84,
                                  d 85, d 86, d 87, d 88,
                                  ZV.int IntKind.i64 j, ZV.sl m, ZV.int IntKind.i64 (Int.ofNat (SL.n m)), ZV.bool true,
                                  ZV.int IntKind.i64 j, ZV.int IntKind.i64 r_1, ZV.sl w, ZV.sl m, ZV.int IntKind.i64 j,
                                  ZV.pv false (SL.i m) (SL.o m + m_1 * 1), ZV.int IntKind.i64 n_1,
                                  ZV.pv false (SL.i w) (SL.o w + m_2 * 1), ZV.int IntKind.i64 n_2, ZV.sl w,
                                  ZV.int IntKind.i64 b, ZV.pv false (SL.i w) (SL.o w + m_3 * 1),
                                  ZV.int IntKind.i64 n_3, ZV.bool false, d 107, d 108,
                                  d 109, d 110, d 111]
                                h))))))))
  (X
    [ZV.pv false c 0, ZV.sl m, ZV.sl w, d 3, d 4, d 5,
      d 6, d 7, d 8, ZV.int IntKind.i64 b, ZV.int IntKind.i64 j,
      d 11, d 12, d 13, d 14, d 15,
      d 16, d 17, d 18, d 19, d 20,
      d 21, d 22, d 23, d 24, d 25,
      d 26, d 27, d 28, d 29, d 30,
      d 31, d 32, d 33, d 34, d 35,
      d 36, d 37, d 38, d 39, d 40,
      d 41, d 42, d 43, d 44, d 45,
      d 46, d 47, d 48, d 49, d 50,
      d 51, d 52, d 53, d 54, d 55,
      d 56, d 57, d 58, d 59, d 60,
      d 61, d 62, d 63, d 64, d 65,
      d 66, d 67, d 68, d 69, d 70,
      d 71, d 72, d 73, d 74, d 75,
      d 76, d 77, d 78, d 79, d 80,
      d 81, d 82, d 83, d 84, d 85,
      d 86, d 87, d 88, ZV.int IntKind.i64 j, ZV.sl m,
      ZV.int IntKind.i64 (Int.ofNat (SL.n m)), ZV.bool false, d 93, d 94,
      d 95, d 96, d 97, d 98, d 99,
      d 100, d 101, d 102, d 103, d 104,
      d 105, d 106, d 107, d 108, d 109,
      d 110, d 111]
    h)) := by kernel_rfl

theorem rch_a2 (C : ZCall) (lf : Nat) (K : ZK) (h : Heap) (b : Int) (d : Nat → ZV) :
  zAt Try.prog C lf 23 [1, 1, 1, 1] (zt (ntOf Try.prog 23) (ov [(9, .int .i64 b)] d)) (zFin Try.prog 23 K) ⟨[], zFin Try.prog 23 K⟩ h =
  (K (ZV.int IntKind.i64 b) h) := by kernel_rfl

theorem lent_b (C : ZCall) (lf : Nat) (K : ZK) (h : Heap) (s x : SL) (j : Int) (d : Nat → ZV) (k X : ZT → Heap → Prop) (E : List (Nat × (ZT → Heap → Prop))) :
  zAt Try.prog C lf 11 [1, 1, 1, 0, 1, 0, 0] (zt (ntOf Try.prog 11) (ov [(0, .sl s), (3, .sl x), (4, .int .i64 j)] d)) k ⟨(0, X) :: E, zFin Try.prog 11 K⟩ h =
  (@cnd Prop (decide (j < Int.ofNat (SL.n x)))
  (ZW IntKind.i64 (7000 + j) fun r_1 =>
    ZAnd (SL.nil x = false)
      (ZIdx j (SL.len x) fun m_1 =>
        ZAnd (false = false)
          (ZPut h (SL.i x) (SL.o x + m_1 * 1) 1
            (ZW IntKind.i64 (j + 1) fun r_2 =>
              k
                [ZV.sl s, d 1, d 2, ZV.sl x, ZV.int IntKind.i64 r_2, d 5,
                  d 6, d 7, d 8, d 9, d 10,
                  d 11, d 12, d 13, ZV.int IntKind.i64 j, ZV.sl x,
                  ZV.int IntKind.i64 (Int.ofNat (SL.n x)), ZV.bool true, ZV.int IntKind.i64 j, ZV.int IntKind.i64 r_2,
                  ZV.sl x, ZV.int IntKind.i64 j, ZV.int IntKind.i64 j, ZV.int IntKind.i64 r_1,
                  ZV.pv false (SL.i x) (SL.o x + m_1 * 1), d 25]
                (hput h (SL.i x) (SL.o x + m_1 * 1) [AV.int IntKind.i64 r_1])))))
  (X
    [ZV.sl s, d 1, d 2, ZV.sl x, ZV.int IntKind.i64 j, d 5, d 6,
      d 7, d 8, d 9, d 10, d 11,
      d 12, d 13, ZV.int IntKind.i64 j, ZV.sl x, ZV.int IntKind.i64 (Int.ofNat (SL.n x)),
      ZV.bool false, d 18, d 19, d 20, d 21, d 22,
      d 23, d 24, d 25]
    h)) := by kernel_rfl

theorem lent_a (C : ZCall) (lf : Nat) (K : ZK) (h : Heap) (x : SL) (d : Nat → ZV) :
  zAt Try.prog C lf 11 [1, 1, 1, 1] (zt (ntOf Try.prog 11) (ov [(3, .sl x)] d)) (zFin Try.prog 11 K) ⟨[], zFin Try.prog 11 K⟩ h =
  (K (ZV.sl x) h) := by kernel_rfl

theorem stay_b (C : ZCall) (lf : Nat) (K : ZK) (h : Heap) (c l : SL) (j : Int) (d : Nat → ZV) (k X : ZT → Heap → Prop) (E : List (Nat × (ZT → Heap → Prop))) :
  zAt Try.prog C lf 13 [1, 0, 1, 0, 0] (zt (ntOf Try.prog 13) (ov [(0, .sl c), (1, .sl l), (5, .int .i64 j)] d)) k ⟨(0, X) :: E, zFin Try.prog 13 K⟩ h =
  (@cnd Prop (decide (j < Int.ofNat (SL.n c)))
  (@cnd Prop (decide (j < Int.ofNat (SL.n l)))
    (ZAnd (SL.nil c = false)
      (ZIdx j (SL.len c) fun m_1 =>
        ZAnd (false = false)
          (ZLdI h (SL.i c) (SL.o c + m_1 * 1) IntKind.i64 fun n_1 =>
            ZAnd (SL.nil l = false)
              (ZIdx j (SL.len l) fun m_2 =>
                ZAnd (false = false)
                  (ZLdI h (SL.i l) (SL.o l + m_2 * 1) IntKind.i64 fun n_2 =>
                    @cnd Prop (cnd true (!decide (n_1 = n_2)) false) (K (ZV.bool false) h)
                      (@cnd Prop (decide (Int.ofNat (SL.n l) ≤ j))
                        (ZAnd (SL.nil c = false)
                          (ZIdx j (SL.len c) fun m_3 =>
                            ZAnd (false = false)
                              (ZLdI h (SL.i c) (SL.o c + m_3 * 1) IntKind.i64 fun n_3 =>
                                ZW IntKind.i64 (7000 + j) fun r_1 =>
                                  @cnd Prop (cnd false true (cnd true (!decide (n_3 = r_1)) false))
                                    (K (ZV.bool false) h)
                                    (ZW IntKind.i64 (j + 1) fun r_2 =>
                                      k
                                        [ZV.sl c, ZV.sl l, d 2, d 3, d 4,
                                          ZV.int IntKind.i64 r_2, ZV.int IntKind.i64 j, ZV.sl c,
                                          ZV.int IntKind.i64 (Int.ofNat (SL.n c)), ZV.bool true, ZV.int IntKind.i64 j,
                                          ZV.int IntKind.i64 r_2, ZV.int IntKind.i64 j, ZV.sl l,
                                          ZV.int IntKind.i64 (Int.ofNat (SL.n l)),
                                          ZV.bool (decide (j < Int.ofNat (SL.n l))), ZV.bool true, ZV.sl c,
                                          ZV.int IntKind.i64 j, ZV.pv false (SL.i c) (SL.o c + m_1 * 1),
                                          ZV.int IntKind.i64 n_1, ZV.sl l, ZV.int IntKind.i64 j,
                                          ZV.pv false (SL.i l) (SL.o l + m_2 * 1), ZV.int IntKind.i64 n_2,
                                          ZV.bool !decide (n_1 = n_2), ZV.bool (cnd true (!decide (n_1 = n_2)) false),
                                          ZV.bool false, ZV.int IntKind.i64 j, ZV.sl l,
                                          ZV.int IntKind.i64 (Int.ofNat (SL.n l)),
                                          ZV.bool (decide (Int.ofNat (SL.n l) ≤ j)), ZV.bool true, ZV.sl c,
                                          ZV.int IntKind.i64 j, ZV.pv false (SL.i c) (SL.o c + m_3 * 1),
                                          ZV.int IntKind.i64 n_3, ZV.int IntKind.i64 j, ZV.int IntKind.i64 r_1,
                                          ZV.bool !decide (n_3 = r_1), ZV.bool (cnd true (!decide (n_3 = r_1)) false),
                                          ZV.bool false]
                                        h))))
                        (ZW IntKind.i64 (j + 1) fun r_1 =>
                          k
                            [ZV.sl c, ZV.sl l, d 2, d 3, d 4,
                              ZV.int IntKind.i64 r_1, ZV.int IntKind.i64 j, ZV.sl c,
                              ZV.int IntKind.i64 (Int.ofNat (SL.n c)), ZV.bool true, ZV.int IntKind.i64 j,
                              ZV.int IntKind.i64 r_1, ZV.int IntKind.i64 j, ZV.sl l,
                              ZV.int IntKind.i64 (Int.ofNat (SL.n l)), ZV.bool (decide (j < Int.ofNat (SL.n l))),
                              ZV.bool true, ZV.sl c, ZV.int IntKind.i64 j,
                              ZV.pv false (SL.i c) (SL.o c + m_1 * 1), ZV.int IntKind.i64 n_1, ZV.sl l,
                              ZV.int IntKind.i64 j, ZV.pv false (SL.i l) (SL.o l + m_2 * 1),
                              ZV.int IntKind.i64 n_2, ZV.bool !decide (n_1 = n_2),
                              ZV.bool (cnd true (!decide (n_1 = n_2)) false), ZV.bool false, ZV.int IntKind.i64 j,
                              ZV.sl l, ZV.int IntKind.i64 (Int.ofNat (SL.n l)),
                              ZV.bool (decide (Int.ofNat (SL.n l) ≤ j)), ZV.bool false, ZV.tup [], ZV.tup [], ZV.tup [],
                              ZV.tup [], ZV.tup [], ZV.tup [], ZV.tup [], ZV.bool false, ZV.bool false]
                            h)))))))
    (@cnd Prop (decide (Int.ofNat (SL.n l) ≤ j))
      (ZAnd (SL.nil c = false)
        (ZIdx j (SL.len c) fun m_1 =>
          ZAnd (false = false)
            (ZLdI h (SL.i c) (SL.o c + m_1 * 1) IntKind.i64 fun n_1 =>
              ZW IntKind.i64 (7000 + j) fun r_1 =>
                @cnd Prop (cnd false true (cnd true (!decide (n_1 = r_1)) false)) (K (ZV.bool false) h)
                  (ZW IntKind.i64 (j + 1) fun r_2 =>
                    k
                      [ZV.sl c, ZV.sl l, d 2, d 3, d 4,
                        ZV.int IntKind.i64 r_2, ZV.int IntKind.i64 j, ZV.sl c, ZV.int IntKind.i64 (Int.ofNat (SL.n c)),
                        ZV.bool true, ZV.int IntKind.i64 j, ZV.int IntKind.i64 r_2, ZV.int IntKind.i64 j, ZV.sl l,
                        ZV.int IntKind.i64 (Int.ofNat (SL.n l)), ZV.bool (decide (j < Int.ofNat (SL.n l))),
                        ZV.bool false, ZV.tup [], ZV.tup [], ZV.tup [], ZV.tup [], ZV.tup [], ZV.tup [], ZV.tup [],
                        ZV.tup [], ZV.tup [], ZV.bool false, ZV.bool false, ZV.int IntKind.i64 j, ZV.sl l,
                        ZV.int IntKind.i64 (Int.ofNat (SL.n l)), ZV.bool (decide (Int.ofNat (SL.n l) ≤ j)),
                        ZV.bool true, ZV.sl c, ZV.int IntKind.i64 j,
                        ZV.pv false (SL.i c) (SL.o c + m_1 * 1), ZV.int IntKind.i64 n_1,
                        ZV.int IntKind.i64 j, ZV.int IntKind.i64 r_1, ZV.bool !decide (n_1 = r_1),
                        ZV.bool (cnd true (!decide (n_1 = r_1)) false), ZV.bool false]
                      h))))
      (ZW IntKind.i64 (j + 1) fun r_1 =>
        k
          [ZV.sl c, ZV.sl l, d 2, d 3, d 4, ZV.int IntKind.i64 r_1,
            ZV.int IntKind.i64 j, ZV.sl c, ZV.int IntKind.i64 (Int.ofNat (SL.n c)), ZV.bool true, ZV.int IntKind.i64 j,
            ZV.int IntKind.i64 r_1, ZV.int IntKind.i64 j, ZV.sl l, ZV.int IntKind.i64 (Int.ofNat (SL.n l)),
            ZV.bool (decide (j < Int.ofNat (SL.n l))), ZV.bool false, ZV.tup [], ZV.tup [], ZV.tup [], ZV.tup [],
            ZV.tup [], ZV.tup [], ZV.tup [], ZV.tup [], ZV.tup [], ZV.bool false, ZV.bool false, ZV.int IntKind.i64 j,
            ZV.sl l, ZV.int IntKind.i64 (Int.ofNat (SL.n l)), ZV.bool (decide (Int.ofNat (SL.n l) ≤ j)), ZV.bool false,
            ZV.tup [], ZV.tup [], ZV.tup [], ZV.tup [], ZV.tup [], ZV.tup [], ZV.tup [], ZV.bool false, ZV.bool false]
          h)))
  (X
    [ZV.sl c, ZV.sl l, d 2, d 3, d 4, ZV.int IntKind.i64 j,
      ZV.int IntKind.i64 j, ZV.sl c, ZV.int IntKind.i64 (Int.ofNat (SL.n c)), ZV.bool false, d 10,
      d 11, d 12, d 13, d 14, d 15,
      d 16, d 17, d 18, d 19, d 20,
      d 21, d 22, d 23, d 24, d 25,
      d 26, d 27, d 28, d 29, d 30,
      d 31, d 32, d 33, d 34, d 35,
      d 36, d 37, d 38, d 39, d 40,
      d 41]
    h)) := by kernel_rfl

theorem stay_a (C : ZCall) (lf : Nat) (K : ZK) (h : Heap) (d : Nat → ZV) :
  zAt Try.prog C lf 13 [1, 1] (zt (ntOf Try.prog 13) (ov [] d)) (zFin Try.prog 13 K) ⟨[], zFin Try.prog 13 K⟩ h =
  (K (ZV.bool true) h) := by kernel_rfl

end PolN

namespace PolN
open Go Go.X Go.Proofs
set_option maxRecDepth 100000
section
variable {S : ZSums} {lf n : Nat} {h : Heap} {K : ZK}
/-! ## the document's chooser -/
theorem rcheck_ok (hS : ∀ f, f ≠ 7 → S f = none) {k : Int} {s : SL} (hk : ∀ h', Fram no h h' → K (.int .i64 (checkE k s.n)) h') : zCall Try.prog S lf (n + 1) 21 [.agg [.int .i64 k, .sl s]] K h := by
  refine zCall_at (hS _ (by decide)) (by kernel_rfl) ?_
  rw [rcheck_nf]
  have f1 : Fram no h (h.newO (.cells [.int .i64 k, s.av] 0 false false)) := Fram.newO _ _ _
  have c1 : ∀ o, cellAt (h.newO (.cells [.int .i64 k, s.av] 0 false false)) h.next o = [AV.int .i64 k, s.av][o]? := fun o => cellAt_of (newO_get_self _ _)
  have hk' := hk _ f1
  have en : (Int.ofNat s.n : Int) = s.n := rfl
  have bad : checkE k s.n = 161 → K (.int .i64 161) (h.newO (.cells [.int .i64 k, s.av] 0 false false)) := fun e => by rw [e] at hk'; exact hk'
  have good : checkE k s.n = 0 → K (.int .i64 0) (h.newO (.cells [.int .i64 k, s.av] 0 false false)) := fun e => by rw [e] at hk'; exact hk'
  simp only [zAnd_iff, eq_self, true_and, zLdI_iff, cnd_dec]
  refine ⟨k, c1 0, fun e => bad (if_pos (by omega)), fun e => ⟨k, c1 0, ?_⟩⟩
  by_cases h4 : 4 < k
  · rw [decide_eq_true h4]; exact bad (if_pos (by omega))
  · rw [decide_eq_false h4]
    refine zLdL_of (c1 1) ⟨fun e1 => ⟨k, c1 0, ?_⟩, fun e1 => good (if_neg (by omega))⟩
    by_cases hk4 : k = 4
    · rw [decide_eq_true hk4]
      refine zLdL_of (c1 1) ?_
      by_cases h5 : (65536 : Int) < Int.ofNat s.n
      · rw [decide_eq_true h5]; exact bad (if_pos (by omega))
      · rw [decide_eq_false h5]; exact good (if_neg (by omega))
    · rw [decide_eq_false hk4]; exact bad (if_pos (by omega))
theorem rmay_ok (hS : ∀ f, f ≠ 7 → S f = none) {w : SL} {ws : List Int} (hw : Ints h w ws) (hL : ws.length ≤ 134217728) (hlf : ws.length + 1 < lf) (k : ∀ h' m, Fram no h h' → Ints h' m (iv (may ws ws.length)) → K (.sl m) h') : zCall Try.prog S lf (n + 1) 22 [.sl w] K h := by
  refine zCall_at (hS _ (by decide)) (by kernel_rfl) ?_
  rw [rmay_nf]
  have hwn := hw.len
  have en : ∀ x : Nat, (Int.ofNat x : Int) = x := fun _ => rfl
  refine ZLoop.inv (fun q z h' => ∃ (j : Nat) (m : SL), ZAt 21 [(0, .sl w), (3, .sl m), (4, .int .i64 (j : Int))] z ∧ Fram no h h' ∧ Grown h h' m 1 (may ws j).length ((iv (may ws j)).map (AV.int .i64)) ∧ j + q = ws.length) (n := ws.length) (by omega)
    ⟨0, nilSL, ⟨rfl, rfl, rfl, rfl, trivial⟩, Fram.refl _ _, Grown.start _ _ _, by omega⟩ ?_
  rintro q z h2 kk hq ⟨j, m, hz, f2, hg, hj⟩ ih
  refine zAt_of _ hz fun d => (rmay_b _ lf K _ _ _ _ _ _ _ _).mpr ?_
  simp only [zAnd_iff, eq_self, true_and, Nat.mul_one, zIdx_nat, zLdI_iff, cnd_dec, zW_iff]
  refine ⟨fun e => ?_, fun e => ?_⟩
  · have hjl : j < ws.length := by have := en w.n; omega
    have hn := hw.nil_of hjl
    have hl := hw.len' hn
    rw [i64_fit (e := (j : Int) + 1) (by omega) (by omega)]
    refine ⟨hn, by omega, wt ws j, (hw.fr f2 fun _ => id).at' hn _ _ (wt_at hjl), fun e2 => ?_, fun e2 => ?_⟩
    · have f3 : Fram no h2 (h2.newO (.cells [.int .i64 (j : Int)] 1 false false)) := Fram.newO _ _ _
      have own : Ints (h2.newO (.cells [.int .i64 (j : Int)] 1 false false)) ⟨false, h2.next, 0, 1, 1, false⟩ [(j : Int)] := Ints.own rfl (Nat.lt_succ_self _) (newO_get_self _ _)
      refine own.zsrc ?_
      have hg3 : Grown h (h2.newO (.cells [.int .i64 (j : Int)] 1 false false)) m 1 (may ws j).length ((iv (may ws j)).map (AV.int .i64)) := by
        obtain ⟨a1, a2⟩ := hg
        refine ⟨a1, a2.imp id fun ⟨b1, b2, b3, b4, b5, b6, b7, b8⟩ => ⟨b1, b2, b3, b4, b5, b6, Nat.lt_succ_of_lt b7, (newO_get_ne (Nat.ne_of_lt b7)).trans b8⟩⟩
      have hml := may_len ws j
      refine hg3.append (Nat.le_trans f2.next (Nat.le_succ _)) (by decide) rfl (allPlain_ints _) (room3 (by omega)) fun g4 f4 => ?_
      refine ih (q - 1) _ _ (by omega) ⟨j + 1, _, ⟨rfl, rfl, rfl, rfl, trivial⟩, (f2.trans f3).behind f4, ?_, by omega⟩
      have em : may ws (j + 1) = may ws j ++ [j] := by rw [may_succ, if_pos e2]
      rw [em]
      have e5 : (iv (may ws j ++ [j])).map (AV.int .i64) = (iv (may ws j)).map (AV.int .i64) ++ [(j : Int)].map (AV.int .i64) := by simp [iv]
      rw [e5, List.length_append]
      exact g4
    · have em : may ws (j + 1) = may ws j := by rw [may_succ, if_neg e2, List.append_nil]
      refine ih (q - 1) _ _ (by omega) ⟨j + 1, m, ⟨rfl, rfl, rfl, rfl, trivial⟩, f2, ?_, by omega⟩
      rw [em]; exact hg
  · have hjl : j = ws.length := by have := en w.n; omega
    subst hjl
    exact zAt_of (n := 21) [(3, .sl m)] ⟨rfl, rfl, trivial⟩ fun d' => (rmay_a _ lf K _ _ _).mpr (k h2 m f2 hg.ints)
/-- an append of numbers to an empty slice that was just made -/
theorem fresh_app {h : Heap} {s : SL} {ps : List Int} (A : SL → Heap → Prop) (hs : Ints h s ps) (hl : ps.length ≤ 134217728) (k : ∀ h' s', Fram no h h' → Ints h' s' ps → h.next ≤ s'.i → s'.nil = false → A s' h') :
    ZSrc (h.newO (.cells [] 1 false false)) s 1 fun ds => ZApp Try.prog (h.newO (.cells [] 1 false false)) ⟨false, h.next, 0, 0, 0, false⟩ 3 1 s.n ds
      (A ((SL.mk false h.next 0 0 0 false).app (h.newO (.cells [] 1 false false)).next s.n) (happ (h.newO (.cells [] 1 false false)) ⟨false, h.next, 0, 0, 0, false⟩ 1 s.n ds)) := by
  have f1 : Fram no h (h.newO (.cells [] 1 false false)) := Fram.newO _ _ _
  refine (hs.fr f1 fun _ => id).zsrc ?_
  have hn := hs.len
  by_cases h0 : ps.length = 0
  · have : ps = [] := List.eq_nil_of_length_eq_zero h0
    subst this
    have hn0 : s.n = 0 := hn
    rw [hn0]
    refine ⟨⟨fun _ => Nat.le_refl _, fun e => absurd rfl e, fun e => absurd rfl e, fun e => absurd rfl e, fun e => absurd rfl e, fun e => absurd rfl e⟩, rfl, ?_⟩
    exact k _ ⟨false, h.next, 0, 0, 0, false⟩ f1 (Ints.own rfl (Nat.lt_succ_self _) (newO_get_self _ _)) (Nat.le_refl _) rfl
  · obtain ⟨q, hq⟩ : ∃ q, s.n = q + 1 := ⟨s.n - 1, by omega⟩
    have eh : happ (h.newO (.cells [] 1 false false)) ⟨false, h.next, 0, 0, 0, false⟩ 1 s.n (ps.map (AV.int .i64)) = (h.newO (.cells [] 1 false false)).newO (.cells (ps.map (AV.int .i64)) 1 true false) := by
      rw [hq]; unfold happ
      simp only [newO_get_self]
      rfl
    have es : (SL.mk false h.next 0 0 0 false).app (h.newO (.cells [] 1 false false)).next s.n = ⟨false, h.next + 1, 0, s.n, s.n, true⟩ := by
      rw [hq]; unfold SL.app
      simp only [Nat.zero_add]; rfl
    refine ⟨⟨fun _ => Nat.le_refl _, fun _ e => (by cases e), fun _ _ e => ?_, fun _ _ => ?_, fun _ _ _ e => (by cases e), fun _ _ _ _ => ⟨[], cellsAt_of (newO_get_self _ _), Nat.le_refl _⟩⟩, allPlain_ints _, ?_⟩
    · exfalso; have : 0 + s.n ≤ 0 := e; omega
    · show roomB Try.prog 3 (0 + s.n) = true
      exact room3 (by omega)
    · rw [eh, es]
      exact k _ ⟨false, h.next + 1, 0, s.n, s.n, true⟩ (f1.trans (Fram.newO _ _ _)) (Ints.own hn (Nat.lt_succ_self _) (newO_get_self _ _)) (Nat.le_succ _) rfl
theorem rnew_ok (hS : ∀ f, f ≠ 7 → S f = none) {kd : Int} {s : SL} {ps : List Int} (hs : Ints h s ps)
    (bad : checkE kd ps.length = 161 → ∀ h', Fram no h h' → K (.tup [.pv true 0 0, .int .i64 161]) h')
    (good : checkE kd ps.length = 0 → ∀ h' c s', Fram no h h' → h.next ≤ c → Chooser h' c kd s' (-1) 0 → Ints h' s' ps → (s'.nil = false → h.next ≤ s'.i ∧ s'.i ≠ c) → K (.tup [.pv false c 0, .int .i64 0]) h') :
    zCall Try.prog S lf (n + 2) 12 [.agg [.int .i64 kd, .sl s]] K h := by
  refine zCall_at (hS _ (by decide)) (by kernel_rfl) ?_
  rw [rnew_nf]
  have f1 : Fram no h (h.newO (.cells [.int .i64 kd, s.av] 0 false false)) := Fram.newO _ _ _
  have c1 : ∀ o, cellAt (h.newO (.cells [.int .i64 kd, s.av] 0 false false)) h.next o = [AV.int .i64 kd, s.av][o]? := fun o => cellAt_of (newO_get_self _ _)
  simp only [zAnd_iff, eq_self, true_and, zLdI_iff]
  refine ⟨kd, c1 0, zLdL_of (c1 1) (rcheck_ok hS fun h2 f2 => ?_)⟩
  have f2' := f1.trans f2
  simp only [av_int, zRI_av]
  rw [hs.len]
  have gb : h2.get h.next = some (.cells [.int .i64 kd, s.av] 0 false false) := (f2.same _ (Nat.lt_succ_self _) id).trans (newO_get_self _ _)
  have ne2 : h.next < h2.next := Nat.lt_of_lt_of_le (Nat.lt_succ_self _) f2.next
  have cb : ∀ h', Fram no h2 h' → ∀ o, cellAt h' h.next o = [AV.int .i64 kd, s.av][o]? := fun h' f o => cellAt_of ((f.same _ ne2 id).trans gb)
  rcases (show checkE kd ps.length = 161 ∨ checkE kd ps.length = 0 by unfold checkE; split <;> simp) with e | e
  · rw [e]
    exact bad e h2 f2'
  · have hl : ps.length ≤ 134217728 := by
      unfold checkE at e
      split at e
      · cases e
      · omega
    rw [e]
    show ∃ n, _
    have f3 : Fram no h2 (h2.newO (.cells [] 1 false false)) := Fram.newO _ _ _
    refine ⟨kd, cb h2 (Fram.refl _ _) 0, zLdL_of (s := s) (cb h2 (Fram.refl _ _) 1) ⟨zLdL_of (s := s) (cb _ f3 1) rfl, ⟨kd, cb _ f3 0, rfl⟩, ?_⟩⟩
    refine fresh_app (fun s' h' => (∃ n, cellAt h' h.next 0 = some (.int .i64 n) ∧ AV.int .i64 n = AV.int .i64 kd) ∧ K (.tup [.pv false h'.next 0, .int .i64 0]) (h'.newO (.cells [.int .i64 kd, s'.av, .int .i64 (-1), .int .i64 0] 0 false false))) (hs.fr f2' fun _ => id) hl fun h4 s' f4 hs' hi hn => ⟨⟨kd, cb h4 f4 0, rfl⟩, ?_⟩
    refine good e _ _ s' ((f2'.trans f4).trans (Fram.newO _ _ _)) (Nat.le_trans f2'.next f4.next) ⟨Nat.lt_succ_self _, newO_get_self _ _⟩ (hs'.fr (Fram.newO no _ _) fun _ => id) fun e => ⟨Nat.le_trans f2'.next hi, Nat.ne_of_lt (hs'.lt e)⟩
theorem count_ok (hS : ∀ f, f ≠ 7 → S f = none) {c : Nat} {kd last cnt : Int} {s : SL} (hc : Chooser h c kd s last cnt) (k : K (.int .i64 cnt) h) : zCall Try.prog S lf (n + 1) 16 [.pv false c 0] K h := by
  refine zCall_at (hS _ (by decide)) (by kernel_rfl) ?_
  rw [count_nf]
  simp only [zAnd_iff, eq_self, true_and, zLdI_iff]
  exact ⟨cnt, by rw [cellAt_of hc.get]; rfl, k⟩
theorem settles_ok (hS : ∀ f, f ≠ 7 → S f = none) {c : Nat} {kd last cnt : Int} {s : SL} (hc : Chooser h c kd s last cnt) (k : K (.bool (decide (kd = 3))) h) : zCall Try.prog S lf (n + 1) 17 [.pv false c 0] K h := by
  refine zCall_at (hS _ (by decide)) (by kernel_rfl) ?_
  rw [settles_nf]
  simp only [zAnd_iff, eq_self, true_and, zLdI_iff]
  exact ⟨kd, by rw [cellAt_of hc.get]; rfl, k⟩
theorem rsettles_ok (hS : ∀ f, f ≠ 7 → S f = none) {c : Nat} {kd last cnt : Int} {s : SL} (hc : Chooser h c kd s last cnt) (k : K (.bool (decide (kd = 3))) h) : zCall Try.prog S lf (n + 1) 18 [.pv false c 0] K h := by
  refine zCall_at (hS _ (by decide)) (by kernel_rfl) ?_
  rw [rsettles_nf]
  simp only [zAnd_iff, eq_self, true_and, zLdI_iff]
  exact ⟨kd, by rw [cellAt_of hc.get]; rfl, k⟩
theorem best_loop {C : ZCall} {c : Nat} {m w : SL} {ws : List Int} {a : Nat} {t : List Nat} {X : ZT → Heap → Prop} {E : List (Nat × (ZT → Heap → Prop))} (hw : Ints h w ws) (hm : Ints h m (iv (a :: t))) (hlt : ∀ i, i ∈ a :: t → i < ws.length) (hT : t.length < 1099511627776) (hlf : t.length + 1 < lf)
    (hX : ∀ z, ZAt 112 [(9, .int .i64 (best ws a t : Int))] z → X z h) {z : ZT} (hz : ZAt 112 [(0, .pv false c 0), (1, .sl m), (2, .sl w), (9, .int .i64 (a : Int)), (10, .int .i64 0)] z) :
    ZLoop lf (zAt Try.prog C lf 23 [1, 1, 1, 0, 1, 0, 0]) z ⟨(3, X) :: E, zFin Try.prog 23 K⟩ h := by
  have hn : m.nil = false := hm.nil_of (j := 0) (by simp)
  have hl := hm.len' hn
  have hml := hm.len
  simp only [iv_len, List.length_cons] at hl hml
  have en : (Int.ofNat m.n : Int) = m.n := rfl
  refine ZLoop.inv (fun q z h' => ∃ (j x : Nat) (r : List Nat), ZAt 112 [(0, .pv false c 0), (1, .sl m), (2, .sl w), (9, .int .i64 (x : Int)), (10, .int .i64 (j : Int))] z ∧ h' = h ∧ r.length = q ∧ j + q = m.n ∧ (∀ i, (a :: t)[j + i]? = r[i]?) ∧ best ws x r = best ws a t ∧ x < ws.length) (n := t.length + 1) hlf
    ⟨0, a, a :: t, hz, rfl, rfl, by omega, fun i => by rw [Nat.zero_add], ?_, hlt a (by simp)⟩ ?_
  · show best ws (if wt ws a < wt ws a then a else a) t = _
    rw [if_neg (Int.lt_irrefl _)]
  rintro q z h' kk hq ⟨j, x, r, hz, rfl, hr, hj, hat, hb, hx⟩ ih
  refine zAt_of _ hz fun d => (rch_b2 _ lf K _ _ _ _ _ _ _ _ _ _).mpr ?_
  simp only [zAnd_iff, eq_self, true_and, Nat.mul_one, zIdx_nat, zLdI_iff, cnd_dec, zW_iff]
  refine ⟨fun e => ?_, fun e => ?_⟩
  · cases r with
    | nil => simp only [List.length_nil] at hr; omega
    | cons y r =>
      have hy0 := hat 0
      simp only [Nat.add_zero, List.getElem?_cons_zero] at hy0
      have hylt : y < ws.length := hlt y (List.mem_of_getElem? hy0)
      have hcell := hm.at' hn j _ (iv_at hy0)
      have hwn := hw.nil_of hylt
      have hwl := hw.len' hwn
      have hr' : r.length + 1 = q := by simpa using hr
      have hat' : ∀ i, (a :: t)[j + 1 + i]? = r[i]? := fun i => by
        have := hat (i + 1)
        rw [show j + 1 + i = j + (i + 1) by omega, this]; rfl
      rw [i64_fit (e := (j : Int) + 1) (by omega) (by omega)]
      refine ⟨hn, by omega, (y : Int), hcell, hwn, ?_⟩
      simp only [zIdx_nat]
      refine ⟨by omega, wt ws y, hw.at' hwn _ _ (wt_at hylt), hwn, by omega, wt ws x, hw.at' hwn _ _ (wt_at hx), fun e2 => ⟨hn, by omega, (y : Int), hcell, ?_⟩, fun e2 => ?_⟩
      · refine ih (q - 1) _ _ (by omega) ⟨j + 1, y, r, ⟨rfl, rfl, rfl, rfl, rfl, rfl, trivial⟩, rfl, by omega, by omega, hat', ?_, hylt⟩
        rw [← hb]
        show _ = best ws (if wt ws x < wt ws y then y else x) r
        rw [if_pos e2]
      · refine ih (q - 1) _ _ (by omega) ⟨j + 1, x, r, ⟨rfl, rfl, rfl, rfl, rfl, rfl, trivial⟩, rfl, by omega, by omega, hat', ?_, hx⟩
        rw [← hb]
        show _ = best ws (if wt ws x < wt ws y then y else x) r
        rw [if_neg e2]
  · have : r = [] := List.eq_nil_of_length_eq_zero (by omega)
    subst this
    have hb' : x = best ws a t := hb
    subst hb'
    exact hX _ ⟨rfl, rfl, trivial⟩
theorem rchosen_ok (hS : ∀ f, f ≠ 7 → S f = none) {c : Nat} {w m s : SL} {ws ps : List Int} {a : Nat} {t : List Nat} {kd last cnt : Int} (hc : Chooser h c kd s last cnt) (h0 : 0 ≤ cnt) (hs : Ints h s ps) (hr : ∀ p, p ∈ ps → -9223372036854775808 ≤ p ∧ p ≤ 9223372036854775807)
    (hw : Ints h w ws) (hm : Ints h m (iv (a :: t))) (hlt : ∀ i, i ∈ a :: t → i < ws.length) (hT : t.length < 1099511627776) (hlf : t.length + 1 < lf)
    (k : K (.int .i64 (chosen kd ps ws last cnt a t : Int)) h) :
    zCall Try.prog S lf (n + 1) 23 [.pv false c 0, .sl m, .sl w] K h := by
  refine zCall_at (hS _ (by decide)) (by kernel_rfl) ?_
  rw [rchosen_nf]
  have cc : ∀ o, cellAt h c o = [AV.int .i64 kd, s.av, .int .i64 last, .int .i64 cnt][o]? := fun o => cellAt_of hc.get
  have hn : m.nil = false := hm.nil_of (j := 0) (by simp)
  have hl := hm.len' hn
  have hml := hm.len
  simp only [iv_len, List.length_cons] at hl hml
  have en : ∀ x : Nat, (Int.ofNat x : Int) = x := fun _ => rfl
  have hsn := hs.len
  simp only [zAnd_iff, eq_self, true_and, Nat.mul_one, zLdI_iff, cnd_dec, zW_iff]
  refine ⟨kd, cc 0, fun e2 => ?_, fun e2 => ⟨kd, cc 0, fun e4 => zLdL_of (cc 1) ?_, fun e4 => ⟨hn, ?_⟩⟩⟩
  · have k : K (.int .i64 (nextF last a (a :: t) : Int)) h := by unfold chosen at k; rw [if_pos e2] at k; exact k
    refine ZLoop.inv (fun q z h' => ∃ (j : Nat) (r : List Nat), ZAt 112 [(0, .pv false c 0), (1, .sl m), (2, .sl w), (7, .int .i64 (j : Int))] z ∧ h' = h ∧ r.length = q ∧ j + q = m.n ∧ (∀ i, (a :: t)[j + i]? = r[i]?) ∧ nextF last a r = nextF last a (a :: t)) (n := t.length + 1) hlf ⟨0, a :: t, ⟨rfl, rfl, rfl, rfl, rfl, trivial⟩, rfl, rfl, by omega, fun i => by rw [Nat.zero_add], rfl⟩ ?_
    rintro q z h' kk hq ⟨j, r, hz, rfl, hr, hj, hat, hb⟩ ih
    refine zAt_of _ hz fun d => (rch_b1 _ lf K _ _ _ _ _ _ _ _ _).mpr ?_
    simp only [zAnd_iff, eq_self, true_and, Nat.mul_one, zIdx_nat, zLdI_iff, cnd_dec, zW_iff]
    refine ⟨fun e => ?_, fun e => ?_⟩
    · cases r with
      | nil => simp only [List.length_nil] at hr; have := en m.n; omega
      | cons y r =>
        have hy0 := hat 0
        simp only [Nat.add_zero, List.getElem?_cons_zero] at hy0
        have hr' : r.length + 1 = q := by simpa using hr
        have hjm : j < m.len := by have := en m.n; omega
        refine ⟨hn, hjm, (y : Int), hm.at' hn j _ (iv_at hy0), last, cc 2, fun e3 => ⟨hn, hjm, (y : Int), hm.at' hn j _ (iv_at hy0), ?_⟩, fun e3 => ?_⟩
        · rw [← hb, show nextF last a (y :: r) = y from if_pos e3] at k; exact k
        · rw [i64_fit (by omega) (by omega)]
          refine ih (q - 1) _ _ (by omega) ⟨j + 1, r, ⟨rfl, rfl, rfl, rfl, rfl, trivial⟩, rfl, by omega, by omega, fun i => ?_, ?_⟩
          · have := hat (i + 1)
            rw [show j + 1 + i = j + (i + 1) by omega, this]; rfl
          · rw [← hb]; exact (if_neg e3).symm
    · have : r = [] := List.eq_nil_of_length_eq_zero (by have := en m.n; omega)
      subst this
      refine zAt_of (n := 112) [(1, .sl m)] ⟨rfl, rfl, trivial⟩ fun d' => (rch_a1 _ lf K _ _ _ _ _).mpr ?_
      simp only [zAnd_iff, eq_self, true_and, Nat.mul_one, zIdx_zero, zLdI_iff]
      refine ⟨hn, by omega, (a : Int), hm.at' hn 0 _ (iv_at (by simp)), ?_⟩
      rw [← hb] at k; exact k
  · by_cases hp : ps.length = 0
    · have k : K (.int .i64 (best ws a t : Int)) h := by unfold chosen at k; rw [if_neg e2, if_neg (fun x => x.2 hp)] at k; exact k
      rw [decide_eq_false (by have := en s.n; omega)]
      show _ ∧ _
      refine ⟨hn, ?_⟩
      simp only [zIdx_zero, zLdI_iff]
      refine ⟨by omega, (a : Int), hm.at' hn 0 _ (iv_at (by simp)), ?_⟩
      exact best_loop hw hm hlt hT hlf (fun z hz => zAt_of _ hz fun d => (rch_a2 _ lf K _ _ _).mpr k) ⟨rfl, rfl, rfl, rfl, rfl, rfl, trivial⟩
    · have k : K (.int .i64 (pickF ps cnt (a :: t) : Int)) h := by unfold chosen at k; rw [if_neg e2, if_pos ⟨e4, hp⟩] at k; exact k
      rw [decide_eq_true (by have := en s.n; omega)]
      show ZLdL _ _ _ _
      have hk : (cnt.toNat % ps.length) < ps.length := Nat.mod_lt _ (by omega)
      have hsnil := hs.nil_of hk
      have hslen := hs.len' hsnil
      obtain ⟨p, hp⟩ : ∃ p, ps[cnt.toNat % ps.length]? = some p := ⟨_, List.getElem?_eq_getElem hk⟩
      have hpd : ps.getD (cnt.toNat % ps.length) 0 = p := by rw [List.getD_eq_getElem?_getD, hp]; rfl
      have hrp := hr p (List.mem_of_getElem? hp)
      have key : Int.ofNat m.n = 0 → False := fun e => by have := en m.n; omega
      have fin : ∀ q : Int, q = pickI p → ZIdx (q.tmod (Int.ofNat m.n)) m.len fun m_2 => ∃ n, cellAt h m.i (m.o + m_2) = some (.int .i64 n) ∧ K (.int .i64 n) h := by
        rintro q rfl
        have hq0 : 0 ≤ pickI p := by unfold pickI; split <;> omega
        rw [tmod_nat hq0, zIdx_nat]
        have hlt2 : (pickI p).toNat % m.n < m.n := Nat.mod_lt _ (by omega)
        obtain ⟨y, hy⟩ : ∃ y, (a :: t)[(pickI p).toNat % m.n]? = some y := ⟨_, List.getElem?_eq_getElem (by rw [List.length_cons]; omega)⟩
        refine ⟨by omega, (y : Int), hm.at' hn _ _ (iv_at hy), ?_⟩
        have e3 : pickF ps cnt (a :: t) = y := by
          unfold pickF
          rw [hpd, List.length_cons, ← hml, List.getD_eq_getElem?_getD, hy]; rfl
        rw [e3] at k; exact k
      refine zLdL_of (cc 1) ⟨cnt, cc 3, zLdL_of (cc 1) ⟨fun e => by have := en s.n; omega, ?_⟩⟩
      rw [tmod_nat h0, zIdx_nat, hsn]
      refine ⟨hsnil, by omega, p, hs.at' hsnil _ _ hp, fun e2 => ⟨key, hn, ?_⟩, fun e2 => ⟨key, hn, ?_⟩⟩
      · rw [i64_fit (e := p + 1) (by omega) (by omega), i64_fit (by omega) (by omega)]
        exact fin _ (by unfold pickI; rw [if_pos e2])
      · exact fin _ (by unfold pickI; rw [if_neg e2])
  · have k : K (.int .i64 (best ws a t : Int)) h := by unfold chosen at k; rw [if_neg e2, if_neg (fun x => e4 x.1)] at k; exact k
    simp only [zIdx_zero]
    refine ⟨by omega, (a : Int), hm.at' hn 0 _ (iv_at (by simp)), ?_⟩
    exact best_loop hw hm hlt hT hlf (fun z hz => zAt_of _ hz fun d => (rch_a2 _ lf K _ _ _).mpr k) ⟨rfl, rfl, rfl, rfl, rfl, rfl, trivial⟩
theorem rchoose_ok (hS : ∀ f, f ≠ 7 → S f = none) {c : Nat} {w s : SL} {ws ps : List Int} {kd last cnt : Int} (hc : Chooser h c kd s last cnt) (hs : Ints h s ps) (hr : ∀ p, p ∈ ps → -9223372036854775808 ≤ p ∧ p ≤ 9223372036854775807) (h0 : 0 ≤ cnt) (h1 : cnt < 4611686018427387904)
    (hw : Ints h w ws) (hL : ws.length ≤ 134217728) (hlf : ws.length + 1 < lf)
    (bad : may ws ws.length = [] → ∀ h', Fram no h h' → K (.tup [.int .i64 0, .int .i64 162]) h')
    (good : ∀ a t, may ws ws.length = a :: t → ∀ h', Fram (fun i => i = c) h h' → Chooser h' c kd s (chosen kd ps ws last cnt a t) (cnt + 1) → K (.tup [.int .i64 (chosen kd ps ws last cnt a t), .int .i64 0]) h') :
    zCall Try.prog S lf (n + 2) 15 [.pv false c 0, .sl w] K h := by
  refine zCall_at (hS _ (by decide)) (by kernel_rfl) ?_
  rw [rchoose_nf]
  refine rmay_ok hS hw hL hlf fun h2 m f2 hm => ?_
  rw [av_sl]
  have hmn := hm.len
  rw [iv_len] at hmn
  have en : ∀ x : Nat, (Int.ofNat x : Int) = x := fun _ => rfl
  refine zRL_of (cnd_dec.2 ⟨fun e2 => bad (List.eq_nil_of_length_eq_zero (by have := en m.n; omega)) h2 f2, fun e2 => ?_⟩)
  obtain ⟨a, t, hat⟩ : ∃ a t, may ws ws.length = a :: t := by
    cases hx : may ws ws.length with
    | nil => rw [hx] at hmn; have := en m.n; simp only [List.length_nil] at hmn; omega
    | cons a t => exact ⟨a, t, rfl⟩
  rw [hat] at hm
  have hml := may_len ws ws.length
  rw [hat, List.length_cons] at hml
  have hlt : ∀ i, i ∈ a :: t → i < ws.length := fun i hi => (may_mem.1 (hat ▸ hi)).1
  have ch2 : Chooser h2 c kd s last cnt := ⟨Nat.lt_of_lt_of_le hc.lt f2.next, (f2.same _ hc.lt id).trans hc.get⟩
  refine rchosen_ok hS ch2 h0 (hs.fr f2 fun _ => id) hr (hw.fr f2 fun _ => id) hm hlt (by omega) (by omega) ?_
  simp only [av_int, zRI_av, zAnd_iff, eq_self, true_and, zLdI_iff, zW_iff]
  have gc5 := hput_get (o := 2) (vs := [.int .i64 (chosen kd ps ws last cnt a t : Int)]) ch2.get
  have gc6 := hput_get (o := 3) (vs := [.int .i64 (cnt + 1)]) gc5
  refine zPut_of ⟨ch2.lt, _, _, _, _, ch2.get, Nat.le_succ 3⟩ ⟨cnt, by rw [cellAt_of gc5]; rfl, zPut_of ⟨by rw [hput_next]; exact ch2.lt, _, _, _, _, gc5, Nat.le_refl 4⟩ ⟨chosen kd ps ws last cnt a t, ?_, ?_⟩⟩
  · rw [i64_fit (by omega) (by omega), cellAt_of gc6]; rfl
  · rw [i64_fit (by omega) (by omega)]
    refine good a t hat _ ?_ ⟨?_, gc6⟩
    · exact (f2.mono fun _ _ x => x.elim).trans ((Fram.hput (S := fun i => i = c) h2 2 _ fun _ => rfl).trans (Fram.hput (S := fun i => i = c) _ 3 _ fun _ => rfl))
    · rw [hput_next, hput_next]; exact ch2.lt
end
end PolN

namespace PolN
open Go Go.X Go.Proofs
set_option maxRecDepth 100000
/-! ## numbers that are lent, with marks behind them -/
def mk (l : List Int) (q : Nat) : Int := if q < l.length then l.getD q 0 else 7000 + q
def lentL (l : List Int) : List Int := (List.range (l.length + 3)).map (mk l)
@[simp] theorem lentL_len (l : List Int) : (lentL l).length = l.length + 3 := by simp [lentL]
theorem lentL_at {l : List Int} {q : Nat} (h : q < l.length + 3) : (lentL l)[q]? = some (mk l q) := by simp [lentL, h]
section
variable {S : ZSums} {lf n : Nat} {h : Heap} {K : ZK}
theorem lent_ok (hS : ∀ f, f ≠ 7 → S f = none) {s : SL} {l : List Int} (hs : Ints h s l) (hL : l.length ≤ 67108864) (hlf : l.length + 4 < lf)
    (k : ∀ h' xi, Fram no h h' → h.next ≤ xi → xi < h'.next → h'.get xi = some (.cells ((lentL l).map (AV.int .i64)) 1 false false) → K (.sl ⟨false, xi, 0, l.length + 3, l.length + 3, false⟩) h') :
    zCall Try.prog S lf (n + 1) 11 [.sl s] K h := by
  refine zCall_at (hS _ (by decide)) (by kernel_rfl) ?_
  rw [lent_nf]
  have en : ∀ x : Nat, (Int.ofNat x : Int) = x := fun _ => rfl
  have hn := hs.len
  refine zW_iff.2 ?_
  rw [hn, i64_fit (by have := en l.length; omega) (by have := en l.length; omega), show (Int.ofNat l.length + 3 : Int) = ((l.length + 3 : Nat) : Int) from rfl]
  have f1 : Fram no h (h.newO (.cells (List.replicate (l.length + 3) (AV.int .i64 0)) 1 false false)) := Fram.newO _ _ _
  have g1 : (h.newO (.cells (List.replicate (l.length + 3) (AV.int .i64 0)) 1 false false)).get h.next = _ := newO_get_self _ _
  refine zNat_nat.2 (zNat_nat.2 ⟨Nat.le_refl _, ⟨room3 (by omega), ?_⟩⟩)
  rw [List.flatten_replicate_singleton]
  refine (hs.fr f1 fun _ => id).zsrc (zPut_of ⟨Nat.lt_succ_self _, _, _, _, _, g1, ?_⟩ ⟨allPlain_ints _, ?_⟩)
  · rw [List.length_replicate]; omega
  have em : min (l.length + 3) l.length * 1 = (l.map (AV.int .i64)).length := by rw [List.length_map]; omega
  rw [em, List.take_length]
  have g2 := hput_get (o := 0) (vs := l.map (AV.int .i64)) g1
  have e2 : (List.replicate (l.length + 3) (AV.int .i64 0)).take 0 ++ (l.map (AV.int .i64) ++ (List.replicate (l.length + 3) (AV.int .i64 0)).drop (0 + (l.map (AV.int .i64)).length)) = (l ++ List.replicate 3 0).map (AV.int .i64) := by
    rw [List.take_zero, List.nil_append, Nat.zero_add, List.length_map, List.drop_replicate, List.map_append, List.map_replicate, show l.length + 3 - l.length = 3 by omega]
  rw [e2] at g2
  have f2 : Fram no h (hput (h.newO (.cells (List.replicate (l.length + 3) (AV.int .i64 0)) 1 false false)) h.next 0 (l.map (AV.int .i64))) := f1.behind (Fram.hput _ _ _ fun _ => Nat.le_refl _)
  refine ZLoop.inv (fun q z h' => ∃ (j : Nat) (ts : List Int), ZAt 26 [(0, .sl s), (3, .sl ⟨false, h.next, 0, l.length + 3, l.length + 3, false⟩), (4, .int .i64 (j : Int))] z ∧ Fram no h h' ∧ h.next < h'.next ∧ h'.get h.next = some (.cells (ts.map (AV.int .i64)) 1 false false) ∧ ts.length = l.length + 3 ∧ (∀ i, i < j → ts[i]? = some (mk l i)) ∧ j + q = l.length + 3) (n := 3) (by omega)
    ⟨l.length, l ++ List.replicate 3 0, ⟨rfl, rfl, rfl, rfl, trivial⟩, f2, by rw [hput_next]; exact Nat.lt_succ_self _, g2, by simp, fun i hi => ?_, rfl⟩ ?_
  · rw [List.getElem?_append_left hi]
    unfold mk; rw [if_pos hi]; simp [hi]
  rintro q z h' kk hq ⟨j, ts, hz, f, hlt, g, hts, hat, hj⟩ ih
  refine zAt_of _ hz fun d => (lent_b _ lf K _ _ _ _ _ _ _ _).mpr ?_
  rw [cnd_dec]
  refine ⟨fun e => ?_, fun e => ?_⟩
  · have hjl : j < l.length + 3 := by have := en (l.length + 3); have e : (j : Int) < Int.ofNat (l.length + 3) := e; omega
    have hjl2 : l.length ≤ j := by omega
    refine zW_iff.2 ⟨rfl, zIdx_nat.2 ⟨hjl, ⟨rfl, zPut_of ⟨hlt, _, _, _, _, g, by rw [List.length_map, hts]; show 0 + j * 1 + 1 ≤ _; omega⟩ (zW_iff.2 ?_)⟩⟩⟩
    rw [i64_fit (e := (j : Int) + 1) (by omega) (by omega), i64_fit (by omega) (by omega)]
    show kk _ (hput h' h.next (0 + j * 1) [AV.int .i64 (7000 + (j : Int))])
    rw [show 0 + j * 1 = j by omega]
    have g3 := hput_get (o := j) (vs := [AV.int .i64 (7000 + (j : Int))]) g
    refine ih (q - 1) _ _ (by omega) ⟨j + 1, ts.set j (7000 + (j : Int)), ⟨rfl, rfl, rfl, rfl, trivial⟩, f.behind (Fram.hput _ _ _ fun _ => Nat.le_refl _), by rw [hput_next]; exact hlt, ?_, by rw [List.length_set]; exact hts, fun i hi => ?_, by omega⟩
    · rw [g3]
      congr 1
      rw [List.set_eq_take_append_cons_drop, if_pos (by omega)]
      simp
    · by_cases e : i = j
      · subst e
        rw [List.getElem?_set_self (by omega)]
        unfold mk; rw [if_neg (by omega)]
      · rw [List.getElem?_set_ne (fun x => e x.symm)]
        exact hat i (by omega)
  · have hje : j = l.length + 3 := by have := en (l.length + 3); have e : ¬ (j : Int) < Int.ofNat (l.length + 3) := e; omega
    have ets : ts = lentL l := by
      apply List.ext_getElem?
      intro i
      by_cases hi : i < l.length + 3
      · rw [hat i (by omega), lentL_at hi]
      · rw [List.getElem?_eq_none (by omega), List.getElem?_eq_none (by rw [lentL_len]; omega)]
    rw [ets] at g
    exact zAt_of (n := 26) [(3, .sl ⟨false, h.next, 0, l.length + 3, l.length + 3, false⟩)] ⟨rfl, rfl, trivial⟩ fun d' => (lent_a _ lf K _ _ _).mpr (k h' h.next f (Nat.le_refl _) hlt g)
theorem stay_ok (hS : ∀ f, f ≠ 7 → S f = none) {s c : SL} {l : List Int} (hs : Ints h s l) (hc : Ints h c (lentL l)) (hL : l.length ≤ 67108864) (hlf : l.length + 4 < lf) (k : K (.bool true) h) :
    zCall Try.prog S lf (n + 1) 13 [.sl c, .sl s] K h := by
  refine zCall_at (hS _ (by decide)) (by kernel_rfl) ?_
  rw [stay_nf]
  have en : ∀ x : Nat, (Int.ofNat x : Int) = x := fun _ => rfl
  have hsn := hs.len
  have hcn := hc.len
  rw [lentL_len] at hcn
  have hcnil : c.nil = false := hc.nil_of (j := 0) (by rw [lentL_len]; omega)
  have hcl := hc.len' hcnil
  rw [lentL_len] at hcl
  refine ZLoop.inv (fun q z h' => ∃ (j : Nat), ZAt 42 [(0, .sl c), (1, .sl s), (5, .int .i64 (j : Int))] z ∧ h' = h ∧ j + q = l.length + 3) (n := l.length + 3) (by omega) ⟨0, ⟨rfl, rfl, rfl, rfl, trivial⟩, rfl, by omega⟩ ?_
  rintro q z h' kk hq ⟨j, hz, rfl, hj⟩ ih
  refine zAt_of _ hz fun d => (stay_b _ lf K _ _ _ _ _ _ _ _).mpr ?_
  rw [cnd_dec]
  refine ⟨fun e => ?_, fun e => ?_⟩
  · have hjl : j < l.length + 3 := by have := en c.n; omega
    have hcell := hc.at' hcnil j _ (lentL_at hjl)
    by_cases h1 : j < l.length
    · have hsnil := hs.nil_of h1
      have hsl := hs.len' hsnil
      obtain ⟨y, hy⟩ : ∃ y, l[j]? = some y := ⟨_, List.getElem?_eq_getElem h1⟩
      have emk : mk l j = y := by unfold mk; rw [if_pos h1, List.getD_eq_getElem?_getD, hy]; rfl
      rw [emk] at hcell
      rw [decide_eq_true (show (j : Int) < Int.ofNat s.n by have := en s.n; omega), decide_eq_false (show ¬ Int.ofNat s.n ≤ (j : Int) by have := en s.n; omega)]
      simp only [cnd_tP, cnd_fP, zAnd_iff, eq_self, true_and, zIdx_nat, Nat.mul_one, zLdI_iff, zW_iff]
      refine ⟨hcnil, by omega, y, hcell, hsnil, by omega, y, hs.at' hsnil _ _ hy, ?_⟩
      rw [i64_fit (by omega) (by omega)]
      simp only [eq_self, decide_true, Bool.not_true, cnd_f, cnd_t, cnd_fP]
      exact ih (q - 1) _ _ (by omega) ⟨j + 1, ⟨rfl, rfl, rfl, rfl, trivial⟩, rfl, by omega⟩
    · have emk : mk l j = 7000 + (j : Int) := by unfold mk; rw [if_neg h1]
      rw [emk] at hcell
      rw [decide_eq_false (show ¬ (j : Int) < Int.ofNat s.n by have := en s.n; omega), decide_eq_true (show Int.ofNat s.n ≤ (j : Int) by have := en s.n; omega)]
      simp only [cnd_tP, cnd_fP, zAnd_iff, eq_self, true_and, zIdx_nat, Nat.mul_one, zLdI_iff, zW_iff]
      refine ⟨hcnil, by omega, _, hcell, ?_⟩
      rw [i64_fit (e := (j : Int) + 1) (by omega) (by omega), i64_fit (by omega) (by omega)]
      simp only [eq_self, decide_true, Bool.not_true, cnd_f, cnd_t, cnd_fP]
      exact ih (q - 1) _ _ (by omega) ⟨j + 1, ⟨rfl, rfl, rfl, rfl, trivial⟩, rfl, by omega⟩
  · exact zAt_of (n := 42) [] ⟨rfl, trivial⟩ fun d' => (stay_a _ lf K _ _).mpr k
end
end PolN
