/-
  PROVED: 'banyanlaw16.PolicyAll' over heaps is true. Condition: its arguments read as slices.
-/
import Derived.Test.YtinihpeddhboeaaPb
import Derived.Test.YtinihpeddhboeaaChecked
set_option linter.unusedVariables false
set_option linter.unusedSimpArgs false

namespace PolN
open Go Go.X Go.Proofs
set_option linter.unusedVariables false
set_option maxRecDepth 100000
theorem all_nf (C : ZCall) (lf : Nat) (K : ZK) (h : Heap) (w s : SL) (kd : Int) :
  zAt Try.prog C lf 5 [] (padT (ntOf Try.prog 5) [.sl w, .agg [.int .i64 kd, .sl s]]) (zFin Try.prog 5 K) ⟨[], zFin Try.prog 5 K⟩ h =
  (C 7 []
  (fun v_1 h'_1 =>
    ZRB (ZV.av v_1) fun b_1 =>
      @cnd Prop (decide (46340 < Int.ofNat (SL.n w))) (K (ZV.bool b_1) h'_1)
        (ZLoop lf
          (zAt Try.prog C lf 5
            [1, 1, 1, 1, 0, 1, 0,
              0])
          [ZV.sl w, ZV.agg [ZV.int IntKind.i64 kd, ZV.sl s], ZV.tup [], ZV.pv false (Heap.next h) 0,
            ZV.bool false, ZV.bool b_1, ZV.int IntKind.i64 0, ZV.int IntKind.i64 0,
            ZV.tup [], ZV.tup [], ZV.tup [], ZV.tup [], ZV.tup [], ZV.tup [], ZV.tup [], ZV.tup [], ZV.tup [],
            ZV.tup [], ZV.tup [], ZV.tup [], ZV.tup [], ZV.tup [], ZV.tup [], ZV.bool b_1, ZV.sl w,
            ZV.int IntKind.i64 (Int.ofNat (SL.n w)), ZV.bool false, ZV.tup [], ZV.tup [], ZV.tup [], ZV.tup [],
            ZV.tup [], ZV.tup [], ZV.tup [], ZV.tup [], ZV.tup [], ZV.tup [], ZV.tup [], ZV.tup [], ZV.tup [],
            ZV.tup [], ZV.tup [], ZV.tup [], ZV.tup [], ZV.tup [], ZV.tup [], ZV.tup [], ZV.tup [], ZV.tup [],
            ZV.tup [], ZV.tup [], ZV.tup [], ZV.tup [], ZV.tup [], ZV.tup [], ZV.tup [], ZV.tup [], ZV.tup [],
            ZV.tup [], ZV.tup [], ZV.tup [], ZV.tup [], ZV.tup [], ZV.tup [], ZV.tup [], ZV.tup [], ZV.tup [],
            ZV.tup [], ZV.tup [], ZV.tup [], ZV.tup [], ZV.tup [], ZV.tup [], ZV.tup [], ZV.tup [], ZV.tup [],
            ZV.tup [], ZV.tup [], ZV.tup [], ZV.tup [], ZV.tup [], ZV.tup [], ZV.tup [], ZV.tup [], ZV.tup [],
            ZV.tup [], ZV.tup [], ZV.tup [], ZV.tup [], ZV.tup [], ZV.tup [], ZV.tup [], ZV.tup [], ZV.tup [],
            ZV.tup [], ZV.tup [], ZV.tup [], ZV.tup [], ZV.tup [], ZV.tup [], ZV.tup [], ZV.tup [], ZV.tup [],
            ZV.tup [], ZV.tup [], ZV.tup [], ZV.tup [], ZV.tup [], ZV.tup [], ZV.tup [], ZV.tup [], ZV.tup [],
            ZV.tup [], ZV.tup [], ZV.tup [], ZV.tup [], ZV.tup [], ZV.tup [], ZV.tup [], ZV.tup [], ZV.tup [],
            ZV.tup [], ZV.tup [], ZV.tup [], ZV.tup [], ZV.tup [], ZV.tup [], ZV.tup [], ZV.tup [], ZV.tup [],
            ZV.tup [], ZV.tup [], ZV.tup [], ZV.tup [], ZV.tup [], ZV.tup [], ZV.tup [], ZV.tup [], ZV.tup [],
            ZV.tup [], ZV.tup [], ZV.tup [], ZV.tup [], ZV.tup [], ZV.tup [], ZV.tup [], ZV.tup [], ZV.tup [],
            ZV.tup [], ZV.tup [], ZV.tup [], ZV.tup [], ZV.tup [], ZV.tup [], ZV.tup [], ZV.tup [], ZV.tup [],
            ZV.tup [], ZV.tup [], ZV.tup [], ZV.tup [], ZV.tup [], ZV.tup [], ZV.tup [], ZV.tup [], ZV.tup [],
            ZV.tup [], ZV.tup [], ZV.tup [], ZV.tup [], ZV.tup [], ZV.tup [], ZV.tup [], ZV.tup [], ZV.tup []]
          (KZ.mk
            ((0, fun z' h' =>
                zAt Try.prog C lf 5
                  [1, 1, 1, 1, 1] z'
                  (zFin Try.prog 5 K) (KZ.mk [] (zFin Try.prog 5 K)) h') ::
              KZ.env (KZ.mk [] (zFin Try.prog 5 K)))
            (KZ.ret (KZ.mk [] (zFin Try.prog 5 K))))
          h'_1))
  (Heap.newO h (AObj.cells [AV.int IntKind.i64 kd, SL.av s] 0 false false))) := by kernel_rfl

theorem all_b1 (C : ZCall) (lf : Nat) (K : ZK) (h : Heap) (w : SL) (b : Nat) (at' j : Int) (d : Nat → ZV) (k X : ZT → Heap → Prop) (E : List (Nat × (ZT → Heap → Prop))) :
  zAt Try.prog C lf 5 [1, 1, 1, 1, 0, 1, 0, 0] (zt (ntOf Try.prog 5) (ov [(0, .sl w), (3, .pv false b 0), (5, .bool true), (6, .int .i64 at'), (7, .int .i64 j)] d)) k ⟨(0, X) :: E, zFin Try.prog 5 K⟩ h =
  (@cnd Prop (decide (j < Int.ofNat (SL.n w)))
  (ZAnd (SL.nil w = false)
    (ZIdx j (SL.len w) fun m_1 =>
      ZAnd (false = false)
        (ZLdI h (SL.i w) (SL.o w + m_1 * 1) IntKind.i64 fun n_1 =>
          @cnd Prop (decide (n_1 ≤ 0))
            (ZW IntKind.i64 (j + 1) fun r_1 =>
              k
                [ZV.sl w, d 1, d 2, ZV.pv false b 0, d 4,
                  ZV.bool true, ZV.int IntKind.i64 at', ZV.int IntKind.i64 r_1, d 8, d 9,
                  d 10, d 11, d 12, d 13, d 14,
                  d 15, d 16, d 17, d 18, d 19,
                  d 20, d 21, d 22, d 23, d 24,
                  d 25, d 26, d 27, ZV.int IntKind.i64 j, ZV.sl w,
                  ZV.int IntKind.i64 (Int.ofNat (SL.n w)), ZV.bool true, ZV.int IntKind.i64 j, ZV.int IntKind.i64 r_1,
                  ZV.sl w, ZV.int IntKind.i64 j, ZV.pv false (SL.i w) (SL.o w + m_1 * 1),
                  ZV.int IntKind.i64 n_1, ZV.bool true, d 39, d 40, d 41,
                  d 42, d 43, d 44, d 45, d 46,
                  d 47, d 48, d 49, d 50, d 51,
                  d 52, d 53, d 54, d 55, d 56,
                  d 57, d 58, d 59, d 60, d 61,
                  d 62, d 63, d 64, d 65, d 66,
                  d 67, d 68, d 69, d 70, d 71,
                  d 72, d 73, d 74, d 75, d 76,
                  d 77, d 78, d 79, d 80, d 81,
                  d 82, d 83, d 84, d 85, d 86,
                  d 87, d 88, d 89, d 90, d 91,
                  d 92, d 93, d 94, d 95, d 96,
                  d 97, d 98, d 99, d 100, d 101,
                  d 102, d 103, d 104, d 105,
                  d 106, d 107, d 108, d 109,
                  d 110, d 111, d 112, d 113,
                  d 114, d 115, d 116, d 117,
                  d 118, d 119, d 120, d 121,
                  d 122, d 123, d 124, d 125,
                  d 126, d 127, d 128, d 129,
                  d 130, d 131, d 132, d 133,
                  d 134, d 135, d 136, d 137,
                  d 138, d 139, d 140, d 141,
                  d 142, d 143, d 144, d 145,
                  d 146, d 147, d 148, d 149,
                  d 150, d 151, d 152, d 153,
                  d 154, d 155, d 156, d 157,
                  d 158, d 159, d 160, d 161,
                  d 162, d 163, d 164, d 165,
                  d 166, d 167, d 168, d 169,
                  d 170, d 171, d 172, d 173,
                  d 174]
                h)
            (ZW IntKind.i64 (-1 - at') fun r_1 =>
              C 8
                [ZV.agg
                    [ZV.int IntKind.i64 4,
                      ZV.sl (SL.mk false (Heap.next h) 0 2 2 false)]]
                (fun v_1 h'_1 =>
                  ZRT (ZV.av v_1) 2 fun f_1 =>
                    ZRP (f_1 0) fun n_2 j_1 p_1 =>
                      ZRI (f_1 1) IntKind.i64 fun n_3 =>
                        @cnd Prop n_2 (K (ZV.bool false) h'_1)
                          (@cnd Prop (cnd false true !decide (n_3 = 0)) (K (ZV.bool false) h'_1)
                            (C 9 [ZV.pv n_2 j_1 p_1, ZV.sl w]
                              (fun v_2 h'_2 =>
                                ZRT (ZV.av v_2) 2 fun f_2 =>
                                  ZRI (f_2 0) IntKind.i64 fun n_4 =>
                                    ZRI (f_2 1) IntKind.i64 fun n_5 =>
                                      C 9 [ZV.pv n_2 j_1 p_1, ZV.sl w]
                                        (fun v_3 h'_3 =>
                                          ZRT (ZV.av v_3) 2 fun f_3 =>
                                            ZRI (f_3 0) IntKind.i64 fun n_6 =>
                                              ZRI (f_3 1) IntKind.i64 fun n_7 =>
                                                @cnd Prop (!decide (n_5 = 0)) (K (ZV.bool false) h'_3)
                                                  (@cnd Prop (cnd false true !decide (n_7 = 0))
                                                    (K (ZV.bool false) h'_3)
                                                    (@cnd Prop (cnd false true !decide (n_4 = j))
                                                      (K (ZV.bool false) h'_3)
                                                      (@cnd Prop (cnd false true !decide (n_6 = j))
                                                        (K (ZV.bool false) h'_3)
                                                        (ZW IntKind.i64 (at' + 1) fun r_2 =>
                                                          ZW IntKind.i64 (j + 1) fun r_3 =>
                                                            k
                                                              [ZV.sl w, d 1, d 2,
                                                                ZV.pv false b 0, d 4,
                                                                ZV.bool true, ZV.int IntKind.i64 r_2,
                                                                ZV.int IntKind.i64 r_3, ZV.pv n_2 j_1 p_1,
                                                                ZV.int IntKind.i64 n_3, ZV.int IntKind.i64 n_4,
                                                                ZV.int IntKind.i64 n_5, ZV.int IntKind.i64 n_6,
                                                                ZV.int IntKind.i64 n_7, d 14,
                                                                d 15, d 16,
                                                                d 17, d 18,
                                                                d 19, d 20,
                                                                d 21, d 22,
                                                                d 23, d 24,
                                                                d 25, d 26,
                                                                d 27, ZV.int IntKind.i64 j, ZV.sl w,
                                                                ZV.int IntKind.i64 (Int.ofNat (SL.n w)), ZV.bool true,
                                                                ZV.int IntKind.i64 j, ZV.int IntKind.i64 r_3, ZV.sl w,
                                                                ZV.int IntKind.i64 j,
                                                                ZV.pv false (SL.i w) (SL.o w + m_1 * 1),
                                                                ZV.int IntKind.i64 n_1, ZV.bool false,
                                                                ZV.tup [ZV.pv n_2 j_1 p_1, ZV.int IntKind.i64 n_3],
                                                                ZV.int IntKind.i64 at', ZV.int IntKind.i64 at',
                                                                ZV.int IntKind.i64 r_1,
                                                                ZV.sl
                                                                  (SL.mk false (Heap.next h) 0
                                                                    2 2 false),
                                                                ZV.agg
                                                                  [ZV.int IntKind.i64 4,
                                                                    ZV.sl
                                                                      (SL.mk false (Heap.next h) 0
                                                                        2 2 false)],
                                                                ZV.tup [ZV.pv n_2 j_1 p_1, ZV.int IntKind.i64 n_3],
                                                                ZV.pv n_2 j_1 p_1, ZV.int IntKind.i64 n_3,
                                                                ZV.pv n_2 j_1 p_1, ZV.bool n_2, ZV.bool false,
                                                                ZV.int IntKind.i64 n_3,
                                                                ZV.bool !decide (n_3 = 0), ZV.bool false,
                                                                ZV.tup [ZV.int IntKind.i64 n_4, ZV.int IntKind.i64 n_5],
                                                                ZV.pv n_2 j_1 p_1, ZV.sl w,
                                                                ZV.tup [ZV.int IntKind.i64 n_4, ZV.int IntKind.i64 n_5],
                                                                ZV.int IntKind.i64 n_4, ZV.int IntKind.i64 n_5,
                                                                ZV.tup [ZV.int IntKind.i64 n_6, ZV.int IntKind.i64 n_7],
                                                                ZV.pv n_2 j_1 p_1, ZV.sl w,
                                                                ZV.tup [ZV.int IntKind.i64 n_6, ZV.int IntKind.i64 n_7],
                                                                ZV.int IntKind.i64 n_6, ZV.int IntKind.i64 n_7,
                                                                ZV.int IntKind.i64 n_5,
                                                                ZV.bool !decide (n_5 = 0), ZV.bool false,
                                                                ZV.int IntKind.i64 n_7,
                                                                ZV.bool !decide (n_7 = 0),
                                                                ZV.bool (cnd false true !decide (n_7 = 0)),
                                                                ZV.bool false, ZV.int IntKind.i64 n_4,
                                                                ZV.int IntKind.i64 j, ZV.bool !decide (n_4 = j),
                                                                ZV.bool (cnd false true !decide (n_4 = j)),
                                                                ZV.bool false, ZV.int IntKind.i64 n_6,
                                                                ZV.int IntKind.i64 j, ZV.bool !decide (n_6 = j),
                                                                ZV.bool false, ZV.int IntKind.i64 at',
                                                                ZV.int IntKind.i64 r_2, d 84,
                                                                d 85, d 86,
                                                                d 87, d 88,
                                                                d 89, d 90,
                                                                d 91, d 92,
                                                                d 93, d 94,
                                                                d 95, d 96,
                                                                d 97, d 98,
                                                                d 99, d 100,
                                                                d 101, d 102,
                                                                d 103, d 104,
                                                                d 105, d 106,
                                                                d 107, d 108,
                                                                d 109, d 110,
                                                                d 111, d 112,
                                                                d 113, d 114,
                                                                d 115, d 116,
                                                                d 117, d 118,
                                                                d 119, d 120,
                                                                d 121, d 122,
                                                                d 123, d 124,
                                                                d 125, d 126,
                                                                d 127, d 128,
                                                                d 129, d 130,
                                                                d 131, d 132,
                                                                d 133, d 134,
                                                                d 135, d 136,
                                                                d 137, d 138,
                                                                d 139, d 140,
                                                                d 141, d 142,
                                                                d 143, d 144,
                                                                d 145, d 146,
                                                                d 147, d 148,
                                                                d 149, d 150,
                                                                d 151, d 152,
                                                                d 153, d 154,
                                                                d 155, d 156,
                                                                d 157, d 158,
                                                                d 159, d 160,
                                                                d 161, d 162,
                                                                d 163, d 164,
                                                                d 165, d 166,
                                                                d 167, d 168,
                                                                d 169, d 170,
                                                                d 171, d 172,
                                                                d 173, d 174]
                                                              h'_3)))))
                                        h'_2)
                              h'_1)))
                (Heap.newO h
                  (AObj.cells [AV.int IntKind.i64 at', AV.int IntKind.i64 r_1] 1 false false))))))
  (X
    [ZV.sl w, d 1, d 2, ZV.pv false b 0, d 4, ZV.bool true,
      ZV.int IntKind.i64 at', ZV.int IntKind.i64 j, d 8, d 9, d 10,
      d 11, d 12, d 13, d 14, d 15,
      d 16, d 17, d 18, d 19, d 20,
      d 21, d 22, d 23, d 24, d 25,
      d 26, d 27, ZV.int IntKind.i64 j, ZV.sl w, ZV.int IntKind.i64 (Int.ofNat (SL.n w)),
      ZV.bool false, d 32, d 33, d 34, d 35, d 36,
      d 37, d 38, d 39, d 40, d 41,
      d 42, d 43, d 44, d 45, d 46,
      d 47, d 48, d 49, d 50, d 51,
      d 52, d 53, d 54, d 55, d 56,
      d 57, d 58, d 59, d 60, d 61,
      d 62, d 63, d 64, d 65, d 66,
      d 67, d 68, d 69, d 70, d 71,
      d 72, d 73, d 74, d 75, d 76,
      d 77, d 78, d 79, d 80, d 81,
      d 82, d 83, d 84, d 85, d 86,
      d 87, d 88, d 89, d 90, d 91,
      d 92, d 93, d 94, d 95, d 96,
      d 97, d 98, d 99, d 100, d 101,
      d 102, d 103, d 104, d 105, d 106,
      d 107, d 108, d 109, d 110, d 111,
      d 112, d 113, d 114, d 115, d 116,
      d 117, d 118, d 119, d 120, d 121,
      d 122, d 123, d 124, d 125, d 126,
      d 127, d 128, d 129, d 130, d 131,
      d 132, d 133, d 134, d 135, d 136,
      d 137, d 138, d 139, d 140, d 141,
      d 142, d 143, d 144, d 145, d 146,
      d 147, d 148, d 149, d 150, d 151,
      d 152, d 153, d 154, d 155, d 156,
      d 157, d 158, d 159, d 160, d 161,
      d 162, d 163, d 164, d 165, d 166,
      d 167, d 168, d 169, d 170, d 171,
      d 172, d 173, d 174]
    h)) := by kernel_rfl

theorem all_a1 (C : ZCall) (lf : Nat) (K : ZK) (h : Heap) (w : SL) (b : Nat) (at' : Int) (d : Nat → ZV) :
  zAt Try.prog C lf 5 [1, 1, 1, 1, 1] (zt (ntOf Try.prog 5) (ov [(0, .sl w), (3, .pv false b 0), (5, .bool true), (6, .int .i64 at')] d)) (zFin Try.prog 5 K) ⟨[], zFin Try.prog 5 K⟩ h =
  (ZAnd (false = false)
  (ZLdI h b 0 IntKind.i64 fun n_1 =>
    ZLdL h b 1 fun s_1 =>
      C 8 [ZV.agg [ZV.int IntKind.i64 n_1, ZV.sl s_1]]
        (fun v_1 h'_1 =>
          ZRT (ZV.av v_1) 2 fun f_1 =>
            ZRP (f_1 0) fun n_2 j_1 p_1 =>
              ZRI (f_1 1) IntKind.i64 fun n_3 =>
                ZAnd (false = false)
                  (ZLdI h'_1 b 0 IntKind.i64 fun n_4 =>
                    ZLdL h'_1 b 1 fun s_2 =>
                      C 8 [ZV.agg [ZV.int IntKind.i64 n_4, ZV.sl s_2]]
                        (fun v_2 h'_2 =>
                          ZRT (ZV.av v_2) 2 fun f_2 =>
                            ZRP (f_2 0) fun n_5 j_2 p_2 =>
                              ZRI (f_2 1) IntKind.i64 fun n_6 =>
                                @cnd Prop (cnd false true !decide (n_3 = n_6)) (K (ZV.bool false) h'_2)
                                  (@cnd Prop (cnd false true !decide (n_2 = n_5)) (K (ZV.bool false) h'_2)
                                    (ZAnd (false = false)
                                      (ZLdI h'_2 b 0 IntKind.i64 fun n_7 =>
                                        ZLdL h'_2 b 1 fun s_3 =>
                                          C 10 [ZV.agg [ZV.int IntKind.i64 n_7, ZV.sl s_3]]
                                            (fun v_3 h'_3 =>
                                              ZRI (ZV.av v_3) IntKind.i64 fun n_8 =>
                                                @cnd Prop (cnd false true !decide (n_3 = n_8)) (K (ZV.bool false) h'_3)
                                                  (@cnd Prop n_2 (K (ZV.bool (decide (n_3 = 161))) h'_3)
                                                    (ZLoop lf
                                                      (zAt Try.prog C lf 5
                                                        [1, 1, 1, 1,
                                                          1, 1, 1, 1,
                                                          1, 0, 1, 0,
                                                          0])
                                                      [ZV.sl w, d 1, d 2,
                                                        ZV.pv false b 0, d 4, ZV.bool true,
                                                        ZV.int IntKind.i64 at', d 7, d 8,
                                                        d 9, d 10, d 11,
                                                        d 12, d 13, ZV.pv n_2 j_1 p_1,
                                                        ZV.int IntKind.i64 n_3, ZV.pv n_5 j_2 p_2,
                                                        ZV.int IntKind.i64 n_6, ZV.int IntKind.i64 0,
                                                        d 19, d 20, d 21,
                                                        d 22, d 23, d 24,
                                                        d 25, d 26, d 27,
                                                        d 28, d 29, d 30,
                                                        d 31, d 32, d 33,
                                                        d 34, d 35, d 36,
                                                        d 37, d 38, d 39,
                                                        d 40, d 41, d 42,
                                                        d 43, d 44, d 45,
                                                        d 46, d 47, d 48,
                                                        d 49, d 50, d 51,
                                                        d 52, d 53, d 54,
                                                        d 55, d 56, d 57,
                                                        d 58, d 59, d 60,
                                                        d 61, d 62, d 63,
                                                        d 64, d 65, d 66,
                                                        d 67, d 68, d 69,
                                                        d 70, d 71, d 72,
                                                        d 73, d 74, d 75,
                                                        d 76, d 77, d 78,
                                                        d 79, d 80, d 81,
                                                        d 82, d 83,
                                                        ZV.tup [ZV.pv n_2 j_1 p_1, ZV.int IntKind.i64 n_3],
                                                        ZV.agg [ZV.int IntKind.i64 n_1, ZV.sl s_1],
                                                        ZV.tup [ZV.pv n_2 j_1 p_1, ZV.int IntKind.i64 n_3],
                                                        ZV.pv n_2 j_1 p_1, ZV.int IntKind.i64 n_3,
                                                        ZV.tup [ZV.pv n_5 j_2 p_2, ZV.int IntKind.i64 n_6],
                                                        ZV.agg [ZV.int IntKind.i64 n_4, ZV.sl s_2],
                                                        ZV.tup [ZV.pv n_5 j_2 p_2, ZV.int IntKind.i64 n_6],
                                                        ZV.pv n_5 j_2 p_2, ZV.int IntKind.i64 n_6, ZV.bool true,
                                                        ZV.bool false, ZV.bool false, ZV.int IntKind.i64 n_3,
                                                        ZV.int IntKind.i64 n_6, ZV.bool !decide (n_3 = n_6),
                                                        ZV.bool (cnd false true !decide (n_3 = n_6)), ZV.bool false,
                                                        ZV.pv n_2 j_1 p_1, ZV.bool n_2, ZV.pv n_5 j_2 p_2, ZV.bool n_5,
                                                        ZV.bool !decide (n_2 = n_5),
                                                        ZV.bool (cnd false true !decide (n_2 = n_5)), ZV.bool false,
                                                        ZV.int IntKind.i64 n_3,
                                                        ZV.agg [ZV.int IntKind.i64 n_7, ZV.sl s_3],
                                                        ZV.int IntKind.i64 n_8, ZV.bool !decide (n_3 = n_8),
                                                        ZV.bool false, ZV.pv n_2 j_1 p_1, ZV.bool false,
                                                        d 116, d 117, d 118,
                                                        d 119, d 120, d 121,
                                                        d 122, d 123, d 124,
                                                        d 125, d 126, d 127,
                                                        d 128, d 129, d 130,
                                                        d 131, d 132, d 133,
                                                        d 134, d 135, d 136,
                                                        d 137, d 138, d 139,
                                                        d 140, d 141, d 142,
                                                        d 143, d 144, d 145,
                                                        d 146, d 147, d 148,
                                                        d 149, d 150, d 151,
                                                        d 152, d 153, d 154,
                                                        d 155, d 156, d 157,
                                                        d 158, d 159, d 160,
                                                        d 161, d 162, d 163,
                                                        d 164, d 165, d 166,
                                                        d 167, d 168, d 169,
                                                        d 170, d 171, d 172,
                                                        d 173, d 174]
                                                      (KZ.mk
                                                        ((2, fun z' h' =>
                                                            zAt Try.prog C lf 5
                                                              [1, 1, 1,
                                                                1, 1, 1,
                                                                1, 1, 1,
                                                                1]
                                                              z' (zFin Try.prog 5 K)
                                                              (KZ.mk [] (zFin Try.prog 5 K)) h') ::
                                                          KZ.env (KZ.mk [] (zFin Try.prog 5 K)))
                                                        (KZ.ret (KZ.mk [] (zFin Try.prog 5 K))))
                                                      h'_3)))
                                            h'_2))))
                        h'_1))
        h)) := by kernel_rfl

theorem all_b2 (C : ZCall) (lf : Nat) (K : ZK) (h : Heap) (w : SL) (c e : Nat) (at' j : Int) (d : Nat → ZV) (k X : ZT → Heap → Prop) (E : List (Nat × (ZT → Heap → Prop))) :
  zAt Try.prog C lf 5 [1, 1, 1, 1, 1, 1, 1, 1, 1, 0, 1, 0, 0] (zt (ntOf Try.prog 5) (ov [(0, .sl w), (6, .int .i64 at'), (14, .pv false c 0), (16, .pv false e 0), (18, .int .i64 j)] d)) k ⟨(2, X) :: E, zFin Try.prog 5 K⟩ h =
  (@cnd Prop (decide (j < 5))
  (C 9 [ZV.pv false c 0, ZV.sl w]
    (fun v_1 h'_1 =>
      ZRT (ZV.av v_1) 2 fun f_1 =>
        ZRI (f_1 0) IntKind.i64 fun n_1 =>
          ZRI (f_1 1) IntKind.i64 fun n_2 =>
            C 9 [ZV.pv false e 0, ZV.sl w]
              (fun v_2 h'_2 =>
                ZRT (ZV.av v_2) 2 fun f_2 =>
                  ZRI (f_2 0) IntKind.i64 fun n_3 =>
                    ZRI (f_2 1) IntKind.i64 fun n_4 =>
                      @cnd Prop (!decide (n_1 = n_3)) (K (ZV.bool false) h'_2)
                        (@cnd Prop (cnd false true !decide (n_2 = n_4)) (K (ZV.bool false) h'_2)
                          (@cnd Prop (decide (0 < at'))
                            (@cnd Prop (!decide (n_2 = 0)) (K (ZV.bool false) h'_2)
                              (@cnd Prop (cnd false true (decide (n_1 < 0))) (K (ZV.bool false) h'_2)
                                (@cnd Prop (cnd false true (decide (Int.ofNat (SL.n w) ≤ n_1))) (K (ZV.bool false) h'_2)
                                  (ZAnd (SL.nil w = false)
                                    (ZIdx n_1 (SL.len w) fun m_1 =>
                                      ZAnd (false = false)
                                        (ZLdI h'_2 (SL.i w) (SL.o w + m_1 * 1) IntKind.i64 fun n_5 =>
                                          @cnd Prop
                                            (cnd false true
                                              (cnd true (cnd false true (decide (n_5 ≤ 0))) false))
                                            (K (ZV.bool false) h'_2)
                                            (@cnd Prop (decide (at' = 0))
                                              (@cnd Prop
                                                (cnd false true (cnd true (!decide (n_2 = 162)) false))
                                                (K (ZV.bool false) h'_2)
                                                (ZW IntKind.i64 (j + 1) fun r_1 =>
                                                  k
                                                    [ZV.sl w, d 1, d 2, d 3,
                                                      d 4, d 5, ZV.int IntKind.i64 at',
                                                      d 7, d 8, d 9,
                                                      d 10, d 11, d 12,
                                                      d 13, ZV.pv false c 0,
                                                      d 15, ZV.pv false e 0,
                                                      d 17, ZV.int IntKind.i64 r_1,
                                                      ZV.int IntKind.i64 n_1, ZV.int IntKind.i64 n_2,
                                                      ZV.int IntKind.i64 n_3, ZV.int IntKind.i64 n_4,
                                                      d 23, d 24, d 25,
                                                      d 26, d 27, d 28,
                                                      d 29, d 30, d 31,
                                                      d 32, d 33, d 34,
                                                      d 35, d 36, d 37,
                                                      d 38, d 39, d 40,
                                                      d 41, d 42, d 43,
                                                      d 44, d 45, d 46,
                                                      d 47, d 48, d 49,
                                                      d 50, d 51, d 52,
                                                      d 53, d 54, d 55,
                                                      d 56, d 57, d 58,
                                                      d 59, d 60, d 61,
                                                      d 62, d 63, d 64,
                                                      d 65, d 66, d 67,
                                                      d 68, d 69, d 70,
                                                      d 71, d 72, d 73,
                                                      d 74, d 75, d 76,
                                                      d 77, d 78, d 79,
                                                      d 80, d 81, d 82,
                                                      d 83, d 84, d 85,
                                                      d 86, d 87, d 88,
                                                      d 89, d 90, d 91,
                                                      d 92, d 93, d 94,
                                                      d 95, d 96, d 97,
                                                      d 98, d 99, d 100,
                                                      d 101, d 102, d 103,
                                                      d 104, d 105, d 106,
                                                      d 107, d 108, d 109,
                                                      d 110, d 111, d 112,
                                                      d 113, d 114, d 115,
                                                      d 116, d 117, ZV.int IntKind.i64 j,
                                                      ZV.bool true, ZV.int IntKind.i64 j, ZV.int IntKind.i64 r_1,
                                                      ZV.tup [ZV.int IntKind.i64 n_1, ZV.int IntKind.i64 n_2],
                                                      ZV.pv false c 0, ZV.sl w,
                                                      ZV.tup [ZV.int IntKind.i64 n_1, ZV.int IntKind.i64 n_2],
                                                      ZV.int IntKind.i64 n_1, ZV.int IntKind.i64 n_2,
                                                      ZV.tup [ZV.int IntKind.i64 n_3, ZV.int IntKind.i64 n_4],
                                                      ZV.pv false e 0, ZV.sl w,
                                                      ZV.tup [ZV.int IntKind.i64 n_3, ZV.int IntKind.i64 n_4],
                                                      ZV.int IntKind.i64 n_3, ZV.int IntKind.i64 n_4,
                                                      ZV.int IntKind.i64 n_1, ZV.int IntKind.i64 n_3,
                                                      ZV.bool !decide (n_1 = n_3), ZV.bool false,
                                                      ZV.int IntKind.i64 n_2, ZV.int IntKind.i64 n_4,
                                                      ZV.bool !decide (n_2 = n_4),
                                                      ZV.bool (cnd false true !decide (n_2 = n_4)), ZV.bool false,
                                                      ZV.int IntKind.i64 at', ZV.bool (decide (0 < at')),
                                                      ZV.bool true, ZV.int IntKind.i64 n_2,
                                                      ZV.bool !decide (n_2 = 0), ZV.bool false,
                                                      ZV.int IntKind.i64 n_1, ZV.bool (decide (n_1 < 0)),
                                                      ZV.bool (cnd false true (decide (n_1 < 0))),
                                                      ZV.bool false, ZV.int IntKind.i64 n_1, ZV.sl w,
                                                      ZV.int IntKind.i64 (Int.ofNat (SL.n w)),
                                                      ZV.bool (decide (Int.ofNat (SL.n w) ≤ n_1)),
                                                      ZV.bool (cnd false true (decide (Int.ofNat (SL.n w) ≤ n_1))),
                                                      ZV.bool false, ZV.sl w, ZV.int IntKind.i64 n_1,
                                                      ZV.pv false (SL.i w) (SL.o w + m_1 * 1),
                                                      ZV.int IntKind.i64 n_5, ZV.bool (decide (n_5 ≤ 0)),
                                                      ZV.bool (cnd false true (decide (n_5 ≤ 0))),
                                                      ZV.bool
                                                        (cnd true (cnd false true (decide (n_5 ≤ 0)))
                                                          false),
                                                      ZV.bool
                                                        (cnd false true
                                                          (cnd true (cnd false true (decide (n_5 ≤ 0)))
                                                            false)),
                                                      ZV.bool false, ZV.int IntKind.i64 at',
                                                      ZV.bool (decide (at' = 0)), ZV.bool true,
                                                      ZV.int IntKind.i64 n_2, ZV.bool !decide (n_2 = 162),
                                                      ZV.bool (cnd true (!decide (n_2 = 162)) false),
                                                      ZV.bool false]
                                                    h'_2))
                                              (ZW IntKind.i64 (j + 1) fun r_1 =>
                                                k
                                                  [ZV.sl w, d 1, d 2, d 3,
                                                    d 4, d 5, ZV.int IntKind.i64 at',
                                                    d 7, d 8, d 9,
                                                    d 10, d 11, d 12,
                                                    d 13, ZV.pv false c 0,
                                                    d 15, ZV.pv false e 0,
                                                    d 17, ZV.int IntKind.i64 r_1, ZV.int IntKind.i64 n_1,
                                                    ZV.int IntKind.i64 n_2, ZV.int IntKind.i64 n_3,
                                                    ZV.int IntKind.i64 n_4, d 23, d 24,
                                                    d 25, d 26, d 27,
                                                    d 28, d 29, d 30,
                                                    d 31, d 32, d 33,
                                                    d 34, d 35, d 36,
                                                    d 37, d 38, d 39,
                                                    d 40, d 41, d 42,
                                                    d 43, d 44, d 45,
                                                    d 46, d 47, d 48,
                                                    d 49, d 50, d 51,
                                                    d 52, d 53, d 54,
                                                    d 55, d 56, d 57,
                                                    d 58, d 59, d 60,
                                                    d 61, d 62, d 63,
                                                    d 64, d 65, d 66,
                                                    d 67, d 68, d 69,
                                                    d 70, d 71, d 72,
                                                    d 73, d 74, d 75,
                                                    d 76, d 77, d 78,
                                                    d 79, d 80, d 81,
                                                    d 82, d 83, d 84,
                                                    d 85, d 86, d 87,
                                                    d 88, d 89, d 90,
                                                    d 91, d 92, d 93,
                                                    d 94, d 95, d 96,
                                                    d 97, d 98, d 99,
                                                    d 100, d 101, d 102,
                                                    d 103, d 104, d 105,
                                                    d 106, d 107, d 108,
                                                    d 109, d 110, d 111,
                                                    d 112, d 113, d 114,
                                                    d 115, d 116, d 117,
                                                    ZV.int IntKind.i64 j, ZV.bool true, ZV.int IntKind.i64 j,
                                                    ZV.int IntKind.i64 r_1,
                                                    ZV.tup [ZV.int IntKind.i64 n_1, ZV.int IntKind.i64 n_2],
                                                    ZV.pv false c 0, ZV.sl w,
                                                    ZV.tup [ZV.int IntKind.i64 n_1, ZV.int IntKind.i64 n_2],
                                                    ZV.int IntKind.i64 n_1, ZV.int IntKind.i64 n_2,
                                                    ZV.tup [ZV.int IntKind.i64 n_3, ZV.int IntKind.i64 n_4],
                                                    ZV.pv false e 0, ZV.sl w,
                                                    ZV.tup [ZV.int IntKind.i64 n_3, ZV.int IntKind.i64 n_4],
                                                    ZV.int IntKind.i64 n_3, ZV.int IntKind.i64 n_4,
                                                    ZV.int IntKind.i64 n_1, ZV.int IntKind.i64 n_3,
                                                    ZV.bool !decide (n_1 = n_3), ZV.bool false, ZV.int IntKind.i64 n_2,
                                                    ZV.int IntKind.i64 n_4, ZV.bool !decide (n_2 = n_4),
                                                    ZV.bool (cnd false true !decide (n_2 = n_4)), ZV.bool false,
                                                    ZV.int IntKind.i64 at', ZV.bool (decide (0 < at')),
                                                    ZV.bool true, ZV.int IntKind.i64 n_2,
                                                    ZV.bool !decide (n_2 = 0), ZV.bool false,
                                                    ZV.int IntKind.i64 n_1, ZV.bool (decide (n_1 < 0)),
                                                    ZV.bool (cnd false true (decide (n_1 < 0))),
                                                    ZV.bool false, ZV.int IntKind.i64 n_1, ZV.sl w,
                                                    ZV.int IntKind.i64 (Int.ofNat (SL.n w)),
                                                    ZV.bool (decide (Int.ofNat (SL.n w) ≤ n_1)),
                                                    ZV.bool (cnd false true (decide (Int.ofNat (SL.n w) ≤ n_1))),
                                                    ZV.bool false, ZV.sl w, ZV.int IntKind.i64 n_1,
                                                    ZV.pv false (SL.i w) (SL.o w + m_1 * 1),
                                                    ZV.int IntKind.i64 n_5, ZV.bool (decide (n_5 ≤ 0)),
                                                    ZV.bool (cnd false true (decide (n_5 ≤ 0))),
                                                    ZV.bool
                                                      (cnd true (cnd false true (decide (n_5 ≤ 0))) false),
                                                    ZV.bool
                                                      (cnd false true
                                                        (cnd true (cnd false true (decide (n_5 ≤ 0)))
                                                          false)),
                                                    ZV.bool false, ZV.int IntKind.i64 at',
                                                    ZV.bool (decide (at' = 0)), ZV.bool false, ZV.tup [],
                                                    ZV.tup [], ZV.bool false, ZV.bool false]
                                                  h'_2))))))))
                            (@cnd Prop (decide (at' = 0))
                              (@cnd Prop (cnd false true (cnd true (!decide (n_2 = 162)) false))
                                (K (ZV.bool false) h'_2)
                                (ZW IntKind.i64 (j + 1) fun r_1 =>
                                  k
                                    [ZV.sl w, d 1, d 2, d 3,
                                      d 4, d 5, ZV.int IntKind.i64 at', d 7,
                                      d 8, d 9, d 10, d 11,
                                      d 12, d 13, ZV.pv false c 0,
                                      d 15, ZV.pv false e 0, d 17,
                                      ZV.int IntKind.i64 r_1, ZV.int IntKind.i64 n_1, ZV.int IntKind.i64 n_2,
                                      ZV.int IntKind.i64 n_3, ZV.int IntKind.i64 n_4, d 23,
                                      d 24, d 25, d 26, d 27,
                                      d 28, d 29, d 30, d 31,
                                      d 32, d 33, d 34, d 35,
                                      d 36, d 37, d 38, d 39,
                                      d 40, d 41, d 42, d 43,
                                      d 44, d 45, d 46, d 47,
                                      d 48, d 49, d 50, d 51,
                                      d 52, d 53, d 54, d 55,
                                      d 56, d 57, d 58, d 59,
                                      d 60, d 61, d 62, d 63,
                                      d 64, d 65, d 66, d 67,
                                      d 68, d 69, d 70, d 71,
                                      d 72, d 73, d 74, d 75,
                                      d 76, d 77, d 78, d 79,
                                      d 80, d 81, d 82, d 83,
                                      d 84, d 85, d 86, d 87,
                                      d 88, d 89, d 90, d 91,
                                      d 92, d 93, d 94, d 95,
                                      d 96, d 97, d 98, d 99,
                                      d 100, d 101, d 102,
                                      d 103, d 104, d 105,
                                      d 106, d 107, d 108,
                                      d 109, d 110, d 111,
                                      d 112, d 113, d 114,
                                      d 115, d 116, d 117,
                                      ZV.int IntKind.i64 j, ZV.bool true, ZV.int IntKind.i64 j, ZV.int IntKind.i64 r_1,
                                      ZV.tup [ZV.int IntKind.i64 n_1, ZV.int IntKind.i64 n_2],
                                      ZV.pv false c 0, ZV.sl w,
                                      ZV.tup [ZV.int IntKind.i64 n_1, ZV.int IntKind.i64 n_2], ZV.int IntKind.i64 n_1,
                                      ZV.int IntKind.i64 n_2, ZV.tup [ZV.int IntKind.i64 n_3, ZV.int IntKind.i64 n_4],
                                      ZV.pv false e 0, ZV.sl w,
                                      ZV.tup [ZV.int IntKind.i64 n_3, ZV.int IntKind.i64 n_4], ZV.int IntKind.i64 n_3,
                                      ZV.int IntKind.i64 n_4, ZV.int IntKind.i64 n_1, ZV.int IntKind.i64 n_3,
                                      ZV.bool !decide (n_1 = n_3), ZV.bool false, ZV.int IntKind.i64 n_2,
                                      ZV.int IntKind.i64 n_4, ZV.bool !decide (n_2 = n_4),
                                      ZV.bool (cnd false true !decide (n_2 = n_4)), ZV.bool false,
                                      ZV.int IntKind.i64 at', ZV.bool (decide (0 < at')), ZV.bool false,
                                      ZV.tup [], ZV.tup [], ZV.tup [], ZV.tup [], ZV.tup [], ZV.tup [], ZV.tup [],
                                      ZV.tup [], ZV.tup [], ZV.tup [], ZV.tup [], ZV.tup [], ZV.tup [], ZV.tup [],
                                      ZV.tup [], ZV.tup [], ZV.tup [], ZV.tup [], ZV.tup [], ZV.bool false,
                                      ZV.bool false, ZV.bool false, ZV.int IntKind.i64 at',
                                      ZV.bool (decide (at' = 0)), ZV.bool true, ZV.int IntKind.i64 n_2,
                                      ZV.bool !decide (n_2 = 162),
                                      ZV.bool (cnd true (!decide (n_2 = 162)) false), ZV.bool false]
                                    h'_2))
                              (ZW IntKind.i64 (j + 1) fun r_1 =>
                                k
                                  [ZV.sl w, d 1, d 2, d 3, d 4,
                                    d 5, ZV.int IntKind.i64 at', d 7, d 8,
                                    d 9, d 10, d 11, d 12,
                                    d 13, ZV.pv false c 0, d 15,
                                    ZV.pv false e 0, d 17, ZV.int IntKind.i64 r_1,
                                    ZV.int IntKind.i64 n_1, ZV.int IntKind.i64 n_2, ZV.int IntKind.i64 n_3,
                                    ZV.int IntKind.i64 n_4, d 23, d 24, d 25,
                                    d 26, d 27, d 28, d 29,
                                    d 30, d 31, d 32, d 33,
                                    d 34, d 35, d 36, d 37,
                                    d 38, d 39, d 40, d 41,
                                    d 42, d 43, d 44, d 45,
                                    d 46, d 47, d 48, d 49,
                                    d 50, d 51, d 52, d 53,
                                    d 54, d 55, d 56, d 57,
                                    d 58, d 59, d 60, d 61,
                                    d 62, d 63, d 64, d 65,
                                    d 66, d 67, d 68, d 69,
                                    d 70, d 71, d 72, d 73,
                                    d 74, d 75, d 76, d 77,
                                    d 78, d 79, d 80, d 81,
                                    d 82, d 83, d 84, d 85,
                                    d 86, d 87, d 88, d 89,
                                    d 90, d 91, d 92, d 93,
                                    d 94, d 95, d 96, d 97,
                                    d 98, d 99, d 100, d 101,
                                    d 102, d 103, d 104, d 105,
                                    d 106, d 107, d 108, d 109,
                                    d 110, d 111, d 112, d 113,
                                    d 114, d 115, d 116, d 117,
                                    ZV.int IntKind.i64 j, ZV.bool true, ZV.int IntKind.i64 j, ZV.int IntKind.i64 r_1,
                                    ZV.tup [ZV.int IntKind.i64 n_1, ZV.int IntKind.i64 n_2],
                                    ZV.pv false c 0, ZV.sl w,
                                    ZV.tup [ZV.int IntKind.i64 n_1, ZV.int IntKind.i64 n_2], ZV.int IntKind.i64 n_1,
                                    ZV.int IntKind.i64 n_2, ZV.tup [ZV.int IntKind.i64 n_3, ZV.int IntKind.i64 n_4],
                                    ZV.pv false e 0, ZV.sl w,
                                    ZV.tup [ZV.int IntKind.i64 n_3, ZV.int IntKind.i64 n_4], ZV.int IntKind.i64 n_3,
                                    ZV.int IntKind.i64 n_4, ZV.int IntKind.i64 n_1, ZV.int IntKind.i64 n_3,
                                    ZV.bool !decide (n_1 = n_3), ZV.bool false, ZV.int IntKind.i64 n_2,
                                    ZV.int IntKind.i64 n_4, ZV.bool !decide (n_2 = n_4),
                                    ZV.bool (cnd false true !decide (n_2 = n_4)), ZV.bool false, ZV.int IntKind.i64 at',
                                    ZV.bool (decide (0 < at')), ZV.bool false, ZV.tup [], ZV.tup [],
                                    ZV.tup [], ZV.tup [], ZV.tup [], ZV.tup [], ZV.tup [], ZV.tup [], ZV.tup [],
                                    ZV.tup [], ZV.tup [], ZV.tup [], ZV.tup [], ZV.tup [], ZV.tup [], ZV.tup [],
                                    ZV.tup [], ZV.tup [], ZV.tup [], ZV.bool false, ZV.bool false, ZV.bool false,
                                    ZV.int IntKind.i64 at', ZV.bool (decide (at' = 0)), ZV.bool false,
                                    ZV.tup [], ZV.tup [], ZV.bool false, ZV.bool false]
                                  h'_2)))))
              h'_1)
    h)
  (X
    [ZV.sl w, d 1, d 2, d 3, d 4, d 5,
      ZV.int IntKind.i64 at', d 7, d 8, d 9, d 10,
      d 11, d 12, d 13, ZV.pv false c 0, d 15,
      ZV.pv false e 0, d 17, ZV.int IntKind.i64 j, d 19, d 20,
      d 21, d 22, d 23, d 24, d 25,
      d 26, d 27, d 28, d 29, d 30,
      d 31, d 32, d 33, d 34, d 35,
      d 36, d 37, d 38, d 39, d 40,
      d 41, d 42, d 43, d 44, d 45,
      d 46, d 47, d 48, d 49, d 50,
      d 51, d 52, d 53, d 54, d 55,
      d 56, d 57, d 58, d 59, d 60,
      d 61, d 62, d 63, d 64, d 65,
      d 66, d 67, d 68, d 69, d 70,
      d 71, d 72, d 73, d 74, d 75,
      d 76, d 77, d 78, d 79, d 80,
      d 81, d 82, d 83, d 84, d 85,
      d 86, d 87, d 88, d 89, d 90,
      d 91, d 92, d 93, d 94, d 95,
      d 96, d 97, d 98, d 99, d 100,
      d 101, d 102, d 103, d 104, d 105,
      d 106, d 107, d 108, d 109, d 110,
      d 111, d 112, d 113, d 114, d 115,
      d 116, d 117, ZV.int IntKind.i64 j, ZV.bool false, d 120,
      d 121, d 122, d 123, d 124, d 125,
      d 126, d 127, d 128, d 129, d 130,
      d 131, d 132, d 133, d 134, d 135,
      d 136, d 137, d 138, d 139, d 140,
      d 141, d 142, d 143, d 144, d 145,
      d 146, d 147, d 148, d 149, d 150,
      d 151, d 152, d 153, d 154, d 155,
      d 156, d 157, d 158, d 159, d 160,
      d 161, d 162, d 163, d 164, d 165,
      d 166, d 167, d 168, d 169, d 170,
      d 171, d 172, d 173, d 174]
    h)) := by kernel_rfl

theorem all_a2 (C : ZCall) (lf : Nat) (K : ZK) (h : Heap) (d : Nat → ZV) :
  zAt Try.prog C lf 5 [1, 1, 1, 1, 1, 1, 1, 1, 1, 1] (zt (ntOf Try.prog 5) (ov [] d)) (zFin Try.prog 5 K) ⟨[], zFin Try.prog 5 K⟩ h =
  (K (ZV.bool true) h) := by kernel_rfl

end PolN

namespace PolN
open Go Go.X Go.Proofs
set_option maxRecDepth 100000
/-! ## PolicyAll: the plain law -/
theorem may_split {ws : List Int} {j : Nat} (hw : 0 < wt ws j) : ∀ {n : Nat}, j < n → ∃ R, may ws n = may ws j ++ j :: R
  | 0, h => absurd h (Nat.not_lt_zero _)
  | n + 1, h => by
    rw [may_succ]
    by_cases e : j = n
    · subst e
      exact ⟨[], by rw [if_pos hw]⟩
    · obtain ⟨R, hR⟩ := may_split hw (n := n) (by omega)
      exact ⟨R ++ (if 0 < wt ws n then [n] else []), by rw [hR]; simp⟩
theorem best_mem (ws : List Int) : ∀ (l : List Nat) (b : Nat), best ws b l ∈ b :: l
  | [], b => by simp [best]
  | i :: l, b => by
    show best ws (if wt ws b < wt ws i then i else b) l ∈ _
    have := best_mem ws l (if wt ws b < wt ws i then i else b)
    rw [List.mem_cons] at this
    rcases this with h | h
    · rw [h]; split <;> simp
    · simp [h]
theorem nextF_mem (last : Int) (a : Nat) : ∀ (l : List Nat), nextF last a l ∈ a :: l
  | [] => by simp [nextF]
  | i :: l => by
    show (if last < (i : Int) then i else nextF last a l) ∈ _
    split
    · simp
    · have := nextF_mem last a l
      rw [List.mem_cons] at this
      rcases this with h | h
      · rw [h]; simp
      · simp [h]
theorem pickF_mem (ps : List Int) (cnt : Int) (a : Nat) (t : List Nat) : pickF ps cnt (a :: t) ∈ a :: t := by
  unfold pickF
  have : (pickI (ps.getD (cnt.toNat % ps.length) 0)).toNat % (a :: t).length < (a :: t).length := Nat.mod_lt _ (by simp)
  rw [List.getD_eq_getElem?_getD, List.getElem?_eq_getElem this]
  exact List.getElem_mem this
theorem chosen_mem (kd : Int) (ps ws : List Int) (last cnt : Int) (a : Nat) (t : List Nat) : chosen kd ps ws last cnt a t ∈ a :: t := by
  unfold chosen
  split
  · have := nextF_mem last a (a :: t)
    simpa using this
  · split
    · exact pickF_mem _ _ _ _
    · exact best_mem _ _ _
theorem picked_two {ws : List Int} {j : Nat} {last cnt : Int} {a : Nat} {t : List Nat} (hj : j < ws.length) (hw : 0 < wt ws j) (hat : may ws ws.length = a :: t) (hc : cnt = 0 ∨ cnt = 1) :
    chosen 4 [((may ws j).length : Int), -1 - ((may ws j).length : Int)] ws last cnt a t = j := by
  unfold chosen
  rw [if_neg (by decide), if_pos ⟨rfl, by simp⟩]
  unfold pickF
  have hp : pickI ([((may ws j).length : Int), -1 - ((may ws j).length : Int)].getD (cnt.toNat % 2) 0) = ((may ws j).length : Int) := by
    rcases hc with rfl | rfl
    · show pickI ((may ws j).length : Int) = _
      unfold pickI; rw [if_neg (by omega)]
    · show pickI (-1 - ((may ws j).length : Int)) = _
      unfold pickI; rw [if_pos (by omega)]; omega
  obtain ⟨R, hR⟩ := may_split hw hj
  rw [hat] at hR
  show (a :: t).getD ((pickI ([((may ws j).length : Int), -1 - ((may ws j).length : Int)].getD (cnt.toNat % 2) 0)).toNat % (a :: t).length) 0 = j
  rw [hp, Int.toNat_natCast, hR]
  have hlt : (may ws j).length < (may ws j ++ j :: R).length := by simp
  rw [Nat.mod_eq_of_lt hlt, List.getD_eq_getElem?_getD, List.getElem?_append_right (Nat.le_refl _)]
  simp
/-! ## .. the walk -/
section
variable {lf n : Nat} {h : Heap} {K : ZK}
theorem Held.other {h0 h h' : Heap} {c d : Nat} {k : Int} {s : SL} {ps : List Int} {last cnt : Int} (x : Held h0 h d k s ps last cnt) (f : Fram (fun i => i = c) h h') (hd : d ≠ c) (hs : s.nil = false → s.i ≠ c) (hc : h0.next ≤ c) : Held h0 h' d k s ps last cnt :=
  ⟨x.fr.behind (f.mono fun i _ e => by show h0.next ≤ i; omega), x.new, ⟨Nat.lt_of_lt_of_le x.ch.lt f.next, (f.same _ x.ch.lt hd).trans x.ch.get⟩, x.ints.fr f hs, x.ne⟩
theorem all_ok {w s : SL} {ws ps : List Int} {kd : Int} (hw : Ints h w ws) (hs : Ints h s ps) (hr : ∀ p, p ∈ ps → -9223372036854775808 ≤ p ∧ p ≤ 9223372036854775807) (hlf2 : 46342 < lf) :
    zCall Try.prog S7 lf (n + 6) 5 [.sl w, .agg [.int .i64 kd, .sl s]] (fun v _ => v.av = .bool true) h := by
  refine zCall_at (hS7 _ (by decide)) (by kernel_rfl) ?_
  rw [all_nf]
  have en : ∀ x : Nat, (Int.ofNat x : Int) = x := fun _ => rfl
  refine shown_ok ?_
  simp only [av_bool, zRB_av, cnd_dec]
  refine ⟨fun _ => trivial, fun e0 => ?_⟩
  have hwn := hw.len
  have hsn := hs.len
  have hws : ws.length ≤ 46340 := by have := en w.n; omega
  obtain ⟨h0, hh0⟩ : ∃ h0, h0 = h.newO (.cells [.int .i64 kd, s.av] 0 false false) := ⟨_, rfl⟩
  have f0 : Fram no h h0 := by rw [hh0]; exact Fram.newO _ _ _
  have g0 : h0.get h.next = some (.cells [.int .i64 kd, s.av] 0 false false) := by rw [hh0]; exact newO_get_self _ _
  have l0 : h.next < h0.next := by rw [hh0]; exact Nat.lt_succ_self _
  rw [← hh0]
  clear hh0
  have hw := hw.fr f0 fun _ => id
  have hs := hs.fr f0 fun _ => id
  refine ZLoop.inv (fun q z h' => ∃ (j : Nat), ZAt 175 [(0, .sl w), (3, .pv false h.next 0), (5, .bool true), (6, .int .i64 ((may ws j).length : Int)), (7, .int .i64 (j : Int))] z ∧ Fram no h0 h' ∧ j + q = ws.length) (n := ws.length) (by omega)
    ⟨0, ⟨rfl, rfl, rfl, rfl, rfl, rfl, trivial⟩, Fram.refl _ _, by omega⟩ ?_
  rintro q z h1 kk hq ⟨j, hz, f1, hj⟩ ih
  refine zAt_of _ hz fun d => (all_b1 _ lf (fun v _ => v.av = .bool true) _ _ _ _ _ _ _ _ _).mpr ?_
  simp only [zAnd_iff, eq_self, true_and, zIdx_nat, cnd_dec, zW_iff, Nat.mul_one, zLdI_iff]
  refine ⟨fun e => ?_, fun e => ?_⟩
  · have hjl : j < ws.length := by have := en w.n; omega
    have hn := hw.nil_of hjl
    have hl := hw.len' hn
    have hml := may_len ws j
    refine ⟨hn, by omega, wt ws j, (hw.fr f1 fun _ => id).at' hn _ _ (wt_at hjl), fun e2 => ?_, fun e2 => ?_⟩
    · rw [i64_fit (by omega) (by omega)]
      refine ih (q - 1) _ _ (by omega) ⟨j + 1, ⟨rfl, rfl, rfl, rfl, ?_, rfl, trivial⟩, f1, by omega⟩
      show ZV.int .i64 ((may ws j).length : Int) = _
      rw [may_succ, if_neg (by omega), List.append_nil]
    · have hwj : 0 < wt ws j := by omega
      rw [i64_fit (e := (j : Int) + 1) (by omega) (by omega), i64_fit (e := ((may ws j).length : Int) + 1) (by omega) (by omega), i64_fit (e := -1 - ((may ws j).length : Int)) (by omega) (by omega)]
      have f2 : Fram no h1 (h1.newO (.cells [.int .i64 ((may ws j).length : Int), .int .i64 (-1 - ((may ws j).length : Int))] 1 false false)) := Fram.newO _ _ _
      have own : Ints (h1.newO (.cells [.int .i64 ((may ws j).length : Int), .int .i64 (-1 - ((may ws j).length : Int))] 1 false false)) ⟨false, h1.next, 0, 2, 2, false⟩ [((may ws j).length : Int), -1 - ((may ws j).length : Int)] :=
        Ints.own rfl (Nat.lt_succ_self _) (newO_get_self _ _)
      refine new_ok hS7 own (fun e => by cases (show (0 : Int) = 161 from e)) fun _ h2 c s1 f3 hc1 ch1 is1 ne1 => zRT_pi ?_
      have H2 : Held h0 h2 c 4 s1 _ (-1) 0 := ⟨f1.trans (f2.trans f3), Nat.le_trans f1.next (Nat.le_trans f2.next hc1), ch1, is1, fun e => (ne1 e).2⟩
      have hrr : ∀ p, p ∈ [((may ws j).length : Int), -1 - ((may ws j).length : Int)] → -9223372036854775808 ≤ p ∧ p ≤ 9223372036854775807 := by
        intro p hp
        rcases List.mem_cons.1 hp with rfl | hp
        · omega
        · rcases List.mem_cons.1 hp with rfl | hp
          · omega
          · cases hp
      have hmj : j ∈ may ws ws.length := may_mem.2 ⟨hjl, hwj⟩
      simp only [eq_self, decide_true, Bool.not_true, cnd_f, cnd_fP]
      refine choose_ok hS7 (by omega) H2.ch H2.ints hrr (by omega) (by omega) (hw.fr H2.fr fun _ => id) (by omega) (by omega) (fun e5 _ _ => by rw [e5] at hmj; cases hmj) fun a t hat h5 f5 ch5 => zRT_ii ?_
      have H5 := H2.go f5 ch5
      refine choose_ok hS7 (by omega) H5.ch H5.ints hrr (by omega) (by omega) (hw.fr H5.fr fun _ => id) (by omega) (by omega) (fun e5 _ _ => by rw [e5] at hmj; cases hmj) fun a2 t2 hat2 h6 f6 ch6 => zRT_ii ?_
      have H6 := H5.go f6 ch6
      rw [picked_two hjl hwj hat (.inl rfl), picked_two (cnt := 0 + 1) hjl hwj hat2 (.inr rfl)]
      simp only [eq_self, decide_true, Bool.not_true, cnd_f, cnd_fP]
      refine ih (q - 1) _ _ (by omega) ⟨j + 1, ⟨rfl, rfl, rfl, rfl, ?_, rfl, trivial⟩, H6.fr, by omega⟩
      show ZV.int .i64 ((may ws j).length + 1 : Int) = _
      rw [may_succ, if_pos hwj, List.length_append]; rfl
  have hje : j = ws.length := by have := en w.n; omega
  subst hje
  clear ih hz e hq hj
  have hml := may_len ws ws.length
  refine zAt_of (n := 175) [(0, .sl w), (3, .pv false h.next 0), (5, .bool true), (6, .int .i64 ((may ws ws.length).length : Int))] ⟨rfl, rfl, rfl, rfl, rfl, trivial⟩ fun d3 => (all_a1 _ lf (fun v _ => v.av = .bool true) _ _ _ _ _).mpr ?_
  have cb : ∀ h', Fram no h0 h' → ∀ o, cellAt h' h.next o = [AV.int .i64 kd, s.av][o]? := fun h' f o => cellAt_of ((f.same _ l0 id).trans g0)
  simp only [zAnd_iff, eq_self, true_and, zLdI_iff]
  refine ⟨kd, cb h1 f1 0, zLdL_of (s := s) (cb h1 f1 1) ?_⟩
  have hk : checkE kd ps.length = 0 → 1 ≤ kd ∧ kd ≤ 4 := by
    intro e; unfold checkE at e; split at e
    · cases e
    · omega
  refine new_ok hS7 (hs.fr f1 fun _ => id) (fun e h2 f2 => zRT_pi ?_) fun e h2 c s1 f2 hc1 ch1 is1 ne1 => zRT_pi ?_
  · have f12 := f1.trans f2
    refine ⟨kd, cb h2 f12 0, zLdL_of (s := s) (cb h2 f12 1) ?_⟩
    refine new_ok hS7 (hs.fr f12 fun _ => id) (fun _ h3 f3 => zRT_pi ?_) fun e2 => by rw [e] at e2; cases e2
    have f13 := f12.trans f3
    show ∃ n, _
    refine ⟨kd, cb h3 f13 0, zLdL_of (s := s) (cb h3 f13 1) ?_⟩
    refine check_ok hS7 fun h4 f4 => ?_
    rw [hsn, e]
    simp only [av_int, zRI_av]
    exact rfl
  · have H2 : Held h0 h2 c kd s1 ps (-1) 0 := ⟨f1.trans f2, Nat.le_trans f1.next hc1, ch1, is1, fun e => (ne1 e).2⟩
    refine ⟨kd, cb h2 H2.fr 0, zLdL_of (s := s) (cb h2 H2.fr 1) ?_⟩
    refine new_ok hS7 (hs.fr H2.fr fun _ => id) (fun e2 => by rw [e] at e2; cases e2) fun _ h3 c2 s2 f3 hc2 ch2 is2 ne2 => zRT_pi ?_
    have H3 := H2.stay f3
    have G3 : Held h0 h3 c2 kd s2 ps (-1) 0 := ⟨H2.fr.trans f3, Nat.le_trans H2.fr.next hc2, ch2, is2, fun e => (ne2 e).2⟩
    have hcc : c ≠ c2 := by have := H2.ch.lt; omega
    have hsc : s2.nil = false → s2.i ≠ c := fun e => by have := (ne2 e).1; have := H2.ch.lt; omega
    have hsc1 : s1.nil = false → s1.i ≠ c2 := fun e => by have := H2.ints.lt e; omega
    show ∃ n, _
    refine ⟨kd, cb h3 G3.fr 0, zLdL_of (s := s) (cb h3 G3.fr 1) ?_⟩
    refine check_ok hS7 fun h4 f4 => ?_
    rw [hsn, e]
    simp only [av_int, zRI_av]
    show ZLoop _ _ _ _ _
    have kd14 := hk e
    refine ZLoop.inv (fun q z h' => ∃ (j cnt : Nat) (last : Int), ZAt 175 [(0, .sl w), (6, .int .i64 ((may ws ws.length).length : Int)), (14, .pv false c 0), (16, .pv false c2 0), (18, .int .i64 (j : Int))] z ∧ Held h0 h' c kd s1 ps last cnt ∧ Held h0 h' c2 kd s2 ps last cnt ∧ cnt ≤ j ∧ j + q = 5) (n := 5) (by omega)
      ⟨0, 0, -1, ⟨rfl, rfl, rfl, rfl, rfl, rfl, trivial⟩, H3.stay f4, G3.stay f4, Nat.le_refl _, rfl⟩ ?_
    clear H2 H3 G3 f1 f2 f3 f4 hc1 ch1 is1 ne1 hc2 ch2 is2 ne2
    rintro q z h' kk hq ⟨j, cnt, last, hz, H, G, hcj, hj⟩ ih
    refine zAt_of _ hz fun d => (all_b2 _ lf (fun v _ => v.av = .bool true) _ _ _ _ _ _ _ _ _ _).mpr ?_
    rw [cnd_dec]
    refine ⟨fun e2 => ?_, fun e2 => ?_⟩
    · refine choose_ok hS7 kd14 H.ch H.ints hr (by omega) (by omega) (hw.fr H.fr fun _ => id) (by omega) (by omega) (fun e5 h5 f5 => zRT_ii ?_) fun a t hat h5 f5 ch5 => zRT_ii ?_
      · have H5 := H.stay f5
        have G5 := G.stay f5
        refine choose_ok hS7 kd14 G5.ch G5.ints hr (by omega) (by omega) (hw.fr G5.fr fun _ => id) (by omega) (by omega) (fun _ h6 f6 => zRT_ii ?_) fun a t hat => by rw [e5] at hat; cases hat
        have l0' : (may ws ws.length).length = 0 := by rw [e5]; rfl
        simp only [l0']
        show ZW _ _ _
        simp only [zW_iff]
        rw [i64_fit (by omega) (by omega)]
        exact ih (q - 1) _ _ (by omega) ⟨j + 1, cnt, last, ⟨rfl, rfl, by rw [l0']; rfl, rfl, rfl, rfl, trivial⟩, H5.stay f6, G5.stay f6, by omega, by omega⟩
      · have H5 := H.go f5 ch5
        have G5 := G.other f5 (Ne.symm hcc) hsc H.new
        refine choose_ok hS7 kd14 G5.ch G5.ints hr (by omega) (by omega) (hw.fr G5.fr fun _ => id) (by omega) (by omega) (fun e5 => by rw [e5] at hat; cases hat) fun a2 t2 hat2 h6 f6 ch6 => zRT_ii ?_
        have H6 := H5.other f6 hcc hsc1 G.new
        have G6 := G5.go f6 ch6
        obtain ⟨rfl, rfl⟩ := List.cons.inj (hat.symm.trans hat2)
        have hx := may_mem.1 (hat ▸ chosen_mem kd ps ws last cnt a t : chosen kd ps ws last cnt a t ∈ may ws ws.length)
        obtain ⟨x, hxe⟩ : ∃ x, x = chosen kd ps ws last cnt a t := ⟨_, rfl⟩
        rw [← hxe] at H6 G6 hx ⊢
        have hn := hw.nil_of hx.1
        have hl := hw.len' hn
        have l1 : (may ws ws.length).length = t.length + 1 := by rw [hat]; rfl
        have d1 : decide ((x : Int) = x) = true := decide_eq_true rfl
        have d2 : decide ((0 : Int) < (may ws ws.length).length) = true := decide_eq_true (by omega)
        have d3 : decide ((x : Int) < 0) = false := decide_eq_false (by omega)
        have d4 : decide (Int.ofNat w.n ≤ (x : Int)) = false := decide_eq_false (by have := en w.n; omega)
        have d5 : decide (((may ws ws.length).length : Int) = 0) = false := decide_eq_false (by omega)
        have d6 : decide (wt ws x ≤ 0) = false := decide_eq_false (by have := hx.2; omega)
        rw [d1, d2, d3, d4, d5]
        show ZAnd _ _
        simp only [zAnd_iff, eq_self, true_and, zIdx_nat, Nat.mul_one, zLdI_iff]
        refine ⟨hn, by omega, wt ws x, (hw.fr H6.fr fun _ => id).at' hn _ _ (wt_at hx.1), ?_⟩
        rw [d6]
        show ZW _ _ _
        simp only [zW_iff]
        rw [i64_fit (by omega) (by omega)]
        exact ih (q - 1) _ _ (by omega) ⟨j + 1, cnt + 1, _, ⟨rfl, rfl, rfl, rfl, rfl, rfl, trivial⟩, H6, G6, by omega, by omega⟩
    · refine zAt_of (n := 175) [] ⟨rfl, trivial⟩ fun d4 => (all_a2 _ lf (fun v _ => v.av = .bool true) _ _).mpr ?_
      exact rfl
end
end PolN
