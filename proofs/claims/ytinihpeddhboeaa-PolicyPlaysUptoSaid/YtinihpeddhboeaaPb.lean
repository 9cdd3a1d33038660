/-
  PROVED: 'banyanlaw16.PolicyRound' over heaps is true. Condition: its arguments read as slices.
-/
import Derived.Test.YtinihpeddhboeaaPa
import Derived.Test.YtinihpeddhboeaaChecked
set_option linter.unusedVariables false
set_option linter.unusedSimpArgs false

namespace PolN
open Go Go.X Go.Proofs
/-! ## a Round chooses each once: the plain law -/
theorem nextF_split {last : Int} {a b : Nat} {Q : List Nat} (hb : last < (b : Int)) : ∀ {L : List Nat}, (∀ i, i ∈ L → (i : Int) ≤ last) → nextF last a (L ++ b :: Q) = b
  | [], _ => if_pos hb
  | i :: L, h => by
    have hi := h i (by simp)
    show (if last < (i : Int) then i else nextF last a (L ++ b :: Q)) = b
    rw [if_neg (by omega)]
    exact nextF_split hb fun j hj => h j (by simp [hj])
theorem nextF_none {last : Int} {a : Nat} : ∀ {L : List Nat}, (∀ i, i ∈ L → (i : Int) ≤ last) → nextF last a L = a
  | [], _ => rfl
  | i :: L, h => by
    have hi := h i (by simp)
    show (if last < (i : Int) then i else nextF last a L) = a
    rw [if_neg (by omega)]
    exact nextF_none fun j hj => h j (by simp [hj])
/-- what is still to be chosen, in order -/
def Left (M : List Nat) (last : Int) (V : List Nat) : Prop :=
  (∃ M1 A Q, M = (M1 ++ A) ++ Q ∧ (∀ i, i ∈ M1 ++ A → (i : Int) ≤ last) ∧ (∀ i, i ∈ Q → last < (i : Int)) ∧ V = Q ++ M1) ∨
  (∃ L M2, M = L ++ (V ++ M2) ∧ (∀ i, i ∈ L → (i : Int) ≤ last) ∧ (∀ i, i ∈ V → last < (i : Int)))
theorem sorted_split (last : Int) : ∀ {M : List Nat}, M.Pairwise (· < ·) → ∃ L Q, M = L ++ Q ∧ (∀ i, i ∈ L → (i : Int) ≤ last) ∧ (∀ i, i ∈ Q → last < (i : Int))
  | [], _ => ⟨[], [], rfl, by simp, by simp⟩
  | a :: M, p => by
    rw [List.pairwise_cons] at p
    by_cases h : (a : Int) ≤ last
    · obtain ⟨L, Q, e, h1, h2⟩ := sorted_split last p.2
      refine ⟨a :: L, Q, by rw [e]; rfl, ?_, h2⟩
      intro i hi
      rcases List.mem_cons.1 hi with rfl | hi
      · exact h
      · exact h1 i hi
    · refine ⟨[], a :: M, rfl, by simp, ?_⟩
      intro i hi
      rcases List.mem_cons.1 hi with rfl | hi
      · omega
      · have := p.1 i hi; omega
theorem Left.start {M : List Nat} (last : Int) (p : M.Pairwise (· < ·)) : ∃ V, Left M last V ∧ V.length = M.length ∧ V.Nodup ∧ ∀ i, i ∈ V → i ∈ M := by
  obtain ⟨L, Q, e, h1, h2⟩ := sorted_split last p
  have hn : M.Nodup := p.imp fun h => Nat.ne_of_lt h
  refine ⟨Q ++ L, .inl ⟨L, [], Q, by rw [List.append_nil]; exact e, by rw [List.append_nil]; exact h1, h2, rfl⟩, ?_, ?_, ?_⟩
  · rw [e, List.length_append, List.length_append, Nat.add_comm]
  · rw [e] at hn
    exact (List.perm_append_comm.nodup_iff).1 hn
  · intro i hi
    rw [e]
    rw [List.mem_append] at hi ⊢
    exact hi.symm
theorem Left.step {M : List Nat} {a : Nat} {t : List Nat} {last : Int} {b : Nat} {V : List Nat} (hM : M = a :: t) (p : M.Pairwise (· < ·)) (h : Left M last (b :: V)) : nextF last a M = b ∧ Left M b V := by
  rcases h with ⟨M1, A, Q, e, h1, h2, hV⟩ | ⟨L, M2, e, h1, h2⟩
  · cases Q with
    | cons q Q =>
      rw [List.cons_append] at hV
      obtain ⟨rfl, rfl⟩ := List.cons.inj hV
      refine ⟨by rw [e]; exact nextF_split (h2 b (by simp)) h1, .inl ⟨M1, A ++ [b], Q, by rw [e]; simp, ?_, ?_, rfl⟩⟩
      · intro i hi
        rw [← List.append_assoc, List.mem_append] at hi
        rcases hi with hi | hi
        · have := h1 i hi; have := h2 b (by simp); omega
        · have : i = b := by simpa using hi
          omega
      · intro i hi
        rw [e, List.pairwise_append] at p
        have := (List.pairwise_cons.1 p.2.1).1 i hi
        omega
    | nil =>
      have hV : b :: V = M1 := hV
      subst hV
      rw [List.append_nil] at e
      have e2 : a = b := by rw [hM] at e; exact (List.cons.inj e).1
      subst e2
      refine ⟨by rw [e]; exact nextF_none h1, .inr ⟨[a], A, by rw [e]; simp, ?_, ?_⟩⟩
      · intro i hi
        have : i = a := by simpa using hi
        omega
      · intro i hi
        rw [e, List.pairwise_append] at p
        have := (List.pairwise_cons.1 p.1).1 i hi
        omega
  · refine ⟨by rw [e]; exact nextF_split (h2 b (by simp)) h1, .inr ⟨L ++ [b], M2, by rw [e]; simp, ?_, ?_⟩⟩
    · intro i hi
      rw [List.mem_append] at hi
      rcases hi with hi | hi
      · have := h1 i hi; have := h2 b (by simp); omega
      · have : i = b := by simpa using hi
        omega
    · intro i hi
      rw [e, List.pairwise_append] at p
      have := (List.pairwise_cons.1 p.2.1).1 i (by simp [hi])
      omega
end PolN

namespace PolN
open Go Go.X Go.Proofs
set_option linter.unusedVariables false
set_option maxRecDepth 100000
theorem round_b1 (C : ZCall) (lf : Nat) (K : ZK) (h : Heap) (w s : SL) (c : Nat) (j : Int) (d : Nat → ZV) (k X : ZT → Heap → Prop) (E : List (Nat × (ZT → Heap → Prop))) :
  zAt Try.prog C lf 4 [1, 1, 1, 1, 1, 0, 1, 0, 0] (zt (ntOf Try.prog 4) (ov [(0, .sl w), (1, .sl s), (6, .pv false c 0), (8, .int .i64 j)] d)) k ⟨(0, X) :: E, zFin Try.prog 4 K⟩ h =
  (@cnd Prop (decide (j < Int.ofNat (SL.n s)))
  (ZAnd (SL.nil s = false)
    (ZIdx j (SL.len s) fun m_1 =>
      ZAnd (false = false)
        (ZAnd (false = false)
          (ZLdL h (SL.i s) (Nat.add (SL.o s + m_1 * 2) 1) fun s_1 =>
            C 9 [ZV.pv false c 0, ZV.sl s_1]
              (fun v_1 h'_1 =>
                ZRT (ZV.av v_1) 2 fun f_1 =>
                  ZRI (f_1 0) IntKind.i64 fun n_1 =>
                    ZRI (f_1 1) IntKind.i64 fun n_2 =>
                      ZW IntKind.i64 (j + 1) fun r_1 =>
                        k
                          [ZV.sl w, ZV.sl s, d 2, d 3, d 4, d 5,
                            ZV.pv false c 0, d 7, ZV.int IntKind.i64 r_1, d 9,
                            d 10, d 11, d 12, d 13,
                            d 14, d 15, d 16, d 17,
                            d 18, d 19, d 20, d 21,
                            d 22, d 23, d 24, d 25,
                            d 26, d 27, d 28, d 29,
                            d 30, d 31, d 32, d 33,
                            d 34, d 35, d 36, ZV.int IntKind.i64 j, ZV.sl s,
                            ZV.int IntKind.i64 (Int.ofNat (SL.n s)), ZV.bool true, ZV.int IntKind.i64 j,
                            ZV.int IntKind.i64 r_1, ZV.pv false c 0, ZV.sl s, ZV.int IntKind.i64 j,
                            ZV.pv false (SL.i s) (SL.o s + m_1 * 2),
                            ZV.pv false (SL.i s) (Nat.add (SL.o s + m_1 * 2) 1), ZV.sl s_1,
                            ZV.tup [ZV.int IntKind.i64 n_1, ZV.int IntKind.i64 n_2], d 50,
                            d 51, d 52, d 53, d 54,
                            d 55, d 56, d 57, d 58,
                            d 59, d 60, d 61, d 62,
                            d 63, d 64, d 65, d 66,
                            d 67, d 68, d 69, d 70,
                            d 71, d 72, d 73, d 74,
                            d 75, d 76, d 77, d 78,
                            d 79, d 80, d 81, d 82,
                            d 83, d 84, d 85, d 86,
                            d 87, d 88, d 89, d 90,
                            d 91, d 92, d 93, d 94,
                            d 95, d 96, d 97, d 98,
                            d 99, d 100, d 101, d 102,
                            d 103, d 104, d 105, d 106,
                            d 107, d 108, d 109, d 110,
                            d 111, d 112, d 113, d 114,
                            d 115, d 116, d 117, d 118,
                            d 119, d 120, d 121, d 122,
                            d 123, d 124, d 125, d 126,
                            d 127, d 128]
                          h'_1)
              h))))
  (X
    [ZV.sl w, ZV.sl s, d 2, d 3, d 4, d 5,
      ZV.pv false c 0, d 7, ZV.int IntKind.i64 j, d 9, d 10,
      d 11, d 12, d 13, d 14, d 15,
      d 16, d 17, d 18, d 19, d 20,
      d 21, d 22, d 23, d 24, d 25,
      d 26, d 27, d 28, d 29, d 30,
      d 31, d 32, d 33, d 34, d 35,
      d 36, ZV.int IntKind.i64 j, ZV.sl s, ZV.int IntKind.i64 (Int.ofNat (SL.n s)), ZV.bool false,
      d 41, d 42, d 43, d 44, d 45,
      d 46, d 47, d 48, d 49, d 50,
      d 51, d 52, d 53, d 54, d 55,
      d 56, d 57, d 58, d 59, d 60,
      d 61, d 62, d 63, d 64, d 65,
      d 66, d 67, d 68, d 69, d 70,
      d 71, d 72, d 73, d 74, d 75,
      d 76, d 77, d 78, d 79, d 80,
      d 81, d 82, d 83, d 84, d 85,
      d 86, d 87, d 88, d 89, d 90,
      d 91, d 92, d 93, d 94, d 95,
      d 96, d 97, d 98, d 99, d 100,
      d 101, d 102, d 103, d 104, d 105,
      d 106, d 107, d 108, d 109, d 110,
      d 111, d 112, d 113, d 114, d 115,
      d 116, d 117, d 118, d 119, d 120,
      d 121, d 122, d 123, d 124, d 125,
      d 126, d 127, d 128]
    h)) := by kernel_rfl

theorem round_a1 (C : ZCall) (lf : Nat) (K : ZK) (h : Heap) (w : SL) (c : Nat) (d : Nat → ZV) :
  zAt Try.prog C lf 4 [1, 1, 1, 1, 1, 1] (zt (ntOf Try.prog 4) (ov [(0, .sl w), (6, .pv false c 0)] d)) (zFin Try.prog 4 K) ⟨[], zFin Try.prog 4 K⟩ h =
  (ZLoop lf
  (zAt Try.prog C lf 4
    [1, 1, 1, 1, 1, 1, 1,
      0, 1, 0, 0])
  [ZV.sl w, d 1, d 2, d 3, d 4, d 5,
    ZV.pv false c 0, d 7, d 8, ZV.int IntKind.i64 0,
    ZV.int IntKind.i64 0, d 11, d 12, d 13, d 14,
    d 15, d 16, d 17, d 18, d 19,
    d 20, d 21, d 22, d 23, d 24,
    d 25, d 26, d 27, d 28, d 29,
    d 30, d 31, d 32, d 33, d 34,
    d 35, d 36, d 37, d 38, d 39,
    d 40, d 41, d 42, d 43, d 44,
    d 45, d 46, d 47, d 48, d 49,
    d 50, d 51, d 52, d 53, d 54,
    d 55, d 56, d 57, d 58, d 59,
    d 60, d 61, d 62, d 63, d 64,
    d 65, d 66, d 67, d 68, d 69,
    d 70, d 71, d 72, d 73, d 74,
    d 75, d 76, d 77, d 78, d 79,
    d 80, d 81, d 82, d 83, d 84,
    d 85, d 86, d 87, d 88, d 89,
    d 90, d 91, d 92, d 93, d 94,
    d 95, d 96, d 97, d 98, d 99,
    d 100, d 101, d 102, d 103, d 104,
    d 105, d 106, d 107, d 108, d 109,
    d 110, d 111, d 112, d 113, d 114,
    d 115, d 116, d 117, d 118, d 119,
    d 120, d 121, d 122, d 123, d 124,
    d 125, d 126, d 127, d 128]
  (KZ.mk
    ((2, fun z' h' =>
        zAt Try.prog C lf 4
          [1, 1, 1, 1, 1, 1, 1,
            1]
          z' (zFin Try.prog 4 K) (KZ.mk [] (zFin Try.prog 4 K)) h') ::
      KZ.env (KZ.mk [] (zFin Try.prog 4 K)))
    (KZ.ret (KZ.mk [] (zFin Try.prog 4 K))))
  h) := by kernel_rfl

theorem round_b2 (C : ZCall) (lf : Nat) (K : ZK) (h : Heap) (w : SL) (c : Nat) (mm j : Int) (d : Nat → ZV) (k X : ZT → Heap → Prop) (E : List (Nat × (ZT → Heap → Prop))) :
  zAt Try.prog C lf 4 [1, 1, 1, 1, 1, 1, 1, 0, 1, 0, 0] (zt (ntOf Try.prog 4) (ov [(0, .sl w), (6, .pv false c 0), (9, .int .i64 mm), (10, .int .i64 j)] d)) k ⟨(2, X) :: E, zFin Try.prog 4 K⟩ h =
  (@cnd Prop (decide (j < Int.ofNat (SL.n w)))
  (ZAnd (SL.nil w = false)
    (ZIdx j (SL.len w) fun m_1 =>
      ZAnd (false = false)
        (ZLdI h (SL.i w) (SL.o w + m_1 * 1) IntKind.i64 fun n_1 =>
          @cnd Prop (decide (0 < n_1))
            (ZW IntKind.i64 (mm + 1) fun r_1 =>
              ZW IntKind.i64 (j + 1) fun r_2 =>
                k
                  [ZV.sl w, d 1, d 2, d 3, d 4,
                    d 5, ZV.pv false c 0, d 7, d 8,
                    ZV.int IntKind.i64 r_1, ZV.int IntKind.i64 r_2, d 11, d 12,
                    d 13, d 14, d 15, d 16, d 17,
                    d 18, d 19, d 20, d 21, d 22,
                    d 23, d 24, d 25, d 26, d 27,
                    d 28, d 29, d 30, d 31, d 32,
                    d 33, d 34, d 35, d 36, d 37,
                    d 38, d 39, d 40, d 41, d 42,
                    d 43, d 44, d 45, d 46, d 47,
                    d 48, d 49, ZV.int IntKind.i64 j, ZV.sl w,
                    ZV.int IntKind.i64 (Int.ofNat (SL.n w)), ZV.bool true, ZV.int IntKind.i64 j, ZV.int IntKind.i64 r_2,
                    ZV.sl w, ZV.int IntKind.i64 j, ZV.pv false (SL.i w) (SL.o w + m_1 * 1),
                    ZV.int IntKind.i64 n_1, ZV.bool true, ZV.int IntKind.i64 mm, ZV.int IntKind.i64 r_1,
                    d 63, d 64, d 65, d 66, d 67,
                    d 68, d 69, d 70, d 71, d 72,
                    d 73, d 74, d 75, d 76, d 77,
                    d 78, d 79, d 80, d 81, d 82,
                    d 83, d 84, d 85, d 86, d 87,
                    d 88, d 89, d 90, d 91, d 92,
                    d 93, d 94, d 95, d 96, d 97,
                    d 98, d 99, d 100, d 101,
                    d 102, d 103, d 104, d 105,
                    d 106, d 107, d 108, d 109,
                    d 110, d 111, d 112, d 113,
                    d 114, d 115, d 116, d 117,
                    d 118, d 119, d 120, d 121,
                    d 122, d 123, d 124, d 125,
                    d 126, d 127, d 128]
                  h)
            (ZW IntKind.i64 (j + 1) fun r_1 =>
              k
                [ZV.sl w, d 1, d 2, d 3, d 4, d 5,
                  ZV.pv false c 0, d 7, d 8, ZV.int IntKind.i64 mm,
                  ZV.int IntKind.i64 r_1, d 11, d 12, d 13,
                  d 14, d 15, d 16, d 17, d 18,
                  d 19, d 20, d 21, d 22, d 23,
                  d 24, d 25, d 26, d 27, d 28,
                  d 29, d 30, d 31, d 32, d 33,
                  d 34, d 35, d 36, d 37, d 38,
                  d 39, d 40, d 41, d 42, d 43,
                  d 44, d 45, d 46, d 47, d 48,
                  d 49, ZV.int IntKind.i64 j, ZV.sl w, ZV.int IntKind.i64 (Int.ofNat (SL.n w)),
                  ZV.bool true, ZV.int IntKind.i64 j, ZV.int IntKind.i64 r_1, ZV.sl w, ZV.int IntKind.i64 j,
                  ZV.pv false (SL.i w) (SL.o w + m_1 * 1), ZV.int IntKind.i64 n_1, ZV.bool false,
                  d 61, d 62, d 63, d 64, d 65,
                  d 66, d 67, d 68, d 69, d 70,
                  d 71, d 72, d 73, d 74, d 75,
                  d 76, d 77, d 78, d 79, d 80,
                  d 81, d 82, d 83, d 84, d 85,
                  d 86, d 87, d 88, d 89, d 90,
                  d 91, d 92, d 93, d 94, d 95,
                  d 96, d 97, d 98, d 99, d 100,
                  d 101, d 102, d 103, d 104,
                  d 105, d 106, d 107, d 108,
                  d 109, d 110, d 111, d 112,
                  d 113, d 114, d 115, d 116,
                  d 117, d 118, d 119, d 120,
                  d 121, d 122, d 123, d 124,
                  d 125, d 126, d 127, d 128]
                h))))
  (X
    [ZV.sl w, d 1, d 2, d 3, d 4, d 5,
      ZV.pv false c 0, d 7, d 8, ZV.int IntKind.i64 mm, ZV.int IntKind.i64 j,
      d 11, d 12, d 13, d 14, d 15,
      d 16, d 17, d 18, d 19, d 20,
      d 21, d 22, d 23, d 24, d 25,
      d 26, d 27, d 28, d 29, d 30,
      d 31, d 32, d 33, d 34, d 35,
      d 36, d 37, d 38, d 39, d 40,
      d 41, d 42, d 43, d 44, d 45,
      d 46, d 47, d 48, d 49, ZV.int IntKind.i64 j, ZV.sl w,
      ZV.int IntKind.i64 (Int.ofNat (SL.n w)), ZV.bool false, d 54, d 55,
      d 56, d 57, d 58, d 59, d 60,
      d 61, d 62, d 63, d 64, d 65,
      d 66, d 67, d 68, d 69, d 70,
      d 71, d 72, d 73, d 74, d 75,
      d 76, d 77, d 78, d 79, d 80,
      d 81, d 82, d 83, d 84, d 85,
      d 86, d 87, d 88, d 89, d 90,
      d 91, d 92, d 93, d 94, d 95,
      d 96, d 97, d 98, d 99, d 100,
      d 101, d 102, d 103, d 104, d 105,
      d 106, d 107, d 108, d 109, d 110,
      d 111, d 112, d 113, d 114, d 115,
      d 116, d 117, d 118, d 119, d 120,
      d 121, d 122, d 123, d 124, d 125,
      d 126, d 127, d 128]
    h)) := by kernel_rfl

theorem round_a2 (C : ZCall) (lf : Nat) (K : ZK) (h : Heap) (w : SL) (c : Nat) (mm : Int) (d : Nat → ZV) :
  zAt Try.prog C lf 4 [1, 1, 1, 1, 1, 1, 1, 1] (zt (ntOf Try.prog 4) (ov [(0, .sl w), (6, .pv false c 0), (9, .int .i64 mm)] d)) (zFin Try.prog 4 K) ⟨[], zFin Try.prog 4 K⟩ h =
  (ZNat (Int.ofNat (SL.n w)) fun n_1 =>
  ZNat (Int.ofNat (SL.n w)) fun p_1 =>
    ZAnd (Nat.le n_1 p_1)
      (ZRoom Try.prog 3 p_1
        (ZLoop lf
          (zAt Try.prog C lf 4
            [1, 1, 1, 1, 1, 1, 1,
              1, 1, 0, 1, 0, 0])
          [ZV.sl w, d 1, d 2, d 3, d 4, d 5,
            ZV.pv false c 0, d 7, d 8, ZV.int IntKind.i64 mm,
            d 10, ZV.sl (SL.mk false (Heap.next h) 0 n_1 p_1 false),
            ZV.int IntKind.i64 0, d 13, d 14, d 15,
            d 16, d 17, d 18, d 19, d 20,
            d 21, d 22, d 23, d 24, d 25,
            d 26, d 27, d 28, d 29, d 30,
            d 31, d 32, d 33, d 34, d 35,
            d 36, d 37, d 38, d 39, d 40,
            d 41, d 42, d 43, d 44, d 45,
            d 46, d 47, d 48, d 49, d 50,
            d 51, d 52, d 53, d 54, d 55,
            d 56, d 57, d 58, d 59, d 60,
            d 61, d 62, ZV.sl w, ZV.int IntKind.i64 (Int.ofNat (SL.n w)),
            ZV.sl (SL.mk false (Heap.next h) 0 n_1 p_1 false), d 66, d 67,
            d 68, d 69, d 70, d 71, d 72,
            d 73, d 74, d 75, d 76, d 77,
            d 78, d 79, d 80, d 81, d 82,
            d 83, d 84, d 85, d 86, d 87,
            d 88, d 89, d 90, d 91, d 92,
            d 93, d 94, d 95, d 96, d 97,
            d 98, d 99, d 100, d 101, d 102,
            d 103, d 104, d 105, d 106, d 107,
            d 108, d 109, d 110, d 111, d 112,
            d 113, d 114, d 115, d 116, d 117,
            d 118, d 119, d 120, d 121, d 122,
            d 123, d 124, d 125, d 126, d 127,
            d 128]
          (KZ.mk
            ((4, fun z' h' =>
                zAt Try.prog C lf 4
                  [1, 1, 1, 1, 1, 1,
                    1, 1, 1, 1]
                  z' (zFin Try.prog 4 K) (KZ.mk [] (zFin Try.prog 4 K)) h') ::
              KZ.env (KZ.mk [] (zFin Try.prog 4 K)))
            (KZ.ret (KZ.mk [] (zFin Try.prog 4 K))))
          (Heap.newO h
            (AObj.cells (List.flatten (List.replicate p_1 [AV.int IntKind.i64 0])) 1 false
              false))))) := by kernel_rfl

theorem round_b3 (C : ZCall) (lf : Nat) (K : ZK) (h : Heap) (w x : SL) (c : Nat) (mm j : Int) (d : Nat → ZV) (k X : ZT → Heap → Prop) (E : List (Nat × (ZT → Heap → Prop))) :
  zAt Try.prog C lf 4 [1, 1, 1, 1, 1, 1, 1, 1, 1, 0, 1, 0, 0] (zt (ntOf Try.prog 4) (ov [(0, .sl w), (6, .pv false c 0), (9, .int .i64 mm), (11, .sl x), (12, .int .i64 j)] d)) k ⟨(4, X) :: E, zFin Try.prog 4 K⟩ h =
  (@cnd Prop (decide (j < mm))
  (C 9 [ZV.pv false c 0, ZV.sl w]
    (fun v_1 h'_1 =>
      ZRT (ZV.av v_1) 2 fun f_1 =>
        ZRI (f_1 0) IntKind.i64 fun n_1 =>
          ZRI (f_1 1) IntKind.i64 fun n_2 =>
            @cnd Prop (!decide (n_2 = 0)) (K (ZV.bool false) h'_1)
              (@cnd Prop (cnd false true (decide (n_1 < 0))) (K (ZV.bool false) h'_1)
                (@cnd Prop (cnd false true (decide (Int.ofNat (SL.n w) ≤ n_1))) (K (ZV.bool false) h'_1)
                  (ZAnd (SL.nil w = false)
                    (ZIdx n_1 (SL.len w) fun m_1 =>
                      ZAnd (false = false)
                        (ZLdI h'_1 (SL.i w) (SL.o w + m_1 * 1) IntKind.i64 fun n_3 =>
                          @cnd Prop (cnd false true (decide (n_3 ≤ 0))) (K (ZV.bool false) h'_1)
                            (ZAnd (SL.nil x = false)
                              (ZIdx n_1 (SL.len x) fun m_2 =>
                                ZAnd (false = false)
                                  (ZLdI h'_1 (SL.i x) (SL.o x + m_2 * 1) IntKind.i64 fun n_4 =>
                                    @cnd Prop (cnd false true (decide (0 < n_4))) (K (ZV.bool false) h'_1)
                                      (ZAnd (SL.nil x = false)
                                        (ZIdx n_1 (SL.len x) fun m_3 =>
                                          ZAnd (false = false)
                                            (ZLdI h'_1 (SL.i x) (SL.o x + m_3 * 1) IntKind.i64 fun n_5 =>
                                              ZW IntKind.i64 (n_5 + 1) fun r_1 =>
                                                ZAnd (SL.nil x = false)
                                                  (ZIdx n_1 (SL.len x) fun m_4 =>
                                                    ZAnd (false = false)
                                                      (ZPut h'_1 (SL.i x) (SL.o x + m_4 * 1) 1
                                                        (ZW IntKind.i64 (j + 1) fun r_2 =>
                                                          k
                                                            [ZV.sl w, d 1, d 2,
                                                              d 3, d 4, d 5,
                                                              ZV.pv false c 0, d 7,
                                                              d 8, ZV.int IntKind.i64 mm,
                                                              d 10, ZV.sl x, ZV.int IntKind.i64 r_2,
                                                              ZV.int IntKind.i64 n_1, ZV.int IntKind.i64 n_2,
                                                              d 15, d 16,
                                                              d 17, d 18,
                                                              d 19, d 20,
                                                              d 21, d 22,
                                                              d 23, d 24,
                                                              d 25, d 26,
                                                              d 27, d 28,
                                                              d 29, d 30,
                                                              d 31, d 32,
                                                              d 33, d 34,
                                                              d 35, d 36,
                                                              d 37, d 38,
                                                              d 39, d 40,
                                                              d 41, d 42,
                                                              d 43, d 44,
                                                              d 45, d 46,
                                                              d 47, d 48,
                                                              d 49, d 50,
                                                              d 51, d 52,
                                                              d 53, d 54,
                                                              d 55, d 56,
                                                              d 57, d 58,
                                                              d 59, d 60,
                                                              d 61, d 62,
                                                              d 63, d 64,
                                                              d 65, ZV.int IntKind.i64 j,
                                                              ZV.int IntKind.i64 mm, ZV.bool true, ZV.int IntKind.i64 j,
                                                              ZV.int IntKind.i64 r_2,
                                                              ZV.tup [ZV.int IntKind.i64 n_1, ZV.int IntKind.i64 n_2],
                                                              ZV.pv false c 0, ZV.sl w,
                                                              ZV.tup [ZV.int IntKind.i64 n_1, ZV.int IntKind.i64 n_2],
                                                              ZV.int IntKind.i64 n_1, ZV.int IntKind.i64 n_2,
                                                              ZV.int IntKind.i64 n_2,
                                                              ZV.bool !decide (n_2 = 0), ZV.bool false,
                                                              ZV.int IntKind.i64 n_1,
                                                              ZV.bool (decide (n_1 < 0)),
                                                              ZV.bool (cnd false true (decide (n_1 < 0))),
                                                              ZV.bool false, ZV.int IntKind.i64 n_1, ZV.sl w,
                                                              ZV.int IntKind.i64 (Int.ofNat (SL.n w)),
                                                              ZV.bool (decide (Int.ofNat (SL.n w) ≤ n_1)),
                                                              ZV.bool
                                                                (cnd false true (decide (Int.ofNat (SL.n w) ≤ n_1))),
                                                              ZV.bool false, ZV.sl w, ZV.int IntKind.i64 n_1,
                                                              ZV.pv false (SL.i w) (SL.o w + m_1 * 1),
                                                              ZV.int IntKind.i64 n_3,
                                                              ZV.bool (decide (n_3 ≤ 0)),
                                                              ZV.bool (cnd false true (decide (n_3 ≤ 0))),
                                                              ZV.bool false, ZV.sl x, ZV.int IntKind.i64 n_1,
                                                              ZV.pv false (SL.i x) (SL.o x + m_2 * 1),
                                                              ZV.int IntKind.i64 n_4,
                                                              ZV.bool (decide (0 < n_4)), ZV.bool false,
                                                              ZV.sl x, ZV.int IntKind.i64 n_1,
                                                              ZV.pv false (SL.i x) (SL.o x + m_3 * 1),
                                                              ZV.int IntKind.i64 n_5, ZV.int IntKind.i64 r_1,
                                                              ZV.pv false (SL.i x) (SL.o x + m_4 * 1),
                                                              d 109, d 110,
                                                              d 111, d 112,
                                                              d 113, d 114,
                                                              d 115, d 116,
                                                              d 117, d 118,
                                                              d 119, d 120,
                                                              d 121, d 122,
                                                              d 123, d 124,
                                                              d 125, d 126,
                                                              d 127, d 128]
                                                            (hput h'_1 (SL.i x) (SL.o x + m_4 * 1)
                                                              [AV.int IntKind.i64 r_1]))))))))))))))))
    h)
  (X
    [ZV.sl w, d 1, d 2, d 3, d 4, d 5,
      ZV.pv false c 0, d 7, d 8, ZV.int IntKind.i64 mm, d 10,
      ZV.sl x, ZV.int IntKind.i64 j, d 13, d 14, d 15, d 16,
      d 17, d 18, d 19, d 20, d 21,
      d 22, d 23, d 24, d 25, d 26,
      d 27, d 28, d 29, d 30, d 31,
      d 32, d 33, d 34, d 35, d 36,
      d 37, d 38, d 39, d 40, d 41,
      d 42, d 43, d 44, d 45, d 46,
      d 47, d 48, d 49, d 50, d 51,
      d 52, d 53, d 54, d 55, d 56,
      d 57, d 58, d 59, d 60, d 61,
      d 62, d 63, d 64, d 65, ZV.int IntKind.i64 j,
      ZV.int IntKind.i64 mm, ZV.bool false, d 69, d 70, d 71,
      d 72, d 73, d 74, d 75, d 76,
      d 77, d 78, d 79, d 80, d 81,
      d 82, d 83, d 84, d 85, d 86,
      d 87, d 88, d 89, d 90, d 91,
      d 92, d 93, d 94, d 95, d 96,
      d 97, d 98, d 99, d 100, d 101,
      d 102, d 103, d 104, d 105, d 106,
      d 107, d 108, d 109, d 110, d 111,
      d 112, d 113, d 114, d 115, d 116,
      d 117, d 118, d 119, d 120, d 121,
      d 122, d 123, d 124, d 125, d 126,
      d 127, d 128]
    h)) := by kernel_rfl

theorem round_a3 (C : ZCall) (lf : Nat) (K : ZK) (h : Heap) (w : SL) (c : Nat) (mm : Int) (d : Nat → ZV) :
  zAt Try.prog C lf 4 [1, 1, 1, 1, 1, 1, 1, 1, 1, 1] (zt (ntOf Try.prog 4) (ov [(0, .sl w), (6, .pv false c 0), (9, .int .i64 mm)] d)) (zFin Try.prog 4 K) ⟨[], zFin Try.prog 4 K⟩ h =
  (C 9 [ZV.pv false c 0, ZV.sl w]
  (fun v_1 h'_1 =>
    ZRT (ZV.av v_1) 2 fun f_1 =>
      ZRI (f_1 0) IntKind.i64 fun n_1 =>
        ZRI (f_1 1) IntKind.i64 fun n_2 =>
          @cnd Prop (decide (0 < mm))
            (@cnd Prop (cnd true (decide (n_2 = 0)) false) (K (ZV.bool true) h'_1)
              (@cnd Prop (decide (mm = 0))
                (K (ZV.bool (cnd false true (cnd true (decide (n_2 = 162)) false))) h'_1)
                (K (ZV.bool false) h'_1)))
            (@cnd Prop (decide (mm = 0))
              (K (ZV.bool (cnd false true (cnd true (decide (n_2 = 162)) false))) h'_1)
              (K (ZV.bool false) h'_1)))
  h) := by kernel_rfl

end PolN

namespace PolN
open Go Go.X Go.Proofs
set_option maxRecDepth 100000
def shownS : List ZV → ZK → Heap → Prop := fun args K h => args = [] ∧ K (.bool true) h
def S7 : ZSums := fun f => match Nat.beq f 7 with | true => some shownS | false => none
theorem hS7 : ∀ f, f ≠ 7 → S7 f = none := fun f hf => by
  unfold S7
  cases hb : Nat.beq f 7 with
  | true => exact absurd (Nat.eq_of_beq_eq_true hb) hf
  | false => rfl
section
variable {lf n : Nat} {h : Heap} {K : ZK}
theorem shown_ok (k : K (.bool true) h) : zCall Try.prog S7 lf (n + 1) 7 [] K h := ⟨rfl, k⟩
theorem zRT_pi {c o : Nat} {m : Int} {nil : Bool} {Q : Bool → Nat → Nat → Int → Prop} (k : Q nil c o m) : ZRT (ZV.tup [.pv nil c o, .int .i64 m]).av 2 fun f => ZRP (f 0) fun a b d => ZRI (f 1) .i64 fun m => Q a b d m := by
  rw [av_tup, avs_cons, avs_cons, avs_nil, av_int]
  exact zRT_two ⟨nil, c, o, rfl, zRI_av.2 k⟩
theorem zRT_ii {a b : Int} {Q : Int → Int → Prop} (k : Q a b) : ZRT (ZV.tup [.int .i64 a, .int .i64 b]).av 2 fun f => ZRI (f 0) .i64 fun m => ZRI (f 1) .i64 fun n => Q m n := by
  rw [av_tup, avs_cons, avs_cons, avs_nil, av_int, av_int]
  exact zRT_two (zRI_av.2 (zRI_av.2 k))
/-- asks: of which chooser, weights -/
structure Asks (h : Heap) (s : SL) (al : List (Int × List Int)) : Prop where
  len : s.n = al.length
  lt : s.nil = false → s.i < h.next
  at' : s.nil = false → ∀ j x, al[j]? = some x → cellAt h s.i (s.o + j * 2) = some (.int .i64 x.1) ∧ ∃ w, cellAt h s.i (s.o + j * 2 + 1) = some w.av ∧ Ints h w x.2
theorem Asks.fr {h h' : Heap} {s : SL} {l : List (Int × List Int)} (x : Asks h s l) (f : Fram no h h') : Asks h' s l :=
  ⟨x.len, fun e => Nat.lt_of_lt_of_le (x.lt e) f.next, fun e j y hy => by
    obtain ⟨h1, w, h2, h3⟩ := x.at' e j y hy
    have e1 := f.same _ (x.lt e) id
    exact ⟨(cellAt_eq e1).trans h1, w, (cellAt_eq e1).trans h2, h3.fr f fun _ => id⟩⟩
theorem Asks.nil_of {h : Heap} {s : SL} {l : List (Int × List Int)} (x : Asks h s l) {j : Nat} (hj : j < l.length) : s.nil = false := by
  have := x.len
  cases e : s.nil with
  | false => rfl
  | true => unfold SL.n at this; rw [e] at this; simp only at this; omega
theorem Asks.len' {h : Heap} {s : SL} {l : List (Int × List Int)} (x : Asks h s l) (e : s.nil = false) : s.len = l.length := by
  have := x.len
  unfold SL.n at this; rw [e] at this; exact this
/-- a chooser that the law holds -/
structure Held (h0 h : Heap) (c : Nat) (k : Int) (s : SL) (ps : List Int) (last cnt : Int) : Prop where
  fr : Fram no h0 h
  new : h0.next ≤ c
  ch : Chooser h c k s last cnt
  ints : Ints h s ps
  ne : s.nil = false → s.i ≠ c
theorem Held.go {h0 h h' : Heap} {c : Nat} {k : Int} {s : SL} {ps : List Int} {last cnt last' cnt' : Int} (x : Held h0 h c k s ps last cnt) (f : Fram (fun i => i = c) h h') (y : Chooser h' c k s last' cnt') : Held h0 h' c k s ps last' cnt' :=
  ⟨x.fr.behind (f.mono fun i _ e => by have := x.new; show h0.next ≤ i; omega), x.new, y, x.ints.fr f x.ne, x.ne⟩
theorem Held.stay {h0 h h' : Heap} {c : Nat} {k : Int} {s : SL} {ps : List Int} {last cnt : Int} (x : Held h0 h c k s ps last cnt) (f : Fram no h h') : Held h0 h' c k s ps last cnt :=
  ⟨x.fr.trans f, x.new, ⟨Nat.lt_of_lt_of_le x.ch.lt f.next, (f.same _ x.ch.lt id).trans x.ch.get⟩, x.ints.fr f fun _ => id, x.ne⟩
theorem round_ok {w s : SL} {ws : List Int} {al : List (Int × List Int)} (hw : Ints h w ws) (hs : Asks h s al) (hA : al.length ≤ 134217728) (hA2 : ∀ x, x ∈ al → x.2.length ≤ 134217728 ∧ x.2.length + 1 < lf) (hlf : al.length < lf) (hlf2 : 46342 < lf) :
    zCall Try.prog S7 lf (n + 6) 4 [.sl w, .sl s] (fun v _ => v.av = .bool true) h := by
  refine zCall_at (hS7 _ (by decide)) (by kernel_rfl) ?_
  rw [round_nf]
  have en : ∀ x : Nat, (Int.ofNat x : Int) = x := fun _ => rfl
  refine shown_ok ?_
  simp only [av_bool, zRB_av, cnd_dec]
  refine ⟨fun _ => trivial, fun e0 => ?_⟩
  have hwn := hw.len
  have hsn := hs.len
  have hws : ws.length ≤ 46340 := by have := en w.n; omega
  refine new_ok (ps := []) hS7 ⟨rfl, fun e => (by cases e), fun e => (by cases e)⟩ (fun e => by cases (show (0 : Int) = 161 from e)) fun _ h1 c s1 f1 hc1 ch1 is1 ne1 => zRT_pi ?_
  have H1 : Held h h1 c 2 s1 [] (-1) 0 := ⟨f1, hc1, ch1, is1, fun e => (ne1 e).2⟩
  clear ch1 is1 ne1 f1 hc1
  show ZLoop _ _ _ _ _
  have nor : ∀ p, p ∈ ([] : List Int) → -9223372036854775808 ≤ p ∧ p ≤ 9223372036854775807 := fun p hp => by cases hp
  -- the choices ahead
  refine ZLoop.inv (fun q z h' => ∃ (j : Nat) (last : Int) (cnt : Nat), ZAt 129 [(0, .sl w), (1, .sl s), (6, .pv false c 0), (8, .int .i64 (j : Int))] z ∧ Held h h' c 2 s1 [] last cnt ∧ cnt ≤ j ∧ j + q = al.length) (n := al.length) hlf
    ⟨0, -1, 0, ⟨rfl, rfl, rfl, rfl, rfl, trivial⟩, H1, Nat.le_refl _, by omega⟩ ?_
  clear H1
  rintro q z h2 kk hq ⟨j, last, cnt, hz, H, hcj, hj⟩ ih
  refine zAt_of _ hz fun d => (round_b1 _ lf (fun v _ => v.av = .bool true) _ _ _ _ _ _ _ _ _).mpr ?_
  simp only [zAnd_iff, eq_self, true_and, zIdx_nat, cnd_dec, zW_iff]
  refine ⟨fun e => ?_, fun e => ?_⟩
  · have hjl : j < al.length := by have := en s.n; omega
    have hn := hs.nil_of hjl
    have hl := hs.len' hn
    obtain ⟨x, hx⟩ : ∃ x, al[j]? = some x := ⟨_, List.getElem?_eq_getElem hjl⟩
    obtain ⟨wx, h3, h4⟩ := ((hs.fr H.fr).at' hn j x hx).2
    have hx2 := hA2 x (List.mem_of_getElem? hx)
    rw [i64_fit (e := (j : Int) + 1) (by omega) (by omega)]
    refine ⟨hn, by omega, zLdL_of (s := wx) h3 (choose_ok hS7 (by omega) H.ch H.ints nor (by omega) (by omega) h4 hx2.1 hx2.2 (fun _ h5 f5 => zRT_ii ?_) fun a t hat h5 f5 ch5 => zRT_ii ?_)⟩
    · exact ih (q - 1) _ _ (by omega) ⟨j + 1, last, cnt, ⟨rfl, rfl, rfl, rfl, rfl, trivial⟩, H.stay f5, by omega, by omega⟩
    · exact ih (q - 1) _ _ (by omega) ⟨j + 1, _, cnt + 1, ⟨rfl, rfl, rfl, rfl, rfl, trivial⟩, H.go f5 ch5, by omega, by omega⟩
  refine zAt_of (n := 129) [(0, .sl w), (6, .pv false c 0)] ⟨rfl, rfl, rfl, trivial⟩ fun d2 => (round_a1 _ lf (fun v _ => v.av = .bool true) _ _ _ _).mpr ?_
  clear ih hz e
  have hcA : cnt ≤ al.length := by omega
  -- how many
  refine ZLoop.inv (fun q z h' => ∃ (j : Nat), ZAt 129 [(0, .sl w), (6, .pv false c 0), (9, .int .i64 ((may ws j).length : Int)), (10, .int .i64 (j : Int))] z ∧ h' = h2 ∧ j + q = ws.length) (n := ws.length) (by omega)
    ⟨0, ⟨rfl, rfl, rfl, rfl, rfl, trivial⟩, rfl, by omega⟩ ?_
  rintro q z h' kk hq ⟨j, hz, rfl, hj⟩ ih
  refine zAt_of _ hz fun d => (round_b2 _ lf (fun v _ => v.av = .bool true) _ _ _ _ _ _ _ _ _).mpr ?_
  simp only [zAnd_iff, eq_self, true_and, zIdx_nat, cnd_dec, zW_iff, Nat.mul_one, zLdI_iff]
  refine ⟨fun e => ?_, fun e => ?_⟩
  · have hjl : j < ws.length := by have := en w.n; omega
    have hn := hw.nil_of hjl
    have hl := hw.len' hn
    have hml := may_len ws j
    rw [i64_fit (e := (j : Int) + 1) (by omega) (by omega), i64_fit (by omega) (by omega)]
    refine ⟨hn, by omega, wt ws j, (hw.fr H.fr fun _ => id).at' hn _ _ (wt_at hjl), fun e2 => ?_, fun e2 => ?_⟩
    · refine ih (q - 1) _ _ (by omega) ⟨j + 1, ⟨rfl, rfl, rfl, ?_, rfl, trivial⟩, rfl, by omega⟩
      show ZV.int .i64 ((may ws j).length + 1 : Int) = _
      rw [may_succ, if_pos e2, List.length_append]; rfl
    · refine ih (q - 1) _ _ (by omega) ⟨j + 1, ⟨rfl, rfl, rfl, ?_, rfl, trivial⟩, rfl, by omega⟩
      show ZV.int .i64 ((may ws j).length : Int) = _
      rw [may_succ, if_neg e2, List.append_nil]
  have hje : j = ws.length := by have := en w.n; omega
  subst hje
  clear ih hz e hq hj
  have hml := may_len ws ws.length
  refine zAt_of (n := 129) [(0, .sl w), (6, .pv false c 0), (9, .int .i64 ((may ws ws.length).length : Int))] ⟨rfl, rfl, rfl, rfl, trivial⟩ fun d3 => (round_a2 _ lf (fun v _ => v.av = .bool true) _ _ _ _ _).mpr ?_
  refine zNat_nat.2 (zNat_nat.2 ⟨Nat.le_refl _, ⟨room3 (by omega), ?_⟩⟩)
  rw [List.flatten_replicate_singleton, hwn]
  -- each once
  obtain ⟨V, hV, hVl, hVn, hVm⟩ := Left.start last (may_sorted ws ws.length)
  have fx : Fram no h' (h'.newO (.cells (List.replicate ws.length (AV.int .i64 0)) 1 false false)) := Fram.newO _ _ _
  have hcx : c ≠ h'.next := Nat.ne_of_lt H.ch.lt
  obtain ⟨xi, hxi⟩ : ∃ xi, xi = h'.next := ⟨_, rfl⟩
  rw [← hxi] at hcx ⊢
  have hxn : h.next ≤ xi := by rw [hxi]; exact H.fr.next
  have hsx : s1.nil = false → s1.i ≠ xi := fun e => by have := H.ints.lt e; omega
  refine ZLoop.inv (fun q z h2 => ∃ (j cnt : Nat) (last : Int) (V : List Nat) (ts : List Int), ZAt 129 [(0, .sl w), (6, .pv false c 0), (9, .int .i64 ((may ws ws.length).length : Int)), (11, .sl ⟨false, xi, 0, ws.length, ws.length, false⟩), (12, .int .i64 (j : Int))] z ∧ Held h h2 c 2 s1 [] last cnt ∧ cnt ≤ al.length + j ∧ V.length = q ∧ j + q = (may ws ws.length).length ∧
    Left (may ws ws.length) last V ∧ V.Nodup ∧ (∀ i, i ∈ V → i ∈ may ws ws.length) ∧ xi < h2.next ∧ h2.get xi = some (.cells (ts.map (AV.int .i64)) 1 false false) ∧ ts.length = ws.length ∧ ∀ i, i ∈ V → ts[i]? = some 0) (n := (may ws ws.length).length) (by omega)
    ⟨0, cnt, last, V, List.replicate ws.length 0, ⟨rfl, rfl, rfl, rfl, rfl, rfl, trivial⟩, H.stay fx, by omega, hVl, by omega, hV, hVn, hVm, by rw [hxi]; exact Nat.lt_succ_self _, by rw [hxi, newO_get_self, List.map_replicate], List.length_replicate, fun i hi => ?_⟩ ?_
  · have := (may_mem.1 (hVm i hi)).1
    rw [List.getElem?_replicate, if_pos this]
  clear hV hVl hVn hVm V H fx hxi hcA hcj cnt last
  rintro q z h2 kk hq ⟨j, cnt, last, V, ts, hz, H, hcA, hVq, hj, hL, hVn, hVm, hx1, hx2, hts, hV0⟩ ih
  refine zAt_of _ hz fun d => (round_b3 _ lf (fun v _ => v.av = .bool true) _ _ _ _ _ _ _ _ _ _).mpr ?_
  rw [cnd_dec]
  refine ⟨fun e => ?_, fun e => ?_⟩
  · cases V with
    | nil => simp only [List.length_nil] at hVq; omega
    | cons b V =>
      have hbm := may_mem.1 (hVm b (by simp))
      have hn := hw.nil_of hbm.1
      have hl := hw.len' hn
      have hVq' : V.length + 1 = q := by simpa using hVq
      refine choose_ok hS7 (by omega) H.ch H.ints nor (by omega) (by omega) (hw.fr H.fr fun _ => id) (by omega) (by omega) (fun e5 h5 f5 => ?_) fun a t hat h5 f5 ch5 => zRT_ii ?_
      · exfalso
        have := hVm b (by simp)
        rw [e5] at this; cases this
      · have hstep := hL.step hat (may_sorted _ _)
        have ech : chosen 2 [] ws last cnt a t = b := by
          unfold chosen; rw [if_pos rfl, ← hat]; exact hstep.1
        rw [ech] at ch5 ⊢
        have H5 := H.go f5 ch5
        have gx5 : h5.get xi = _ := (f5.same xi hx1 fun e => hcx e.symm).trans hx2
        have hbt : ts[b]? = some 0 := hV0 b (by simp)
        have hcx5 : cellAt h5 xi b = some (.int .i64 0) := by rw [cellAt_of gx5]; simp [hbt]
        have hcw5 : cellAt h5 w.i (w.o + b) = some (.int .i64 (wt ws b)) := (hw.fr H5.fr fun _ => id).at' hn _ _ (wt_at hbm.1)
        have d1 : decide ((b : Int) < 0) = false := decide_eq_false (by omega)
        have d2 : decide (Int.ofNat w.n ≤ (b : Int)) = false := decide_eq_false (by have := en w.n; omega)
        have d3 : decide (wt ws b ≤ 0) = false := decide_eq_false (by have := hbm.2; omega)
        have hx5 : xi < h5.next := Nat.lt_of_lt_of_le hx1 f5.next
        have e1 : IntKind.i64.wrap (0 + 1) = 1 := i64_fit (by omega) (by omega)
        simp only [d1, d2, zAnd_iff, eq_self, true_and, zIdx_nat, Nat.mul_one, Nat.zero_add, zLdI_iff, zW_iff, cnd_fP, cnd_f]
        show w.nil = false ∧ _
        refine ⟨hn, by omega, wt ws b, hcw5, ?_⟩
        rw [d3]
        show b < ws.length ∧ _
        refine ⟨hbm.1, 0, hcx5, ?_⟩
        show b < ws.length ∧ _
        refine ⟨hbm.1, 0, hcx5, hbm.1, zPut_of ⟨hx5, _, _, _, _, gx5, by rw [List.length_map, hts]; exact hbm.1⟩ ?_⟩
        rw [e1, i64_fit (by omega) (by omega)]
        have gx6 := hput_get (o := b) (vs := [AV.int .i64 1]) gx5
        have f6 : Fram (fun i => i = xi) h5 (hput h5 xi b [AV.int .i64 1]) := Fram.hput _ _ _ fun _ => rfl
        refine ih (q - 1) _ _ (by omega) ⟨j + 1, cnt + 1, b, V, ts.set b 1, ⟨rfl, rfl, rfl, rfl, rfl, rfl, trivial⟩, ?_, by omega, by omega, by omega, hstep.2, (List.nodup_cons.1 hVn).2, fun i hi => hVm i (by simp [hi]), by rw [hput_next]; exact hx5, ?_, by rw [List.length_set]; exact hts, fun i hi => ?_⟩
        · exact ⟨H5.fr.behind (f6.mono fun i _ e => by show h.next ≤ i; omega), H5.new, ⟨by rw [hput_next]; exact H5.ch.lt, (f6.same _ H5.ch.lt hcx).trans H5.ch.get⟩, H5.ints.fr f6 hsx, H5.ne⟩
        · rw [gx6]
          congr 1
          rw [List.set_eq_take_append_cons_drop, if_pos (by omega)]
          simp
        · have hne : b ≠ i := fun e => (List.nodup_cons.1 hVn).1 (e ▸ hi)
          rw [List.getElem?_set_ne hne]
          exact hV0 i (by simp [hi])
  refine zAt_of (n := 129) [(0, .sl w), (6, .pv false c 0), (9, .int .i64 ((may ws ws.length).length : Int))] ⟨rfl, rfl, rfl, rfl, trivial⟩ fun d4 => (round_a3 _ lf (fun v _ => v.av = .bool true) _ _ _ _ _).mpr ?_
  refine choose_ok hS7 (by omega) H.ch H.ints nor (by omega) (by omega) (hw.fr H.fr fun _ => id) (by omega) (by omega) (fun e5 h5 f5 => zRT_ii ?_) fun a t hat h5 f5 ch5 => zRT_ii ?_
  · have : (may ws ws.length).length = 0 := by rw [e5]; rfl
    rw [this]; exact rfl
  · have : (may ws ws.length).length = t.length + 1 := by rw [hat]; rfl
    rw [this, decide_eq_true (by omega)]
    exact rfl
end
end PolN
