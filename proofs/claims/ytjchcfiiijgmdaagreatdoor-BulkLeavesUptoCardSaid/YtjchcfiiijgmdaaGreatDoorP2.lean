/-
  PROVED: the document's Leaves, copies, and 'banyanlaw15.BulkLeaves' over heaps is true (contracts). Condition: its arguments read as lists of entries.
-/
import Derived.Test.YtjchcfiiijgmdaaGreatDoorP1
set_option linter.unusedVariables false
set_option linter.unusedSimpArgs false
set_option maxRecDepth 1000000
namespace BlN
open Go Go.X Go.X.Df Go.X.Bl Go.Proofs
section
variable {lf n : Nat} {h h0 : Heap} {K : ZK} {X : List ER}
theorem nums_snoc (l : List Nat) (m : Nat) : nums (l ++ [m]) = nums l ++ [AV.int .i64 (m : Int)] := by unfold nums; rw [List.map_append]; rfl
theorem Nums.put {s : SL} {l r : List Nat} {m : Nat} (g : Nums h0 h s (l ++ m :: r)) (v : Int) : canPut h s.i (s.o + l.length * 1 + 1) ∧
    Grown h0 (hput h s.i (s.o + l.length * 1) [.int .i64 v]) s 1 (l ++ m :: r).length (nums l ++ AV.int .i64 v :: nums r) ∧ Fram (fun i => s.nil = false ∧ i = s.i) h (hput h s.i (s.o + l.length * 1) [.int .i64 v]) := by
  have hl := g.1
  rcases g.2 with ⟨q, _⟩ | ⟨a1, a2, a3, a4, a5, a6, a7, a8⟩
  · rw [List.length_append] at q; simp at q
  have e : nums (l ++ m :: r) = nums l ++ AV.int .i64 (m : Int) :: nums r := by unfold nums; rw [List.map_append]; rfl
  have eo : s.o + l.length * 1 = (nums l).length := by rw [a2, nums_len]; omega
  refine ⟨⟨a7, _, _, _, _, a8, ?_⟩, ⟨by simp [nums_len], .inr ⟨a1, a2, a3, a4, a5, a6, by rw [hput_next]; exact a7, ?_⟩⟩, Fram.hput h _ _ fun _ => ⟨a1, rfl⟩⟩
  · rw [nums_len, a2, List.length_append]; simp
  · rw [hput_get a8, eo, e]
    rw [List.take_left' rfl]
    have : (nums l ++ AV.int .i64 (m : Int) :: nums r).drop ((nums l).length + [AV.int .i64 v].length) = nums r := by
      rw [← List.drop_drop, List.drop_left' rfl]; rfl
    rw [this]; rfl
def AtR (most : Int) (X : List ER) (j b : Nat) (outl : List Nat) : Prop :=
  (j = 0 ∧ outl = [] ∧ b = 0) ∨ (0 < j ∧ ∃ y done cur, X[j - 1]? = some y ∧ outl = done ++ [cur] ∧ cur ≤ j ∧ done.length < j ∧ leaves most (ents X) = cut most done cur b y.e.1 ((ents X).drop j))
theorem cut_cons (most : Int) (done : List Nat) (cur b : Nat) (p : Ky) (e : Pr) (r : List Pr) : cut most done cur b p (e :: r) = if ((b + long (some p) e : Nat) : Int) ≤ most then cut most done (cur + 1) (b + long (some p) e) e.1 r else cut most (done ++ [cur]) 1 (2 + long none e) e.1 r := rfl
theorem rleaves_ok {z fill : Int} {s : SL} (hX : Ents h s X) (mb : Mb X) (lX : X.length ≤ 1048577) (hlf : 2000000 < lf)
    (hk : ∀ h' out, Fram nowhere h h' → Nums h h' out (answer z fill (ents X)).1 → K (.tup [.sl out, .int .i64 (answer z fill (ents X)).2]) h') :
    zCall Tryz.prog SB lf (n + 3) 8 [.int .i64 z, .sl s, .int .i64 fill] K h := by
  refine zCall_at (hS (by decide)) (by kernel_rfl) ?_
  rw [rleaves_nf]
  have la := hX.len (by decide)
  refine rsized_ok ?_
  rw [av_bool]
  refine zRB_av.2 ?_
  have bad : ¬ (Sized z ∧ 50 ≤ fill ∧ fill ≤ 100) → K (.tup [.sl nilSL, .int .i64 1]) h := fun q => by
    have e : answer z fill (ents X) = ([], 1) := if_neg q
    rw [e] at hk
    exact hk h nilSL (Fram.refl _ _) (Grown.start _ _ _)
  by_cases hz' : ¬ Sized z
  · rw [show sizedB z = false from decide_eq_false hz', Bool.not_false, cnd_tP]
    exact bad fun q => hz' q.1
  have hz : Sized z := Decidable.of_not_not hz'
  clear hz'
  rw [show sizedB z = true from decide_eq_true hz, Bool.not_true, cnd_fP, cnd_f, cnd_dec]
  refine ⟨fun q => bad fun p => by omega, fun f1 => ?_⟩
  rw [cnd_f, cnd_dec]
  refine ⟨fun q => bad fun p => by omega, fun f2 => ?_⟩
  have hf : 50 ≤ fill ∧ fill ≤ 100 := ⟨by omega, by omega⟩
  clear f1 f2 bad
  have ea : answer z fill (ents X) = if first z none (ents X) = 0 then (leaves (mostI z fill) (ents X), 0) else ([], first z none (ents X)) := if_pos ⟨hz, hf⟩
  refine first_ok hX hz lX (by omega) fun i => ?_
  rw [av_tup]
  refine zRT_two (zRI_av.2 (zRI_av.2 ?_))
  by_cases hfi' : ¬ first z none (ents X) = 0
  · rw [decide_eq_false hfi', Bool.not_false, cnd_tP]
    rw [ea, if_neg hfi'] at hk
    exact hk h nilSL (Fram.refl _ _) (Grown.start _ _ _)
  have hfi : first z none (ents X) = 0 := Decidable.of_not_not hfi'
  clear hfi'
  obtain ⟨m1, m2, m3, m4⟩ := most_le hz hf.1 hf.2
  rw [decide_eq_true hfi, Bool.not_true, cnd_fP]
  rw [ea, if_pos hfi] at hk
  refine rroom_ok ?_
  rw [av_int]
  have er : roomI z = z - 32 := if_pos hz
  refine zRI_av.2 (zW_iff.2 ?_)
  rw [er, i64_fit (by omega) (by omega)]
  refine ⟨by decide, zW_iff.2 ?_⟩
  unfold mostI at m3 m4 hk
  rw [i64_fit (by omega) (by omega)]
  generalize Int.tdiv ((z - 32) * fill) 100 = most at *
  refine ZLoop.inv (fun q w h' => ∃ (j b : Nat) (outl : List Nat) (out : SL), ZAt 100 [(1, .sl s), (10, .int .i64 most), (11, .sl out), (12, .int .i64 (b : Int)), (13, .int .i64 (j : Int))] w ∧ j + q = X.length ∧ Fram nowhere h h' ∧ Nums h h' out outl ∧ b ≤ 10000000 ∧ AtR most X j b outl) (n := X.length) (by omega)
    ⟨0, 0, [], nilSL, ⟨rfl, rfl, rfl, rfl, rfl, rfl, trivial⟩, by omega, Fram.refl _ _, Grown.start _ _ _, Nat.zero_le _, .inl ⟨rfl, rfl, rfl⟩⟩ ?_
  rintro q w h2 kk hq ⟨j, b, outl, out, hw, hj, f2, g, hb, a⟩ ih
  refine zAt_of _ hw fun d => (rleaves_l11111110100 _ _ _ _ _ _ _ _ _ _ _ _ _).mpr ?_
  have gn := Grown.n_eq g
  rw [ofn la, cnd_dec]
  refine ⟨fun e => ?_, fun e => ?_⟩
  · obtain ⟨x, hx⟩ : ∃ x, X[j]? = some x := ⟨_, List.getElem?_eq_getElem (by omega)⟩
    have hX2 := hX.fr f2
    have na := hX2.nil_of (by decide) (j := j) (by omega)
    have a1 := hX2.len' (by decide) na
    have hxm := List.mem_of_getElem? hx
    obtain ⟨xk, xv⟩ := hX2.ok x hxm
    have l1 := xk.len
    have l2 := xv.len
    have mx := mb x hxm
    have olt : out.nil = false → h.next ≤ out.i := fun e => by
      rcases g.2 with ⟨_, rfl⟩ | ⟨_, _, _, _, _, h6, h7, _⟩
      · cases e
      · exact h6
    have f2n := f2.next
    refine ⟨na, zIdx_nat.2 ⟨by omega, rfl, rfl, zLdL_of (hX2.key na hx) (zW_iff.2 ?_)⟩⟩
    rw [ofn l1, i64_fit (e := 6 + (x.e.1.length : Int)) (by omega) (by omega)]
    refine ⟨na, zIdx_nat.2 ⟨by omega, rfl, rfl, zLdL_of (hX2.val na hx) (zW_iff.2 ?_)⟩⟩
    rw [ofn l2, i64_fit (e := 6 + (x.e.1.length : Int) + (x.e.2.length : Int)) (by omega) (by omega), ofn gn, cnd_dec]
    have en : 2 + (6 + (x.e.1.length : Int) + (x.e.2.length : Int)) = ((2 + long none x.e : Nat) : Int) := by rw [long_none]; omega
    have ln : long none x.e ≤ 6 + 1048576 + 1048576 := Nat.le_trans (long_le none x.e) (by omega)
    refine ⟨fun e1 => ?_, fun e1 => ?_⟩
    · rcases a with ⟨_, rfl, _⟩ | ⟨j0, y, done, cur, hy, rfl, hcur, hdn, hl⟩
      · exact absurd e1 (by decide)
      have hym := List.mem_of_getElem? hy
      have my := mb y hym
      refine zW_iff.2 ?_
      rw [i64_fit (e := (j : Int) - 1) (by omega) (by omega), show (j : Int) - 1 = ((j - 1 : Nat) : Int) by omega]
      refine ⟨na, zIdx_nat.2 ⟨by omega, rfl, rfl, zLdL_of (hX2.key na hy) ⟨na, zIdx_nat.2 ⟨by omega, rfl, rfl, zLdL_of (hX2.key na hx) ?_⟩⟩⟩⟩
      refine rcom_ok (hX2.ok y hym).1 xk (by omega) (by omega) ?_
      rw [av_int]
      refine zRI_av.2 (zW_iff.2 ?_)
      have cl := (com_le y.e.1 x.e.1).2
      have lsome := long_some y.e.1 x.e
      have lle := long_le (some y.e.1) x.e
      rw [i64_fit (by omega) (by omega), show 6 + (x.e.1.length : Int) + (x.e.2.length : Int) - ((com y.e.1 x.e.1 : Nat) : Int) = ((long (some y.e.1) x.e : Nat) : Int) by omega]
      refine zW_iff.2 ?_
      rw [i64_fit (by omega) (by omega), show (b : Int) + ((long (some y.e.1) x.e : Nat) : Int) = ((b + long (some y.e.1) x.e : Nat) : Int) by omega]
      rw [drop_at (ents_at hx), cut_cons] at hl
      rw [cnd_dec]
      refine ⟨fun e2 => ?_, fun e2 => ?_⟩
      · rw [if_pos e2] at hl
        refine zW_iff.2 ?_
        rw [i64_fit (by omega) (by omega)]
        have el : (done ++ [cur]).length = done.length + 1 := by rw [List.length_append]; rfl
        refine zW_iff.2 ?_
        rw [i64_fit (by omega) (by omega), show (((done ++ [cur]).length : Nat) : Int) - 1 = ((done.length : Nat) : Int) by omega]
        obtain ⟨q1, q2, q3⟩ := Nums.at' (j := done.length) g (m := cur) (by simp)
        obtain ⟨p1, p2, p3⟩ := Nums.put g (((cur + 1 : Nat) : Int))
        refine ⟨q1, zIdx_nat.2 ⟨by omega, rfl, zLdI_iff.2 ⟨_, q3, zW_iff.2 ?_⟩⟩⟩
        rw [i64_fit (by omega) (by omega), show (cur : Int) + 1 = ((cur + 1 : Nat) : Int) by omega]
        refine ⟨q1, zIdx_nat.2 ⟨by omega, rfl, zPut_of p1 (zW_iff.2 ?_)⟩⟩
        rw [i64_fit (e := (j : Int) + 1) (by omega) (by omega)]
        refine ih (q - 1) _ _ (by omega) ⟨j + 1, b + long (some y.e.1) x.e, done ++ [cur + 1], out, ⟨rfl, rfl, rfl, rfl, rfl, rfl, trivial⟩, by omega, f2.behind (p3.mono fun i _ ⟨r1, r2⟩ => by rw [r2]; exact olt r1), ?_, by omega, .inr ⟨by omega, x, done, cur + 1, by rw [Nat.add_sub_cancel]; exact hx, rfl, by omega, by omega, hl⟩⟩
        have e5 : nums (done ++ [cur + 1]) = nums done ++ AV.int .i64 ((cur + 1 : Nat) : Int) :: nums [] := by rw [nums_snoc]; rfl
        show Grown _ _ _ 1 _ (nums (done ++ [cur + 1]))
        rw [e5, show (done ++ [cur + 1]).length = (done ++ [cur]).length by simp]
        exact p2
      · rw [if_neg e2] at hl
        refine Nums.more (h0 := h) (m := 1) g f2n (by simp; omega) fun g5 f5 on oi => ?_
        refine zW_iff.2 ?_
        rw [i64_fit (by omega) (by omega), en]
        refine zW_iff.2 ?_
        rw [i64_fit (e := (j : Int) + 1) (by omega) (by omega)]
        exact ih (q - 1) _ _ (by omega) ⟨j + 1, 2 + long none x.e, done ++ [cur] ++ [1], _, ⟨rfl, rfl, rfl, rfl, rfl, rfl, trivial⟩, by omega, f2.behind (f5.mono fun i _ ⟨r1, r2⟩ => by rw [r2]; exact olt r1), g5, by omega, .inr ⟨by omega, x, done ++ [cur], 1, by rw [Nat.add_sub_cancel]; exact hx, rfl, by omega, by rw [List.length_append]; show _ + 1 < _; omega, hl⟩⟩
    · rcases a with ⟨rfl, rfl, rfl⟩ | ⟨j0, y, done, cur, hy, rfl, hcur, hdn, hl⟩
      rotate_left
      · exact absurd e1 (by rw [List.length_append]; simp)
      refine Nums.more (h0 := h) (m := 1) g f2n (by simp) fun g5 f5 on oi => ?_
      refine zW_iff.2 ?_
      rw [i64_fit (by omega) (by omega), en]
      refine zW_iff.2 ?_
      rw [i64_fit (e := ((0 : Nat) : Int) + 1) (by omega) (by omega)]
      exact ih (q - 1) _ _ (by omega) ⟨1, 2 + long none x.e, [] ++ [1], _, ⟨rfl, rfl, rfl, rfl, rfl, rfl, trivial⟩, by omega, f2.behind (f5.mono fun i _ ⟨r1, r2⟩ => by rw [r2]; exact olt r1), g5, by omega, .inr ⟨by omega, x, [], 1, hx, rfl, by omega, by show 0 < 1; omega, by rw [drop0 hx]; rfl⟩⟩
  · refine zAt_of (n := 100) [(11, .sl out)] ⟨rfl, rfl, trivial⟩ fun d' => (rleaves_a11111111 _ _ _ _ _ _).mpr ?_
    rcases a with ⟨rfl, rfl, rfl⟩ | ⟨j0, y, done, cur, hy, rfl, hcur, hdn, hl⟩
    · have : X = [] := List.eq_nil_of_length_eq_zero (by omega)
      subst this
      exact hk _ _ f2 g
    · rw [List.drop_eq_nil_of_le (by rw [ents_len]; omega)] at hl
      have hl : leaves most (ents X) = done ++ [cur] := hl
      rw [hl] at hk
      exact hk _ _ f2 g
end
end BlN
namespace BlN
open Go Go.X Go.X.Df Go.X.Bl Go.Proofs
section
variable {lf n : Nat} {h h0 : Heap} {K : ZK} {X Y : List ER}
theorem weight_ok {a : SL} (ha : Ents h a X) (mb : Mb X) (lX : X.length ≤ 1048577) (hlf : 2000000 < lf)
    (hk : ∀ w : Int, K (.int .i64 w) h) : zCall Tryz.prog SB lf (n + 1) 5 [.sl a] K h := by
  refine zCall_at (hS (by decide)) (by kernel_rfl) ?_
  rw [weight_nf]
  have la := ha.len (by decide)
  have fin : ∀ (w : Int) (z : ZT), ZAt 32 [(3, .int .i64 w)] z → zAt Tryz.prog (zCall Tryz.prog SB lf n) lf 5 [1, 1, 1] z (zFin Tryz.prog 5 K) ⟨[], zFin Tryz.prog 5 K⟩ h := fun w z hz =>
    zAt_of (n := 32) _ hz fun d' => (weight_a111 _ _ _ _ _ _).mpr (hk w)
  refine ZLoop.inv (fun q z h' => ∃ (j : Nat) (w : Int), ZAt 32 [(0, .sl a), (3, .int .i64 w), (4, .int .i64 (j : Int))] z ∧ h' = h ∧ j + q = X.length ∧ 0 ≤ w ∧ w ≤ 5000000000) (n := X.length) (by omega) ⟨0, 0, ⟨rfl, rfl, rfl, rfl, trivial⟩, rfl, by omega, by omega, by omega⟩ ?_
  rintro q z h' kk hq ⟨j, w, hz, rfl, hj, w0, w1⟩ ih
  refine zAt_of _ hz fun d => (weight_l110100 _ _ _ _ _ _ _ _ _ _ _).mpr ?_
  rw [ofn la, cnd_dec]
  refine ⟨fun e => ?_, fun e => fin w _ ⟨rfl, rfl, trivial⟩⟩
  rw [cnd_t, cnd_dec]
  refine ⟨fun e2 => ?_, fun e2 => fin w _ ⟨rfl, rfl, trivial⟩⟩
  obtain ⟨x, hx⟩ : ∃ x, X[j]? = some x := ⟨_, List.getElem?_eq_getElem (by omega)⟩
  have na := ha.nil_of (by decide) (j := j) (by omega)
  have a1 := ha.len' (by decide) na
  have hxm := List.mem_of_getElem? hx
  obtain ⟨xk, xv⟩ := ha.ok x hxm
  have l1 := xk.len
  have l2 := xv.len
  have mx := mb x hxm
  refine zW_iff.2 ?_
  rw [i64_fit (by omega) (by omega)]
  refine ⟨na, zIdx_nat.2 ⟨by omega, rfl, rfl, zLdL_of (ha.key na hx) (zW_iff.2 ?_)⟩⟩
  rw [ofn l1, i64_fit (by omega) (by omega)]
  refine ⟨na, zIdx_nat.2 ⟨by omega, rfl, rfl, zLdL_of (ha.val na hx) (zW_iff.2 ?_)⟩⟩
  rw [ofn l2, i64_fit (by omega) (by omega)]
  refine zW_iff.2 ?_
  rw [i64_fit (e := (j : Int) + 1) (by omega) (by omega)]
  exact ih (q - 1) _ _ (by omega) ⟨j + 1, _, ⟨rfl, rfl, rfl, rfl, trivial⟩, rfl, by omega, by omega, by omega⟩
theorem sints_ok {a b : SL} {l : List Nat} (ha : Seg h a 1 (nums l)) (hb : Seg h b 1 (nums l)) (hl : l.length ≤ 1048577) (hlf : 2000000 < lf) (k : K (.bool true) h) :
    zCall Tryz.prog SB lf (n + 1) 9 [.sl a, .sl b] K h := by
  refine zCall_at (hS (by decide)) (by kernel_rfl) ?_
  rw [sints_nf]
  have la := ha.len
  have lb := hb.len
  rw [nums_len, Nat.mul_one] at la lb
  rw [ofn la.symm, ofn lb.symm, decide_eq_true rfl, Bool.not_true, cnd_fP]
  refine ZLoop.inv (fun q z h' => ∃ j : Nat, ZAt 26 [(0, .sl a), (1, .sl b), (5, .int .i64 (j : Int))] z ∧ h' = h ∧ j + q = l.length) (n := l.length) (by omega) ⟨0, ⟨rfl, rfl, rfl, rfl, trivial⟩, rfl, by omega⟩ ?_
  rintro q z h' kk hq ⟨j, hz, rfl, hj⟩ ih
  refine zAt_of _ hz fun d => (sints_l110100 _ _ _ _ _ _ _ _ _ _ _).mpr ?_
  rw [ofn la.symm, cnd_dec]
  refine ⟨fun e => ?_, fun e => zAt_of (n := 26) [] ⟨rfl, trivial⟩ fun d' => (sints_a111 _ _ _ _ _).mpr k⟩
  obtain ⟨m, hm⟩ : ∃ m, l[j]? = some m := ⟨_, List.getElem?_eq_getElem (by omega)⟩
  have na : a.nil = false := by
    cases hn : a.nil with
    | false => rfl
    | true => rw [SL.n_nil hn] at la; omega
  have nb : b.nil = false := by
    cases hn : b.nil with
    | false => rfl
    | true => rw [SL.n_nil hn] at lb; omega
  have l1 := SL.n_of na
  have l2 := SL.n_of nb
  have hc : (nums l)[j]? = some (.int .i64 (m : Int)) := by unfold nums; rw [List.getElem?_map, hm]; rfl
  refine ⟨na, zIdx_nat.2 ⟨by omega, rfl, zLdI_iff.2 ⟨_, by rw [Nat.mul_one]; exact ha.at' na hc, ⟨nb, zIdx_nat.2 ⟨by omega, rfl, zLdI_iff.2 ⟨_, by rw [Nat.mul_one]; exact hb.at' nb hc, ?_⟩⟩⟩⟩⟩⟩
  rw [decide_eq_true rfl, Bool.not_true, cnd_fP]
  refine zW_iff.2 ?_
  rw [i64_fit (e := (j : Int) + 1) (by omega) (by omega)]
  exact ih (q - 1) _ _ (by omega) ⟨j + 1, ⟨rfl, rfl, rfl, rfl, trivial⟩, rfl, by omega⟩
theorem sents_ok {a b : SL} (ha : Ents h a X) (hb : Ents h b Y) (he : ents X = ents Y) (lX : X.length ≤ 1048577) (hlf : 2000000 < lf) (k : K (.bool true) h) :
    zCall Tryz.prog SB lf (n + 1) 10 [.sl a, .sl b] K h := by
  refine zCall_at (hS (by decide)) (by kernel_rfl) ?_
  rw [sents_nf]
  have la := ha.len (by decide)
  have lb := hb.len (by decide)
  have el : Y.length = X.length := by
    have := congrArg List.length he
    rw [ents_len, ents_len] at this
    exact this.symm
  rw [ofn la, ofn (lb.trans el), decide_eq_true rfl, Bool.not_true, cnd_fP]
  refine ZLoop.inv (fun q z h' => ∃ j : Nat, ZAt 45 [(0, .sl a), (1, .sl b), (5, .int .i64 (j : Int))] z ∧ h' = h ∧ j + q = X.length) (n := X.length) (by omega) ⟨0, ⟨rfl, rfl, rfl, rfl, trivial⟩, rfl, by omega⟩ ?_
  rintro q z h' kk hq ⟨j, hz, rfl, hj⟩ ih
  refine zAt_of _ hz fun d => (sents_l110100 _ _ _ _ _ _ _ _ _ _ _).mpr ?_
  rw [ofn la, cnd_dec]
  refine ⟨fun e => ?_, fun e => zAt_of (n := 45) [] ⟨rfl, trivial⟩ fun d' => (sents_a111 _ _ _ _ _).mpr k⟩
  obtain ⟨x, hx⟩ : ∃ x, X[j]? = some x := ⟨_, List.getElem?_eq_getElem (by omega)⟩
  obtain ⟨y, hy⟩ : ∃ y, Y[j]? = some y := ⟨_, List.getElem?_eq_getElem (by omega)⟩
  have na := ha.nil_of (by decide) (j := j) (by omega)
  have nb := hb.nil_of (by decide) (j := j) (by omega)
  have a1 := ha.len' (by decide) na
  have b1 := hb.len' (by decide) nb
  obtain ⟨xk, xv⟩ := ha.ok x (List.mem_of_getElem? hx)
  obtain ⟨yk, yv⟩ := hb.ok y (List.mem_of_getElem? hy)
  have exy : x.e = y.e := by
    have := congrArg (·[j]?) he
    simp only [ents_at hx, ents_at hy, Option.some.injEq] at this
    exact this
  refine ⟨na, zIdx_nat.2 ⟨by omega, rfl, rfl, zLdL_of (ha.key na hx) (xk.zbytes ⟨nb, zIdx_nat.2 ⟨by omega, rfl, rfl, zLdL_of (hb.key nb hy) (yk.zbytes ?_)⟩⟩)⟩⟩
  rw [exy, decide_eq_true rfl, Bool.not_true, cnd_fP]
  refine ⟨na, zIdx_nat.2 ⟨by omega, rfl, rfl, zLdL_of (ha.val na hx) (xv.zbytes ⟨nb, zIdx_nat.2 ⟨by omega, rfl, rfl, zLdL_of (hb.val nb hy) (yv.zbytes ?_)⟩⟩)⟩⟩
  rw [exy, cnd_f, decide_eq_true rfl, Bool.not_true, cnd_fP]
  refine zW_iff.2 ?_
  rw [i64_fit (e := (j : Int) + 1) (by omega) (by omega)]
  exact ih (q - 1) _ _ (by omega) ⟨j + 1, ⟨rfl, rfl, rfl, rfl, trivial⟩, rfl, by omega⟩
theorem room5 {k : Nat} (h : k ≤ 4294967296) : roomB Tryz.prog 5 k = true := by
  have e0 : bytesO Tryz.prog 5 = some 1 := by kernel_rfl
  unfold roomB; rw [e0]
  show cnd (Nat.ble (Nat.mul k 1) most) (Nat.ble k most) false = true
  have e1 : Nat.ble (Nat.mul k 1) most = true := Nat.ble_eq_true_of_le (by show k * 1 ≤ 1099511627776; omega)
  have e2 : Nat.ble k most = true := Nat.ble_eq_true_of_le (by show k ≤ 1099511627776; omega)
  rw [e1, e2]; rfl
theorem app_emp {P : Program} {h0 h : Heap} {i n e : Nat} {k : Ky} {A : Prop} (hi : h0.next ≤ i) (lt : i < h.next) (hg : h.get i = some (.cells [] 1 false false)) (hn : n = k.length) (hb : ∀ x, x ∈ k → x < 256) (hr : roomB P e k.length = true) (hh : h0.next ≤ h.next)
    (ha : Fram nowhere h (happ h ⟨false, i, 0, 0, 0, false⟩ 1 n (ofBytes k)) → Cln h0 (happ h ⟨false, i, 0, 0, 0, false⟩ 1 n (ofBytes k)) (SL.app ⟨false, i, 0, 0, 0, false⟩ h.next n) k → (SL.app ⟨false, i, 0, 0, 0, false⟩ h.next n).nil = false →
      ((SL.app ⟨false, i, 0, 0, 0, false⟩ h.next n).i = i ∨ h.next ≤ (SL.app ⟨false, i, 0, 0, 0, false⟩ h.next n).i) → A) :
    ZApp P h ⟨false, i, 0, 0, 0, false⟩ e 1 n (ofBytes k) A := by
  subst hn
  refine ⟨⟨fun _ => Nat.le_refl _, fun _ e => (by cases e), fun h1 _ h2 => ?_, fun _ _ => ?_, fun _ _ _ h => (by cases h), fun _ _ _ _ => ⟨[], cellsAt_of hg, by simp⟩⟩, allPlain_bytes k, ?_⟩
  · exact absurd h2 (by show ¬ 0 + k.length ≤ 0; omega)
  · show roomB P e (0 + k.length) = true
    rw [Nat.zero_add]; exact hr
  cases k with
  | nil => exact ha (Fram.refl _ _) ⟨⟨Seg.own (cs := []) (more := []) (e := 1) (g := false) (m := false) (by rfl) lt hg, hb⟩, fun _ => ⟨hi, rfl, rfl, hg⟩, fun e => (by cases e)⟩ rfl (.inl rfl)
  | cons x k =>
    have e1 : happ h ⟨false, i, 0, 0, 0, false⟩ 1 (x :: k).length (ofBytes (x :: k)) = h.newO (.cells (ofBytes (x :: k)) 1 true false) := by
      unfold happ
      rw [show Nat.beq (x :: k).length 0 = false from rfl]
      simp only
      rw [show Nat.ble (0 + (x :: k).length) 0 = false by rw [Nat.zero_add]; rfl, hg]
      rfl
    have e2 : SL.app ⟨false, i, 0, 0, 0, false⟩ h.next (x :: k).length = ⟨false, h.next, 0, (x :: k).length, (x :: k).length, true⟩ := by
      unfold SL.app
      rw [show Nat.beq (x :: k).length 0 = false from rfl]
      simp only
      rw [show Nat.ble (0 + (x :: k).length) 0 = false by rw [Nat.zero_add]; rfl, Nat.zero_add]
    rw [e1, e2] at ha
    exact ha (Fram.newO _ _ _) ⟨⟨Seg.own (cs := ofBytes (x :: k)) (more := []) (e := 1) (g := true) (m := false) (by rw [ofBytes_length, Nat.mul_one]) (Nat.lt_succ_self _) (by rw [List.append_nil]; exact newO_get_self _ _), hb⟩, fun _ => ⟨hh, rfl, rfl, newO_get_self _ _⟩, fun e => (by cases e)⟩ rfl (.inr (Nat.le_refl _))
theorem _root_.Go.X.Cln.fr {h0 h h' : Heap} {s : SL} {k : List Nat} {S : Nat → Prop} (x : Cln h0 h s k) (f : Fram S h h') (hs : s.nil = false → ¬ S s.i) : Cln h0 h' s k :=
  ⟨x.byts.fr f hs, fun e => by
    obtain ⟨h1, h2, h3, h4⟩ := x.own e
    exact ⟨h1, h2, h3, (f.same _ (x.byts.seg.lt e) (hs e)).trans h4⟩, x.nils⟩
theorem _root_.Go.X.Cln.of {h0 h1 h : Heap} {s : SL} {k : List Nat} (x : Cln h1 h s k) (hn : h0.next ≤ h1.next) : Cln h0 h s k :=
  ⟨x.byts, fun e => by
    obtain ⟨h1, h2, h3, h4⟩ := x.own e
    exact ⟨Nat.le_trans hn h1, h2, h3, h4⟩, x.nils⟩
structure ER.Cl (h0 h : Heap) (x : ER) : Prop where
  k : Cln h0 h x.ks x.e.1
  v : Cln h0 h x.vs x.e.2
  kn : x.ks.nil = false
  vn : x.vs.nil = false
theorem ER.Cl.fr {h0 h h' : Heap} {x : ER} {S : Nat → Prop} (a : x.Cl h0 h) (f : Fram S h h') (h1 : ¬ S x.ks.i) (h2 : ¬ S x.vs.i) : x.Cl h0 h' := ⟨a.k.fr f fun _ => h1, a.v.fr f fun _ => h2, a.kn, a.vn⟩
theorem ER.Cl.ok {h0 h : Heap} {x : ER} (a : x.Cl h0 h) : x.Ok h := ⟨a.k.byts, a.v.byts⟩
def ER.ids (x : ER) : List Nat := [x.ks.i, x.vs.i]
theorem ER.Cl.lt {h0 h : Heap} {x : ER} (a : x.Cl h0 h) {i : Nat} (hi : i ∈ x.ids) : h0.next ≤ i ∧ i < h.next := by
  simp only [ER.ids, List.mem_cons, List.not_mem_nil, or_false] at hi
  rcases hi with rfl | rfl
  · exact ⟨(a.k.own a.kn).1, a.k.byts.seg.lt a.kn⟩
  · exact ⟨(a.v.own a.vn).1, a.v.byts.seg.lt a.vn⟩
structure Cp (h0 h : Heap) (s : SL) (R : List ER) : Prop where
  g : Grown h0 h s 2 R.length (R.flatMap ER.row)
  ok : ∀ r, r ∈ R → r.Cl h0 h
  ids : (R.flatMap ER.ids).Pairwise (· ≠ ·)
  sep : s.nil = false → ∀ i, i ∈ R.flatMap ER.ids → i ≠ s.i
theorem Cp.more {h1 : Heap} {s : SL} {R : List ER} {x : ER} {A : List AV → Prop} (c : Cp h0 h s R) (hn : h0.next ≤ h.next) (f : Fram nowhere h h1) (cl : x.Cl h h1) (ne : x.ks.i ≠ x.vs.i) (hl : R.length ≤ 1048577)
    (ha : Cp h0 (happ (h1.newO (.cells [x.ks.av, x.vs.av] 2 false false)) s 2 1 [x.ks.av, x.vs.av]) (s.app (h1.newO (.cells [x.ks.av, x.vs.av] 2 false false)).next 1) (R ++ [x]) →
      Fram (fun i => s.nil = false ∧ i = s.i) h (happ (h1.newO (.cells [x.ks.av, x.vs.av] 2 false false)) s 2 1 [x.ks.av, x.vs.av]) → A [x.ks.av, x.vs.av]) :
    ZSrc (h1.newO (.cells [x.ks.av, x.vs.av] 2 false false)) ⟨false, h1.next, 0, 1, 1, false⟩ 2 fun ds => ZApp Tryz.prog (h1.newO (.cells [x.ks.av, x.vs.av] 2 false false)) s 28 2 1 ds (A ds) := by
  have f2 : Fram nowhere h1 (h1.newO (.cells [x.ks.av, x.vs.av] 2 false false)) := Fram.newO _ _ _
  have sg : Seg (h1.newO (.cells [x.ks.av, x.vs.av] 2 false false)) ⟨false, h1.next, 0, 1, 1, false⟩ 2 x.row := Seg.own (more := []) rfl (Nat.lt_succ_self _) (by rw [List.append_nil]; exact newO_get_self _ _)
  refine sg.zsrc ?_
  have F := f.trans f2
  have fn := f.next
  have hn1 : (h1.newO (.cells [x.ks.av, x.vs.av] 2 false false)).next = h1.next + 1 := rfl
  have olt : s.nil = false → h0.next ≤ s.i ∧ s.i < h.next := fun e => by
    rcases c.g.2 with ⟨_, rfl⟩ | ⟨_, _, _, _, _, h6, h7, _⟩
    · cases e
    · exact ⟨h6, h7⟩
  refine (c.g.fr F fun _ => id).append1 (by omega) (by decide) rfl x.plain (room28 (by omega)) fun g2 f3 hi => ?_
  have F3 := (F.mono (T := fun i => s.nil = false ∧ i = s.i) fun _ _ e => e.elim).trans f3
  have hids : ∀ i, i ∈ R.flatMap ER.ids → i < h.next := fun i hi => by
    obtain ⟨r, hr, h2⟩ := List.mem_flatMap.1 hi
    exact ((c.ok r hr).lt h2).2
  have xids : ∀ i, i ∈ x.ids → h.next ≤ i ∧ i < h1.next := fun i hi => cl.lt hi
  have xk := xids x.ks.i (by simp [ER.ids])
  have xv := xids x.vs.i (by simp [ER.ids])
  refine ha ⟨?_, fun r hr => ?_, ?_, fun _ i hi' => ?_⟩ F3
  · rw [List.length_append, List.flatMap_append]
    have : List.flatMap ER.row [x] = x.row := by simp
    rw [this]; exact g2
  · rcases List.mem_append.1 hr with h8 | h8
    · have m1 : r.ks.i ∈ R.flatMap ER.ids := List.mem_flatMap.2 ⟨r, h8, by simp [ER.ids]⟩
      have m2 : r.vs.i ∈ R.flatMap ER.ids := List.mem_flatMap.2 ⟨r, h8, by simp [ER.ids]⟩
      exact (c.ok r h8).fr F3 (fun ⟨e1, e2⟩ => c.sep e1 _ m1 e2) fun ⟨e1, e2⟩ => c.sep e1 _ m2 e2
    · rw [List.mem_singleton.1 h8]
      have c2 : x.Cl h0 h1 := ⟨cl.k.of hn, cl.v.of hn, cl.kn, cl.vn⟩
      exact (c2.fr f2 id id).fr f3 (fun ⟨e1, e2⟩ => by have := (olt e1).2; omega) fun ⟨e1, e2⟩ => by have := (olt e1).2; omega
  · rw [List.flatMap_append]
    refine List.pairwise_append.2 ⟨c.ids, ?_, fun a ha' b hb' => ?_⟩
    · show ([x.ks.i, x.vs.i] ++ []).Pairwise _
      simp [ne]
    · rw [List.flatMap_cons, List.flatMap_nil, List.append_nil] at hb'
      have := hids a ha'
      have := (xids b hb').1
      omega
  · rw [List.flatMap_append, List.flatMap_cons, List.flatMap_nil, List.append_nil] at hi'
    rcases List.mem_append.1 hi' with h8 | h8
    · have := hids i h8
      omega
    · have := (xids i h8).2
      omega
end
end BlN
namespace BlN
open Go Go.X Go.X.Df Go.X.Bl Go.Proofs
section
variable {lf n : Nat} {h h0 : Heap} {K : ZK} {X Y : List ER}
theorem copies_ok {a : SL} (ha : Ents h a X) (mb : Mb X) (lX : X.length ≤ 1048576) (hlf : 2000000 < lf) (hk : ∀ h' s R, Fram nowhere h h' → Cp h h' s R → ents R = ents X → K (.sl s) h') :
    zCall Tryz.prog SB lf (n + 1) 6 [.sl a] K h := by
  refine zCall_at (hS (by decide)) (by kernel_rfl) ?_
  rw [copies_nf]
  have la := ha.len (by decide)
  refine ZLoop.inv (fun q z h' => ∃ (j : Nat) (s : SL) (R : List ER), ZAt 30 [(0, .sl a), (3, .sl s), (4, .int .i64 (j : Int))] z ∧ j + q = X.length ∧ Fram nowhere h h' ∧ Cp h h' s R ∧ ents R = (ents X).take j) (n := X.length) (by omega)
    ⟨0, nilSL, [], ⟨rfl, rfl, rfl, rfl, trivial⟩, by omega, Fram.refl _ _, ⟨Grown.start _ _ _, fun r hr => (by cases hr), List.Pairwise.nil, fun e => (by cases e)⟩, rfl⟩ ?_
  rintro q z h1 kk hq ⟨j, s, R, hz, hj, f, c, he⟩ ih
  refine zAt_of _ hz fun d => (copies_l110100 _ _ _ _ _ _ _ _ _ _ _).mpr ?_
  rw [ofn la, cnd_dec]
  refine ⟨fun e => ?_, fun e => zAt_of (n := 30) [(3, .sl s)] ⟨rfl, rfl, trivial⟩ fun d' => (copies_a111 _ _ _ _ _ _).mpr (hk h1 s R f c (by rw [he, List.take_of_length_le (by rw [ents_len]; omega)]))⟩
  obtain ⟨x, hx⟩ : ∃ x, X[j]? = some x := ⟨_, List.getElem?_eq_getElem (by omega)⟩
  have hX1 := ha.fr f
  have na := hX1.nil_of (by decide) (j := j) (by omega)
  have a1 := hX1.len' (by decide) na
  have hxm := List.mem_of_getElem? hx
  have mx := mb x hxm
  obtain ⟨xk, xv⟩ := hX1.ok x hxm
  have l1 := xk.len
  have l2 := xv.len
  have fn := f.next
  have rl : R.length = j := by
    have := congrArg List.length he
    rw [ents_len, List.length_take, ents_len] at this
    omega
  have olt : s.nil = false → h.next ≤ s.i := fun e => by
    rcases c.g.2 with ⟨_, rfl⟩ | ⟨_, _, _, _, _, h6, h7, _⟩
    · cases e
    · exact h6
  have r1 : roomB Tryz.prog 5 x.e.1.length = true := room5 (by omega)
  have r2 : roomB Tryz.prog 5 x.e.2.length = true := room5 (by omega)
  have K2 : ∀ {h' : Heap}, Fram nowhere h1 h' → cellAt h' a.i (Nat.add (a.o + j * 2) 0) = some x.ks.av := fun g => (hX1.fr g).key na hx
  have V2 : ∀ {h' : Heap}, Fram nowhere h1 h' → cellAt h' a.i (Nat.add (a.o + j * 2) 1) = some x.vs.av := fun g => (hX1.fr g).val na hx
  have step : ∀ {h' : Heap} {s' : SL} {ks vs : SL}, Cp h h' s' (R ++ [⟨ks, vs, x.e⟩]) → Fram (fun i => s.nil = false ∧ i = s.i) h1 h' → Fram nowhere h h' ∧ ents (R ++ [⟨ks, vs, x.e⟩]) = (ents X).take (j + 1) := fun c' f' =>
    ⟨f.behind (f'.mono fun i _ ⟨e1, e2⟩ => by rw [e2]; exact olt e1), by rw [ents_snoc, he, List.take_add_one, ents_at hx]; rfl⟩
  have i1 : IntKind.i64.wrap ((j : Int) + 1) = ((j + 1 : Nat) : Int) := by rw [i64_fit (by omega) (by omega)]; omega
  have fN : Fram nowhere h1 (h1.newO (.cells [] 1 false false)) := Fram.newO _ _ _
  have gN : (h1.newO (.cells [] 1 false false)).get h1.next = some (.cells [] 1 false false) := newO_get_self _ _
  have nN : (h1.newO (.cells [] 1 false false)).next = h1.next + 1 := rfl
  generalize h1.newO (.cells [] 1 false false) = H2 at fN gN nN ⊢
  have fM : Fram nowhere H2 (H2.newO (.cells [] 1 false false)) := Fram.newO _ _ _
  have gM : (H2.newO (.cells [] 1 false false)).get H2.next = some (.cells [] 1 false false) := newO_get_self _ _
  have gM1 : (H2.newO (.cells [] 1 false false)).get h1.next = some (.cells [] 1 false false) := (fM.same _ (by omega) id).trans gN
  have nM : (H2.newO (.cells [] 1 false false)).next = H2.next + 1 := rfl
  refine ⟨⟨na, zIdx_nat.2 ⟨by omega, rfl, rfl, zLdL_of (hX1.key na hx) ⟨na, zIdx_nat.2 ⟨by omega, rfl, rfl, zLdL_of (hX1.val na hx) ⟨⟨rfl, zLdL_of (V2 fN) rfl⟩, ⟨rfl, zLdL_of (K2 fN) rfl⟩, ?_⟩⟩⟩⟩⟩, ?_, ?_⟩
  · refine (xk.fr fN fun _ => id).seg.zsrc (app_emp (h0 := h1) (Nat.le_refl _) (by omega) gN l1 xk.byte r1 (by omega) fun fA cA nA iA => ?_)
    generalize happ H2 ⟨false, h1.next, 0, 0, 0, false⟩ 1 x.ks.n (ofBytes x.e.1) = HA at fA cA ⊢
    generalize SL.app ⟨false, h1.next, 0, 0, 0, false⟩ H2.next x.ks.n = sA at cA nA iA ⊢
    have FA := fN.trans fA
    have fB : Fram nowhere HA (HA.newO (.cells [] 1 false false)) := Fram.newO _ _ _
    have gB : (HA.newO (.cells [] 1 false false)).get HA.next = some (.cells [] 1 false false) := newO_get_self _ _
    have nB : (HA.newO (.cells [] 1 false false)).next = HA.next + 1 := rfl
    refine ⟨⟨rfl, zLdL_of (V2 FA) rfl⟩, ⟨rfl, zLdL_of (V2 (FA.trans fB)) rfl⟩, ⟨rfl, zLdL_of (K2 (FA.trans fB)) rfl⟩, ?_⟩
    generalize HA.newO (.cells [] 1 false false) = HB at fB gB nB ⊢
    have FB := FA.trans fB
    have nFA := FA.next
    refine (xv.fr FB fun _ => id).seg.zsrc (app_emp (h0 := h1) (by omega) (by omega) gB l2 xv.byte r2 (by omega) fun fC cC nC iC => ?_)
    generalize happ HB ⟨false, HA.next, 0, 0, 0, false⟩ 1 x.vs.n (ofBytes x.e.2) = HC at fC cC ⊢
    generalize SL.app ⟨false, HA.next, 0, 0, 0, false⟩ HB.next x.vs.n = sC at cC nC iC ⊢
    have lA := cA.byts.seg.lt nA
    refine Cp.more (x := ⟨sA, sC, x.e⟩) c fn (FB.trans fC) ⟨(cA.fr fB fun _ => id).fr fC fun _ => id, cC, nA, nC⟩ (by show sA.i ≠ sC.i; omega) (by omega) fun c' f' => ?_
    obtain ⟨g1, g2⟩ := step c' f'
    refine zW_iff.2 ?_
    rw [i1]
    exact ih (q - 1) _ _ (by omega) ⟨j + 1, _, _, ⟨rfl, rfl, rfl, rfl, trivial⟩, by omega, g1, c', g2⟩
  · refine ⟨na, zIdx_nat.2 ⟨by omega, rfl, rfl, zLdL_of (hX1.key na hx) ⟨na, zIdx_nat.2 ⟨by omega, rfl, rfl, zLdL_of (hX1.val na hx) ⟨⟨rfl, zLdL_of (V2 fN) rfl⟩, ⟨rfl, zLdL_of (K2 fN) rfl⟩, ⟨rfl, zLdL_of (V2 (fN.trans fM)) rfl⟩, ⟨rfl, zLdL_of (K2 (fN.trans fM)) rfl⟩, ?_⟩⟩⟩⟩⟩
    generalize H2.newO (.cells [] 1 false false) = H5 at fM gM gM1 nM ⊢
    have FM := fN.trans fM
    refine (xk.fr FM fun _ => id).seg.zsrc (app_emp (h0 := h1) (Nat.le_refl _) (by omega) gM1 l1 xk.byte r1 (by omega) fun fA cA nA iA => ?_)
    generalize happ H5 ⟨false, h1.next, 0, 0, 0, false⟩ 1 x.ks.n (ofBytes x.e.1) = HA at fA cA ⊢
    generalize SL.app ⟨false, h1.next, 0, 0, 0, false⟩ H5.next x.ks.n = sA at cA nA iA ⊢
    have FA := FM.trans fA
    have nFA := fA.next
    have lA := cA.byts.seg.lt nA
    refine ⟨⟨rfl, zLdL_of (V2 FA) rfl⟩, ?_⟩
    refine (xv.fr FA fun _ => id).seg.zsrc (app_emp (h0 := h1) (i := H2.next) (by omega) (by omega) ((fA.same _ (by omega) id).trans gM) l2 xv.byte r2 (by omega) fun fC cC nC iC => ?_)
    generalize happ HA ⟨false, H2.next, 0, 0, 0, false⟩ 1 x.vs.n (ofBytes x.e.2) = HC at fC cC ⊢
    generalize SL.app ⟨false, H2.next, 0, 0, 0, false⟩ HA.next x.vs.n = sC at cC nC iC ⊢
    refine Cp.more (x := ⟨sA, sC, x.e⟩) c fn (FA.trans fC) ⟨cA.fr fC fun _ => id, cC, nA, nC⟩ (by show sA.i ≠ sC.i; omega) (by omega) fun c' f' => ?_
    obtain ⟨g1, g2⟩ := step c' f'
    refine zW_iff.2 ?_
    rw [i1]
    exact ih (q - 1) _ _ (by omega) ⟨j + 1, _, _, ⟨rfl, rfl, rfl, rfl, trivial⟩, by omega, g1, c', g2⟩
  · refine ⟨na, zIdx_nat.2 ⟨by omega, rfl, rfl, zLdL_of (hX1.key na hx) ⟨na, zIdx_nat.2 ⟨by omega, rfl, rfl, zLdL_of (hX1.val na hx) ⟨⟨rfl, zLdL_of (V2 fN) rfl⟩, ⟨rfl, zLdL_of (K2 fN) rfl⟩, ⟨rfl, zLdL_of (V2 (fN.trans fM)) rfl⟩, ⟨rfl, zLdL_of (K2 (fN.trans fM)) rfl⟩, ?_⟩⟩⟩⟩⟩
    generalize H2.newO (.cells [] 1 false false) = H5 at fM gM gM1 nM ⊢
    have FM := fN.trans fM
    refine (xk.fr FM fun _ => id).seg.zsrc (app_emp (h0 := h1) (i := H2.next) (by omega) (by omega) gM l1 xk.byte r1 (by omega) fun fA cA nA iA => ?_)
    generalize happ H5 ⟨false, H2.next, 0, 0, 0, false⟩ 1 x.ks.n (ofBytes x.e.1) = HA at fA cA ⊢
    generalize SL.app ⟨false, H2.next, 0, 0, 0, false⟩ H5.next x.ks.n = sA at cA nA iA ⊢
    have FA := FM.trans fA
    have nFA := fA.next
    have lA := cA.byts.seg.lt nA
    refine ⟨⟨rfl, zLdL_of (V2 FA) rfl⟩, ?_⟩
    refine (xv.fr FA fun _ => id).seg.zsrc (app_emp (h0 := h1) (i := h1.next) (Nat.le_refl _) (by omega) ((fA.same _ (by omega) id).trans gM1) l2 xv.byte r2 (by omega) fun fC cC nC iC => ?_)
    generalize happ HA ⟨false, h1.next, 0, 0, 0, false⟩ 1 x.vs.n (ofBytes x.e.2) = HC at fC cC ⊢
    generalize SL.app ⟨false, h1.next, 0, 0, 0, false⟩ HA.next x.vs.n = sC at cC nC iC ⊢
    refine Cp.more (x := ⟨sA, sC, x.e⟩) c fn (FA.trans fC) ⟨cA.fr fC fun _ => id, cC, nA, nC⟩ (by show sA.i ≠ sC.i; omega) (by omega) fun c' f' => ?_
    obtain ⟨g1, g2⟩ := step c' f'
    refine zW_iff.2 ?_
    rw [i1]
    exact ih (q - 1) _ _ (by omega) ⟨j + 1, _, _, ⟨rfl, rfl, rfl, rfl, trivial⟩, by omega, g1, c', g2⟩
end
end BlN
namespace BlN
open Go Go.X Go.X.Df Go.X.Bl Go.Proofs
def markC : List AV := [.int .u8 109, .int .u8 97, .int .u8 114, .int .u8 107]
structure Rw (h0 h : Heap) (s : SL) (R : List ER) (m : Nat) : Prop where
  g : Grown h0 h s 2 (R.length + 1) (R.flatMap ER.row ++ [.slice m 0 4 4 false, .nils])
  low : h0.next ≤ m
  lt : m < h.next
  get : h.get m = some (.cells markC 1 false true)
theorem Rw.is {h0 h : Heap} {s : SL} {R : List ER} {m : Nat} (r : Rw h0 h s R m) : s = ⟨false, s.i, 0, R.length + 1, R.length + 1, true⟩ ∧ h0.next ≤ s.i ∧ s.i < h.next ∧ h.get s.i = some (.cells (R.flatMap ER.row ++ [.slice m 0 4 4 false, .nils]) 2 true false) := by
  obtain ⟨nil, i, o, len, cap, ext⟩ := s
  rcases r.g.2 with ⟨q, _⟩ | ⟨a1, a2, a3, a4, a5, a6, a7, a8⟩
  · omega
  · simp only at a1 a2 a3 a4 a5
    subst a1 a2 a3 a4 a5
    exact ⟨rfl, a6, a7, a8⟩
theorem Rw.ne {h0 h : Heap} {s : SL} {R : List ER} {m : Nat} (r : Rw h0 h s R m) : m ≠ s.i := by
  obtain ⟨_, _, _, e⟩ := r.is
  intro q
  rw [← q, r.get] at e
  simp only [Option.some.injEq, AObj.cells.injEq] at e
  exact absurd e.2.1 (by decide)
theorem Rw.fr {h0 h h' : Heap} {s : SL} {R : List ER} {m : Nat} {T : Nat → Prop} (r : Rw h0 h s R m) (f : Fram T h h') (h1 : ¬ T s.i) (h2 : ¬ T m) : Rw h0 h' s R m :=
  ⟨r.g.fr f fun _ => h1, r.low, Nat.lt_of_lt_of_le r.lt f.next, (f.same _ r.lt h2).trans r.get⟩
theorem Rw.cut {h0 h : Heap} {s : SL} {R : List ER} {m : Nat} (r : Rw h0 h s R m) (ok : ∀ x, x ∈ R → x.Ok h) : Ents h (s.cut 2 0 R.length s.cap s.ext) R ∧ ((s.nil = true → 0 = 0 ∧ R.length = 0) ∧ (s.nil = false → Nat.le 0 R.length ∧ Nat.le R.length s.cap)) := by
  obtain ⟨e, h1, h2, h3⟩ := r.is
  generalize hi : s.i = i at *
  subst e
  have fl : (R.flatMap ER.row).length = R.length * 2 := flat_length fun _ _ => rfl
  refine ⟨⟨?_, fun _ _ => rfl, ok⟩, fun e => (by cases e), fun _ => ⟨Nat.zero_le _, Nat.le_succ _⟩⟩
  have es : SL.cut ⟨false, i, 0, R.length + 1, R.length + 1, true⟩ 2 0 R.length (R.length + 1) true = ⟨false, i, 0, R.length, R.length + 1, true⟩ := by
    unfold SL.cut
    rw [show Nat.beq 0 (R.length + 1) = false from rfl]
    simp
  rw [es]
  exact Seg.own fl h2 h3
theorem Rw.at' {h0 h : Heap} {s : SL} {R : List ER} {m : Nat} (r : Rw h0 h s R m) {j : Nat} {x : ER} (hx : R[j]? = some x) : s.nil = false ∧ j < s.len ∧ cellAt h s.i (Nat.add (s.o + j * 2) 0) = some x.ks.av ∧ cellAt h s.i (Nat.add (s.o + j * 2) 1) = some x.vs.av := by
  obtain ⟨e, h1, h2, h3⟩ := r.is
  have hj := (List.getElem?_eq_some_iff.1 hx).1
  generalize hi : s.i = i at *
  subst e
  have fl : (R.flatMap ER.row).length = R.length * 2 := flat_length fun _ _ => rfl
  have c : ∀ q, q < 2 → cellAt h i (0 + j * 2 + q) = x.row[q]? := fun q hq => by
    rw [cellAt_of h3, List.getElem?_append_left (by rw [fl]; omega), Nat.zero_add]
    exact flat_at (sz := 2) (fun _ _ => rfl) hx hq
  exact ⟨rfl, by show j < R.length + 1; omega, c 0 (by decide), c 1 (by decide)⟩
theorem Rw.mark {h0 h : Heap} {s : SL} {R : List ER} {m : Nat} (r : Rw h0 h s R m) : s.nil = false ∧ R.length < s.len ∧ cellAt h s.i (Nat.add (s.o + R.length * 2) 0) = some (.slice m 0 4 4 false) := by
  obtain ⟨e, h1, h2, h3⟩ := r.is
  generalize hi : s.i = i at *
  subst e
  have fl : (R.flatMap ER.row).length = R.length * 2 := flat_length fun _ _ => rfl
  refine ⟨rfl, Nat.lt_succ_self _, ?_⟩
  show cellAt h i (0 + R.length * 2 + 0) = _
  rw [cellAt_of h3, List.getElem?_append_right (by rw [fl]; omega), fl, show 0 + R.length * 2 + 0 - R.length * 2 = 0 by omega]
  rfl
theorem Rw.put {h0 h : Heap} {s vs : SL} {R1 R2 : List ER} {x : ER} {e' : Ky × Ky} {m : Nat} (r : Rw h0 h s (R1 ++ x :: R2) m) : canPut h s.i (Nat.add (s.o + R1.length * 2) 1 + 1) ∧
    Rw h0 (hput h s.i (Nat.add (s.o + R1.length * 2) 1) [vs.av]) s (R1 ++ ⟨x.ks, vs, e'⟩ :: R2) m ∧ Fram (fun i => i = s.i) h (hput h s.i (Nat.add (s.o + R1.length * 2) 1) [vs.av]) := by
  obtain ⟨e, h1, h2, h3⟩ := r.is
  have ne := r.ne
  have g := r.g.1
  have low := r.low
  have lt := r.lt
  have get := r.get
  clear r
  generalize hi : s.i = i at *
  subst e
  have fl : (R1.flatMap ER.row).length = R1.length * 2 := flat_length fun _ _ => rfl
  have fl2 : (R2.flatMap ER.row).length = R2.length * 2 := flat_length fun _ _ => rfl
  have f := Fram.hput (S := fun j => j = i) h (Nat.add (0 + R1.length * 2) 1) [vs.av] (i := i) fun _ => rfl
  have eo : Nat.add (0 + R1.length * 2) 1 = (R1.flatMap ER.row ++ [x.ks.av]).length := by
    rw [List.length_append, fl]
    show 0 + R1.length * 2 + 1 = _ + 1
    omega
  have ec : (R1 ++ x :: R2).flatMap ER.row ++ [.slice m 0 4 4 false, .nils] = (R1.flatMap ER.row ++ [x.ks.av]) ++ ([x.vs.av] ++ (R2.flatMap ER.row ++ [.slice m 0 4 4 false, .nils])) := by
    rw [List.flatMap_append, List.flatMap_cons]
    simp [ER.row]
  refine ⟨⟨h2, _, _, _, _, h3, ?_⟩, ⟨⟨?_, .inr ⟨rfl, rfl, by simp, by simp, rfl, h1, by show i < _; rw [hput_next]; exact h2, ?_⟩⟩, low, by rw [hput_next]; exact lt, (f.same _ lt ne).trans get⟩, f⟩
  · show Nat.add (0 + R1.length * 2) 1 + 1 ≤ _
    rw [ec, eo]
    simp only [List.length_append, List.length_cons, List.length_nil]
    omega
  · simp only [List.length_append, List.flatMap_append, List.flatMap_cons, fl, fl2, List.length_cons, ER.row, List.length_nil]
    omega
  · show (hput h i (Nat.add (0 + R1.length * 2) 1) [vs.av]).get i = _
    rw [hput_get h3, eo, ec, List.take_left' rfl, ← List.drop_drop, List.drop_left' rfl]
    show some (AObj.cells (_ ++ ([vs.av] ++ ([x.vs.av] ++ _).drop 1)) 2 true false) = _
    congr 2
    rw [List.flatMap_append, List.flatMap_cons]
    simp [ER.row]
theorem toU_u8 {b : Nat} (h : b < 256) : toU .u8 (.ofNat b) = b := by
  unfold toU
  show ((b : Int) % 256).toNat = b
  omega
theorem u8_wrap {b : Nat} (h : b < 256) : IntKind.u8.wrap (Int.ofNat b) = (Int.ofNat b) := by
  rw [IntKind.wrap_u8]
  show (b : Int) % 256 = b
  omega
theorem xor_lt {b : Nat} (h : b < 256) : Nat.xor b 3 < 256 := Nat.xor_lt_two_pow (n := 8) h (by decide)
theorem set_bytes (k : Ky) (v b : Nat) : (ofBytes k).take v ++ ([AV.int .u8 (.ofNat b)] ++ (ofBytes k).drop (v + 1)) = if v < k.length then ofBytes (k.set v b) else (ofBytes k).take v ++ ([AV.int .u8 (.ofNat b)] ++ (ofBytes k).drop (v + 1)) := by
  split
  · rename_i hv
    rw [ofBytes_eq, ofBytes_eq, List.map_set, List.set_eq_take_append_cons_drop, if_pos (by rw [List.length_map]; exact hv)]; rfl
  · rfl
theorem cln_put {h0 h : Heap} {s : SL} {k : Ky} {v b : Nat} (x : Cln h0 h s k) (e : s.nil = false) (hv : v < k.length) (hb : b < 256) : canPut h s.i (s.o + v * 1 + 1) ∧
    Byts (hput h s.i (s.o + v * 1) [.int .u8 (.ofNat b)]) s (k.set v b) ∧ Fram (fun i => i = s.i) h (hput h s.i (s.o + v * 1) [.int .u8 (.ofNat b)]) := by
  obtain ⟨h1, h2, h3, h4⟩ := x.own e
  have lt := x.byts.seg.lt e
  have hl := x.byts.len
  rw [SL.n_of e] at hl
  have f := Fram.hput (S := fun i => i = s.i) h (s.o + v * 1) [AV.int .u8 (.ofNat b)] (i := s.i) fun _ => rfl
  refine ⟨⟨lt, _, _, _, _, h4, by rw [h2, ofBytes_length]; omega⟩, ?_, f⟩
  obtain ⟨nil, i, o, len, cap, ext⟩ := s
  simp only at e h2 h3 h4 lt hl
  subst e h2 h3 hl
  have hg := hput_get (o := 0 + v * 1) (vs := [AV.int .u8 (.ofNat b)]) h4
  rw [Nat.zero_add, Nat.mul_one] at hg
  have : (ofBytes k).take v ++ ([AV.int .u8 (.ofNat b)] ++ (ofBytes k).drop (v + [AV.int .u8 (.ofNat b)].length)) = ofBytes (k.set v b) := by
    have := set_bytes k v b
    rw [if_pos hv] at this
    exact this
  rw [this] at hg
  refine ⟨?_, fun y hy => ?_⟩
  · show Seg (hput h i (0 + v * 1) _) _ _ _
    rw [Nat.zero_add, Nat.mul_one]
    refine Seg.own (more := []) (by rw [ofBytes_length, List.length_set, Nat.mul_one]) (by rw [hput_next]; exact lt) (by rw [List.append_nil]; exact hg)
  · rcases List.mem_or_eq_of_mem_set hy with q | q
    · exact x.byts.byte y q
    · rw [q]; exact hb
theorem cln_cut {h0 h : Heap} {s : SL} {k : Ky} {v : Nat} (x : Cln h0 h s k) (e : s.nil = false) (hv : v ≤ k.length) : Byts h (s.cut 1 0 v s.cap s.ext) (k.take v) ∧ ((s.cut 1 0 v s.cap s.ext).nil = false → (s.cut 1 0 v s.cap s.ext).i = s.i) ∧ (s.nil = true → 0 = 0 ∧ v = 0) ∧ (s.nil = false → Nat.le 0 v ∧ Nat.le v s.cap) := by
  obtain ⟨h1, h2, h3, h4⟩ := x.own e
  have lt := x.byts.seg.lt e
  have hb := x.byts.byte
  clear x
  obtain ⟨nil, i, o, len, cap, ext⟩ := s
  simp only at e h2 h3 h4 lt
  subst e h2 h3
  have tb : ∀ y, y ∈ k.take v → y < 256 := fun y hy => hb y (List.mem_of_mem_take hy)
  refine ⟨?_, ?_, fun e => (by cases e), fun _ => ⟨Nat.zero_le _, hv⟩⟩
  all_goals
    unfold SL.cut
    cases hq : (Nat.beq 0 k.length && ext && !false) with
    | true =>
      have k0 : k = [] := by
        cases k with
        | nil => rfl
        | cons _ _ => exact absurd hq (by simp [Nat.beq])
      subst k0
      simp only [hq]
      first | exact ⟨by rw [List.take_nil]; exact Seg.nil _ _ _, tb⟩ | (intro q; exact absurd q (by decide))
    | false =>
      simp only [hq]
      first
      | exact fun _ => trivial
      | (cases hz : Nat.beq 0 k.length <;>
         simp only [Nat.sub_zero, Nat.zero_add, Nat.zero_mul] <;>
         (refine ⟨Seg.own (cs := ofBytes (k.take v)) (more := ofBytes (k.drop v)) (e := 1) (g := ext) (m := false) (by rw [ofBytes_length, List.length_take]; omega) lt ?_, tb⟩
          rw [← ofBytes_append, List.take_append_drop]; exact h4))
section
variable {lf n : Nat} {h h0 : Heap} {K : ZK} {X Y R : List ER}
structure Wr (h0 h : Heap) (s : SL) (R R1 : List ER) (m j : Nat) : Prop where
  rw' : Rw h0 h s (R1 ++ R.drop j) m
  len : R1.length = j
  old : ∀ x, x ∈ R.drop j → x.Cl h0 h
  ok : ∀ x, x ∈ R1 → x.Ok h ∧ (x.ks.nil = false → x.ks.i ∈ (R.take j).flatMap ER.ids) ∧ (x.vs.nil = false → x.vs.i ∈ (R.take j).flatMap ER.ids)
  mb : Mb R1
theorem drop_mem {α : Type} {l : List α} {j : Nat} {x : α} (hx : l[j]? = some x) : x ∈ l.drop j := by rw [drop_at hx]; exact List.mem_cons_self
theorem Wr.step {s : SL} {R1 : List ER} {m j v : Nat} {x : ER} {H : Heap} {k' : Ky} (w : Wr h0 h s R R1 m j) (ids : (R.flatMap ER.ids).Pairwise (· ≠ ·)) (sep : ∀ i, i ∈ R.flatMap ER.ids → i ≠ s.i) (msep : ∀ i, i ∈ R.flatMap ER.ids → i ≠ m) (hx : R[j]? = some x) (mb : Mb R)
    (f : Fram (fun i => i = x.ks.i) h H) (bk : Byts H x.ks k') (lk : k'.length = x.e.1.length) (hv : v ≤ x.e.2.length) :
    cellAt H s.i (Nat.add (s.o + j * 2) 1) = some x.vs.av ∧ canPut H s.i (Nat.add (s.o + j * 2) 1 + 1) ∧ ((x.vs.nil = true → 0 = 0 ∧ v = 0) ∧ (x.vs.nil = false → Nat.le 0 v ∧ Nat.le v x.vs.cap)) ∧
      (∃ R1', Wr h0 (hput H s.i (Nat.add (s.o + j * 2) 1) [(x.vs.cut 1 0 v x.vs.cap x.vs.ext).av]) s R R1' m (j + 1)) ∧ Fram (fun i => i = x.ks.i ∨ i = s.i) h (hput H s.i (Nat.add (s.o + j * 2) 1) [(x.vs.cut 1 0 v x.vs.cap x.vs.ext).av]) := by
  have hj := (List.getElem?_eq_some_iff.1 hx).1
  have hxm := List.mem_of_getElem? hx
  have ed := drop_at hx
  have cl := w.old x (drop_mem hx)
  have kid : x.ks.i ∈ R.flatMap ER.ids := List.mem_flatMap.2 ⟨x, hxm, by simp [ER.ids]⟩
  have vid : x.vs.i ∈ R.flatMap ER.ids := List.mem_flatMap.2 ⟨x, hxm, by simp [ER.ids]⟩
  have split : R.flatMap ER.ids = (R.take j).flatMap ER.ids ++ (x.ids ++ (R.drop (j + 1)).flatMap ER.ids) := by
    rw [← List.flatMap_cons, ← ed, ← List.flatMap_append, List.take_append_drop]
  rw [split] at ids
  obtain ⟨p1, p2, p3⟩ := List.pairwise_append.1 ids
  obtain ⟨q1, q2, q3⟩ := List.pairwise_append.1 p2
  have ne1 : ∀ i, i ∈ (R.take j).flatMap ER.ids → i ≠ x.ks.i := fun i hi => p3 i hi _ (List.mem_append_left _ (by simp [ER.ids]))
  have ne2 : ∀ i, i ∈ (R.drop (j + 1)).flatMap ER.ids → i ≠ x.ks.i := fun i hi => (q3 _ (by simp [ER.ids]) i hi).symm
  have ne3 : x.vs.i ≠ x.ks.i := by
    have : [x.ks.i, x.vs.i].Pairwise (· ≠ ·) := q1
    simp at this
    exact fun e => this e.symm
  have sub1 : ∀ i, i ∈ (R.take j).flatMap ER.ids → i ∈ R.flatMap ER.ids := fun i hi => by rw [split]; exact List.mem_append_left _ hi
  have sub2 : ∀ i, i ∈ (R.drop (j + 1)).flatMap ER.ids → i ∈ R.flatMap ER.ids := fun i hi => by rw [split]; exact List.mem_append_right _ (List.mem_append_right _ hi)
  -- in H
  have r1 := w.rw'.fr f (sep _ kid).symm (msep _ kid).symm
  rw [ed] at r1
  have c1 := cl.v.fr f fun _ => ne3
  obtain ⟨b1, b2, b3⟩ := cln_cut c1 cl.vn hv
  obtain ⟨u1, u2, u3⟩ := r1.put (vs := x.vs.cut 1 0 v x.vs.cap x.vs.ext) (e' := (k', x.e.2.take v))
  rw [w.len] at u1 u2 u3
  have at1 := (r1.at' (j := j) (x := x) (by rw [List.getElem?_append_right (by rw [w.len]; exact Nat.le_refl _), w.len, Nat.sub_self]; rfl)).2.2.2
  refine ⟨at1, u1, b3, ⟨R1 ++ [⟨x.ks, x.vs.cut 1 0 v x.vs.cap x.vs.ext, (k', x.e.2.take v)⟩], ?_⟩, (f.mono fun i _ e => .inl e).trans (u3.mono fun i _ e => .inr e)⟩
  have tk : R.take (j + 1) = R.take j ++ [x] := by rw [List.take_add_one, hx]; rfl
  have ids1 : (R.take (j + 1)).flatMap ER.ids = (R.take j).flatMap ER.ids ++ [x.ks.i, x.vs.i] := by rw [tk, List.flatMap_append]; simp [ER.ids]
  refine ⟨by rw [List.append_assoc]; exact u2, by rw [List.length_append, w.len]; rfl, fun y hy => ?_, fun y hy => ?_, fun y hy => ?_⟩
  · have m1 : y.ks.i ∈ (R.drop (j + 1)).flatMap ER.ids := List.mem_flatMap.2 ⟨y, hy, by simp [ER.ids]⟩
    have m2 : y.vs.i ∈ (R.drop (j + 1)).flatMap ER.ids := List.mem_flatMap.2 ⟨y, hy, by simp [ER.ids]⟩
    exact ((w.old y (by rw [ed]; exact List.mem_cons_of_mem _ hy)).fr f (ne2 _ m1) (ne2 _ m2)).fr u3 (sep _ (sub2 _ m1)) (sep _ (sub2 _ m2))
  · rw [ids1]
    rcases List.mem_append.1 hy with h1 | h1
    · obtain ⟨o1, o2, o3⟩ := w.ok y h1
      exact ⟨⟨(o1.1.fr f fun e => ne1 _ (o2 e)).fr u3 fun e => sep _ (sub1 _ (o2 e)), (o1.2.fr f fun e => ne1 _ (o3 e)).fr u3 fun e => sep _ (sub1 _ (o3 e))⟩, fun e => List.mem_append_left _ (o2 e), fun e => List.mem_append_left _ (o3 e)⟩
    · rw [List.mem_singleton.1 h1]
      exact ⟨⟨bk.fr u3 fun _ => sep _ kid, b1.fr u3 fun e => by rw [b2 e]; exact sep _ vid⟩, fun _ => List.mem_append_right _ (by simp), fun e => List.mem_append_right _ (by show SL.i _ ∈ _; rw [b2 e]; simp)⟩
  · rcases List.mem_append.1 hy with h1 | h1
    · exact w.mb y h1
    · rw [List.mem_singleton.1 h1]
      have := mb x hxm
      exact ⟨by show k'.length ≤ _; omega, by show (x.e.2.take v).length ≤ _; rw [List.length_take]; omega⟩
end
end BlN
namespace BlN
open Go Go.X Go.X.Df Go.X.Bl Go.Proofs
section
variable {lf n : Nat} {h h0 : Heap} {K : ZK} {X Y R : List ER}
theorem answer_len {z fill : Int} {l : List Pr} : (answer z fill l).1.length ≤ l.length := by
  have c : ∀ (most : Int) (r : List Pr) (done : List Nat) (cur b : Nat) (p : Ky), (cut most done cur b p r).length ≤ done.length + 1 + r.length := by
    intro most r
    induction r with
    | nil => intro done cur b p; show (done ++ [cur]).length ≤ _; simp
    | cons e r ih =>
      intro done cur b p
      rw [cut_cons]
      split
      · have := ih done (cur + 1) (b + long (some p) e) e.1
        simp only [List.length_cons]; omega
      · have := ih (done ++ [cur]) 1 (2 + long none e) e.1
        simp only [List.length_cons, List.length_append, List.length_nil] at this ⊢; omega
  unfold answer
  split
  · split
    · cases l with
      | nil => exact Nat.le_refl _
      | cons e r =>
        have := c (Int.tdiv ((z - 32) * fill) 100) r [] 1 (2 + long none e) e.1
        show (cut _ [] 1 _ e.1 r).length ≤ r.length + 1
        simp only [List.length_nil] at this; omega
    · exact Nat.zero_le _
  · exact Nat.zero_le _
theorem fin_ok {z fill : Int} {v1 own a b w : SL} {zt' : ZT} {l : List Nat} (hz : ZAt 230 [(0, .int .i64 z), (1, .sl v1), (2, .int .i64 fill), (10, .sl own), (11, .sl a), (15, .sl b), (17, .sl w)] zt')
    (la : v1.n = R.length) (hE : Ents h (own.cut 2 0 R.length own.cap own.ext) R) (hc : (own.nil = true → 0 = 0 ∧ R.length = 0) ∧ (own.nil = false → Nat.le 0 R.length ∧ Nat.le R.length own.cap)) (mb : Mb R) (lR : R.length ≤ 1048576) (hlf : 2000000 < lf)
    (h20 : 20 ≤ a.n) (hb : Seg h b 1 (nums l)) (hw : Seg h w 1 (nums l)) (ll : l.length ≤ 1048577) (hk : ∀ h', K (.bool true) h') :
    zAt Tryz.prog (zCall Tryz.prog SB lf (n + 6)) lf 3 [1, 1, 1, 1, 1, 1, 1, 1, 1, 1, 1, 1, 1, 1] zt' (zFin Tryz.prog 3 K) ⟨[], zFin Tryz.prog 3 K⟩ h := by
  refine zAt_of _ hz fun d => (law_a11111111111111 _ _ _ _ _ _ _ _ _ _ _ _).mpr ?_
  rw [ofn la]
  refine zNat_nat.2 ⟨hc, ?_⟩
  refine leaves_ok (n := n) hE mb (by omega) hlf fun h1 s1 f1 g1 => ?_
  rw [av_tup]
  refine zRT_two (zRL_of (s := s1) (zRI_av.2 (zNat_nat.2 ⟨hc, ?_⟩)))
  refine rleaves_ok (n := n + 3) (hE.fr f1) mb (by omega) hlf fun h2 s2 f2 g2 => ?_
  rw [av_tup]
  refine zRT_two (zRL_of (s := s2) (zRI_av.2 ?_))
  rw [decide_eq_true (show (20 : Int) ≤ Int.ofNat a.n by show (20 : Int) ≤ (a.n : Int); omega), cnd_tP]
  have F := f1.trans f2
  refine sints_ok (n := n + 5) (hb.fr F fun _ => id) (hw.fr F fun _ => id) ll hlf ?_
  rw [av_bool]
  refine zRB_av.2 ?_
  rw [cnd_tP, decide_eq_true rfl, cnd_t, cnd_tP]
  have al : (answer z fill (ents R)).1.length ≤ R.length := by have := answer_len (z := z) (fill := fill) (l := ents R); rwa [ents_len] at this
  refine sints_ok (n := n + 5) ((Grown.seg g1).fr f2 fun _ => id) (Grown.seg g2) (by omega) hlf ?_
  rw [av_bool]
  exact zRB_av.2 (hk h2)
theorem over_ok {z fill : Int} {v1 own a b w : SL} {zt' : ZT} {l : List Nat} {m p : Nat} (hz : ZAt 230 [(0, .int .i64 z), (1, .sl v1), (2, .int .i64 fill), (10, .sl own), (11, .sl a), (15, .sl b), (17, .sl w)] zt')
    (la : v1.n = R.length) (hW : Wr h0 h own R [] m 0) (ids : (R.flatMap ER.ids).Pairwise (· ≠ ·)) (sep : ∀ i, i ∈ R.flatMap ER.ids → i ≠ own.i) (msep : ∀ i, i ∈ R.flatMap ER.ids → i ≠ m) (mb : Mb R) (lR : R.length ≤ 1048576) (hlf : 2000000 < lf)
    (low : own.i < p ∧ ∀ i, i ∈ R.flatMap ER.ids → i < p)
    (h20 : 20 ≤ a.n) (hb : Seg h b 1 (nums l)) (hw : Seg h w 1 (nums l)) (hbp : b.nil = false → p ≤ b.i) (hwp : w.nil = false → p ≤ w.i) (ll : l.length ≤ 1048577) (hk : ∀ h', K (.bool true) h') :
    zAt Tryz.prog (zCall Tryz.prog SB lf (n + 6)) lf 3 [1, 1, 1, 1, 1, 1, 1, 1, 1, 1, 1, 1, 1] zt' (zFin Tryz.prog 3 K) ⟨[], zFin Tryz.prog 3 K⟩ h := by
  refine zAt_of _ hz fun d => (law_a1111111111111 _ _ _ _ _ _ _ _ _ _ _ _).mpr ?_
  refine ZLoop.inv (fun q zz h' => ∃ (j : Nat) (R1 : List ER), ZAt 230 [(0, .int .i64 z), (1, .sl v1), (2, .int .i64 fill), (10, .sl own), (11, .sl a), (15, .sl b), (17, .sl w), (23, .int .i64 (j : Int))] zz ∧ j + q = R.length ∧ Wr h0 h' own R R1 m j ∧ Fram (fun i => i < p) h h') (n := R.length) (by omega)
    ⟨0, [], ⟨rfl, rfl, rfl, rfl, rfl, rfl, rfl, rfl, rfl, trivial⟩, by omega, hW, Fram.refl _ _⟩ ?_
  rintro q zz h1 kk hq ⟨j, R1, hzz, hj, W, f⟩ ih
  refine zAt_of _ hzz fun d => (law_l11111111111110100 _ _ _ _ _ _ _ _ _ _ _ _ _ _ _ _).mpr ?_
  rw [ofn la, cnd_dec]
  refine ⟨fun e => ?_, fun e => ?_⟩
  · obtain ⟨x, hx⟩ : ∃ x, R[j]? = some x := ⟨_, List.getElem?_eq_getElem (by omega)⟩
    have hxm := List.mem_of_getElem? hx
    have mx := mb x hxm
    have cl := W.old x (drop_mem hx)
    have l1 := cl.k.byts.len
    have l2 := cl.v.byts.len
    have kid : x.ks.i ∈ R.flatMap ER.ids := List.mem_flatMap.2 ⟨x, hxm, by simp [ER.ids]⟩
    obtain ⟨na, lt, c0, c1⟩ := W.rw'.at' (j := j) (x := x) (by rw [List.getElem?_append_right (by rw [W.len]; exact Nat.le_refl _), W.len, Nat.sub_self, drop_at hx]; rfl)
    have i1 : IntKind.i64.wrap ((j : Int) + 1) = ((j + 1 : Nat) : Int) := by rw [i64_fit (by omega) (by omega)]; omega
    have half : Int.tdiv (Int.ofNat x.vs.n) 2 = ((x.e.2.length / 2 : Nat) : Int) := by rw [ofn l2]; rfl
    have hv : x.e.2.length / 2 ≤ x.e.2.length := Nat.div_le_self _ _
    refine ⟨na, zIdx_nat.2 ⟨lt, rfl, rfl, zLdL_of c0 ?_⟩⟩
    rw [ofn l1, cnd_dec]
    refine ⟨fun e1 => ?_, fun e1 => ?_⟩
    · have h1l : x.e.1.length - 1 < x.e.1.length := by omega
      obtain ⟨y, hy⟩ : ∃ y, x.e.1[x.e.1.length - 1]? = some y := ⟨_, List.getElem?_eq_getElem h1l⟩
      have yb := cl.k.byts.byte y (List.mem_of_getElem? hy)
      obtain ⟨p1, p2, p3⟩ := cln_put cl.k cl.kn (v := x.e.1.length - 1) (b := Nat.xor y 3) h1l (xor_lt yb)
      obtain ⟨s1, s2, s3, ⟨R1', W'⟩, s5⟩ := W.step ids sep msep hx mb p3 p2 (by rw [List.length_set]) hv
      have kl := SL.n_of cl.kn
      refine ⟨na, zIdx_nat.2 ⟨lt, rfl, rfl, zLdL_of c0 ⟨na, zIdx_nat.2 ⟨lt, rfl, rfl, zLdL_of c0 (zW_iff.2 ?_)⟩⟩⟩⟩
      rw [ofn l1, i64_fit (by omega) (by omega), show (x.e.1.length : Int) - 1 = ((x.e.1.length - 1 : Nat) : Int) by omega]
      refine ⟨cl.kn, zIdx_nat.2 ⟨by omega, rfl, zLdI_iff.2 ⟨_, by rw [Nat.mul_one]; exact cl.k.byts.at' cl.kn hy, zW_iff.2 ?_⟩⟩⟩
      rw [toU_u8 yb, u8_wrap (xor_lt yb)]
      refine ⟨cl.kn, zIdx_nat.2 ⟨by omega, rfl, zPut_of p1 ⟨na, zIdx_nat.2 ⟨lt, rfl, rfl, zLdL_of s1 ⟨na, zIdx_nat.2 ⟨lt, rfl, rfl, zLdL_of s1 ⟨by decide, zW_iff.2 ?_⟩⟩⟩⟩⟩⟩⟩
      rw [half, i64_fit (by omega) (by omega)]
      refine zNat_nat.2 ⟨s3, na, zIdx_nat.2 ⟨lt, rfl, rfl, zPut_of s2 (zW_iff.2 ?_)⟩⟩
      rw [i1]
      exact ih (q - 1) _ _ (by omega) ⟨j + 1, R1', ⟨rfl, rfl, rfl, rfl, rfl, rfl, rfl, rfl, rfl, trivial⟩, by omega, W', f.trans (s5.mono fun i _ e => by
        rcases e with e | e
        · rw [e]; exact low.2 _ kid
        · rw [e]; exact low.1)⟩
    · obtain ⟨s1, s2, s3, ⟨R1', W'⟩, s5⟩ := W.step ids sep msep hx mb (Fram.refl _ _) cl.k.byts rfl hv
      refine ⟨na, zIdx_nat.2 ⟨lt, rfl, rfl, zLdL_of s1 ⟨na, zIdx_nat.2 ⟨lt, rfl, rfl, zLdL_of s1 ⟨by decide, zW_iff.2 ?_⟩⟩⟩⟩⟩
      rw [half, i64_fit (by omega) (by omega)]
      refine zNat_nat.2 ⟨s3, na, zIdx_nat.2 ⟨lt, rfl, rfl, zPut_of s2 (zW_iff.2 ?_)⟩⟩
      rw [i1]
      exact ih (q - 1) _ _ (by omega) ⟨j + 1, R1', ⟨rfl, rfl, rfl, rfl, rfl, rfl, rfl, rfl, rfl, trivial⟩, by omega, W', f.trans (s5.mono fun i _ e => by
        rcases e with e | e
        · rw [e]; exact low.2 _ kid
        · rw [e]; exact low.1)⟩
  · have hjR : R.drop j = [] := List.drop_eq_nil_of_le (by omega)
    have r := W.rw'
    rw [hjR, List.append_nil] at r
    have e1 : R1.length = R.length := by have := W.len; omega
    obtain ⟨q1, q2⟩ := r.cut fun x hx => (W.ok x hx).1
    exact fin_ok (R := R1) ⟨rfl, rfl, rfl, rfl, rfl, rfl, rfl, rfl, trivial⟩ (by rw [e1]; exact la) q1 q2 W.mb (by omega) hlf h20 (hb.fr f fun e => Nat.not_lt_of_le (hbp e)) (hw.fr f fun e => Nat.not_lt_of_le (hwp e)) ll hk
end
end BlN
namespace BlN
open Go Go.X Go.X.Df Go.X.Bl Go.Proofs
theorem mark_heap (h : Heap) (c : List AV) (e : Nat) (g m m' : Bool) : Fram nowhere h ((h.newO (.cells c e g m)).put h.next (some (.cells c e g m'))) ∧ ((h.newO (.cells c e g m)).put h.next (some (.cells c e g m'))).get h.next = some (.cells c e g m') ∧ ((h.newO (.cells c e g m)).put h.next (some (.cells c e g m'))).next = h.next + 1 :=
  ⟨(Fram.newO nowhere h (.cells c e g m)).back (Fram.put (S := fun i => i = h.next) _ _ fun _ => rfl) fun i hi e => by omega, if_pos rfl, rfl⟩
theorem Grown.put1 {h0 h : Heap} {s : SL} {n j : Nat} {cs : List AV} (g : Grown h0 h s 1 n cs) (hj : j < n) (v : AV) : s.nil = false ∧ j < s.len ∧ canPut h s.i (s.o + j * 1 + 1) ∧ (∃ cs', Grown h0 (hput h s.i (s.o + j * 1) [v]) s 1 n cs') ∧ Fram (fun i => s.nil = false ∧ i = s.i) h (hput h s.i (s.o + j * 1) [v]) := by
  have hl := g.1
  rcases g.2 with ⟨q, _⟩ | ⟨a1, a2, a3, a4, a5, a6, a7, a8⟩
  · omega
  refine ⟨a1, by omega, ⟨a7, _, _, _, _, a8, by rw [a2]; omega⟩, ⟨_, ?_, .inr ⟨a1, a2, a3, a4, a5, a6, by rw [hput_next]; exact a7, hput_get a8⟩⟩, Fram.hput h _ _ fun _ => ⟨a1, rfl⟩⟩
  rw [a2]
  simp only [List.length_append, List.length_take, List.length_drop, List.length_cons, List.length_nil]
  omega
section
variable {lf n : Nat} {h h0 hA : Heap} {K : ZK} {X Y R : List ER}
theorem Wr.fr0 {h' : Heap} {s : SL} {m : Nat} {T : Nat → Prop} (w : Wr h0 h s R [] m 0) (f : Fram T h h') (h1 : ¬ T s.i) (h2 : ¬ T m) (h3 : ∀ i, i ∈ R.flatMap ER.ids → ¬ T i) : Wr h0 h' s R [] m 0 :=
  ⟨w.rw'.fr f h1 h2, w.len, fun x hx => (w.old x hx).fr f (h3 _ (List.mem_flatMap.2 ⟨x, hx, by simp [ER.ids]⟩)) (h3 _ (List.mem_flatMap.2 ⟨x, hx, by simp [ER.ids]⟩)), fun x hx => (by cases hx), fun x hx => (by cases hx)⟩
structure Past (h0 hA h : Heap) (own a b w : SL) (R : List ER) (m p q : Nat) (l : List Nat) : Prop where
  wr : Wr h0 h own R [] m 0
  ids : (R.flatMap ER.ids).Pairwise (· ≠ ·)
  sep : ∀ i, i ∈ R.flatMap ER.ids → i ≠ own.i
  msep : ∀ i, i ∈ R.flatMap ER.ids → i ≠ m
  low : own.i < p ∧ m < p ∧ ∀ i, i ∈ R.flatMap ER.ids → i < p
  hb : Seg h b 1 (nums l)
  hw : Seg h w 1 (nums l)
  hbp : b.nil = false → q ≤ b.i
  hwp : w.nil = false → q ≤ w.i
  pq : p ≤ q
  qn : q ≤ h.next
  pA : hA.next = p
theorem Past.fr {h' : Heap} {own a a' b w : SL} {m p q : Nat} {l : List Nat} (x : Past h0 hA h own a b w R m p q l) (f : Fram (fun i => p ≤ i ∧ i < q) h h') : Past h0 hA h' own a' b w R m p q l :=
  ⟨x.wr.fr0 f (fun e => by have := x.low.1; omega) (fun e => by have := x.low.2.1; omega) fun i hi e => by have := x.low.2.2 i hi; omega, x.ids, x.sep, x.msep, x.low, x.hb.fr f fun e1 e => by have := x.hbp e1; omega, x.hw.fr f fun e1 e => by have := x.hwp e1; omega, x.hbp, x.hwp, x.pq, by have := x.qn; have := f.next; omega, x.pA⟩
theorem twenty_ok {z fill : Int} {v1 own a b w : SL} {zt' : ZT} {l : List Nat} {m p q c : Nat} {cs : List AV} (P : Past h0 hA h own a b w R m p q l) (g : Grown hA h a 1 c cs) (aq : a.nil = false → a.i < q) (hc : c ≤ 1048577)
    (hz : ZAt 230 [(0, .int .i64 z), (1, .sl v1), (2, .int .i64 fill), (10, .sl own), (11, .sl a), (15, .sl b), (17, .sl w)] zt')
    (la : v1.n = R.length) (mb : Mb R) (lR : R.length ≤ 1048576) (hlf : 2000000 < lf) (ll : l.length ≤ 1048577) (hk : ∀ h', K (.bool true) h') :
    zAt Tryz.prog (zCall Tryz.prog SB lf (n + 6)) lf 3 [1, 1, 1, 1, 1, 1, 1, 1, 1, 1, 1, 1] zt' (zFin Tryz.prog 3 K) ⟨[], zFin Tryz.prog 3 K⟩ h := by
  refine zAt_of _ hz fun d => (law_a111111111111 _ _ _ _ _ _ _ _ _ _ _ _).mpr ?_
  refine ZLoop.inv (fun r zz h' => ∃ (j : Nat) (a' : SL) (cs' : List AV), ZAt 230 [(0, .int .i64 z), (1, .sl v1), (2, .int .i64 fill), (10, .sl own), (11, .sl a'), (15, .sl b), (17, .sl w), (22, .int .i64 (j : Int))] zz ∧ j + r = 20 ∧ Grown hA h' a' 1 (c + j) cs' ∧ Fram (fun i => p ≤ i ∧ i < q) h h' ∧ (a'.nil = false → a'.i < q ∨ h.next ≤ a'.i)) (n := 20) (by omega)
    ⟨0, a, cs, ⟨rfl, rfl, rfl, rfl, rfl, rfl, rfl, rfl, rfl, trivial⟩, by omega, g, Fram.refl _ _, fun e => .inl (aq e)⟩ ?_
  rintro r zz h1 kk hq ⟨j, a', cs', hzz, hj, g', f, aq'⟩ ih
  refine zAt_of _ hzz fun d => (law_l1111111111110100 _ _ _ _ _ _ _ _ _ _ _ _ _ _ _ _).mpr ?_
  rw [cnd_dec]
  refine ⟨fun e => ?_, fun e => ?_⟩
  · have f1 : Fram nowhere h1 (h1.newO (.cells [AV.int .i64 (-8)] 1 false false)) := Fram.newO _ _ _
    have sg : Seg (h1.newO (.cells [AV.int .i64 (-8)] 1 false false)) ⟨false, h1.next, 0, 1, 1, false⟩ 1 [AV.int .i64 (-8)] := Seg.own (more := []) rfl (Nat.lt_succ_self _) (by rw [List.append_nil]; exact newO_get_self _ _)
    have n1 : (h1.newO (.cells [AV.int .i64 (-8)] 1 false false)).next = h1.next + 1 := rfl
    have fn := f.next
    have qn := P.qn
    have pA := P.pA
    have pq := P.pq
    refine sg.zsrc ((g'.fr f1 fun _ => id).append1 (by omega) (by decide) rfl rfl (room3 (by omega)) fun g2 f2 hi => zW_iff.2 ?_)
    rw [i64_fit (e := (j : Int) + 1) (by omega) (by omega)]
    have alow : a'.nil = false → hA.next ≤ a'.i := fun e => by
      rcases g'.2 with ⟨_, rfl⟩ | ⟨_, _, _, _, _, h6, _⟩
      · cases e
      · exact h6
    refine ih (r - 1) _ _ (by omega) ⟨j + 1, _, _, ⟨rfl, rfl, rfl, rfl, rfl, rfl, rfl, rfl, rfl, trivial⟩, by omega, by rw [← Nat.add_assoc]; exact g2, f.back ((f1.mono fun _ _ e => e.elim).trans f2) fun i hi' ⟨e1, e2⟩ => ?_, fun _ => .inr (by omega)⟩
    have := alow e1
    have := aq' e1
    omega
  · have P' : Past h0 hA h1 own a' b w R m p q l := P.fr f
    have := Grown.n_eq g'
    exact over_ok ⟨rfl, rfl, rfl, rfl, rfl, rfl, rfl, rfl, trivial⟩ la P'.wr P'.ids P'.sep P'.msep mb lR hlf ⟨P'.low.1, P'.low.2.2⟩ (by omega) P'.hb P'.hw (fun e => Nat.le_trans P.pq (P'.hbp e)) (fun e => Nat.le_trans P.pq (P'.hwp e)) ll hk
theorem seven_ok {z fill : Int} {v1 own a b w : SL} {zt' : ZT} {l : List Nat} {m p q c : Nat} {cs : List AV} (P : Past h0 hA h own a b w R m p q l) (g : Grown hA h a 1 c cs) (aq : a.nil = false → a.i < q) (hc : c ≤ 1048577)
    (hz : ZAt 230 [(0, .int .i64 z), (1, .sl v1), (2, .int .i64 fill), (10, .sl own), (11, .sl a), (15, .sl b), (17, .sl w)] zt')
    (la : v1.n = R.length) (mb : Mb R) (lR : R.length ≤ 1048576) (hlf : 2000000 < lf) (ll : l.length ≤ 1048577) (hk : ∀ h', K (.bool true) h') :
    zAt Tryz.prog (zCall Tryz.prog SB lf (n + 6)) lf 3 [1, 1, 1, 1, 1, 1, 1, 1, 1, 1, 1] zt' (zFin Tryz.prog 3 K) ⟨[], zFin Tryz.prog 3 K⟩ h := by
  refine zAt_of _ hz fun d => (law_s0 _ _ _ _ _ _ _ _ _ _ _ _).mpr ?_
  have an := Grown.n_eq g
  refine ZLoop.inv (fun r zz h' => ∃ (j : Nat) (cs' : List AV), ZAt 230 [(0, .int .i64 z), (1, .sl v1), (2, .int .i64 fill), (10, .sl own), (11, .sl a), (15, .sl b), (17, .sl w), (21, .int .i64 (j : Int))] zz ∧ j + r = c ∧ Grown hA h' a 1 c cs' ∧ Fram (fun i => p ≤ i ∧ i < q) h h') (n := c) (by omega)
    ⟨0, cs, ⟨rfl, rfl, rfl, rfl, rfl, rfl, rfl, rfl, rfl, trivial⟩, by omega, g, Fram.refl _ _⟩ ?_
  rintro r zz h1 kk hq ⟨j, cs', hzz, hj, g', f⟩ ih
  refine zAt_of _ hzz fun d => (law_l111111111110100 _ _ _ _ _ _ _ _ _ _ _ _ _ _ _ _).mpr ?_
  rw [ofn an, cnd_dec]
  refine ⟨fun e => ?_, fun e => ?_⟩
  · obtain ⟨na, lt, cp, ⟨cs2, g2⟩, f2⟩ := Grown.put1 g' (j := j) (by omega) (.int .i64 (-7))
    have alow : hA.next ≤ a.i := by
      rcases g'.2 with ⟨_, rfl⟩ | ⟨_, _, _, _, _, h6, _⟩
      · cases na
      · exact h6
    have pA := P.pA
    refine ⟨na, zIdx_nat.2 ⟨lt, rfl, zPut_of cp (zW_iff.2 ?_)⟩⟩
    rw [i64_fit (e := (j : Int) + 1) (by omega) (by omega)]
    exact ih (r - 1) _ _ (by omega) ⟨j + 1, cs2, ⟨rfl, rfl, rfl, rfl, rfl, rfl, rfl, rfl, rfl, trivial⟩, by omega, g2, f.trans (f2.mono fun i _ ⟨e1, e2⟩ => by have := aq e1; omega)⟩
  · exact twenty_ok (P.fr f) g' aq hc ⟨rfl, rfl, rfl, rfl, rfl, rfl, rfl, rfl, trivial⟩ la mb lR hlf ll hk
theorem SB_4 : SB 4 = some (fun args K h => args = [] ∧ K (.bool true) h) := by unfold SB trueZ; rfl
theorem law_ok {z fill : Int} {v1 v3 : SL} (hX : Ents h v1 X) (hY : Ents h v3 Y) (mbX : Mb X) (mbY : Mb Y) (lX : X.length ≤ 1048576) (lY : Y.length ≤ 1048576) (hlf : 2000000 < lf) :
    zCall Tryz.prog SB lf (n + 7) 3 [.int .i64 z, .sl v1, .int .i64 fill, .sl v3] (fun v _ => v.av = .bool true) h := by
  refine zCall_at (hS (by decide)) (by kernel_rfl) ?_
  rw [law_nf]
  refine zCall_sum (by kernel_rfl) SB_4 ⟨rfl, ?_⟩
  show ZRB (ZV.bool true).av _
  rw [av_bool]
  refine zRB_av.2 (weight_ok hX mbX (by omega) hlf fun wgt => ?_)
  rw [av_int]
  refine zRI_av.2 ?_
  rw [cnd_dec]
  refine ⟨fun _ => av_bool true, fun _ => ?_⟩
  refine copies_ok (n := n + 5) hX mbX lX hlf fun h1 s1 R f1 c1 e1 => ?_
  rw [av_sl]
  refine zRL_of ?_
  have rX : R.length = X.length := by
    have := congrArg List.length e1
    rwa [ents_len, ents_len] at this
  have la : v1.n = R.length := (hX.len (by decide)).trans rX.symm
  have mbR : Mb R := fun x hx => by
    have : x.e ∈ ents X := by rw [← e1]; exact List.mem_map_of_mem hx
    obtain ⟨y, hy, e⟩ := List.mem_map.1 this
    rw [← e]; exact mbX y hy
  obtain ⟨fm, gm, nm⟩ := mark_heap h1 [.int .u8 109, .int .u8 97, .int .u8 114, .int .u8 107] 1 false false true
  refine ⟨_, _, _, _, rfl, newO_get_self _ _, Nat.lt_succ_self _, ?_⟩
  dsimp only
  generalize (h1.newO (.cells [.int .u8 109, .int .u8 97, .int .u8 114, .int .u8 107] 1 false false)).put h1.next (some (.cells [.int .u8 109, .int .u8 97, .int .u8 114, .int .u8 107] 1 false true)) = h2 at fm gm nm ⊢
  have f2 : Fram nowhere h2 (h2.newO (.cells [AV.slice h1.next 0 4 4 false, .nils] 2 false false)) := Fram.newO _ _ _
  have sg : Seg (h2.newO (.cells [AV.slice h1.next 0 4 4 false, .nils] 2 false false)) ⟨false, h2.next, 0, 1, 1, false⟩ 2 [AV.slice h1.next 0 4 4 false, .nils] := Seg.own (more := []) rfl (Nat.lt_succ_self _) (by rw [List.append_nil]; exact newO_get_self _ _)
  have n2 : (h2.newO (.cells [AV.slice h1.next 0 4 4 false, .nils] 2 false false)).next = h2.next + 1 := rfl
  have f1n := f1.next
  have slt : s1.nil = false → s1.i < h1.next := fun e => by
    rcases c1.g.2 with ⟨_, rfl⟩ | ⟨_, _, _, _, _, h6, h7, _⟩
    · cases e
    · exact h7
  have slow : s1.nil = false → h.next ≤ s1.i := fun e => by
    rcases c1.g.2 with ⟨_, rfl⟩ | ⟨_, _, _, _, _, h6, h7, _⟩
    · cases e
    · exact h6
  refine sg.zsrc ?_
  refine Grown.append1 (k := 1) ((c1.g.fr fm fun _ => id).fr f2 fun _ => id) (by omega) (by decide) rfl rfl (room28 (by omega)) fun g3 f3 hi => ?_
  have F23 := f2.trans (Fram.refl nowhere _)
  have F3 : Fram (fun i => s1.nil = false ∧ i = s1.i) h1 _ := ((fm.trans f2).mono fun _ _ e => e.elim).trans f3
  generalize happ (h2.newO (.cells [AV.slice h1.next 0 4 4 false, .nils] 2 false false)) s1 2 1 [AV.slice h1.next 0 4 4 false, .nils] = h3 at g3 f3 F3 ⊢
  generalize hown : s1.app (h2.newO (.cells [AV.slice h1.next 0 4 4 false, .nils] 2 false false)).next 1 = own at g3 hi ⊢
  have f3n := f3.next
  have idl : ∀ i, i ∈ R.flatMap ER.ids → h.next ≤ i ∧ i < h1.next := fun i hi' => by
    obtain ⟨r, hr, q⟩ := List.mem_flatMap.1 hi'
    exact (c1.ok r hr).lt q
  have rw0 : Rw h h3 own R h1.next := ⟨g3, f1n, by omega, by
    rw [f3.same _ (by omega) fun ⟨q1, q2⟩ => by have := slt q1; omega, f2.same _ (by omega) id]
    exact gm⟩
  have cl3 : ∀ x, x ∈ R → x.Cl h h3 := fun x hx => (c1.ok x hx).fr F3 (fun ⟨q1, q2⟩ => c1.sep q1 _ (List.mem_flatMap.2 ⟨x, hx, by simp [ER.ids]⟩) q2) fun ⟨q1, q2⟩ => c1.sep q1 _ (List.mem_flatMap.2 ⟨x, hx, by simp [ER.ids]⟩) q2
  have wr : Wr h h3 own R [] h1.next 0 := ⟨rw0, rfl, fun x hx => cl3 x hx, fun x hx => (by cases hx), fun x hx => (by cases hx)⟩
  obtain ⟨cutE, cutC⟩ := rw0.cut fun x hx => (cl3 x hx).ok
  have G3 : Fram nowhere h h3 := f1.behind (F3.mono fun i _ ⟨q1, q2⟩ => by rw [q2]; exact slow q1)
  obtain ⟨_, _, owlt, _⟩ := rw0.is
  clear hown sg F23
  refine zAt_of (n := 230) [(0, .int .i64 z), (1, .sl v1), (2, .int .i64 fill), (3, .sl v3), (9, .bool true), (10, .sl own)] ⟨rfl, rfl, rfl, rfl, rfl, rfl, rfl, trivial⟩ fun d => (law_t0 _ _ _ _ _ _ _ _ _ _ _).mpr ?_
  rw [ofn la]
  refine zNat_nat.2 ⟨cutC, ?_⟩
  refine leaves_ok (n := n) cutE mbR (by omega) hlf fun h4 a f4 ga => ?_
  rw [av_tup]
  refine zRT_two (zRL_of (s := a) (zRI_av.2 ?_))
  refine leaves_ok (n := n) (hY.fr (G3.trans f4)) mbY (by omega) hlf fun h5 o f5 go => ?_
  rw [av_tup]
  refine zRT_two (zRL_of (s := o) (zRI_av.2 (zNat_nat.2 ⟨cutC, ?_⟩)))
  refine leaves_ok (n := n) (cutE.fr (f4.trans f5)) mbR (by omega) hlf fun h6 b f6 gb => ?_
  rw [av_tup]
  refine zRT_two (zRL_of (s := b) (zRI_av.2 ?_))
  have G6 := ((G3.trans f4).trans f5).trans f6
  refine rleaves_ok (n := n + 3) (hX.fr G6) mbX (by omega) hlf fun h7 w f7 gw => ?_
  rw [av_tup]
  refine zRT_two (zRL_of (s := w) (zRI_av.2 ?_))
  refine rleaves_ok (n := n + 3) (hY.fr (G6.trans f7)) mbY (by omega) hlf fun h8 ot f8 gt => ?_
  rw [av_tup]
  refine zRT_two (zRL_of (s := ot) (zRI_av.2 ?_))
  rw [e1] at ga gb ⊢
  have alX : (answer z fill (ents X)).1.length ≤ X.length := by have := answer_len (z := z) (fill := fill) (l := ents X); rwa [ents_len] at this
  have alY : (answer z fill (ents Y)).1.length ≤ Y.length := by have := answer_len (z := z) (fill := fill) (l := ents Y); rwa [ents_len] at this
  generalize hax : answer z fill (ents X) = ax at *
  generalize hay : answer z fill (ents Y) = ay at *
  obtain ⟨lx, ex⟩ := ax
  obtain ⟨ly, ey⟩ := ay
  have F48 := ((f5.trans f6).trans f7).trans f8
  have F68 := f7.trans f8
  have F38 := f4.trans F48
  have G8 := G3.trans F38
  have n4 := f4.next
  have n5 := f5.next
  have n6 := f6.next
  have n7 := f7.next
  have n8 := f8.next
  have low : ∀ {h0' h' : Heap} {s : SL} {l : List Nat}, Nums h0' h' s l → s.nil = false → h0'.next ≤ s.i ∧ s.i < h'.next := fun g e => by
    rcases g.2 with ⟨_, rfl⟩ | ⟨_, _, _, _, _, h6, h7, _⟩
    · cases e
    · exact ⟨h6, h7⟩
  have ga8 : Nums h3 h8 a lx := Grown.fr ga F48 fun _ => id
  have go8 : Nums h4 h8 o ly := Grown.fr go ((f6.trans f7).trans f8) fun _ => id
  have gb8 : Nums h5 h8 b lx := Grown.fr gb F68 fun _ => id
  have gw8 : Nums h6 h8 w lx := Grown.fr gw f8 fun _ => id
  have P : Past h h3 h8 own a b w R h1.next h3.next h4.next lx := ⟨wr.fr0 F38 id id fun _ _ => id, c1.ids, fun i hi' q => by have := (idl i hi').2; omega, fun i hi' q => by have := (idl i hi').2; omega, ⟨owlt, by omega, fun i hi' => by have := (idl i hi').2; omega⟩, Grown.seg gb8, Grown.seg gw8, fun e => Nat.le_trans n5 (low gb e).1, fun e => Nat.le_trans (Nat.le_trans n5 n6) (low gw e).1, n4, by omega, rfl⟩
  refine zAt_of (n := 230) [(0, .int .i64 z), (1, .sl v1), (2, .int .i64 fill), (9, .bool true), (10, .sl own), (11, .sl a), (12, .int .i64 ex), (13, .sl o), (14, .int .i64 ey), (15, .sl b), (16, .int .i64 ex), (17, .sl w), (18, .int .i64 ex), (19, .sl ot), (20, .int .i64 ey)] ⟨rfl, rfl, rfl, rfl, rfl, rfl, rfl, rfl, rfl, rfl, rfl, rfl, rfl, rfl, rfl, rfl, trivial⟩ fun d => (law_t1 _ _ _ _ _ _ _ _ _ _ _ _ _ _ _ _ _ _ _ _).mpr ?_
  have no : ∀ i : Int, cnd false true (!decide (i = i)) = false := fun i => by rw [decide_eq_true rfl]; rfl
  rw [Bool.not_true, cnd_fP, no ex, cnd_fP, cnd_fP, no ey, cnd_fP]
  refine sints_ok (n := n + 5) (Grown.seg ga8) (Grown.seg gw8) (by simp only at alX; omega) hlf ?_
  rw [av_bool]
  refine zRB_av.2 ?_
  rw [Bool.not_true, cnd_f, cnd_fP]
  refine sints_ok (n := n + 5) (Grown.seg go8) (Grown.seg gt) (by simp only at alY; omega) hlf ?_
  rw [av_bool]
  refine zRB_av.2 ?_
  rw [Bool.not_true, cnd_f, cnd_fP, ofn la]
  refine zNat_nat.2 ⟨cutC, ?_⟩
  refine sents_ok (n := n + 5) (cutE.fr F38) (hX.fr G8) e1 (by omega) hlf ?_
  rw [av_bool]
  refine zRB_av.2 ?_
  rw [Bool.not_true, cnd_f, cnd_fP]
  have rw8 : Rw h h8 own R h1.next := P.wr.rw'
  obtain ⟨mk1, mk2, mk3⟩ := rw8.mark
  have mb8 : Byts h8 ⟨false, h1.next, 0, 4, 4, false⟩ [109, 97, 114, 107] := ⟨Seg.own (cs := markC) (more := []) rfl rw8.lt (by rw [List.append_nil]; exact rw8.get), by decide⟩
  refine ⟨mk1, zIdx_nat.2 ⟨mk2, rfl, rfl, zLdL_of (s := ⟨false, h1.next, 0, 4, 4, false⟩) mk3 (mb8.zbytes ?_)⟩⟩
  rw [decide_eq_true rfl, Bool.not_true, cnd_f, cnd_fP]
  exact seven_ok P ga8 (fun e => (low ga e).2) (by simp only at alX; omega) ⟨rfl, rfl, rfl, rfl, rfl, rfl, rfl, rfl, trivial⟩ la mbR (by omega) hlf (by simp only at alX; omega) fun h' => av_bool true
end
end BlN
