/-
  PROVED: entries cut into leaves, as a plain law; what sizes, keys, bulk.Leaves do (contracts over heaps). Condition: each contract's own.
-/
import Derived.Test.YtjchcfiiijgmdaaGreatDoorP0
set_option linter.unusedVariables false
set_option linter.unusedSimpArgs false
set_option maxRecDepth 1000000
namespace Go.X.Bl
open Go.X Go.X.Df
abbrev Pr := Ky × Ky
def com : Ky → Ky → Nat
  | x :: a, y :: b => if x = y then com a b + 1 else 0
  | _, _ => 0
theorem com_le : ∀ a b : Ky, com a b ≤ a.length ∧ com a b ≤ b.length
  | [], b => by simp [com]
  | x :: a, [] => by simp [com]
  | x :: a, y :: b => by
    have := com_le a b
    show (if x = y then com a b + 1 else 0) ≤ _ ∧ (if x = y then com a b + 1 else 0) ≤ _
    split <;> simp <;> omega
theorem com_step : ∀ (a b : Ky) (i x : Nat), i ≤ com a b → a[i]? = some x → b[i]? = some x → i + 1 ≤ com a b
  | [], _, _, _, _, h, _ => by simp at h
  | _ :: _, [], _, _, _, _, h => by simp at h
  | u :: a, v :: b, 0, x, h, h1, h2 => by
    simp only [List.getElem?_cons_zero, Option.some.injEq] at h1 h2
    show 1 ≤ (if u = v then com a b + 1 else 0)
    rw [if_pos (h1.trans h2.symm)]; omega
  | u :: a, v :: b, i + 1, x, h, h1, h2 => by
    simp only [List.getElem?_cons_succ] at h1 h2
    have h : i + 1 ≤ (if u = v then com a b + 1 else 0) := h
    show i + 1 + 1 ≤ (if u = v then com a b + 1 else 0)
    split at h
    · rename_i e; rw [if_pos e]
      have := com_step a b i x (by omega) h1 h2
      omega
    · omega
theorem com_stop : ∀ (a b : Ky) (i x y : Nat), i ≤ com a b → a[i]? = some x → b[i]? = some y → x ≠ y → com a b = i
  | [], _, _, _, _, _, h, _, _ => by simp at h
  | _ :: _, [], _, _, _, _, _, h, _ => by simp at h
  | u :: a, v :: b, 0, x, y, h, h1, h2, ne => by
    simp only [List.getElem?_cons_zero, Option.some.injEq] at h1 h2
    show (if u = v then com a b + 1 else 0) = 0
    rw [if_neg (by rw [h1, h2]; exact ne)]
  | u :: a, v :: b, i + 1, x, y, h, h1, h2, ne => by
    simp only [List.getElem?_cons_succ] at h1 h2
    have h : i + 1 ≤ (if u = v then com a b + 1 else 0) := h
    show (if u = v then com a b + 1 else 0) = i + 1
    split at h
    · rename_i e; rw [if_pos e, com_stop a b i x y (by omega) h1 h2 ne]
    · omega
theorem com_lt : ∀ a b : Ky, (com a b = a.length → com a b = b.length → a = b) ∧ (com a b = a.length → com a b < b.length → bytesLt a b = true) ∧ (com a b = b.length → com a b < a.length → bytesLt b a = true) ∧
    (∀ x y, a[com a b]? = some x → b[com a b]? = some y → x ≠ y ∧ (x < y → bytesLt a b = true) ∧ (y < x → bytesLt b a = true))
  | [], [] => ⟨fun _ _ => rfl, fun _ h => (by simp [com] at h), fun _ h => (by simp [com] at h), fun x y h => (by simp at h)⟩
  | [], y :: b => ⟨fun _ h => (by simp [com] at h), fun _ _ => rfl, fun h => (by simp [com] at h), fun x y h => (by simp at h)⟩
  | x :: a, [] => ⟨fun h => (by simp [com] at h), fun h => (by simp [com] at h), fun _ _ => rfl, fun x y _ h => (by simp at h)⟩
  | u :: a, v :: b => by
    obtain ⟨h1, h2, h3, h4⟩ := com_lt a b
    by_cases e : u = v
    · have ec : com (u :: a) (v :: b) = com a b + 1 := if_pos e
      rw [ec]
      refine ⟨fun a1 a2 => ?_, fun a1 a2 => ?_, fun a1 a2 => ?_, fun x y a1 a2 => ?_⟩
      · simp only [List.length_cons] at a1 a2
        rw [e, h1 (by omega) (by omega)]
      · simp only [List.length_cons] at a1 a2
        exact lt_spec.2 (.inr ⟨e, h2 (by omega) (by omega)⟩)
      · simp only [List.length_cons] at a1 a2
        exact lt_spec.2 (.inr ⟨e.symm, h3 (by omega) (by omega)⟩)
      · simp only [List.getElem?_cons_succ] at a1 a2
        obtain ⟨q1, q2, q3⟩ := h4 x y a1 a2
        exact ⟨q1, fun q => lt_spec.2 (.inr ⟨e, q2 q⟩), fun q => lt_spec.2 (.inr ⟨e.symm, q3 q⟩)⟩
    · have ec : com (u :: a) (v :: b) = 0 := if_neg e
      rw [ec]
      refine ⟨fun a1 => (by simp at a1), fun a1 => (by simp at a1), fun a1 => (by simp at a1), fun x y a1 a2 => ?_⟩
      simp only [List.getElem?_cons_zero, Option.some.injEq] at a1 a2
      subst a1; subst a2
      exact ⟨e, fun q => lt_spec.2 (.inl q), fun q => lt_spec.2 (.inl q)⟩
def long (p : Option Ky) (e : Pr) : Nat := 6 + e.1.length - (match p with | some q => com q e.1 | none => 0) + e.2.length
theorem long_some (q : Ky) (e : Pr) : long (some q) e = 6 + e.1.length - com q e.1 + e.2.length := rfl
theorem long_none (e : Pr) : long none e = 6 + e.1.length + e.2.length := rfl
theorem long_le (p : Option Ky) (e : Pr) : long p e ≤ 6 + e.1.length + e.2.length := by unfold long; omega
def lastK (p : Option Ky) : List Pr → Option Ky
  | [] => p
  | e :: r => lastK (some e.1) r
def sizes (p : Option Ky) : List Pr → Nat
  | [] => 0
  | e :: r => long p e + sizes (some e.1) r
theorem lastK_snoc (p : Option Ky) (l : List Pr) (e : Pr) : lastK p (l ++ [e]) = some e.1 := by
  induction l generalizing p with
  | nil => rfl
  | cons x l ih => exact ih _
theorem sizes_snoc (p : Option Ky) (l : List Pr) (e : Pr) : sizes p (l ++ [e]) = sizes p l + long (lastK p l) e := by
  induction l generalizing p with
  | nil => show long p e + 0 = 0 + long p e; omega
  | cons x l ih =>
    show long p x + sizes _ (l ++ [e]) = long p x + sizes _ l + _
    rw [ih]
    show _ = long p x + sizes _ l + long (lastK (some x.1) l) e
    omega
noncomputable def may (size : Int) (p : Option Ky) (e : Pr) : Int :=
  if e.1.length < 1 ∨ Int.tdiv size 16 < e.1.length then 51 else if Int.tdiv size 4 < e.2.length then 52 else match p with
    | some q => if bytesLt q e.1 = true then 0 else 151
    | none => 0
noncomputable def first (size : Int) (p : Option Ky) : List Pr → Int
  | [] => 0
  | e :: r => if may size p e = 0 then first size (some e.1) r else may size p e
def cut (most : Int) (done : List Nat) (cur b : Nat) (p : Ky) : List Pr → List Nat
  | [] => done ++ [cur]
  | e :: r => if ((b + long (some p) e : Nat) : Int) ≤ most then cut most done (cur + 1) (b + long (some p) e) e.1 r else cut most (done ++ [cur]) 1 (2 + long none e) e.1 r
def leaves (most : Int) : List Pr → List Nat
  | [] => []
  | e :: r => cut most [] 1 (2 + long none e) e.1 r
def Sized (size : Int) : Prop := size = 512 ∨ size = 1024 ∨ size = 2048 ∨ size = 4096
instance (z : Int) : Decidable (Sized z) := by unfold Sized; infer_instance
noncomputable def answer (size fill : Int) (l : List Pr) : List Nat × Int :=
  if Sized size ∧ 50 ≤ fill ∧ fill ≤ 100 then (if first size none l = 0 then (leaves (Int.tdiv ((size - 32) * fill) 100) l, 0) else ([], first size none l)) else ([], 1)
end Go.X.Bl
namespace BlN
open Go Go.X Go.X.Df Go.X.Bl Go.Proofs
def SB : ZSums := trueZ 4
theorem hS {f : Nat} (h : f ≠ 4) : SB f = none := trueZ_ne f h
structure ER where
  ks : SL
  vs : SL
  e : Ky × Ky
def ER.row (x : ER) : List AV := [x.ks.av, x.vs.av]
def ER.Ok (h : Heap) (x : ER) : Prop := Byts h x.ks x.e.1 ∧ Byts h x.vs x.e.2
theorem ER.Ok.fr {h h' : Heap} {x : ER} (a : x.Ok h) (f : Fram nowhere h h') : x.Ok h' := ⟨a.1.fr f fun _ => id, a.2.fr f fun _ => id⟩
abbrev Ents (h : Heap) (s : SL) (l : List ER) : Prop := Rws 2 ER.row (fun h x => ER.Ok h x) h s l
theorem Ents.fr {h h' : Heap} {s : SL} {l : List ER} (a : Ents h s l) (f : Fram nowhere h h') : Ents h' s l := Rws.fr a f (fun _ => id) fun _ _ q => q.fr f
theorem Ents.key {h : Heap} {s : SL} {l : List ER} (a : Ents h s l) (e : s.nil = false) {j : Nat} {x : ER} (hj : l[j]? = some x) : cellAt h s.i (Nat.add (s.o + j * 2) 0) = some x.ks.av := a.at' e hj (q := 0) (by decide) rfl
theorem Ents.val {h : Heap} {s : SL} {l : List ER} (a : Ents h s l) (e : s.nil = false) {j : Nat} {x : ER} (hj : l[j]? = some x) : cellAt h s.i (Nat.add (s.o + j * 2) 1) = some x.vs.av := a.at' e hj (q := 1) (by decide) rfl
def ents (l : List ER) : List Pr := l.map ER.e
theorem ents_len (l : List ER) : (ents l).length = l.length := by unfold ents; simp
theorem ents_at {l : List ER} {j : Nat} {x : ER} (h : l[j]? = some x) : (ents l)[j]? = some x.e := by unfold ents; rw [List.getElem?_map, h]; rfl
theorem ofn {n m : Nat} (h : n = m) : (Int.ofNat n : Int) = (m : Int) := by rw [h]; rfl
section
variable {lf n : Nat} {h : Heap} {K : ZK}
theorem ocom_ok {a b : SL} {x y : Ky} (ha : Byts h a x) (hb : Byts h b y) (hlen : x.length < 8589934592) (hlf : x.length < lf) (k : K (.int .i64 ((com x y : Nat) : Int)) h) :
    zCall Tryz.prog SB lf (n + 1) 72 [.sl a, .sl b] K h := by
  refine zCall_at (hS (by decide)) (by kernel_rfl) ?_
  rw [ocom_nf]
  have la := ha.len
  have lb := hb.len
  have em : (if Int.ofNat b.n < Int.ofNat a.n then Int.ofNat b.n else Int.ofNat a.n) = ((min x.length y.length : Nat) : Int) := by
    rw [ofn la, ofn lb]; split <;> omega
  rw [em]
  obtain ⟨c1, c2⟩ := com_le x y
  generalize hm : min x.length y.length = m
  refine ZLoop.inv (fun q z h' => ∃ j : Nat, ZAt 28 [(0, .sl a), (1, .sl b), (5, .int .i64 (m : Int)), (12, .int .i64 (m : Int)), (13, .int .i64 (j : Int))] z ∧ h' = h ∧ j + q = m ∧ j ≤ com x y) (n := m) (by omega) ⟨0, ⟨rfl, rfl, rfl, rfl, rfl, rfl, trivial⟩, rfl, by omega, Nat.zero_le _⟩ ?_
  rintro q z h' kk hq ⟨j, hz, rfl, hj, hc⟩ ih
  refine zAt_of _ hz fun d => (ocom_l110100 _ _ _ _ _ _ _ _ _ _ _ _ _).mpr ?_
  rw [cnd_dec]
  refine ⟨fun e => ?_, fun e => ?_⟩
  · obtain ⟨u, hu⟩ : ∃ u, x[j]? = some u := ⟨_, List.getElem?_eq_getElem (by omega)⟩
    obtain ⟨v, hv⟩ : ∃ v, y[j]? = some v := ⟨_, List.getElem?_eq_getElem (by omega)⟩
    have na : a.nil = false := by
      cases hn : a.nil with
      | false => rfl
      | true => rw [SL.n_nil hn] at la; omega
    have nb : b.nil = false := by
      cases hn : b.nil with
      | false => rfl
      | true => rw [SL.n_nil hn] at lb; omega
    have l1 := SL.n_of na
    have l2 := SL.n_of nb
    refine ⟨na, zIdx_nat.2 ⟨by omega, rfl, zLdI_iff.2 ⟨_, by rw [Nat.mul_one]; exact ha.at' na hu, ⟨nb, zIdx_nat.2 ⟨by omega, rfl, zLdI_iff.2 ⟨_, by rw [Nat.mul_one]; exact hb.at' nb hv, ?_⟩⟩⟩⟩⟩⟩
    by_cases huv : u = v
    · subst huv
      rw [decide_eq_true rfl, Bool.not_true, cnd_fP]
      refine zW_iff.2 ?_
      rw [i64_fit (e := (j : Int) + 1) (by omega) (by omega)]
      exact ih (q - 1) _ _ (by omega) ⟨j + 1, ⟨rfl, rfl, rfl, rfl, rfl, rfl, trivial⟩, rfl, by omega, com_step x y j u hc hu hv⟩
    · rw [decide_eq_false (fun e : Int.ofNat u = Int.ofNat v => huv (by cases e; rfl)), Bool.not_false, cnd_tP]
      rw [com_stop x y j u v hc hu hv huv] at k
      exact k
  · refine zAt_of (n := 28) [(5, .int .i64 (m : Int))] ⟨rfl, rfl, trivial⟩ fun d' => (ocom_a111 _ _ _ _ _ _).mpr ?_
    have : com x y = m := by omega
    rw [this] at k
    exact k
theorem rcom_ok {a b : SL} {x y : Ky} (ha : Byts h a x) (hb : Byts h b y) (hlen : x.length < 8589934592) (hlf : x.length < lf) (k : K (.int .i64 ((com x y : Nat) : Int)) h) :
    zCall Tryz.prog SB lf (n + 1) 27 [.sl a, .sl b] K h := by
  refine zCall_at (hS (by decide)) (by kernel_rfl) ?_
  rw [rcom_nf]
  have la := ha.len
  have lb := hb.len
  obtain ⟨c1, c2⟩ := com_le x y
  refine ZLoop.inv (fun q z h' => ∃ j : Nat, ZAt 30 [(0, .sl a), (1, .sl b), (5, .int .i64 (j : Int))] z ∧ h' = h ∧ j + q = x.length ∧ j ≤ com x y) (n := x.length) (by omega) ⟨0, ⟨rfl, rfl, rfl, rfl, trivial⟩, rfl, by omega, Nat.zero_le _⟩ ?_
  rintro q z h' kk hq ⟨j, hz, rfl, hj, hc⟩ ih
  refine zAt_of _ hz fun d => (rcom_l11000 _ _ _ _ _ _ _ _ _ _ _).mpr ?_
  have fin : com x y = j → ∀ z, ZAt 30 [(5, .int .i64 (j : Int))] z → zAt Tryz.prog (zCall Tryz.prog SB lf n) lf 27 [1, 1, 1] z (zFin Tryz.prog 27 K) ⟨[], zFin Tryz.prog 27 K⟩ h' := fun e z hz => by
    refine zAt_of (n := 30) _ hz fun d' => (rcom_a111 _ _ _ _ _ _).mpr ?_
    rw [e] at k
    exact k
  rw [cnd_dec]
  refine ⟨fun e => ?_, fun e => fin (by rw [ofn la] at e; omega) _ ⟨rfl, rfl, trivial⟩⟩
  rw [ofn la] at e
  rw [cnd_t, cnd_dec]
  refine ⟨fun e2 => ?_, fun e2 => fin (by rw [ofn lb] at e2; omega) _ ⟨rfl, rfl, trivial⟩⟩
  rw [ofn lb] at e2
  obtain ⟨u, hu⟩ : ∃ u, x[j]? = some u := ⟨_, List.getElem?_eq_getElem (by omega)⟩
  obtain ⟨v, hv⟩ : ∃ v, y[j]? = some v := ⟨_, List.getElem?_eq_getElem (by omega)⟩
  have na : a.nil = false := by
    cases hn : a.nil with
    | false => rfl
    | true => rw [SL.n_nil hn] at la; omega
  have nb : b.nil = false := by
    cases hn : b.nil with
    | false => rfl
    | true => rw [SL.n_nil hn] at lb; omega
  have l1 := SL.n_of na
  have l2 := SL.n_of nb
  refine ⟨na, zIdx_nat.2 ⟨by omega, rfl, zLdI_iff.2 ⟨_, by rw [Nat.mul_one]; exact ha.at' na hu, ⟨nb, zIdx_nat.2 ⟨by omega, rfl, zLdI_iff.2 ⟨_, by rw [Nat.mul_one]; exact hb.at' nb hv, ?_⟩⟩⟩⟩⟩⟩
  by_cases huv : u = v
  · subst huv
    rw [decide_eq_true rfl, cnd_t, cnd_tP]
    refine zW_iff.2 ?_
    rw [i64_fit (e := (j : Int) + 1) (by omega) (by omega)]
    exact ih (q - 1) _ _ (by omega) ⟨j + 1, ⟨rfl, rfl, rfl, rfl, trivial⟩, rfl, by omega, com_step x y j u hc hu hv⟩
  · rw [decide_eq_false (fun e : Int.ofNat u = Int.ofNat v => huv (by cases e; rfl)), cnd_t, cnd_fP]
    exact fin (com_stop x y j u v hc hu hv huv) _ ⟨rfl, rfl, trivial⟩
noncomputable def cmpK (x y : Ky) : Int := if bytesLt x y = true then -1 else if x = y then 0 else 1
theorem cmpK_pos {x y : Ky} : 0 ≤ cmpK x y ↔ ¬ bytesLt x y = true := by
  unfold cmpK
  split
  · rename_i h; simp [h]
  · rename_i h; split <;> simp [h]
theorem ocmp_ok {a b : SL} {x y : Ky} (ha : Byts h a x) (hb : Byts h b y) (hlen : x.length < 8589934592) (hlf : x.length < lf) (k : K (.int .i64 (cmpK x y)) h) :
    zCall Tryz.prog SB lf (n + 2) 42 [.sl a, .sl b] K h := by
  refine zCall_at (hS (by decide)) (by kernel_rfl) ?_
  rw [ocmp_nf]
  refine ocom_ok ha hb hlen hlf ?_
  rw [av_int]
  refine zRI_av.2 ?_
  have la := ha.len
  have lb := hb.len
  obtain ⟨c1, c2⟩ := com_le x y
  obtain ⟨q1, q2, q3, q4⟩ := com_lt x y
  rw [ofn la, ofn lb]
  have lt : bytesLt x y = true → K (.int .i64 (-1)) h := fun e => by unfold cmpK at k; rw [if_pos e] at k; exact k
  have gt : bytesLt y x = true → K (.int .i64 1) h := fun e => by unfold cmpK at k; rw [if_neg (by rw [lt_asymm e]; simp), if_neg (lt_ne e).symm] at k; exact k
  by_cases e1 : com x y = x.length
  · rw [decide_eq_true (by omega), cnd_tP, cnd_t]
    by_cases e2 : com x y = y.length
    · rw [decide_eq_true (by omega), cnd_tP]
      have : cmpK x y = 0 := by unfold cmpK; rw [q1 e1 e2, lt_irr, if_neg (by decide), if_pos rfl]
      rw [this] at k; exact k
    · rw [decide_eq_false (by omega), cnd_fP, cnd_tP]
      exact lt (q2 e1 (by omega))
  · rw [decide_eq_false (by omega), cnd_fP, cnd_fP]
    by_cases e2 : com x y = y.length
    · rw [decide_eq_true (by omega), cnd_tP]
      exact gt (q3 e2 (by omega))
    · rw [decide_eq_false (by omega), cnd_fP]
      obtain ⟨u, hu⟩ : ∃ u, x[com x y]? = some u := ⟨_, List.getElem?_eq_getElem (by omega)⟩
      obtain ⟨v, hv⟩ : ∃ v, y[com x y]? = some v := ⟨_, List.getElem?_eq_getElem (by omega)⟩
      have na : a.nil = false := by
        cases hn : a.nil with
        | false => rfl
        | true => rw [SL.n_nil hn] at la; omega
      have nb : b.nil = false := by
        cases hn : b.nil with
        | false => rfl
        | true => rw [SL.n_nil hn] at lb; omega
      have l1 := SL.n_of na
      have l2 := SL.n_of nb
      refine ⟨na, zIdx_nat.2 ⟨by omega, rfl, zLdI_iff.2 ⟨_, by rw [Nat.mul_one]; exact ha.at' na hu, ⟨nb, zIdx_nat.2 ⟨by omega, rfl, zLdI_iff.2 ⟨_, by rw [Nat.mul_one]; exact hb.at' nb hv, ?_⟩⟩⟩⟩⟩⟩
      obtain ⟨w1, w2, w3⟩ := q4 u v hu hv
      rw [cnd_f]
      by_cases e3 : v < u
      · rw [decide_eq_true (by show (v : Int) < (u : Int); omega), cnd_tP]
        exact gt (w3 e3)
      · rw [decide_eq_false (by show ¬ (v : Int) < (u : Int); omega), cnd_fP]
        exact lt (w2 (by omega))
def sizedB (z : Int) : Bool := decide (Sized z)
theorem sized_ok {z : Int} (k : K (.bool (sizedB z)) h) : zCall Tryz.prog SB lf (n + 1) 41 [.int .i64 z] K h := by
  refine zCall_at (hS (by decide)) (by kernel_rfl) ?_
  rw [psized_nf]
  have t : Sized z → K (.bool true) h := fun e => by unfold sizedB at k; rw [decide_eq_true e] at k; exact k
  have f : ¬ Sized z → K (.bool false) h := fun e => by unfold sizedB at k; rw [decide_eq_false e] at k; exact k
  unfold Sized at t f
  rw [cnd_dec, cnd_dec, cnd_dec, cnd_dec]
  exact ⟨fun e => t (.inl e), fun e1 => ⟨fun e => t (.inr (.inl e)), fun e2 => ⟨fun e => t (.inr (.inr (.inl e))), fun e3 => ⟨fun e => t (.inr (.inr (.inr e))), fun e4 => f (by omega)⟩⟩⟩⟩
theorem rsized_ok {z : Int} (k : K (.bool (sizedB z)) h) : zCall Tryz.prog SB lf (n + 1) 24 [.int .i64 z] K h := by
  refine zCall_at (hS (by decide)) (by kernel_rfl) ?_
  rw [rsized_nf]
  have t : Sized z → K (.bool true) h := fun e => by unfold sizedB at k; rw [decide_eq_true e] at k; exact k
  rw [cnd_f, cnd_f, cnd_f]
  unfold Sized at t
  rw [cnd_dec, cnd_dec, cnd_dec]
  refine ⟨fun e => t (.inl e), fun e1 => ⟨fun e => t (.inr (.inl e)), fun e2 => ⟨fun e => t (.inr (.inr (.inl e))), fun e3 => ?_⟩⟩⟩
  by_cases e4 : z = 4096
  · rw [decide_eq_true e4]; exact t (.inr (.inr (.inr e4)))
  · rw [decide_eq_false e4]
    unfold sizedB at k
    rw [decide_eq_false (by unfold Sized; omega)] at k
    exact k
def roomI (z : Int) : Int := if Sized z then z - 32 else 0
theorem proom_ok {z : Int} (k : K (.int .i64 (roomI z)) h) : zCall Tryz.prog SB lf (n + 2) 20 [.int .i64 z] K h := by
  refine zCall_at (hS (by decide)) (by kernel_rfl) ?_
  rw [proom_nf]
  refine sized_ok ?_
  rw [av_bool]
  refine zRB_av.2 ?_
  unfold roomI at k
  by_cases e : Sized z
  · rw [show sizedB z = true by unfold sizedB; exact decide_eq_true e, Bool.not_true, cnd_fP]
    rw [if_pos e] at k
    unfold Sized at e
    refine zW_iff.2 ?_
    rw [i64_fit (e := z - 32) (by omega) (by omega)]
    exact k
  · rw [show sizedB z = false by unfold sizedB; exact decide_eq_false e, Bool.not_false, cnd_tP]
    rw [if_neg e] at k
    exact k
theorem rroom_ok {z : Int} (k : K (.int .i64 (roomI z)) h) : zCall Tryz.prog SB lf (n + 2) 26 [.int .i64 z] K h := by
  refine zCall_at (hS (by decide)) (by kernel_rfl) ?_
  rw [rroom_nf]
  refine rsized_ok ?_
  rw [av_bool]
  refine zRB_av.2 ?_
  unfold roomI at k
  by_cases e : Sized z
  · rw [show sizedB z = true by unfold sizedB; exact decide_eq_true e, Bool.not_true, cnd_fP]
    rw [if_pos e] at k
    unfold Sized at e
    refine zW_iff.2 ?_
    rw [i64_fit (e := z - 32) (by omega) (by omega)]
    exact k
  · rw [show sizedB z = false by unfold sizedB; exact decide_eq_false e, Bool.not_false, cnd_tP]
    rw [if_neg e] at k
    exact k
theorem filled_ok {z : Int} (k : K (.bool (decide (50 ≤ z ∧ z ≤ 100))) h) : zCall Tryz.prog SB lf (n + 1) 21 [.int .i64 z] K h := by
  refine zCall_at (hS (by decide)) (by kernel_rfl) ?_
  rw [filled_nf, cnd_t, cnd_dec]
  refine ⟨fun e => ?_, fun e => ?_⟩
  · by_cases e2 : z ≤ 100
    · rw [decide_eq_true e2]; rw [decide_eq_true ⟨e, e2⟩] at k; exact k
    · rw [decide_eq_false e2]; rw [decide_eq_false (fun q => e2 q.2)] at k; exact k
  · rw [decide_eq_false (fun q => e q.1)] at k; exact k
variable {X : List ER}
def prev (l : List Pr) (j : Nat) : Option Ky := if j = 0 then none else (l[j - 1]?).map Prod.fst
theorem alike_ok {a : SL} (ha : Ents h a X) {j : Nat} (hj : j < X.length) (hs : ∀ x, x ∈ X → x.e.1.length < 8589934592 ∧ x.e.1.length < lf) (hX : X.length < 8589934592)
    (k : ∀ x, X[j]? = some x → K (.int .i64 (match prev (ents X) j with | some q => ((com q x.e.1 : Nat) : Int) | none => 0)) h) :
    zCall Tryz.prog SB lf (n + 2) 106 [.sl a, .int .i64 (j : Int)] K h := by
  refine zCall_at (hS (by decide)) (by kernel_rfl) ?_
  rw [lalike_nf]
  obtain ⟨x, hx⟩ : ∃ x, X[j]? = some x := ⟨_, List.getElem?_eq_getElem hj⟩
  have k := k x hx
  by_cases e : j = 0
  · subst e
    rw [decide_eq_true (by rfl), cnd_tP]
    rw [show prev (ents X) 0 = none from rfl] at k
    exact k
  · rw [decide_eq_false (by omega), cnd_fP]
    refine zW_iff.2 ?_
    rw [i64_fit (e := (j : Int) - 1) (by omega) (by omega), show (j : Int) - 1 = ((j - 1 : Nat) : Int) by omega]
    have na := ha.nil_of (by decide) hj
    have a1 := ha.len' (by decide) na
    obtain ⟨y, hy⟩ : ∃ y, X[j - 1]? = some y := ⟨_, List.getElem?_eq_getElem (by omega)⟩
    have hym := List.mem_of_getElem? hy
    refine ⟨na, zIdx_nat.2 ⟨by omega, rfl, rfl, zLdL_of (ha.key na hy) ⟨na, zIdx_nat.2 ⟨by omega, rfl, rfl, zLdL_of (ha.key na hx) ?_⟩⟩⟩⟩
    refine ocom_ok (ha.ok y hym).1 (ha.ok x (List.mem_of_getElem? hx)).1 (hs y hym).1 (hs y hym).2 ?_
    rw [av_int]
    refine zRI_av.2 ?_
    rw [show prev (ents X) j = some y.e.1 by unfold prev; rw [if_neg e, ents_at hy]; rfl] at k
    exact k
theorem long_ok {a : SL} (ha : Ents h a X) {j : Nat} (hs : ∀ x, x ∈ X → x.e.1.length < 8589934592 ∧ x.e.1.length < lf ∧ x.e.2.length < 8589934592) (hX : X.length < 8589934592)
    {x : ER} (hx : X[j]? = some x) (k : K (.int .i64 ((long (prev (ents X) j) x.e : Nat) : Int)) h) :
    zCall Tryz.prog SB lf (n + 3) 73 [.sl a, .int .i64 (j : Int)] K h := by
  refine zCall_at (hS (by decide)) (by kernel_rfl) ?_
  rw [long_nf]
  have hj : j < X.length := (List.getElem?_eq_some_iff.1 hx).1
  have na := ha.nil_of (by decide) hj
  have a1 := ha.len' (by decide) na
  have hxm := List.mem_of_getElem? hx
  obtain ⟨xk, xv⟩ := ha.ok x hxm
  obtain ⟨b1, b2, b3⟩ := hs x hxm
  have l1 := xk.len
  have l2 := xv.len
  refine ⟨na, zIdx_nat.2 ⟨by omega, rfl, rfl, zLdL_of (ha.key na hx) (zW_iff.2 ?_)⟩⟩
  rw [ofn l1, i64_fit (e := 6 + (x.e.1.length : Int)) (by omega) (by omega)]
  refine ⟨na, zIdx_nat.2 ⟨by omega, rfl, rfl, zLdL_of (ha.val na hx) ?_⟩⟩
  rw [ofn l2]
  refine alike_ok ha hj (fun y hy => ⟨(hs y hy).1, (hs y hy).2.1⟩) hX fun x' hx' => ?_
  rw [hx] at hx'
  cases hx'
  rw [av_int]
  refine zRI_av.2 ⟨rfl, ⟨rfl, zLdL_of (ha.val na hx) rfl⟩, zW_iff.2 ?_, rfl, ⟨rfl, zLdL_of (ha.key na hx) rfl⟩, zW_iff.2 ?_⟩
  · rw [i64_fit (e := 6 + (x.e.1.length : Int)) (by omega) (by omega)]
  · have hc : ∃ c : Nat, c ≤ x.e.1.length ∧ (match prev (ents X) j with | some q => ((com q x.e.1 : Nat) : Int) | none => 0) = (c : Int) ∧ long (prev (ents X) j) x.e = 6 + x.e.1.length - c + x.e.2.length := by
      unfold long
      cases prev (ents X) j with
      | none => exact ⟨0, Nat.zero_le _, rfl, rfl⟩
      | some q => exact ⟨_, (com_le q x.e.1).2, rfl, rfl⟩
    obtain ⟨c, h1, h2, h3⟩ := hc
    rw [h2]
    rw [h3] at k
    rw [i64_fit (e := 6 + (x.e.1.length : Int) - (c : Int)) (by omega) (by omega)]
    refine zW_iff.2 ?_
    rw [i64_fit (by omega) (by omega)]
    rw [show 6 + (x.e.1.length : Int) - (c : Int) + (x.e.2.length : Int) = ((6 + x.e.1.length - c + x.e.2.length : Nat) : Int) by omega]
    exact k
theorem prev_lastK : ∀ (l : List Pr) (j : Nat), j ≤ l.length → prev l j = lastK none (l.take j) := by
  intro l j hj
  cases j with
  | zero => rfl
  | succ j =>
    have hj' : j < l.length := by omega
    have e : l[j]? = some l[j] := List.getElem?_eq_getElem hj'
    rw [List.take_add_one, e]
    show (l[j + 1 - 1]?).map Prod.fst = _
    rw [Nat.add_sub_cancel, e]
    exact (lastK_snoc none _ _).symm
theorem sizes_take {l : List Pr} {j : Nat} {e : Pr} (he : l[j]? = some e) : sizes none (l.take (j + 1)) = sizes none (l.take j) + long (prev l j) e := by
  have hj := (List.getElem?_eq_some_iff.1 he).1
  rw [List.take_add_one, he, prev_lastK l j (by omega)]
  exact sizes_snoc _ _ _
theorem sizes_le {M : Nat} : ∀ (l : List Pr) (p : Option Ky), (∀ e, e ∈ l → e.1.length ≤ M ∧ e.2.length ≤ M) → sizes p l ≤ l.length * (6 + M + M)
  | [], p, h => Nat.zero_le _
  | e :: r, p, h => by
    have h1 := sizes_le r (some e.1) fun x hx => h x (List.mem_cons_of_mem _ hx)
    have h2 := h e List.mem_cons_self
    have h3 := long_le p e
    show long p e + sizes (some e.1) r ≤ (r.length + 1) * _
    rw [Nat.add_mul]
    omega
theorem sizes_ok {a : SL} (ha : Ents h a X) (hs : ∀ x, x ∈ X → x.e.1.length ≤ 1048576 ∧ x.e.2.length ≤ 1048576) (hX : X.length ≤ 1048577) (hlf : 2000000 < lf)
    (k : K (.int .i64 ((2 + sizes none (ents X) : Nat) : Int)) h) : zCall Tryz.prog SB lf (n + 4) 44 [.sl a] K h := by
  refine zCall_at (hS (by decide)) (by kernel_rfl) ?_
  rw [bytes_nf]
  have la := ha.len (by decide)
  rw [ofn la]
  have hb : ∀ j, sizes none ((ents X).take j) ≤ 1048577 * (6 + 1048576 + 1048576) := fun j => by
    refine Nat.le_trans (sizes_le _ none fun e he => ?_) (Nat.mul_le_mul_right _ ?_)
    · obtain ⟨x, hx, rfl⟩ := List.mem_map.1 (List.mem_of_mem_take he)
      exact hs x hx
    · rw [List.length_take, ents_len]; omega
  refine ZLoop.inv (fun q z h' => ∃ j : Nat, ZAt 17 [(0, .sl a), (3, .int .i64 ((2 + sizes none ((ents X).take j) : Nat) : Int)), (6, .int .i64 (X.length : Int)), (7, .int .i64 (j : Int))] z ∧ h' = h ∧ j + q = X.length) (n := X.length) (by omega) ⟨0, ⟨rfl, rfl, rfl, rfl, rfl, trivial⟩, rfl, by omega⟩ ?_
  rintro q z h' kk hq ⟨j, hz, rfl, hj⟩ ih
  refine zAt_of _ hz fun d => (bytes_l110100 _ _ _ _ _ _ _ _ _ _ _ _).mpr ?_
  rw [cnd_dec]
  refine ⟨fun e => ?_, fun e => ?_⟩
  · obtain ⟨x, hx⟩ : ∃ x, X[j]? = some x := ⟨_, List.getElem?_eq_getElem (by omega)⟩
    refine long_ok ha (fun y hy => ?_) (by omega) hx ?_
    · have := hs y hy
      exact ⟨by omega, by omega, by omega⟩
    · rw [av_int]
      refine zRI_av.2 (zW_iff.2 ?_)
      have es := sizes_take (ents_at hx)
      have b1 := hb j
      have b2 := hb (j + 1)
      rw [i64_fit (by omega) (by omega)]
      refine zW_iff.2 ?_
      rw [i64_fit (e := (j : Int) + 1) (by omega) (by omega)]
      refine ih (q - 1) _ _ (by omega) ⟨j + 1, ⟨rfl, rfl, ?_, rfl, rfl, trivial⟩, rfl, by omega⟩
      rw [es]
      show ZV.int .i64 _ = ZV.int .i64 _
      congr 1
      omega
  · refine zAt_of (n := 17) [(3, .int .i64 ((2 + sizes none ((ents X).take j) : Nat) : Int))] ⟨rfl, rfl, trivial⟩ fun d' => (bytes_a111 _ _ _ _ _ _).mpr ?_
    rw [List.take_of_length_le (by rw [ents_len]; omega)]
    exact k
end
end BlN
namespace BlN
open Go Go.X Go.X.Df Go.X.Bl Go.Proofs
theorem prev_succ {l : List Pr} {j : Nat} {e : Pr} (he : l[j]? = some e) : prev l (j + 1) = some e.1 := by
  unfold prev
  rw [if_neg (by omega), Nat.add_sub_cancel, he]; rfl
theorem prev_some {l : List Pr} {j : Nat} {e : Pr} (hj : 0 < j) (he : l[j - 1]? = some e) : prev l j = some e.1 := by
  unfold prev
  rw [if_neg (by omega), he]; rfl
theorem drop_at {α : Type} {l : List α} {j : Nat} {e : α} (he : l[j]? = some e) : l.drop j = e :: l.drop (j + 1) := by
  obtain ⟨hj, h⟩ := List.getElem?_eq_some_iff.1 he
  rw [List.drop_eq_getElem_cons hj, h]
section
variable {lf n : Nat} {h : Heap} {K : ZK} {X : List ER}
def Mb (X : List ER) : Prop := ∀ x, x ∈ X → x.e.1.length ≤ 1048576 ∧ x.e.2.length ≤ 1048576
theorem rmay_ok {z : Int} {a : SL} (ha : Ents h a X) (hz : Sized z) {j : Nat} {x : ER} (hx : X[j]? = some x) (hX : X.length ≤ 1048577) (k : K (.int .i64 (may z (prev (ents X) j) x.e)) h) :
    zCall Tryz.prog SB lf (n + 1) 45 [.int .i64 z, .sl a, .int .i64 (j : Int)] K h := by
  refine zCall_at (hS (by decide)) (by kernel_rfl) ?_
  rw [may_nf]
  have hj : j < X.length := (List.getElem?_eq_some_iff.1 hx).1
  have na := ha.nil_of (by decide) hj
  have a1 := ha.len' (by decide) na
  have hxm := List.mem_of_getElem? hx
  obtain ⟨xk, xv⟩ := ha.ok x hxm
  have l1 := xk.len
  have l2 := xv.len
  have e16 : IntKind.i64.wrap (Int.tdiv z 16) = Int.tdiv z 16 := by
    rcases hz with rfl | rfl | rfl | rfl <;> decide
  have e4 : IntKind.i64.wrap (Int.tdiv z 4) = Int.tdiv z 4 := by
    rcases hz with rfl | rfl | rfl | rfl <;> decide
  unfold may at k
  refine ⟨na, zIdx_nat.2 ⟨by omega, rfl, rfl, zLdL_of (ha.key na hx) ?_⟩⟩
  rw [ofn l1, cnd_dec]
  refine ⟨fun e => ?_, fun e => ?_⟩
  · rw [if_pos (.inl (by omega))] at k; exact k
  refine ⟨na, zIdx_nat.2 ⟨by omega, rfl, rfl, zLdL_of (ha.key na hx) ⟨by decide, zW_iff.2 ?_⟩⟩⟩
  rw [ofn l1, e16, cnd_f, cnd_dec]
  refine ⟨fun e2 => ?_, fun e2 => ?_⟩
  · rw [if_pos (.inr e2)] at k; exact k
  rw [if_neg (by rintro (q | q); · omega
                 · exact e2 q)] at k
  refine ⟨na, zIdx_nat.2 ⟨by omega, rfl, rfl, zLdL_of (ha.val na hx) ⟨by decide, zW_iff.2 ?_⟩⟩⟩
  rw [ofn l2, e4, cnd_dec]
  refine ⟨fun e3 => ?_, fun e3 => ?_⟩
  · rw [if_pos e3] at k; exact k
  rw [if_neg e3] at k
  rw [cnd_dec]
  refine ⟨fun e5 => ?_, fun e5 => ?_⟩
  · have hj0 : 0 < j := by omega
    refine zW_iff.2 ?_
    rw [i64_fit (e := (j : Int) - 1) (by omega) (by omega), show (j : Int) - 1 = ((j - 1 : Nat) : Int) by omega]
    obtain ⟨y, hy⟩ : ∃ y, X[j - 1]? = some y := ⟨_, List.getElem?_eq_getElem (by omega)⟩
    refine ⟨na, zIdx_nat.2 ⟨by omega, rfl, rfl, zLdL_of (ha.key na hy) ((ha.ok y (List.mem_of_getElem? hy)).1.zbytes ⟨na, zIdx_nat.2 ⟨by omega, rfl, rfl, zLdL_of (ha.key na hx) (xk.zbytes ?_)⟩⟩)⟩⟩
    rw [prev_some hj0 (ents_at hy)] at k
    have k : K (.int .i64 (if bytesLt y.e.1 x.e.1 = true then 0 else 151)) h := k
    cases hb : bytesLt y.e.1 x.e.1 with
    | true => rw [hb, if_pos rfl] at k; rw [Bool.not_true, cnd_t, cnd_fP]; exact k
    | false => rw [hb, if_neg (by decide)] at k; rw [Bool.not_false, cnd_t, cnd_tP]; exact k
  · have : j = 0 := by omega
    subst this
    exact k
theorem first_at {z : Int} {l : List Pr} {j : Nat} {e : Pr} (he : l[j]? = some e) : first z (prev l j) (l.drop j) = if may z (prev l j) e = 0 then first z (prev l (j + 1)) (l.drop (j + 1)) else may z (prev l j) e := by
  rw [drop_at he, prev_succ he]; rfl
theorem first_ok {z : Int} {a : SL} (ha : Ents h a X) (hz : Sized z) (hX : X.length ≤ 1048577) (hlf : X.length < lf) (hk : ∀ i, K (.tup [.int .i64 i, .int .i64 (first z none (ents X))]) h) :
    zCall Tryz.prog SB lf (n + 2) 25 [.int .i64 z, .sl a] K h := by
  refine zCall_at (hS (by decide)) (by kernel_rfl) ?_
  rw [first_nf]
  have la := ha.len (by decide)
  refine ZLoop.inv (fun q w h' => ∃ j : Nat, ZAt 24 [(0, .int .i64 z), (1, .sl a), (6, .int .i64 (j : Int))] w ∧ h' = h ∧ j + q = X.length ∧ first z none (ents X) = first z (prev (ents X) j) ((ents X).drop j)) (n := X.length) hlf ⟨0, ⟨rfl, rfl, rfl, rfl, trivial⟩, rfl, by omega, rfl⟩ ?_
  rintro q w h' kk hq ⟨j, hw, rfl, hj, hf⟩ ih
  refine zAt_of _ hw fun d => (first_l10100 _ _ _ _ _ _ _ _ _ _ _).mpr ?_
  rw [ofn la, cnd_dec]
  refine ⟨fun e => ?_, fun e => ?_⟩
  · obtain ⟨x, hx⟩ : ∃ x, X[j]? = some x := ⟨_, List.getElem?_eq_getElem (by omega)⟩
    refine rmay_ok ha hz hx hX ?_
    rw [av_int]
    refine zRI_av.2 ?_
    rw [first_at (ents_at hx)] at hf
    by_cases em : may z (prev (ents X) j) x.e = 0
    · rw [decide_eq_true em, Bool.not_true, cnd_fP]
      rw [if_pos em] at hf
      refine zW_iff.2 ?_
      rw [i64_fit (e := (j : Int) + 1) (by omega) (by omega)]
      exact ih (q - 1) _ _ (by omega) ⟨j + 1, ⟨rfl, rfl, rfl, rfl, trivial⟩, rfl, by omega, hf⟩
    · rw [decide_eq_false em, Bool.not_false, cnd_tP]
      rw [if_neg em] at hf
      rw [hf] at hk
      exact hk _
  · refine zAt_of (n := 24) [(1, .sl a)] ⟨rfl, rfl, trivial⟩ fun d' => (first_a11 _ _ _ _ _ _).mpr ?_
    have : (ents X).drop j = [] := List.drop_eq_nil_of_le (by rw [ents_len]; omega)
    rw [this] at hf
    have hf : first z none (ents X) = 0 := hf
    rw [hf] at hk
    exact hk _
def nums (l : List Nat) : List AV := l.map fun (m : Nat) => AV.int .i64 (m : Int)
abbrev Nums (h0 h : Heap) (s : SL) (l : List Nat) : Prop := Grown h0 h s 1 l.length (nums l)
theorem nums_len (l : List Nat) : (nums l).length = l.length := by unfold nums; simp
theorem Nums.at' {h0 h : Heap} {s : SL} {l : List Nat} (g : Nums h0 h s l) {j : Nat} {m : Nat} (hm : l[j]? = some m) : s.nil = false ∧ s.len = l.length ∧ cellAt h s.i (s.o + j * 1) = some (.int .i64 (m : Int)) := by
  have hj := (List.getElem?_eq_some_iff.1 hm).1
  rcases g.2 with ⟨h0, _⟩ | ⟨h1, h2, h3, h4, h5, h6, h7, h8⟩
  · omega
  · refine ⟨h1, h3, ?_⟩
    rw [cellAt_of h8, h2, Nat.zero_add, Nat.mul_one]
    unfold nums; rw [List.getElem?_map, hm]; rfl
theorem room3 {k : Nat} (h : k ≤ 4294967296) : roomB Tryz.prog 3 k = true := by
  have e0 : bytesO Tryz.prog 3 = some 8 := by kernel_rfl
  unfold roomB; rw [e0]
  show cnd (Nat.ble (Nat.mul k 8) most) (Nat.ble k most) false = true
  have e1 : Nat.ble (Nat.mul k 8) most = true := Nat.ble_eq_true_of_le (by show k * 8 ≤ 1099511627776; omega)
  have e2 : Nat.ble k most = true := Nat.ble_eq_true_of_le (by show k ≤ 1099511627776; omega)
  rw [e1, e2]; rfl
theorem Nums.more {h0 h : Heap} {s : SL} {l : List Nat} {m : Nat} {A : List AV → Prop} (g : Nums h0 h s l) (hn : h0.next ≤ h.next) (hl : l.length < 4294967296)
    (ha : Nums h0 (happ (h.newO (.cells [.int .i64 (m : Int)] 1 false false)) s 1 1 [.int .i64 (m : Int)]) (s.app (h.newO (.cells [.int .i64 (m : Int)] 1 false false)).next 1) (l ++ [m]) →
      Fram (fun i => s.nil = false ∧ i = s.i) h (happ (h.newO (.cells [.int .i64 (m : Int)] 1 false false)) s 1 1 [.int .i64 (m : Int)]) →
      (s.app (h.newO (.cells [.int .i64 (m : Int)] 1 false false)).next 1).nil = false → h.next ≤ (s.app (h.newO (.cells [.int .i64 (m : Int)] 1 false false)).next 1).i → A [.int .i64 (m : Int)]) :
    ZSrc (h.newO (.cells [.int .i64 (m : Int)] 1 false false)) ⟨false, h.next, 0, 1, 1, false⟩ 1 fun ds => ZApp Tryz.prog (h.newO (.cells [.int .i64 (m : Int)] 1 false false)) s 3 1 1 ds (A ds) := by
  have f1 : Fram nowhere h (h.newO (.cells [AV.int .i64 (m : Int)] 1 false false)) := Fram.newO _ _ _
  have sg : Seg (h.newO (.cells [AV.int .i64 (m : Int)] 1 false false)) ⟨false, h.next, 0, 1, 1, false⟩ 1 [AV.int .i64 (m : Int)] := Seg.own (more := []) rfl (Nat.lt_succ_self _) (by rw [List.append_nil]; exact newO_get_self _ _)
  refine sg.zsrc ?_
  have hn1 : (h.newO (.cells [AV.int .i64 (m : Int)] 1 false false)).next = h.next + 1 := rfl
  refine (g.fr f1 fun _ => id).append1 (by omega) (by decide) rfl rfl (room3 (by omega)) fun g2 f2 hi => ?_
  have g3 : Nums h0 (happ (h.newO (.cells [AV.int .i64 (m : Int)] 1 false false)) s 1 1 [AV.int .i64 (m : Int)]) (s.app (h.newO (.cells [AV.int .i64 (m : Int)] 1 false false)).next 1) (l ++ [m]) := by
    show Grown _ _ _ 1 (l ++ [m]).length (nums (l ++ [m]))
    have : nums (l ++ [m]) = nums l ++ [AV.int .i64 (m : Int)] := by unfold nums; rw [List.map_append]; rfl
    rw [List.length_append, this]
    exact g2
  refine ha g3 ((f1.mono fun _ _ e => e.elim).trans f2) ?_ (by omega)
  rcases g3.2 with ⟨q, _⟩ | ⟨q, _⟩
  · rw [List.length_append] at q; simp at q
  · exact q
end
end BlN
namespace BlN
open Go Go.X Go.X.Df Go.X.Bl Go.Proofs
theorem Var.put_all {h : Heap} {i : Nat} {cs vs : List AV} (x : Var h i cs) (e : vs.length = cs.length) : Var (hput h i 0 vs) i vs := by
  have := x.put 0 vs
  rwa [List.take_zero, List.nil_append, Nat.zero_add, e, List.drop_length, List.append_nil] at this
theorem room28 {k : Nat} (h : k ≤ 4294967296) : roomB Tryz.prog 28 k = true := by
  have e0 : bytesO Tryz.prog 28 = some 48 := by kernel_rfl
  unfold roomB; rw [e0]
  show cnd (Nat.ble (Nat.mul k 48) most) (Nat.ble k most) false = true
  have e1 : Nat.ble (Nat.mul k 48) most = true := Nat.ble_eq_true_of_le (by show k * 48 ≤ 1099511627776; omega)
  have e2 : Nat.ble k most = true := Nat.ble_eq_true_of_le (by show k ≤ 1099511627776; omega)
  rw [e1, e2]; rfl
theorem app_clip {P : Program} {h : Heap} {s : SL} {e sz : Nat} {cs row : List AV} {Q : Heap → SL → Prop} (hs : Seg h s sz cs) (hn : s.nil = true → s.ext = false) (hc : s.nil = false → s.cap = s.len ∧ s.ext = false) (hd : row.length = sz) (hp : allPlain row = true) (hr : roomB P e (s.n + 1) = true)
    (hk : ∀ h', Fram nowhere h h' → h'.next = h.next + 1 → Seg h' ⟨false, h.next, 0, s.n + 1, s.n + 1, true⟩ sz (cs ++ row) → Q h' ⟨false, h.next, 0, s.n + 1, s.n + 1, true⟩) :
    ZApp P h s e sz 1 row (Q (happ h s sz 1 row) (s.app h.next 1)) := by
  have hb : Nat.beq 1 0 = false := rfl
  cases e1 : s.nil with
  | true =>
    have n0 : s.n = 0 := SL.n_nil e1
    have hcs := hs.nil_cs e1
    subst hcs
    have eh : happ h s sz 1 row = h.newO (.cells row sz true false) := by unfold happ; rw [hb, e1]
    have es : s.app h.next 1 = ⟨false, h.next, 0, 1, 1, true⟩ := by unfold SL.app; rw [hb, e1]
    refine ⟨⟨fun q => absurd (e1.symm.trans q) (by decide), fun _ _ => hn e1, fun _ q => absurd (e1.symm.trans q) (by decide), fun _ _ => hr, fun _ q => absurd (e1.symm.trans q) (by decide), fun _ q => absurd (e1.symm.trans q) (by decide)⟩, hp, ?_⟩
    rw [eh, es]
    have := hk _ (Fram.newO _ _ _) rfl (by
      rw [n0]
      exact Seg.own (cs := row) (more := []) (e := sz) (g := true) (m := false) (by rw [hd, Nat.one_mul]) (Nat.lt_succ_self _) (by rw [List.append_nil]; exact newO_get_self _ _))
    rw [n0] at this
    exact this
  | false =>
    obtain ⟨c1, c2⟩ := hc e1
    have n1 : s.n = s.len := SL.n_of e1
    obtain ⟨c, hcc, h1, h2⟩ := hs.src e1
    have hbl : Nat.ble (s.len + 1) s.cap = false := by
      cases hq : Nat.ble (s.len + 1) s.cap with
      | false => rfl
      | true => exact absurd (Nat.le_of_ble_eq_true hq) (by omega)
    have es : s.app h.next 1 = ⟨false, h.next, 0, s.len + 1, s.len + 1, true⟩ := by unfold SL.app; rw [hb, e1]; simp only; rw [hbl]
    have eh : happ h s sz 1 row = h.newO (.cells (cs ++ row) sz true false) := by
      unfold happ
      rw [hb, e1]
      simp only
      rw [hbl]
      unfold cellsAt at hcc
      cases hg : h.get s.i with
      | none => rw [hg] at hcc; cases hcc
      | some o =>
        rw [hg] at hcc
        cases o with
        | cells d e2 g2 m2 => cases hcc; simp only [c2]; rw [h1]
        | ro d => cases hcc; simp only; rw [h1]
        | _ => cases hcc
    refine ⟨⟨fun _ => by omega, fun _ q => absurd (e1.symm.trans q) (by decide), fun _ _ q => absurd q (by omega), fun _ _ => hr, fun _ _ _ q => absurd (c2.symm.trans q) (by decide), fun _ _ _ _ => ⟨c, hcc, h2⟩⟩, hp, ?_⟩
    rw [eh, es]
    have hl := hs.len
    have := hk _ (Fram.newO _ _ _) rfl (by
      refine Seg.own (cs := cs ++ row) (more := []) (e := sz) (g := true) (m := false) ?_ (Nat.lt_succ_self _) (by rw [List.append_nil]; exact newO_get_self _ _)
      rw [List.length_append, hl, hd, Nat.add_mul, Nat.one_mul])
    rw [n1] at this
    exact this
def part (X : List ER) (m j : Nat) : List ER := (X.take j).drop m
theorem part_len {X : List ER} {m j : Nat} (h : j ≤ X.length) : (part X m j).length = j - m := by unfold part; rw [List.length_drop, List.length_take]; omega
theorem part_mem {X : List ER} {m j : Nat} {x : ER} (h : x ∈ part X m j) : x ∈ X := List.mem_of_mem_take (List.mem_of_mem_drop h)
theorem part_snoc {X : List ER} {m j : Nat} {x : ER} (hm : m ≤ j) (hx : X[j]? = some x) : part X m (j + 1) = part X m j ++ [x] := by
  have hj := (List.getElem?_eq_some_iff.1 hx).1
  unfold part
  rw [List.take_add_one, hx]
  show (X.take j ++ [x]).drop m = _
  rw [List.drop_append_of_le_length (by rw [List.length_take]; omega)]
theorem part_one {X : List ER} {j : Nat} {x : ER} (hx : X[j]? = some x) : part X j (j + 1) = [x] := by
  rw [part_snoc (Nat.le_refl _) hx]
  unfold part
  rw [List.drop_eq_nil_of_le (by rw [List.length_take]; omega)]; rfl
structure Cutter (h0 h : Heap) (c : Nat) (z most : Int) (X : List ER) (j m : Nat) (now last : SL) : Prop where
  var : Var h c [.int .i64 z, .int .i64 most, now.av, last.av, .bool (decide (0 < j))]
  low : h0.next ≤ c
  seg : Seg h now 2 ((part X m j).flatMap ER.row)
  nn : now.nil = true → now = nilSL
  cap : now.nil = false → now.len ≤ now.cap
  own : now.nil = false → h0.next ≤ now.i ∧ now.i ≠ c
  le : m ≤ j ∧ j ≤ X.length ∧ (0 < j → m < j)
  last : 0 < j → ∃ x, X[j - 1]? = some x ∧ last = x.ks
theorem Cutter.ents {h0 h : Heap} {c : Nat} {z most : Int} {X : List ER} {j m : Nat} {now last s : SL} (C : Cutter h0 h c z most X j m now last) (hX : Ents h s X) : Ents h now (part X m j) :=
  ⟨C.seg, fun _ _ => rfl, fun x hx => hX.ok x (part_mem hx)⟩
theorem Cutter.n_eq {h0 h : Heap} {c : Nat} {z most : Int} {X : List ER} {j m : Nat} {now last : SL} (C : Cutter h0 h c z most X j m now last) : now.n = j - m := by
  have := C.seg.len
  rw [flat_length (sz := 2) fun _ _ => rfl, part_len C.le.2.1] at this
  omega
section
variable {lf n : Nat} {h h0 : Heap} {K : ZK} {X : List ER}
noncomputable def putR (C : ZCall) (K : ZK) (c e : Nat) (H : Heap) (more : SL) : Prop :=
  ZAnd (false = false) (ZAnd (false = false) (ZAnd (false = false) (ZLdL H c 2 fun s_11 => @cnd Prop (decide (Int.ofNat (SL.n s_11) = 0))
    (ZAnd (false = false) (ZAnd (false = false) (ZAnd (false = false) (ZPut H c 2 1 (K (ZV.tup [ZV.sl (SL.mk true 0 0 0 0 false), ZV.int IntKind.i64 0]) (hput H c 2 [SL.av more]))))))
    (ZAnd (false = false) (ZAnd (false = false) (ZAnd (false = false) (ZLdI H c 1 IntKind.i64 fun n_4 => C 44 [ZV.sl more] (fun v_3 h'_3 => ZRI (ZV.av v_3) IntKind.i64 fun n_5 =>
      ZAnd (ZAnd (false = false) (ZLdI h'_3 c 1 IntKind.i64 fun n_6 => AV.int IntKind.i64 n_6 = AV.int IntKind.i64 n_4)) (@cnd Prop (cnd false true (decide (n_5 ≤ n_4)))
        (ZAnd (false = false) (ZAnd (false = false) (ZAnd (false = false) (ZPut h'_3 c 2 1 (K (ZV.tup [ZV.sl (SL.mk true 0 0 0 0 false), ZV.int IntKind.i64 0]) (hput h'_3 c 2 [SL.av more]))))))
        (ZAnd (false = false) (ZAnd (false = false) (ZAnd (false = false) (ZLdL h'_3 c 2 fun s_12 => ZAnd (false = false) (ZLdL h'_3 e 0 fun s_13 => ZLdL h'_3 e 1 fun s_14 =>
          ZAnd (false = false) (ZAnd (false = false) (ZAnd (false = false) (ZPut (Heap.newO h'_3 (AObj.cells [SL.av s_13, SL.av s_14] 2 false false)) c 2 1 (K (ZV.tup [ZV.sl s_12, ZV.int IntKind.i64 0]) (hput (Heap.newO h'_3 (AObj.cells [SL.av s_13, SL.av s_14] 2 false false)) c 2 [AV.slice (SL.i (SL.mk false (Heap.next h'_3) 0 1 1 false)) 0 1 1 false])))))))))))) H)))))))
structure PutK (h0 h : Heap) (c : Nat) (z most : Int) (X : List ER) (j m : Nat) (now : SL) (x : ER) (K : ZK) : Prop where
  more : m = j ∨ ((2 + sizes none (ents (part X m (j + 1))) : Nat) : Int) ≤ most → ∀ h' now' last', Fram (fun i => i = c) h h' → now'.nil = false → h.next ≤ now'.i → Cutter h0 h' c z most X (j + 1) m now' last' → K (.tup [.sl nilSL, .int .i64 0]) h'
  full : ¬ (m = j ∨ ((2 + sizes none (ents (part X m (j + 1))) : Nat) : Int) ≤ most) → ∀ h' now' last', Fram (fun i => i = c) h h' → now'.nil = false → h.next ≤ now'.i → Cutter h0 h' c z most X (j + 1) j now' last' → K (.tup [.sl now, .int .i64 0]) h'
theorem putR_ok {z most : Int} {c e j m : Nat} {now s more : SL} {H : Heap} {x : ER} (hx : X[j]? = some x) (hX : Ents H s X) (mb : Mb X) (lX : X.length ≤ 1048577) (hlf : 2000000 < lf)
    (var : Var H c [.int .i64 z, .int .i64 most, now.av, x.ks.av, .bool true]) (low : h0.next ≤ c) (hn : h0.next ≤ H.next) (ve : Var H e [x.ks.av, x.vs.av]) (hec : e ≠ c)
    (seg : Seg H more 2 ((part X m (j + 1)).flatMap ER.row)) (mn : more.nil = false) (mc : more.len ≤ more.cap) (mo : h0.next ≤ more.i ∧ more.i ≠ c)
    (le : m ≤ j) (nw : now.n = j - m) (f : Fram (fun i => i = c) h H) (hm : h.next ≤ more.i) (pk : PutK h0 h c z most X j m now x K) :
    putR (zCall Tryz.prog SB lf (n + 4)) K c e H more := by
  have hj := (List.getElem?_eq_some_iff.1 hx).1
  have ep : Ents H more (part X m (j + 1)) := ⟨seg, fun _ _ => rfl, fun y hy => hX.ok y (part_mem hy)⟩
  have keep : Cutter h0 (hput H c 2 [more.av]) c z most X (j + 1) m more x.ks := by
    have v2 := var.put 2 [more.av]
    have f2 := var.put_fr 2 [more.av]
    refine ⟨v2, low, seg.fr f2 fun _ e => mo.2 e, fun e => (by rw [mn] at e; cases e), fun _ => mc, fun _ => mo, ⟨by omega, by omega, fun _ => by omega⟩, fun _ => ⟨x, by rw [Nat.add_sub_cancel]; exact hx, rfl⟩⟩
  have fk : Fram (fun i => i = c) h (hput H c 2 [more.av]) := f.trans (var.put_fr 2 [more.av])
  refine ⟨rfl, rfl, rfl, var.ldL now rfl ?_⟩
  rw [nw, cnd_dec]
  refine ⟨fun e0 => ⟨rfl, rfl, rfl, var.zput (by simp) (pk.more (.inl ?_) _ _ _ fk mn hm keep)⟩, fun e0 => ⟨rfl, rfl, rfl, var.ldI most rfl ?_⟩⟩
  · have : j - m = 0 := by
      have e0 : ((j - m : Nat) : Int) = 0 := e0
      omega
    omega
  · have e1 : m ≠ j := fun e => e0 (by rw [e, Nat.sub_self]; rfl)
    refine sizes_ok ep (fun y hy => mb y (part_mem hy)) (by rw [part_len (by omega)]; omega) hlf ?_
    rw [av_int]
    refine zRI_av.2 ⟨⟨rfl, var.ldI most rfl rfl⟩, ?_⟩
    rw [cnd_f, cnd_dec]
    refine ⟨fun e2 => ⟨rfl, rfl, rfl, var.zput (by simp) (pk.more (.inr e2) _ _ _ fk mn hm keep)⟩, fun e2 => ⟨rfl, rfl, rfl, var.ldL now rfl ⟨rfl, ve.ldL x.ks rfl (ve.ldL x.vs rfl ⟨rfl, rfl, rfl, ?_⟩)⟩⟩⟩
    have f3 : Fram nowhere H (H.newO (.cells [x.ks.av, x.vs.av] 2 false false)) := Fram.newO _ _ _
    have v3 := var.fr f3 id
    have sg3 : Seg (H.newO (.cells [x.ks.av, x.vs.av] 2 false false)) ⟨false, H.next, 0, 1, 1, false⟩ 2 x.row := Seg.own (more := []) rfl (Nat.lt_succ_self _) (by rw [List.append_nil]; exact newO_get_self _ _)
    have hcl : c < H.next := var.lt
    refine v3.zput (by simp) (pk.full (fun q => q.elim e1 e2) _ ⟨false, H.next, 0, 1, 1, false⟩ x.ks ?_ rfl f.next ?_)
    · exact (f.trans (f3.mono fun _ _ e => e.elim)).trans (v3.put_fr 2 _)
    · refine ⟨v3.put 2 _, low, ?_, fun e => (by cases e), fun _ => Nat.le_refl _, fun _ => ⟨hn, by show H.next ≠ c; omega⟩, ⟨by omega, by omega, fun _ => by omega⟩, fun _ => ⟨x, by rw [Nat.add_sub_cancel]; exact hx, rfl⟩⟩
      rw [part_one hx]
      show Seg _ _ 2 ([x].flatMap ER.row)
      rw [List.flatMap_cons, List.flatMap_nil, List.append_nil]
      exact sg3.fr (v3.put_fr 2 _) fun _ e => by have e : H.next = c := e; omega
end
end BlN
namespace BlN
open Go Go.X Go.X.Df Go.X.Bl Go.Proofs
section
variable {lf n : Nat} {h h0 : Heap} {K : ZK} {X : List ER}
theorem clip_ok {s : SL} (h1 : s.nil = true → s = nilSL) (h2 : s.nil = false → s.len ≤ s.cap) (hk : ∀ s' : SL, s'.nil = s.nil → s'.i = s.i → s'.o = s.o → s'.n = s.n → s'.len = s.n → s'.cap = s.n → s'.ext = false → K (.sl s') h) : zCall Tryz.prog SB lf (n + 1) 43 [.sl s] K h := by
  refine zCall_at (hS (by decide)) (by kernel_rfl) ?_
  rw [clip_nf]
  refine zNat_nat.2 (zNat_nat.2 ⟨⟨fun e => ?_, fun e => ⟨Nat.zero_le _, Nat.le_refl _, ?_⟩⟩, ?_⟩)
  · rw [h1 e]; exact ⟨rfl, rfl, rfl, rfl⟩
  · rw [SL.n_of e]; exact h2 e
  · rw [SL.cut_false]
    refine hk _ rfl rfl ?_ ?_ (Nat.sub_zero _) (Nat.sub_zero _) rfl
    · show (match Nat.beq 0 s.n with | true => s.o | false => s.o + 0 * 2) = s.o
      cases Nat.beq 0 s.n <;> simp
    · unfold SL.n
      cases e : s.nil with
      | true => rfl
      | false => show s.len - 0 = s.len; rw [Nat.sub_zero]
noncomputable def putS (C : ZCall) (K : ZK) (c e : Nat) (H : Heap) : Prop :=
 (ZAnd (false = false) (ZAnd (false = false) (ZLdL H e 0 fun s_4 => ZAnd (false = false) (ZAnd (false = false) (ZAnd (false = false) (ZPut H c 3 1 (ZAnd (false = false) (ZAnd (false = false) (ZAnd (false = false) (ZPut (hput H c 3
 [SL.av s_4]) c 4 1 (ZAnd (ZAnd (false = false) (ZAnd (false = false) (ZAnd (false = false) (ZLdL (hput (hput H c 3 [SL.av s_4]) c 4 [AV.bool true]) c 2 fun s_5 => ZAnd (false = false) (ZLdL (hput (hput H c 3 [SL.av s_4]) c 4
 [AV.bool true]) e 0 fun s_6 => ZLdL (hput (hput H c 3 [SL.av s_4]) c 4 [AV.bool true]) e 1 fun s_7 => C 43 [ZV.sl s_5] (fun v_1 h'_1 => ZRL (ZV.av v_1) fun s_8 => ZAnd (ZAnd (false = false) (ZLdL h'_1 e 0 fun s_9 => ZLdL h'_1 e 1
 fun s_10 => AV.agg [SL.av s_9, SL.av s_10] = AV.agg [SL.av s_6, SL.av s_7])) (ZAnd (ZAnd (false = false) (ZLdL (Heap.newO h'_1 (AObj.cells [SL.av s_6, SL.av s_7] 2 false false)) c 2 fun s_9 => ZV.av (ZV.sl s_9) = ZV.av (ZV.sl
 s_5))) (ZSrc (Heap.newO h'_1 (AObj.cells [SL.av s_6, SL.av s_7] 2 false false)) (SL.mk false (Heap.next h'_1) 0 1 1 false) 2 fun ds_1 => ZApp Tryz.prog (Heap.newO h'_1 (AObj.cells [SL.av s_6, SL.av s_7] 2 false false)) s_8 28 2 1
 ds_1 (ZAnd (false = false) (ZAnd (false = false) (ZAnd (false = false) (ZLdL (happ (Heap.newO h'_1 (AObj.cells [SL.av s_6, SL.av s_7] 2 false false)) s_8 2 1 ds_1) c 2 fun s_9 => @cnd Prop (decide (Int.ofNat (SL.n s_9) = 0)) (ZAnd
 (false = false) (ZAnd (false = false) (ZAnd (false = false) (ZPut (happ (Heap.newO h'_1 (AObj.cells [SL.av s_6, SL.av s_7] 2 false false)) s_8 2 1 ds_1) c 2 1 (K (ZV.tup [ZV.sl (SL.mk true 0 0 0 0 false), ZV.int IntKind.i64 0])
 (hput (happ (Heap.newO h'_1 (AObj.cells [SL.av s_6, SL.av s_7] 2 false false)) s_8 2 1 ds_1) c 2 [SL.av (SL.app s_8 (Heap.next (Heap.newO h'_1 (AObj.cells [SL.av s_6, SL.av s_7] 2 false false))) 1)])))))) (ZAnd (false = false)
 (ZAnd (false = false) (ZAnd (false = false) (ZLdI (happ (Heap.newO h'_1 (AObj.cells [SL.av s_6, SL.av s_7] 2 false false)) s_8 2 1 ds_1) c 1 IntKind.i64 fun n_3 => C 44 [ZV.sl (SL.app s_8 (Heap.next (Heap.newO h'_1 (AObj.cells
 [SL.av s_6, SL.av s_7] 2 false false))) 1)] (fun v_2 h'_2 => ZRI (ZV.av v_2) IntKind.i64 fun n_4 => ZAnd (ZAnd (false = false) (ZLdI h'_2 c 1 IntKind.i64 fun n_5 => AV.int IntKind.i64 n_5 = AV.int IntKind.i64 n_3)) (@cnd Prop (cnd
 false true (decide (n_4 ≤ n_3))) (ZAnd (false = false) (ZAnd (false = false) (ZAnd (false = false) (ZPut h'_2 c 2 1 (K (ZV.tup [ZV.sl (SL.mk true 0 0 0 0 false), ZV.int IntKind.i64 0]) (hput h'_2 c 2 [SL.av (SL.app s_8 (Heap.next
 (Heap.newO h'_1 (AObj.cells [SL.av s_6, SL.av s_7] 2 false false))) 1)])))))) (ZAnd (false = false) (ZAnd (false = false) (ZAnd (false = false) (ZLdL h'_2 c 2 fun s_10 => ZAnd (false = false) (ZLdL h'_2 e 0 fun s_11 => ZLdL h'_2 e
 1 fun s_12 => ZAnd (false = false) (ZAnd (false = false) (ZAnd (false = false) (ZPut (Heap.newO h'_2 (AObj.cells [SL.av s_11, SL.av s_12] 2 false false)) c 2 1 (K (ZV.tup [ZV.sl s_10, ZV.int IntKind.i64 0]) (hput (Heap.newO h'_2
 (AObj.cells [SL.av s_11, SL.av s_12] 2 false false)) c 2 [AV.slice (SL.i (SL.mk false (Heap.next h'_2) 0 1 1 false)) 0 1 1 false])))))))))))) (happ (Heap.newO h'_1 (AObj.cells [SL.av s_6, SL.av s_7] 2 false false)) s_8 2 1
 ds_1)))))))))))) (hput (hput H c 3 [SL.av s_4]) c 4 [AV.bool true])))))) (ZAnd (false = false) (ZAnd (false = false) (ZAnd (false = false) (ZLdL (hput (hput H c 3 [SL.av s_4]) c 4 [AV.bool true]) c 2 fun s_5 => ZAnd (false =
 false) (ZLdL (hput (hput H c 3 [SL.av s_4]) c 4 [AV.bool true]) e 0 fun s_6 => ZLdL (hput (hput H c 3 [SL.av s_4]) c 4 [AV.bool true]) e 1 fun s_7 => ZAnd (ZAnd (false = false) (ZLdL (Heap.newO (hput (hput H c 3 [SL.av s_4]) c 4
 [AV.bool true]) (AObj.cells [SL.av s_6, SL.av s_7] 2 false false)) c 2 fun s_8 => ZV.av (ZV.sl s_8) = ZV.av (ZV.sl s_5))) (C 43 [ZV.sl s_5] (fun v_1 h'_1 => ZRL (ZV.av v_1) fun s_8 => ZAnd (ZAnd (false = false) (ZLdL h'_1 e 0 fun
 s_9 => ZLdL h'_1 e 1 fun s_10 => AV.agg [SL.av s_9, SL.av s_10] = AV.agg [SL.av s_6, SL.av s_7])) (ZSrc h'_1 (SL.mk false (Heap.next (hput (hput H c 3 [SL.av s_4]) c 4 [AV.bool true])) 0 1 1 false) 2 fun ds_1 => ZApp Tryz.prog
 h'_1 s_8 28 2 1 ds_1 (ZAnd (false = false) (ZAnd (false = false) (ZAnd (false = false) (ZLdL (happ h'_1 s_8 2 1 ds_1) c 2 fun s_9 => @cnd Prop (decide (Int.ofNat (SL.n s_9) = 0)) (ZAnd (false = false) (ZAnd (false = false) (ZAnd
 (false = false) (ZPut (happ h'_1 s_8 2 1 ds_1) c 2 1 (K (ZV.tup [ZV.sl (SL.mk true 0 0 0 0 false), ZV.int IntKind.i64 0]) (hput (happ h'_1 s_8 2 1 ds_1) c 2 [SL.av (SL.app s_8 (Heap.next h'_1) 1)])))))) (ZAnd (false = false) (ZAnd
 (false = false) (ZAnd (false = false) (ZLdI (happ h'_1 s_8 2 1 ds_1) c 1 IntKind.i64 fun n_3 => C 44 [ZV.sl (SL.app s_8 (Heap.next h'_1) 1)] (fun v_2 h'_2 => ZRI (ZV.av v_2) IntKind.i64 fun n_4 => ZAnd (ZAnd (false = false) (ZLdI
 h'_2 c 1 IntKind.i64 fun n_5 => AV.int IntKind.i64 n_5 = AV.int IntKind.i64 n_3)) (@cnd Prop (cnd false true (decide (n_4 ≤ n_3))) (ZAnd (false = false) (ZAnd (false = false) (ZAnd (false = false) (ZPut h'_2 c 2 1 (K (ZV.tup
 [ZV.sl (SL.mk true 0 0 0 0 false), ZV.int IntKind.i64 0]) (hput h'_2 c 2 [SL.av (SL.app s_8 (Heap.next h'_1) 1)])))))) (ZAnd (false = false) (ZAnd (false = false) (ZAnd (false = false) (ZLdL h'_2 c 2 fun s_10 => ZAnd (false =
 false) (ZLdL h'_2 e 0 fun s_11 => ZLdL h'_2 e 1 fun s_12 => ZAnd (false = false) (ZAnd (false = false) (ZAnd (false = false) (ZPut (Heap.newO h'_2 (AObj.cells [SL.av s_11, SL.av s_12] 2 false false)) c 2 1 (K (ZV.tup [ZV.sl s_10,
 ZV.int IntKind.i64 0]) (hput (Heap.newO h'_2 (AObj.cells [SL.av s_11, SL.av s_12] 2 false false)) c 2 [AV.slice (SL.i (SL.mk false (Heap.next h'_2) 0 1 1 false)) 0 1 1 false])))))))))))) (happ h'_1 s_8 2 1 ds_1)))))))))))
 (Heap.newO (hput (hput H c 3 [SL.av s_4]) c 4 [AV.bool true]) (AObj.cells [SL.av s_6, SL.av s_7] 2 false false)))))))))))))))))))
theorem ER.plain (x : ER) : allPlain x.row = true := allPlain_iff.2 fun v hv => by
  simp only [ER.row, List.mem_cons, List.not_mem_nil, or_false] at hv
  rcases hv with rfl | rfl
  · exact sl_plain _
  · exact sl_plain _
theorem putS_ok {z most : Int} {c e j m : Nat} {now last s : SL} {H : Heap} {x : ER} {b : Bool} (hx : X[j]? = some x) (hX : Ents h0 s X) (mb : Mb X) (lX : X.length ≤ 1048577) (hlf : 2000000 < lf)
    (var : Var H c [.int .i64 z, .int .i64 most, now.av, last.av, .bool b]) (low : h0.next ≤ c) (hn : h0.next ≤ H.next) (ve : Var H e [x.ks.av, x.vs.av]) (hec : e ≠ c)
    (seg : Seg H now 2 ((part X m j).flatMap ER.row)) (nn : now.nil = true → now = nilSL) (cap : now.nil = false → now.len ≤ now.cap) (own : now.nil = false → h0.next ≤ now.i ∧ now.i ≠ c)
    (le : m ≤ j) (nw : now.n = j - m) (f0 : Fram nowhere h0 H) (f : Fram (fun i => i = c) h H) (pk : PutK h0 h c z most X j m now x K) :
    putS (zCall Tryz.prog SB lf (n + 4)) K c e H := by
  have hj := (List.getElem?_eq_some_iff.1 hx).1
  unfold putS
  refine ⟨rfl, rfl, ve.ldL x.ks rfl ⟨rfl, rfl, rfl, var.zput (by simp) ⟨rfl, rfl, rfl, ?_⟩⟩⟩
  have v1 := var.put 3 [x.ks.av]
  have f1 := var.put_fr 3 [x.ks.av]
  refine v1.zput (by simp) ?_
  have v2 := v1.put 4 [AV.bool true]
  have f2 := f1.trans (v1.put_fr 4 [AV.bool true])
  have v2 : Var (hput (hput H c 3 [x.ks.av]) c 4 [AV.bool true]) c [.int .i64 z, .int .i64 most, now.av, x.ks.av, .bool true] := v2
  generalize hput (hput H c 3 [x.ks.av]) c 4 [AV.bool true] = H2 at v2 f2 ⊢
  have ve2 := ve.fr f2 hec
  have seg2 := seg.fr f2 fun e => (own e).2
  have g2 : Fram nowhere h0 H2 := f0.behind (f2.mono fun i _ e => by rw [e]; exact low)
  have F2 : Fram (fun i => i = c) h H2 := f.trans f2
  have hn2 := f2.next
  clear v1 f1 var ve seg f0 f
  have last1 : ∀ (H3 : Heap) (s8 : SL), Fram nowhere H2 H3 → s8.nil = now.nil → s8.i = now.i → s8.o = now.o → s8.n = now.n → s8.len = now.n → s8.cap = now.n → s8.ext = false →
      ZApp Tryz.prog H3 s8 28 2 1 x.row (putR (zCall Tryz.prog SB lf (n + 4)) K c e (happ H3 s8 2 1 x.row) (s8.app H3.next 1)) := by
    intro H3 s8 f3 a1 a2 a3 a4 a5 a6 a7
    have seg3 := seg2.fr f3 fun _ => id
    have seg8 : Seg H3 s8 2 ((part X m j).flatMap ER.row) := by
      refine ⟨by rw [a4]; exact seg3.len, fun e => by rw [a2]; exact seg3.lt (a1.symm.trans e), fun e => ?_⟩
      rw [a2, a3, a5, SL.n_of (a1.symm.trans e)]
      exact seg3.src (a1.symm.trans e)
    refine app_clip (Q := fun h' s' => putR (zCall Tryz.prog SB lf (n + 4)) K c e h' s') seg8 (fun _ => a7) (fun _ => ⟨a6.trans a5.symm, a7⟩) rfl x.plain (room28 (by rw [a4, nw]; omega)) fun h' f' hn' sg => ?_
    have f3n := f3.next
    refine putR_ok hx ((hX.fr g2).fr (f3.trans f')) mb lX hlf ((v2.fr f3 id).fr f' id) low (by omega) ((ve2.fr f3 id).fr f' id) hec ?_ rfl (Nat.le_refl _) ⟨by show h0.next ≤ H3.next; omega, ?_⟩ le nw (F2.trans ((f3.trans f').mono fun _ _ e => e.elim)) (by show h.next ≤ H3.next; have := F2.next; omega) pk
    · rw [part_snoc le hx, List.flatMap_append]
      show Seg _ _ 2 (_ ++ [x].flatMap ER.row)
      rw [List.flatMap_cons, List.flatMap_nil, List.append_nil]
      exact sg
    · show H3.next ≠ c
      have := v2.lt
      omega
  refine ⟨⟨rfl, rfl, rfl, v2.ldL now rfl ⟨rfl, ve2.ldL x.ks rfl (ve2.ldL x.vs rfl ?_)⟩⟩, ⟨rfl, rfl, rfl, v2.ldL now rfl ⟨rfl, ve2.ldL x.ks rfl (ve2.ldL x.vs rfl ⟨⟨rfl, ?_⟩, ?_⟩)⟩⟩⟩
  · refine clip_ok nn cap fun s8 a1 a2 a3 a4 a5 a6 a7 => ?_
    rw [av_sl]
    have f3 : Fram nowhere H2 (H2.newO (.cells [x.ks.av, x.vs.av] 2 false false)) := Fram.newO _ _ _
    have sg : Seg (H2.newO (.cells [x.ks.av, x.vs.av] 2 false false)) ⟨false, H2.next, 0, 1, 1, false⟩ 2 x.row := Seg.own (more := []) rfl (Nat.lt_succ_self _) (by rw [List.append_nil]; exact newO_get_self _ _)
    refine zRL_of ⟨⟨rfl, ve2.ldL x.ks rfl (ve2.ldL x.vs rfl rfl)⟩, ⟨rfl, (v2.fr f3 id).ldL now rfl rfl⟩, sg.zsrc ?_⟩
    exact last1 _ s8 f3 a1 a2 a3 a4 a5 a6 a7
  · exact (v2.fr (Fram.newO nowhere _ _) id).ldL now rfl rfl
  · refine clip_ok nn cap fun s8 a1 a2 a3 a4 a5 a6 a7 => ?_
    rw [av_sl]
    have f3 : Fram nowhere H2 (H2.newO (.cells [x.ks.av, x.vs.av] 2 false false)) := Fram.newO _ _ _
    have sg : Seg (H2.newO (.cells [x.ks.av, x.vs.av] 2 false false)) ⟨false, H2.next, 0, 1, 1, false⟩ 2 x.row := Seg.own (more := []) rfl (Nat.lt_succ_self _) (by rw [List.append_nil]; exact newO_get_self _ _)
    refine zRL_of ⟨⟨rfl, (ve2.fr f3 id).ldL x.ks rfl ((ve2.fr f3 id).ldL x.vs rfl rfl)⟩, sg.zsrc ?_⟩
    exact last1 _ s8 f3 a1 a2 a3 a4 a5 a6 a7
theorem Cutter.fr0 {h h' : Heap} {c : Nat} {z most : Int} {j m : Nat} {now last : SL} (C : Cutter h0 h c z most X j m now last) (f : Fram nowhere h h') : Cutter h0 h' c z most X j m now last :=
  ⟨C.var.fr f id, C.low, C.seg.fr f fun _ => id, C.nn, C.cap, C.own, C.le, C.last⟩
theorem put_ok {z most : Int} {c j m : Nat} {now last s : SL} {x : ER} (C : Cutter h0 h c z most X j m now last) (hz : Sized z) (hx : X[j]? = some x) (hX : Ents h0 s X) (mb : Mb X) (lX : X.length ≤ 1048577) (hlf : 2000000 < lf) (f0 : Fram nowhere h0 h)
    (bad : may z (prev (ents X) j) x.e ≠ 0 → ∀ h', Fram nowhere h0 h' → K (.tup [.sl nilSL, .int .i64 (may z (prev (ents X) j) x.e)]) h')
    (pk : may z (prev (ents X) j) x.e = 0 → PutK h0 h c z most X j m now x K) :
    zCall Tryz.prog SB lf (n + 5) 23 [.pv false c 0, .agg [.sl x.ks, .sl x.vs]] K h := by
  refine zCall_at (hS (by decide)) (by kernel_rfl) ?_
  rw [put_nf]
  have hj := (List.getElem?_eq_some_iff.1 hx).1
  have hxm := List.mem_of_getElem? hx
  have e16 : IntKind.i64.wrap (Int.tdiv z 16) = Int.tdiv z 16 := by
    rcases hz with rfl | rfl | rfl | rfl <;> decide
  have e4 : IntKind.i64.wrap (Int.tdiv z 4) = Int.tdiv z 4 := by
    rcases hz with rfl | rfl | rfl | rfl <;> decide
  have f1 : Fram nowhere h (h.newO (.cells [x.ks.av, x.vs.av] 0 false false)) := Fram.newO _ _ _
  have ve := Var.new h [x.ks.av, x.vs.av]
  have C1 := C.fr0 f1
  have hcl := C.var.lt
  have hn0 := f0.next
  have g1 := f0.trans f1
  have hn1 : (h.newO (.cells [x.ks.av, x.vs.av] 0 false false)).next = h.next + 1 := rfl
  have F1 : Fram (fun i => i = c) h (h.newO (.cells [x.ks.av, x.vs.av] 0 false false)) := f1.mono fun _ _ e => e.elim
  have hX1 := hX.fr g1
  generalize h.newO (.cells [x.ks.av, x.vs.av] 0 false false) = H at f1 ve C1 g1 hn1 F1 hX1 ⊢
  obtain ⟨xk, xv⟩ := hX1.ok x hxm
  have l1 := xk.len
  have l2 := xv.len
  have E : may z (prev (ents X) j) x.e ≠ 0 → K (.tup [.sl nilSL, .int .i64 (may z (prev (ents X) j) x.e)]) H := fun q => bad q H g1
  have go : may z (prev (ents X) j) x.e = 0 → putS (zCall Tryz.prog SB lf (n + 4)) K c h.next H := fun q =>
    putS_ok hx hX mb lX hlf C1.var C1.low (by omega) ve (by omega) C1.seg C1.nn C1.cap C1.own C1.le.1 C1.n_eq g1 F1 (pk q)
  clear pk bad
  refine ⟨rfl, rfl, ve.ldL x.ks rfl ?_⟩
  rw [ofn l1, cnd_dec]
  refine ⟨fun q => ?_, fun q => ⟨rfl, rfl, ve.ldL x.ks rfl ⟨rfl, rfl, rfl, C1.var.ldI z rfl ⟨by decide, zW_iff.2 ?_⟩⟩⟩⟩
  · have em : may z (prev (ents X) j) x.e = 51 := by unfold may; rw [if_pos (.inl (by omega))]
    rw [em] at E; exact E (by decide)
  rw [e16, ofn l1, cnd_f, cnd_dec]
  refine ⟨fun q2 => ?_, fun q2 => ⟨rfl, rfl, ve.ldL x.vs rfl ⟨rfl, rfl, rfl, C1.var.ldI z rfl ⟨by decide, zW_iff.2 ?_⟩⟩⟩⟩
  · have em : may z (prev (ents X) j) x.e = 51 := by unfold may; rw [if_pos (.inr q2)]
    rw [em] at E; exact E (by decide)
  have no : ¬ (x.e.1.length < 1 ∨ Int.tdiv z 16 < x.e.1.length) := by
    rintro (p | p)
    · omega
    · exact q2 p
  rw [e4, ofn l2, cnd_dec]
  refine ⟨fun q3 => ?_, fun q3 => ⟨rfl, rfl, rfl, C1.var.ldB _ rfl ?_⟩⟩
  · have em : may z (prev (ents X) j) x.e = 52 := by unfold may; rw [if_neg no, if_pos q3]
    rw [em] at E; exact E (by decide)
  by_cases hj0 : 0 < j
  · rw [decide_eq_true hj0, cnd_tP]
    obtain ⟨y, hy, rfl⟩ := C1.last hj0
    have hym := List.mem_of_getElem? hy
    have my := mb y hym
    have em : may z (prev (ents X) j) x.e = if bytesLt y.e.1 x.e.1 = true then 0 else 151 := by
      rw [prev_some hj0 (ents_at hy)]
      unfold may
      rw [if_neg no, if_neg q3]
    refine ⟨rfl, rfl, rfl, C1.var.ldL y.ks rfl ⟨rfl, rfl, ve.ldL x.ks rfl ?_⟩⟩
    refine ocmp_ok (n := n + 2) (hX1.ok y hym).1 xk (by omega) (by omega) ?_
    rw [av_int]
    refine zRI_av.2 ?_
    cases hb : bytesLt y.e.1 x.e.1 with
    | true =>
      rw [hb, if_pos rfl] at em
      rw [decide_eq_false (by rw [cmpK_pos, hb]; simp), cnd_t, cnd_fP]
      exact go em
    | false =>
      rw [hb, if_neg (by decide)] at em
      rw [decide_eq_true (by rw [cmpK_pos, hb]; simp), cnd_t, cnd_tP]
      rw [em] at E; exact E (by decide)
  · rw [decide_eq_false hj0, cnd_fP]
    refine go ?_
    have : j = 0 := by omega
    subst this
    show may z none x.e = 0
    unfold may
    rw [if_neg no, if_neg q3]
end
end BlN
namespace BlN
open Go Go.X Go.X.Df Go.X.Bl Go.Proofs
def At (most : Int) (X : List ER) (j m : Nat) (done : List Nat) : Prop :=
  (j = 0 ∧ m = 0 ∧ done = []) ∨ (0 < j ∧ ∃ y, X[j - 1]? = some y ∧ leaves most (ents X) = cut most done (j - m) (2 + sizes none (ents (part X m j))) y.e.1 ((ents X).drop j))
theorem ents_snoc (l : List ER) (x : ER) : ents (l ++ [x]) = ents l ++ [x.e] := by unfold ents; rw [List.map_append]; rfl
theorem drop0 {X : List ER} {x : ER} (hx : X[0]? = some x) : ents X = x.e :: (ents X).drop 1 := by
  have := drop_at (ents_at hx)
  rwa [List.drop_zero] at this
theorem sizes_part {X : List ER} {m j : Nat} {x y : ER} (hm : m < j) (hx : X[j]? = some x) (hy : X[j - 1]? = some y) : sizes none (ents (part X m (j + 1))) = sizes none (ents (part X m j)) + long (some y.e.1) x.e := by
  rw [part_snoc (by omega) hx, ents_snoc, sizes_snoc]
  have e : part X m j = part X m (j - 1) ++ [y] := by
    have := part_snoc (m := m) (j := j - 1) (by omega) hy
    rwa [show j - 1 + 1 = j by omega] at this
  rw [e, ents_snoc, lastK_snoc]
theorem At.more {most : Int} {X : List ER} {j m : Nat} {done : List Nat} {x : ER} (a : At most X j m done) (hmj : 0 < j → m < j) (hx : X[j]? = some x) (c : m = j ∨ ((2 + sizes none (ents (part X m (j + 1))) : Nat) : Int) ≤ most) : At most X (j + 1) m done := by
  refine .inr ⟨by omega, x, by rw [Nat.add_sub_cancel]; exact hx, ?_⟩
  rcases a with ⟨rfl, rfl, rfl⟩ | ⟨h0, y, hy, h1⟩
  · rw [drop0 hx]
    show cut most [] 1 (2 + long none x.e) x.e.1 ((ents X).drop 1) = _
    rw [part_one hx]
    rfl
  · have hm := hmj h0
    have c := c.resolve_left (by omega)
    rw [h1, drop_at (ents_at hx)]
    have es := sizes_part hm hx hy
    show (if ((2 + sizes none (ents (part X m j)) + long (some y.e.1) x.e : Nat) : Int) ≤ most then _ else _) = _
    rw [es] at c
    rw [if_pos (by rw [Nat.add_assoc]; exact c), es, show j - m + 1 = j + 1 - m by omega, Nat.add_assoc]
theorem At.full {most : Int} {X : List ER} {j m : Nat} {done : List Nat} {x : ER} (a : At most X j m done) (hmj : 0 < j → m < j) (hx : X[j]? = some x) (c : ¬ (m = j ∨ ((2 + sizes none (ents (part X m (j + 1))) : Nat) : Int) ≤ most)) : 0 < j ∧ At most X (j + 1) j (done ++ [j - m]) := by
  rcases a with ⟨rfl, rfl, rfl⟩ | ⟨h0, y, hy, h1⟩
  · exact absurd (.inl rfl) c
  · refine ⟨h0, .inr ⟨by omega, x, by rw [Nat.add_sub_cancel]; exact hx, ?_⟩⟩
    have hm := hmj h0
    rw [h1, drop_at (ents_at hx)]
    have es := sizes_part hm hx hy
    show (if ((2 + sizes none (ents (part X m j)) + long (some y.e.1) x.e : Nat) : Int) ≤ most then _ else _) = _
    rw [es] at c
    rw [if_neg (fun q => c (.inr (by rw [← Nat.add_assoc]; exact q))), part_one hx, show j + 1 - j = 1 by omega]
    rfl
theorem At.end {most : Int} {X : List ER} {m : Nat} {done : List Nat} (a : At most X X.length m done) : leaves most (ents X) = if X.length = 0 then [] else done ++ [X.length - m] := by
  rcases a with ⟨h0, _, rfl⟩ | ⟨h0, y, hy, h1⟩
  · rw [if_pos h0, List.eq_nil_of_length_eq_zero h0]; rfl
  · rw [if_neg (by omega), h1, List.drop_eq_nil_of_le (by rw [ents_len]; exact Nat.le_refl _)]; rfl
def mostI (z fill : Int) : Int := Int.tdiv ((z - 32) * fill) 100
theorem most_le {z fill : Int} (hz : Sized z) (h1 : 50 ≤ fill) (h2 : fill ≤ 100) : 0 ≤ (z - 32) * fill ∧ (z - 32) * fill ≤ 406400 ∧ 0 ≤ mostI z fill ∧ mostI z fill ≤ 4064 := by
  have hh : 0 ≤ (z - 32) * fill ∧ (z - 32) * fill ≤ 406400 := by
    rcases hz with rfl | rfl | rfl | rfl <;> constructor <;> omega
  refine ⟨hh.1, hh.2, ?_, ?_⟩
  · unfold mostI; exact Int.tdiv_nonneg hh.1 (by decide)
  · unfold mostI
    rw [Int.tdiv_eq_ediv_of_nonneg hh.1]
    omega
section
variable {lf n : Nat} {h h0 : Heap} {K : ZK} {X : List ER}
theorem newc_ok {z fill : Int} (hz : Sized z) (h1 : 50 ≤ fill) (h2 : fill ≤ 100) (k : K (.pv false h.next 0) (h.newO (.cells [.int .i64 z, .int .i64 (mostI z fill), .nils, .nils, .bool false] 0 false false))) :
    zCall Tryz.prog SB lf (n + 3) 22 [.int .i64 z, .int .i64 fill] K h := by
  refine zCall_at (hS (by decide)) (by kernel_rfl) ?_
  rw [newc_nf]
  refine proom_ok ?_
  rw [av_int]
  obtain ⟨m1, m2, m3, m4⟩ := most_le hz h1 h2
  refine zRI_av.2 (zW_iff.2 ?_)
  have e : roomI z = z - 32 := if_pos hz
  rw [e, i64_fit (by omega) (by omega)]
  refine ⟨by decide, zW_iff.2 ?_⟩
  unfold mostI at m3 m4 k
  rw [i64_fit (by omega) (by omega)]
  exact k
theorem leaves_ok {z fill : Int} {s : SL} (hX : Ents h s X) (mb : Mb X) (lX : X.length ≤ 1048577) (hlf : 2000000 < lf)
    (hk : ∀ h' out, Fram nowhere h h' → Nums h h' out (answer z fill (ents X)).1 → K (.tup [.sl out, .int .i64 (answer z fill (ents X)).2]) h') :
    zCall Tryz.prog SB lf (n + 6) 7 [.int .i64 z, .sl s, .int .i64 fill] K h := by
  refine zCall_at (hS (by decide)) (by kernel_rfl) ?_
  rw [leaves_nf]
  have la := hX.len (by decide)
  refine proom_ok ?_
  rw [av_int]
  refine zRI_av.2 ?_
  have bad : ¬ (Sized z ∧ 50 ≤ fill ∧ fill ≤ 100) → K (.tup [.sl nilSL, .int .i64 1]) h := fun q => by
    have e : answer z fill (ents X) = ([], 1) := if_neg q
    rw [e] at hk
    exact hk h nilSL (Fram.refl _ _) (Grown.start _ _ _)
  by_cases hz' : ¬ Sized z
  · have hz := hz'
    rw [show roomI z = 0 from if_neg hz, decide_eq_true rfl, cnd_tP]
    exact bad fun q => hz q.1
  have hz : Sized z := Decidable.of_not_not hz'
  clear hz'
  have hz0 : roomI z ≠ 0 := by
    rw [show roomI z = z - 32 from if_pos hz]
    rcases hz with rfl | rfl | rfl | rfl <;> decide
  rw [decide_eq_false hz0, cnd_fP]
  refine filled_ok ?_
  rw [av_bool]
  refine zRB_av.2 ?_
  by_cases hf' : ¬ (50 ≤ fill ∧ fill ≤ 100)
  · have hf := hf'
    rw [decide_eq_false hf, Bool.not_false, cnd_f, cnd_tP]
    exact bad fun q => hf q.2
  have hf : 50 ≤ fill ∧ fill ≤ 100 := Decidable.of_not_not hf'
  clear hf'
  rw [decide_eq_true hf, Bool.not_true, cnd_f, cnd_fP]
  have ea : answer z fill (ents X) = if first z none (ents X) = 0 then (leaves (mostI z fill) (ents X), 0) else ([], first z none (ents X)) := if_pos ⟨hz, hf⟩
  clear bad
  refine newc_ok (n := n + 2) hz hf.1 hf.2 (zRP_of ?_)
  have v1 := Var.new h [AV.int .i64 z, .int .i64 (mostI z fill), .nils, .nils, .bool false]
  have f1 : Fram nowhere h (h.newO (.cells [AV.int .i64 z, .int .i64 (mostI z fill), .nils, .nils, .bool false] 0 false false)) := Fram.newO _ _ _
  have hn1 : (h.newO (.cells [AV.int .i64 z, .int .i64 (mostI z fill), .nils, .nils, .bool false] 0 false false)).next = h.next + 1 := rfl
  generalize h.newO (.cells [AV.int .i64 z, .int .i64 (mostI z fill), .nils, .nils, .bool false] 0 false false) = h1 at v1 f1 hn1 ⊢
  generalize hc : h.next = c at v1 hn1 ⊢
  rw [ofn la]
  obtain ⟨m1, m2, m3, m4⟩ := most_le hz hf.1 hf.2
  generalize hmost : mostI z fill = most at *
  refine ZLoop.inv (fun q w h' => ∃ (j m : Nat) (done : List Nat) (now last out : SL), ZAt 63 [(8, .pv false c 0), (9, .sl out), (25, .sl s), (26, .int .i64 (X.length : Int)), (27, .int .i64 (j : Int))] w ∧ j + q = X.length ∧ Fram nowhere h h' ∧ Cutter h h' c z most X j m now last ∧ Nums h h' out done ∧ done.length ≤ j ∧
      (out.nil = false → out.i ≠ c ∧ (now.nil = false → now.i ≠ out.i)) ∧ first z none (ents X) = first z (prev (ents X) j) ((ents X).drop j) ∧ At most X j m done) (n := X.length) (by omega)
    ⟨0, 0, [], nilSL, nilSL, nilSL, ⟨rfl, rfl, rfl, rfl, rfl, rfl, trivial⟩, by omega, f1, ⟨v1, by omega, Seg.nil _ _ _, fun _ => rfl, fun e => (by cases e), fun e => (by cases e), ⟨Nat.le_refl _, Nat.zero_le _, fun q => absurd q (Nat.lt_irrefl _)⟩, fun q => absurd q (Nat.lt_irrefl _)⟩, Grown.start _ _ _, Nat.le_refl _, fun e => (by cases e), rfl, .inl ⟨rfl, rfl, rfl⟩⟩ ?_
  rintro q w h2 kk hq ⟨j, m, done, now, last, out, hw, hj, f2, C, g, hdl, sep, hfi, a⟩ ih
  refine zAt_of _ hw fun d => (leaves_l11110100 _ _ _ _ _ _ _ _ _ _ _ _ _).mpr ?_
  rw [cnd_dec]
  refine ⟨fun e => ?_, fun e => ?_⟩
  · obtain ⟨x, hx⟩ : ∃ x, X[j]? = some x := ⟨_, List.getElem?_eq_getElem (by omega)⟩
    have hX2 := hX.fr f2
    have na := hX2.nil_of (by decide) (j := j) (by omega)
    have a1 := hX2.len' (by decide) na
    rw [first_at (ents_at hx)] at hfi
    refine ⟨na, zIdx_nat.2 ⟨by omega, rfl, zLdL_of (hX2.at' na hx (q := 0) (by decide) rfl) (zLdL_of (hX2.at' na hx (q := 1) (by decide) rfl) ⟨rfl, ?_⟩)⟩⟩
    have ve := Var.new h2 [AV.nils, .nils]
    have f3 : Fram nowhere h2 (h2.newO (.cells [AV.nils, .nils] 0 false false)) := Fram.newO _ _ _
    refine ve.zput (by simp) ?_
    have ve2 := Var.put_all ve (vs := [x.ks.av, x.vs.av]) rfl
    have f4 : Fram nowhere h2 (hput (h2.newO (.cells [AV.nils, .nils] 0 false false)) h2.next 0 [x.ks.av, x.vs.av]) := f3.back (ve.put_fr 0 _) fun i hi e => by omega
    refine ⟨rfl, ve2.ldL x.ks rfl (ve2.ldL x.vs rfl ?_)⟩
    generalize hput (h2.newO (.cells [AV.nils, .nils] 0 false false)) h2.next 0 [x.ks.av, x.vs.av] = h3 at f4 ⊢
    clear ve ve2 f3
    have F3 := f2.trans f4
    have g3 := g.fr f4 fun _ => id
    have olt : out.nil = false → h.next ≤ out.i ∧ out.i < h2.next := fun e => by
      rcases g.2 with ⟨_, rfl⟩ | ⟨_, _, _, _, _, h6, h7, _⟩
      · cases e
      · exact ⟨h6, h7⟩
    have f4n := f4.next
    refine put_ok (n := n) (C.fr0 f4) hz hx hX mb lX hlf F3 (fun hbad h' f' => ?_) fun good => ⟨fun cm h' now' last' f' nn' hi' C' => ?_, fun cf h' now' last' f' nn' hi' C' => ?_⟩
    · rw [av_tup]
      refine zRT_two (zRL_of (s := nilSL) (zRI_av.2 ?_))
      rw [decide_eq_false hbad, Bool.not_false, cnd_tP]
      rw [if_neg hbad] at hfi
      have e2 : answer z fill (ents X) = ([], may z (prev (ents X) j) x.e) := by rw [ea, hfi, if_neg hbad]
      rw [e2] at hk
      exact hk _ nilSL f' (Grown.start _ _ _)
    · rw [if_pos good] at hfi
      rw [av_tup]
      refine zRT_two (zRL_of (s := nilSL) (zRI_av.2 ?_))
      rw [decide_eq_true rfl, Bool.not_true, cnd_fP, show nilSL.isNil = true from rfl, Bool.not_true, cnd_fP]
      refine zW_iff.2 ?_
      rw [i64_fit (e := (j : Int) + 1) (by omega) (by omega)]
      refine ih (q - 1) _ _ (by omega) ⟨j + 1, m, done, now', last', out, ⟨rfl, rfl, rfl, rfl, rfl, rfl, trivial⟩, by omega, F3.behind (f'.mono fun i _ e => by omega), C', g3.fr f' fun e1 => (sep e1).1, by omega, fun e1 => ⟨(sep e1).1, fun _ e2 => ?_⟩, hfi, a.more C.le.2.2 hx cm⟩
      have := (olt e1).2
      omega
    · rw [if_pos good] at hfi
      rw [av_tup]
      refine zRT_two (zRL_of (s := now) (zRI_av.2 ?_))
      obtain ⟨j0, a'⟩ := a.full C.le.2.2 hx cf
      have nn : now.nil = false := by
        cases hnn : now.nil with
        | false => rfl
        | true =>
          have := C.n_eq
          rw [SL.n_nil hnn] at this
          have := C.le.2.2 j0
          omega
      rw [decide_eq_true rfl, Bool.not_true, cnd_fP, show now.isNil = false by cases hq : now.isNil with
        | false => rfl
        | true => exact absurd (SL.isNil_nil hq) (by rw [nn]; decide), Bool.not_false, cnd_tP, ofn C.n_eq]
      have g4 := g3.fr f' fun e1 => (sep e1).1
      refine Nums.more (h0 := h) g4 (by have := f'.next; have := F3.next; omega) (by omega) fun g5 f5 on oi => ?_
      generalize happ (h'.newO (.cells [.int .i64 ((j - m : Nat) : Int)] 1 false false)) out 1 1 [.int .i64 ((j - m : Nat) : Int)] = h5 at g5 f5 ⊢
      generalize out.app (h'.newO (.cells [.int .i64 ((j - m : Nat) : Int)] 1 false false)).next 1 = out' at g5 on oi ⊢
      refine zW_iff.2 ?_
      rw [i64_fit (e := (j : Int) + 1) (by omega) (by omega)]
      have f'n := f'.next
      refine ih (q - 1) _ _ (by omega) ⟨j + 1, j, done ++ [j - m], now', last', out', ⟨rfl, rfl, rfl, rfl, rfl, rfl, trivial⟩, by omega, (F3.behind (f'.mono fun i _ e => by omega)).behind (f5.mono fun i _ ⟨e1, e2⟩ => by rw [e2]; exact (olt e1).1), ?_, g5, by rw [List.length_append]; show _ + 1 ≤ _; omega, fun _ => ⟨by have := C'.var.lt; omega, fun e2 => ?_⟩, hfi, a'⟩
      · exact ⟨C'.var.fr f5 fun ⟨e1, e2⟩ => (sep e1).1 e2.symm, C'.low, C'.seg.fr f5 fun _ ⟨e1, e2⟩ => by have := (olt e1).2; omega, C'.nn, C'.cap, C'.own, C'.le, C'.last⟩
      · have := C'.seg.lt e2
        omega
  · have hjX : j = X.length := by omega
    subst hjX
    refine zAt_of (n := 63) [(8, .pv false c 0), (9, .sl out)] ⟨rfl, rfl, rfl, trivial⟩ fun d' => (leaves_a11111 _ _ _ _ _ _ _).mpr ?_
    have hfi : first z none (ents X) = 0 := by rw [hfi, List.drop_eq_nil_of_le (by rw [ents_len]; exact Nat.le_refl _)]; rfl
    have e2 : answer z fill (ents X) = (leaves most (ents X), 0) := by rw [ea, if_pos hfi]
    rw [e2] at hk
    have ae := a.end
    refine ⟨rfl, rfl, rfl, C.var.ldL now rfl ?_⟩
    rw [ofn C.n_eq, cnd_dec]
    refine ⟨fun q1 => ⟨rfl, rfl, rfl, C.var.ldL now rfl ?_⟩, fun q1 => ?_⟩
    · rw [ofn C.n_eq]
      refine Nums.more (h0 := h) g (by have := f2.next; omega) (by omega) fun g5 f5 on oi => ?_
      have olt : out.nil = false → h.next ≤ out.i := fun e => by
        rcases g.2 with ⟨_, rfl⟩ | ⟨_, _, _, _, _, h6, h7, _⟩
        · cases e
        · exact h6
      rw [if_neg (by omega)] at ae
      rw [ae] at hk
      exact hk _ _ (f2.behind (f5.mono fun i _ ⟨e1, e2⟩ => by rw [e2]; exact olt e1)) g5
    · have : X.length = 0 := by
        have := C.le.2.2
        omega
      rw [if_pos this] at ae
      rw [ae] at hk
      have hd : done = [] := List.eq_nil_of_length_eq_zero (by omega)
      subst hd
      exact hk _ _ f2 g
end
end BlN
