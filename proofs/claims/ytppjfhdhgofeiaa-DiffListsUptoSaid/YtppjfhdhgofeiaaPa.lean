/-
  PROVED: entries, sorts and functions whose results' room is made known, as summaries, slices of bytes, rows, maps by strings, changes between lists, as plain laws. Condition: each law's own.
-/
import Derived.Test.YtppjfhdhgofeiaaXg
open List renaming mem_cons_of_mem -> zA0, mem_cons_self -> zB0, length_append -> zC0, mem_of_getElem? -> zD0, length_map -> zJ0, length_cons -> zK0, append_nil -> zS0, flatMap_cons -> zU0, getElem?_map -> zV0, length_take -> zW0, length_replicate -> zX0, getElem?_append_right -> zB1
open Nat renaming lt_of_lt_of_le -> zF0, ble_eq_true_of_le -> zG0, le_refl -> zN0, lt_succ_self -> zO0, le_trans -> zP0, zero_le -> zY0, le_of_ble_eq_true -> zZ0, mul_one -> zA1
noncomputable section
set_option linter.unusedVariables false
set_option linter.unusedSimpArgs false
namespace Go.X
abbrev Qa (_ : Nat) : Prop := False
theorem SL.n_nil {s : SL} (e : s.nil = true) : s.n = 0 := by unfold SL.n; rw [e]
theorem SL.n_of {s : SL} (e : s.nil = false) : s.n = s.len := by unfold SL.n; rw [e]
structure Seg (h : Q0) (s : SL) (sz : Nat) (cs : List AV) : Prop where
  len : cs.length = s.n * sz
  lt : s.nil = false -> s.i < h.next
  src : s.nil = false -> ∃ c, qn h s.i = some c /\ (c.drop s.o).take (s.len * sz) = cs /\ s.len * sz <= (c.drop s.o).length
theorem Seg.fr {S : Nat -> Prop} {h h' : Q0} {s : SL} {sz : Nat} {cs : List AV} (x : Seg h s sz cs) (f : Q5 S h h') (hs : s.nil = false -> ¬ S s.i) : Seg h' s sz cs :=
  ⟨x.len, fun e => zF0 (x.lt e) f.next, fun e => by rw [qQi (f.same _ (x.lt e) (hs e))]; exact x.src e⟩
theorem Seg.nil_cs {h : Q0} {s : SL} {sz : Nat} {cs : List AV} (x : Seg h s sz cs) (e : s.nil = true) : cs = [] :=
  List.eq_nil_of_length_eq_zero (by rw [x.len, SL.n_nil e, Nat.zero_mul])
theorem Seg.at' {h : Q0} {s : SL} {sz : Nat} {cs : List AV} (x : Seg h s sz cs) (e : s.nil = false) {q : Nat} {v : AV} (hq : cs[q]? = some v) : cellAt h s.i (s.o + q) = some v := by
  obtain ⟨c, hc, h1, h2⟩ := x.src e
  unfold cellAt; rw [hc]
  show c[s.o + q]? = _
  have hl : q < s.len * sz := by
    have := (List.getElem?_eq_some_iff.1 hq).1
    rw [x.len, SL.n_of e] at this; exact this
  rw [<- h1, List.getElem?_take_of_lt hl, List.getElem?_drop] at hq
  exact hq
theorem Seg.zsrc {h : Q0} {s : SL} {sz : Nat} {cs : List AV} {K : List AV -> Prop} (x : Seg h s sz cs) (k : K cs) : jY h s sz K :=
  ⟨cs, fun e => x.nil_cs e, fun e => x.src e, k⟩
theorem Seg.nil (h : Q0) (sz : Nat) (ext : Bool) : Seg h ⟨true, 0, 0, 0, 0, ext⟩ sz [] := ⟨by simp [SL.n], fun e => (by cases e), fun e => (by cases e)⟩
theorem Seg.own {h : Q0} {i n cap : Nat} {ext : Bool} {cs more : List AV} {sz e : Nat} {g m : Bool} (hl : cs.length = n * sz) (hi : i < h.next) (hg : h.get i = some (.cells (cs ++ more) e g m)) : Seg h ⟨false, i, 0, n, cap, ext⟩ sz cs :=
  ⟨hl, fun _ => hi, fun _ => ⟨_, qEg hg, by rw [List.drop_zero]; show List.take (n * sz) _ = _; rw [<- hl, List.take_left], by rw [List.drop_zero, zC0]; show n * sz <= _; omega⟩⟩
theorem Grown.seg {h0 h : Q0} {s : SL} {sz n : Nat} {cs : List AV} (g : Grown h0 h s sz n cs) : Seg h s sz cs := by
  obtain ⟨hl, g⟩ := g
  rcases g with ⟨rfl, rfl⟩ | ⟨h1, h2, h3, h4, h5, h6, h7, h8⟩
  · have : cs = [] := List.eq_nil_of_length_eq_zero (by rw [hl]; simp)
    subst this
    exact Seg.nil _ _ _
  · obtain ⟨nil, i, o, len, cap, ext⟩ := s
    simp only at h1 h2 h3 h4 h5 h6 h7 h8
    subst h1; subst h2; subst h3
    exact Seg.own (more := []) hl h7 (by rw [zS0]; exact h8)
theorem Grown.n_eq {h0 h : Q0} {s : SL} {sz n : Nat} {cs : List AV} (g : Grown h0 h s sz n cs) : s.n = n := by
  rcases g.2 with ⟨rfl, rfl⟩ | ⟨h1, _, h3, _⟩
  · rfl
  · rw [SL.n_of h1]; exact h3
theorem Grown.fr {h0 h h' : Q0} {s : SL} {sz n : Nat} {cs : List AV} (g : Grown h0 h s sz n cs) {S : Nat -> Prop} (f : Q5 S h h') (hs : s.nil = false -> ¬ S s.i) : Grown h0 h' s sz n cs := by
  refine ⟨g.1, g.2.imp id fun ⟨h1, h2, h3, h4, h5, h6, h7, h8⟩ => ⟨h1, h2, h3, h4, h5, h6, zF0 h7 f.next, (f.same _ h7 (hs h1)).trans h8⟩⟩
structure qz (h : Q0) (s : SL) (k : List Nat) : Prop where
  seg : Seg h s 1 (ofBytes k)
  byte : ∀ x, x ∈ k -> x < 256
theorem Qt (l : List Nat) : (ofBytes l).length = l.length := by rw [qi, zJ0]
theorem qDy (a b : List Nat) : ofBytes (a ++ b) = ofBytes a ++ ofBytes b := by simp [qi]
theorem qz.len {h : Q0} {s : SL} {k : List Nat} (x : qz h s k) : s.n = k.length := by
  have := x.seg.len
  rw [Qt] at this; omega
theorem qz.fr {h h' : Q0} {s : SL} {k : List Nat} {S : Nat -> Prop} (x : qz h s k) (f : Q5 S h h') (hs : s.nil = false -> ¬ S s.i) : qz h' s k := ⟨x.seg.fr f hs, x.byte⟩
theorem qz.zbytes {h : Q0} {s : SL} {k : List Nat} {K : List Nat -> Prop} (x : qz h s k) (hk : K k) : QN h s K := by
  refine ⟨k, fun e => ?_, fun e => ?_, x.byte, hk⟩
  · have := x.seg.nil_cs e
    have h2 := Qt k
    rw [this] at h2
    exact List.eq_nil_of_length_eq_zero h2.symm
  · have := x.seg.src e
    rwa [zA1] at this
theorem qz.nil (h : Q0) (ext : Bool) : qz h ⟨true, 0, 0, 0, 0, ext⟩ [] := ⟨Seg.nil h 1 ext, fun x hx => (by cases hx)⟩
theorem qz.at' {h : Q0} {s : SL} {k : List Nat} (x : qz h s k) (e : s.nil = false) {j b : Nat} (hj : k[j]? = some b) : cellAt h s.i (s.o + j) = some (.int .u8 (.ofNat b)) :=
  x.seg.at' e (by rw [qi, zV0, hj]; rfl)
theorem qPc (l : List Nat) : QL (ofBytes l) = true := by
  rw [qi]
  induction l with
  | nil => rfl
  | cons x l ih => exact ih
theorem jB (s : SL) : s.av.plainC = true := by
  unfold SL.av
  cases s.nil
  · rfl
  · cases s.ext <;> rfl
structure Rws {α : Type} (sz : Nat) (row : α -> List AV) (Q : Q0 -> α -> Prop) (h : Q0) (s : SL) (l : List α) : Prop where
  seg : Seg h s sz (l.flatMap row)
  rl : ∀ x, x ∈ l -> (row x).length = sz
  ok : ∀ x, x ∈ l -> Q h x
section
variable {α : Type} {sz : Nat} {row : α -> List AV} {Q : Q0 -> α -> Prop} {h h' : Q0} {s : SL} {l : List α}
theorem qEr (hr : ∀ x, x ∈ l -> (row x).length = sz) : (l.flatMap row).length = l.length * sz := by
  induction l with
  | nil => simp
  | cons x l ih => rw [zU0, zC0, hr x zB0, ih fun y hy => hr y (zA0 _ hy), zK0, Nat.add_mul]; omega
theorem qW5 (hr : ∀ x, x ∈ l -> (row x).length = sz) {j : Nat} {x : α} (hj : l[j]? = some x) {q : Nat} (hq : q < sz) : (l.flatMap row)[j * sz + q]? = (row x)[q]? := by
  induction l generalizing j with
  | nil => cases hj
  | cons y l ih =>
    have hy := hr y zB0
    rw [zU0]
    cases j with
    | zero =>
      cases hj
      rw [Nat.zero_mul, Nat.zero_add, List.getElem?_append_left (by omega)]
    | succ j =>
      rw [zB1 (by rw [hy, Nat.add_mul]; omega), hy, show (j + 1) * sz + q - sz = j * sz + q by rw [Nat.add_mul]; omega]
      exact ih (fun z hz => hr z (zA0 _ hz)) (by simpa using hj)
theorem Rws.len (hsz : 0 < sz) (x : Rws sz row Q h s l) : s.n = l.length := by
  have := x.seg.len
  rw [qEr x.rl] at this
  exact (Nat.eq_of_mul_eq_mul_right hsz this).symm
theorem Rws.at' (x : Rws sz row Q h s l) (e : s.nil = false) {j : Nat} {y : α} (hj : l[j]? = some y) {q : Nat} (hq : q < sz) {v : AV} (hv : (row y)[q]? = some v) : cellAt h s.i (s.o + j * sz + q) = some v := by
  rw [Nat.add_assoc]
  exact x.seg.at' e (by rw [qW5 x.rl hj hq]; exact hv)
theorem Rws.nil_of (hsz : 0 < sz) (x : Rws sz row Q h s l) {j : Nat} (hj : j < l.length) : s.nil = false := by
  have := x.len hsz
  cases e : s.nil with
  | false => rfl
  | true => rw [SL.n_nil e] at this; omega
theorem Rws.len' (hsz : 0 < sz) (x : Rws sz row Q h s l) (e : s.nil = false) : s.len = l.length := by
  rw [<- SL.n_of e]; exact x.len hsz
theorem Rws.fr {S : Nat -> Prop} (x : Rws sz row Q h s l) (f : Q5 S h h') (hs : s.nil = false -> ¬ S s.i) (hq : ∀ y, y ∈ l -> Q h y -> Q h' y) : Rws sz row Q h' s l :=
  ⟨x.seg.fr f hs, x.rl, fun y hy => hq y hy (x.ok y hy)⟩
theorem Rws.nil (h : Q0) (ext : Bool) : Rws sz row Q h ⟨true, 0, 0, 0, 0, ext⟩ [] := ⟨Seg.nil _ _ _, fun _ hx => (by cases hx), fun _ hx => (by cases hx)⟩
theorem Grown.rws {h0 : Q0} {n : Nat} (g : Grown h0 h s sz n (l.flatMap row)) (rl : ∀ x, x ∈ l -> (row x).length = sz) (ok : ∀ x, x ∈ l -> Q h x) : Rws sz row Q h s l := ⟨g.seg, rl, ok⟩
end
structure Var (h : Q0) (i : Nat) (cs : List AV) : Prop where
  lt : i < h.next
  get : h.get i = some (.cells cs 0 false false)
section
variable {h : Q0} {i : Nat} {cs : List AV}
theorem Var.new (h : Q0) (cs : List AV) : Var (h.newO (.cells cs 0 false false)) h.next cs := ⟨zO0 _, Ql _ _⟩
theorem Var.fr {S : Nat -> Prop} {h' : Q0} (x : Var h i cs) (f : Q5 S h h') (hs : ¬ S i) : Var h' i cs := ⟨zF0 x.lt f.next, (f.same _ x.lt hs).trans x.get⟩
theorem Var.cell (x : Var h i cs) (o : Nat) : cellAt h i o = cs[o]? := qHc x.get
theorem Var.ldL (x : Var h i cs) {o : Nat} (s : SL) {K : SL -> Prop} (e : cs[o]? = some s.av) (k : K s) : Qb h i o K := ⟨s, (x.cell o).trans e, k⟩
theorem Var.ldB (x : Var h i cs) {o : Nat} (b : Bool) {K : Bool -> Prop} (e : cs[o]? = some (.bool b)) (k : K b) : js h i o K := ⟨b, (x.cell o).trans e, k⟩
theorem Var.ldP (x : Var h i cs) {o : Nat} (nil : Bool) (j p : Nat) {K : Bool -> Nat -> Nat -> Prop} (e : cs[o]? = some (ZV.pv nil j p).av) (k : K nil j p) : ZLdP h i o K := ⟨nil, j, p, (x.cell o).trans e, k⟩
theorem Var.zput (x : Var h i cs) {o n : Nat} {A : Prop} (hn : o + n <= cs.length) (k : A) : jb h i o n A := ⟨⟨x.lt, cs, 0, false, false, x.get, hn⟩, k⟩
theorem Var.put (x : Var h i cs) (o : Nat) (vs : List AV) : Var (hput h i o vs) i (cs.take o ++ (vs ++ cs.drop (o + vs.length))) := by
  refine ⟨?_, qEy x.get⟩
  unfold hput; rw [x.get]; exact x.lt
theorem Var.put_fr (x : Var h i cs) (o : Nat) (vs : List AV) : Q5 (fun j => j = i) h (hput h i o vs) := Q5.hput h o vs fun _ => rfl
end
theorem Q5.back {S T : Nat -> Prop} {h0 a b : Q0} (x : Q5 T h0 a) (y : Q5 S a b) (hs : ∀ i, i < h0.next -> S i -> T i) : Q5 T h0 b :=
  ⟨zP0 x.next y.next, fun i hi ht => (y.same i (zF0 hi x.next) fun h => ht (hs i hi h)).trans (x.same i hi ht)⟩
structure Own (h0 h : Q0) (s : SL) (k : List Nat) : Prop where
  byts : qz h s k
  own : s.nil = false -> h0.next <= s.i /\ s.o = 0 /\ ∃ e g, h.get s.i = some (.cells (ofBytes k) e g false)
theorem Own.fr {h0 h h' : Q0} {s : SL} {k : List Nat} {S : Nat -> Prop} (x : Own h0 h s k) (f : Q5 S h h') (hs : s.nil = false -> ¬ S s.i) : Own h0 h' s k :=
  ⟨x.byts.fr f hs, fun e => by
    obtain ⟨h1, h2, a, b, h3⟩ := x.own e
    exact ⟨h1, h2, a, b, (f.same _ (x.byts.seg.lt e) (hs e)).trans h3⟩⟩
theorem Own.of {h0 h1 h : Q0} {s : SL} {k : List Nat} (x : Own h1 h s k) (hn : h0.next <= h1.next) : Own h0 h s k :=
  ⟨x.byts, fun e => by
    obtain ⟨h1, h2, h3⟩ := x.own e
    exact ⟨zP0 hn h1, h2, h3⟩⟩
theorem SL.isNil_nil {s : SL} (h : s.isNil = true) : s.nil = true := by
  unfold SL.isNil at h
  cases hn : s.nil with
  | true => rfl
  | false => rw [hn] at h; cases h
end Go.X
namespace Go.X.Df
open Go.X
abbrev Ky := List Nat
structure Ch where
  k : Ky
  had : Bool
  has : Bool
  old : Ky
  new : Ky
theorem lt_cons (x : Nat) (a : Ky) (y : Nat) (b : Ky) : Qm (x :: a) (y :: b) = cnd (ltb x y) true (cnd (Nat.beq x y) (Qm a b) false) := rfl
theorem qYq : ∀ a : Ky, Qm a a = false
  | [] => rfl
  | x :: a => by
    rw [lt_cons, qj.2 (zN0 x), Nat.beq_refl]
    exact qYq a
theorem qNw {x : Nat} {a : Ky} {y : Nat} {b : Ky} : Qm (x :: a) (y :: b) = true ↔ x < y ∨ (x = y /\ Qm a b = true) := by
  rw [lt_cons]
  cases h : ltb x y with
  | true => simp [Qw.1 h]
  | false =>
    have := qj.1 h
    rw [Q9]
    cases h2 : Nat.beq x y with
    | true =>
      have := Nat.eq_of_beq_eq_true h2
      subst this
      simp
    | false =>
      have hne : x ≠ y := fun e => by subst e; rw [Nat.beq_refl] at h2; cases h2
      rw [Q9]
      constructor
      · intro h; cases h
      · rintro (h | ⟨h, _⟩)
        · omega
        · exact absurd h hne
theorem lt_trans : ∀ {a b c : Ky}, Qm a b = true -> Qm b c = true -> Qm a c = true
  | [], [], _, h, _ => Bool.noConfusion (show false = true from h)
  | _ :: _, [], _, h, _ => Bool.noConfusion (show false = true from h)
  | [], _ :: _, [], _, h => Bool.noConfusion (show false = true from h)
  | [], _ :: _, _ :: _, _, _ => rfl
  | _ :: _, _ :: _, [], _, h => Bool.noConfusion (show false = true from h)
  | x :: a, y :: b, z :: c, h1, h2 => by
    rw [qNw] at h1 h2 ⊢
    rcases h1 with h1 | ⟨rfl, h1⟩
    · rcases h2 with h2 | ⟨rfl, _⟩
      · exact .inl (by omega)
      · exact .inl h1
    · rcases h2 with h2 | ⟨rfl, h2⟩
      · exact .inl h2
      · exact .inr ⟨rfl, lt_trans h1 h2⟩
theorem lt_tri : ∀ (a b : Ky), Qm a b = true ∨ a = b ∨ Qm b a = true
  | [], [] => .inr (.inl rfl)
  | [], _ :: _ => .inl rfl
  | _ :: _, [] => .inr (.inr rfl)
  | x :: a, y :: b => by
    rcases Nat.lt_trichotomy x y with h | h | h
    · exact .inl (qNw.2 (.inl h))
    · subst h
      rcases lt_tri a b with h | h | h
      · exact .inl (qNw.2 (.inr ⟨rfl, h⟩))
      · exact .inr (.inl (by rw [h]))
      · exact .inr (.inr (qNw.2 (.inr ⟨rfl, h⟩)))
    · exact .inr (.inr (qNw.2 (.inl h)))
theorem lt_asymm {a b : Ky} (h : Qm a b = true) : Qm b a = false := by
  cases h2 : Qm b a with
  | false => rfl
  | true => have := lt_trans h h2; rw [qYq] at this; cases this
theorem lt_ne {a b : Ky} (h : Qm a b = true) : a ≠ b := fun e => by subst e; rw [qYq] at h; cases h
def Rise {α : Type} (key : α -> Ky) (l : List α) : Prop := l.Pairwise fun a b => Qm (key a) (key b) = true
section
variable {β : Type}
def look (l : List (Ky × β)) (k : Ky) : Option β := match l with | [] => none | e :: r => if e.1 = k then some e.2 else look r k
def put (l : List (Ky × β)) (k : Ky) (v : β) : List (Ky × β) := match l with
  | [] => [(k, v)]
  | e :: r => if e.1 = k then (k, v) :: r else if Qm k e.1 then (k, v) :: e :: r else e :: put r k v
def del (l : List (Ky × β)) (k : Ky) : List (Ky × β) := match l with | [] => [] | e :: r => if e.1 = k then r else e :: del r k
end
def step (m : List (Ky × Ky)) (c : Ch) : Option (List (Ky × Ky)) :=
  match look m c.k with
  | none => if c.had = true then none else some (if c.has = true then put m c.k c.new else m)
  | some v => if c.had = true /\ v = c.old then some (if c.has = true then put m c.k c.new else del m c.k) else none
def chD (x : Ky × Ky) : Ch := ⟨x.1, true, false, x.2, []⟩
def chI (y : Ky × Ky) : Ch := ⟨y.1, false, true, [], y.2⟩
def chR (x y : Ky × Ky) : Ch := ⟨x.1, true, true, x.2, y.2⟩
def diff : List (Ky × Ky) -> List (Ky × Ky) -> List Ch
  | [], [] => []
  | x :: a, [] => chD x :: diff a []
  | [], y :: b => chI y :: diff [] b
  | x :: a, y :: b =>
    if Qm x.1 y.1 = true then chD x :: diff a (y :: b)
    else if x.1 = y.1 then (if x.2 = y.2 then diff a b else chR x y :: diff a b)
    else chI y :: diff (x :: a) b
termination_by a b => a.length + b.length
def back (c : Ch) : Ch := ⟨c.k, c.has, c.had, c.new, c.old⟩
abbrev Up (l : List (Ky × Ky)) : Prop := Rise Prod.fst l
theorem Up.shift {p r : List (Ky × Ky)} {x : Ky × Ky} (h : Up (p ++ x :: r)) : Up ((p ++ [x]) ++ r) := by simpa using h
end Go.X.Df
namespace Go.X
open Go Go.RowKit Go.ChangeShapes Go.WideShapes
section
variable {H : Type} {enc : TypeId × Value -> H} {P : Program} {W : World} {base : Nat} {sp : Nat -> Bool} {held : Bool}
theorem trod_u8 {e : TypeId} (he : P.underlying e = some (.int .u8)) {u : Value} {fuel : Nat} {x : DataW H × List MemPlace} (h : DataW.trod enc P W 0 (fun _ => true) held fuel e [u] = some x) :
    ∃ n : Nat, u = .int .u8 (.ofNat n) /\ n < 256 := by
  cases fuel with
  | zero => simp [DataW.trod] at h
  | succ m =>
    unfold DataW.trod at h
    rw [he] at h
    cases u <;> simp at h
    rename_i q n
    obtain ⟨⟨rfl, hw⟩, rfl⟩ := h
    obtain ⟨h1, h2⟩ := bounds_u8 hw
    obtain ⟨m, rfl⟩ := Int.eq_ofNat_of_zero_le h1
    exact ⟨m, rfl, by omega⟩
def valB : List Value -> Nat
  | [.int _ n] => n.toNat
  | _ => 0
theorem qVu {t e : TypeId} (ht : P.underlying t = some (.slice e)) (he : P.underlying e = some (.int .u8)) (hc : P.cellsOf e = 1) {v : Value} {fuel : Nat} {x : DataW H × List MemPlace}
    (h : DataW.trod enc P W 0 (fun _ => true) held fuel t [v] = some x) :
    ∃ (s : SL) (k : List Nat), absV W.heap.size v = s.av /\ qz (absH W) s k /\ ((x.1 = .nil /\ k = []) ∨ ∃ es r, x.1 = .slice es r /\ es.length = k.length) := by
  obtain ⟨s, rows, m, hv, hn, hcell, hrow, hx⟩ := qZb ht hc (by decide) h
  have hone : ∀ r, r ∈ rows -> ∃ n : Nat, r.1 = [.int .u8 (.ofNat n)] /\ n < 256 := fun r hr => by
    obtain ⟨h1, p, h2⟩ := hrow r hr
    match hr1 : r.1, h1 with
    | [u], _ =>
      rw [hr1] at h2
      obtain ⟨n, rfl, h3⟩ := trod_u8 he h2
      exact ⟨n, rfl, h3⟩
  refine ⟨s, rows.map fun r => valB r.1, hv, ⟨⟨by rw [Qt, zJ0, zA1]; exact hn.symm, fun e => (hcell e).1, fun e => ?_⟩, ?_⟩, ?_⟩
  · obtain ⟨hlt, c, el, f, hb, hq⟩ := hcell e
    refine ⟨c.toList.map (absV W.heap.size), by unfold qn; rw [qQp hb], ?_⟩
    have hlen : s.len = rows.length := by unfold SL.n at hn; rw [e] at hn; exact hn
    have := qK9 (c := c.toList.map (absV W.heap.size)) (l := ofBytes (rows.map fun r => valB r.1)) (o := s.o) fun j y hy => by
      rw [qi, zV0, zV0, Option.map_map] at hy
      obtain ⟨r, hr, rfl⟩ := Option.map_eq_some_iff.1 hy
      obtain ⟨u, hu, hcu⟩ := hq j r hr 0 (by decide)
      obtain ⟨n, h1, _⟩ := hone r (zD0 hr)
      rw [h1] at hu
      cases hu
      rw [zA1, Nat.add_zero] at hcu
      rw [zV0, Array.getElem?_toList, hcu]
      show some (absV W.heap.size (.int .u8 (.ofNat n))) = some (AV.int .u8 (.ofNat (valB r.1)))
      rw [absV_int, h1]; rfl
    rw [Qt, zJ0, <- hlen] at this
    rw [zA1]
    exact this
  · intro n hn
    obtain ⟨r, hr, rfl⟩ := List.mem_map.1 hn
    obtain ⟨n, h1, h2⟩ := hone r hr
    rw [h1]; exact h2
  · rcases hx with ⟨h1, h2⟩ | ⟨sp, h1⟩
    · exact .inl ⟨h1, by rw [h2]; rfl⟩
    · exact .inr ⟨_, _, h1, by rw [zJ0, zJ0]⟩
end
end Go.X
namespace Go.X
open Go Go.RowKit
def revC (i o len cap : Nat) (k : KV) (a : QB) : FM := match a with
  | .cells c esz true mk => .any fun x => .set i (.cells (c ++ List.replicate (x * esz) .junk) esz false mk) (k (.slice i o len (cap + x) false))
  | _ => .fail 300
def revK (v : AV) (k : KV) : FM := match v with
  | .slice i o len cap true => .get i (revC i o len cap k)
  | v => k v
theorem qVw {E : Env} : ∀ (l : List Value), VRs E (List.replicate l.length .junk) l
  | [] => .nil
  | v :: l => .cons _ _ _ _ (.junk v) (qVw l)
section
variable {P : Program} {W0 : World} {E : Env} {h : Q0} {p : QQ} {w : World}
theorem qZ2 (r : Rel P W0 E h w) {av : AV} {v : Value} (hv : VR E av v) {k : KV} (hs : (revK av k).sat p h) :
    ∃ E' h' av', Stp E h E' h' /\ Rel P W0 E' h' w /\ VR E' av' v /\ (k av').sat p h' := by
  unfold revK at hs
  split at hs
  · rename_i i o len cap
    obtain ⟨a, hg, hs1⟩ := hs
    have hs : (revC i o len cap k a).sat p h := hs1
    unfold revC at hs
    split at hs
    · rename_i c esz mk
      have hs := hs (E.ext i)
      obtain ⟨hi, hs⟩ := hs
      obtain ⟨b, ob, hb, hw, hor⟩ := r.obj _ _ hg
      cases hv with
      | slice _ _ _ _ _ b2 x cc h1 hx hcc =>
      rw [hb] at h1; cases h1
      refine ⟨E, h.put i (some (.cells (c ++ List.replicate (E.ext i * esz) .junk) esz false mk)), _, ?_, ?_, .slice _ _ _ _ _ b x cc hb hx ?_, hs⟩
      · exact ⟨.refl _, fun _ _ h => .inl h, rfl, zN0 _⟩
      · have eqw := qF0 hw
        have := Rel.set r hg hb (a1 := .cells (c ++ List.replicate (E.ext i * esz) .junk) esz false mk) (o1 := ob) (fun h => by rcases h with h | ⟨_, h⟩ <;> cases h) (fun _ _ h => by cases h) (by
          cases hor with
          | cells _ _ _ _ cs e fr pre c1 rest hcs hp hc hrest hfr =>
            have hrest : rest.length = E.ext i * esz := hrest
            refine .cells _ _ _ _ cs _ fr pre (c1 ++ rest) [] (by simpa using hcs) hp ?_ rfl hfr
            refine hc.append ?_
            rw [<- hrest]
            exact qVw rest)
        rw [eqw] at this
        exact this
      · show cc = cap + E.ext i + 0
        exact hcc
    · exact hs.elim
  · exact ⟨E, h, _, .refl _ _, r, hv, hs⟩
end
def revX (P : Program) (sums : Sums) (lf n : Nat) (g : FuncId) : List AV -> KV -> (QR -> FM) -> FM := fun args k kp => (xCR P Qu sums lf n).call g args (fun v => revK v k) kp
def addRX (P : Program) (lf n : Nat) (g : FuncId) (sums : Sums) : Sums := fun f => match Nat.beq f g with | true => some (revX P sums lf n g) | false => sums f
def qJ7 (K : ZK) (v : ZV) (h : Q0) : Prop := match v with
  | .sl s => match s.nil, s.ext with
    | false, true => ∃ c esz mk, h.get s.i = some (.cells c esz true mk) /\ s.i < h.next /\ ∀ x, K (.sl ⟨false, s.i, s.o, s.len, s.cap + x, false⟩) (h.put s.i (some (.cells (c ++ List.replicate (x * esz) .junk) esz false mk)))
    | _, _ => K v h
  | _ => False
def qPd (P : Program) (lf n : Nat) (g : FuncId) (S : QW) : QW := fun f => match Nat.beq f g with | true => some (fun args K h => Qq P S lf n g args (qJ7 K) h) | false => S f
section
variable {P : Program} {W0 : World}
theorem qk.addR {sums : Sums} (hs : qk P W0 sums) (hmo : P.follows .mixedOrders = true) (lf n : Nat) (g : FuncId) : qk P W0 (addRX P lf n g sums) := by
  intro f s hf args k kp p E h w vs hb hsat r hv
  have hf1 : (match Nat.beq f g with | true => some (revX P sums lf n g) | false => sums f) = some s := hf
  cases hfg : Nat.beq f g with
  | false => rw [hfg] at hf1; exact hs f s hf1 args k kp p E h w vs hb hsat r hv
  | true =>
    rw [hfg] at hf1
    cases hf1
    have e := beq_iff.1 hfg
    subst e
    refine Calls.mono ((qM4 hs (.inr fun _ => zY0 _) hmo n).1 f args _ _ p E h w vs hb hsat r hv) fun e w' he => ?_
    cases e with
    | returned v =>
      obtain ⟨E', h', av, s1, r', hv', hs'⟩ := he
      obtain ⟨E2, h2, av2, s2, r2, hv2, hk⟩ := qZ2 r' hv' hs'
      exact ⟨E2, h2, av2, s1.trans s2, r2, hv2, hk⟩
    | panicked c => exact he
    | outgrown => exact he.elim
theorem qM6 {S : QW} {sums : Sums} (hs : SumFit S sums) (lf n : Nat) {g : FuncId} (hg : g < P.funcs.size) : SumFit (qPd P lf n g S) (addRX P lf n g sums) := by
  constructor
  · intro f hf
    have hf1 : (match Nat.beq f g with | true => some (fun args K h => Qq P S lf n g args (qJ7 K) h) | false => S f) = none := hf
    show (match Nat.beq f g with | true => some (revX P sums lf n g) | false => sums f) = none
    cases hfg : Nat.beq f g with
    | false => rw [hfg] at hf1; exact hs.none f hf1
    | true => rw [hfg] at hf1; cases hf1
  · intro f s hf
    have hf1 : (match Nat.beq f g with | true => some (fun args K h => Qq P S lf n g args (qJ7 K) h) | false => S f) = some s := hf
    show ∃ x, (match Nat.beq f g with | true => some (revX P sums lf n g) | false => sums f) = some x /\ _
    cases hfg : Nat.beq f g with
    | false => rw [hfg] at hf1; exact hs.some f s hf1
    | true =>
      rw [hfg] at hf1
      cases hf1
      refine ⟨_, rfl, fun args K h hi hz kp k p hp => ?_⟩
      refine (qH7 hs (lf := lf) n).call g args (qJ7 K) h hg hi hz kp (fun v => revK v k) p fun v h' hi' hv => ?_
      cases v with
      | sl s =>
        show (revK (ZV.av (.sl s)) k).sat p h'
        rw [qDk]
        unfold qJ7 at hv
        cases hn : s.nil with
        | true =>
          simp only [hn] at hv
          have := hp _ _ hi' hv
          rw [qDk] at this
          have e : revK s.av k = k s.av := by
            unfold SL.av; rw [hn]
            cases s.ext <;> rfl
          rw [e]; exact this
        | false =>
          cases he : s.ext with
          | false =>
            simp only [hn, he] at hv
            have := hp _ _ hi' hv
            rw [qDk] at this
            have e : revK s.av k = k s.av := by
              unfold SL.av; rw [hn, he]; rfl
            rw [e]; exact this
          | true =>
            simp only [hn, he] at hv
            obtain ⟨c, esz, mk, h1, h2, h3⟩ := hv
            have e : s.av = .slice s.i s.o s.len s.cap true := by unfold SL.av; rw [hn, he]
            rw [e]
            refine ⟨_, h1, fun x => ⟨h2, ?_⟩⟩
            have := hp _ _ (by exact hi') (h3 x)
            rw [qDk] at this
            exact this
      | _ => exact hv.elim
end
end Go.X
namespace Go.X
open Go Go.RowKit
def Head (h : Q0) (i cap : Nat) (sz : Nat) (cs : List AV) : Prop := ∃ c, h.get i = some (.cells c sz false false) /\ c.length = cap * sz /\ c.take cs.length = cs
theorem Head.fr {S : Nat -> Prop} {h h' : Q0} {i cap sz : Nat} {cs : List AV} (x : Head h i cap sz cs) (f : Q5 S h h') (hi : i < h.next) (hs : ¬ S i) : Head h' i cap sz cs := by
  obtain ⟨c, h1, h2, h3⟩ := x
  exact ⟨c, (f.same _ hi hs).trans h1, h2, h3⟩
theorem Head.len {h : Q0} {i cap sz : Nat} {cs : List AV} (x : Head h i cap sz cs) : cs.length <= cap * sz := by
  obtain ⟨c, h1, h2, h3⟩ := x
  have := congrArg List.length h3
  rw [zW0] at this
  omega
theorem Head.seg {h : Q0} {i cap sz n : Nat} {cs : List AV} (x : Head h i cap sz cs) (hi : i < h.next) (hn : cs.length = n * sz) (ext : Bool) : Seg h ⟨false, i, 0, n, cap, ext⟩ sz cs := by
  obtain ⟨c, h1, h2, h3⟩ := x
  refine ⟨hn, fun _ => hi, fun _ => ⟨c, qEg h1, by rw [List.drop_zero]; show List.take (n * sz) c = _; rw [<- hn]; exact h3, ?_⟩⟩
  rw [List.drop_zero]
  have := congrArg List.length h3
  rw [zW0] at this
  show n * sz <= _
  omega
structure More (h0 h : Q0) (i cap : Nat) (g : SL) (sz n : Nat) (cs : List AV) : Prop where
  is : (n <= cap /\ g = ⟨false, i, 0, n, cap, false⟩ /\ Head h i cap sz cs /\ cs.length = n * sz /\ i < h.next) ∨ (g.nil = false /\ Grown h0 h g sz n cs /\ cap <= n /\ Head h i cap sz (cs.take (cap * sz)) /\ i < h0.next)
theorem More.start {h0 h : Q0} {i cap sz n : Nat} {cs : List AV} (x : Head h i cap sz cs) (hl : cs.length = n * sz) (hi : i < h.next) (hn : n <= cap) : More h0 h i cap ⟨false, i, 0, n, cap, false⟩ sz n cs := ⟨.inl ⟨hn, rfl, x, hl, hi⟩⟩
theorem More.len {h0 h : Q0} {i cap sz n : Nat} {g : SL} {cs : List AV} (x : More h0 h i cap g sz n cs) : cs.length = n * sz := by
  rcases x.is with ⟨_, _, _, h, _⟩ | ⟨_, h, _⟩
  · exact h
  · exact h.1
theorem More.seg {h0 h : Q0} {i cap sz n : Nat} {g : SL} {cs : List AV} (x : More h0 h i cap g sz n cs) : Seg h g sz cs := by
  rcases x.is with ⟨_, rfl, h1, h2, h3⟩ | ⟨_, h1, _⟩
  · exact h1.seg h3 h2 _
  · exact h1.seg
theorem More.own {h0 h : Q0} {i cap sz n : Nat} {g : SL} {cs : List AV} (x : More h0 h i cap g sz n cs) : g.i = i ∨ h0.next <= g.i := by
  rcases x.is with ⟨_, rfl, _⟩ | ⟨h0, ⟨_, h1⟩, _⟩
  · exact .inl rfl
  · rcases h1 with ⟨_, rfl⟩ | ⟨_, _, _, _, _, h6, _⟩
    · cases h0
    · exact .inr h6
theorem More.fr {S : Nat -> Prop} {h0 h h' : Q0} {i cap sz n : Nat} {g : SL} {cs : List AV} (x : More h0 h i cap g sz n cs) (f : Q5 S h h') (hi : ¬ S i) (hg : ¬ S g.i) (hh : h0.next <= h.next) : More h0 h' i cap g sz n cs := by
  rcases x.is with ⟨h1, rfl, h3, h4, h5⟩ | ⟨h1, h2, h3, h4, h5⟩
  · exact ⟨.inl ⟨h1, rfl, h3.fr f h5 hi, h4, zF0 h5 f.next⟩⟩
  · exact ⟨.inr ⟨h1, h2.fr f fun _ => hg, h3, h4.fr f (zF0 h5 hh) hi, h5⟩⟩
theorem More.head {h0 h : Q0} {i cap sz n : Nat} {g : SL} {cs : List AV} (x : More h0 h i cap g sz n cs) : Head h i cap sz (cs.take (cap * sz)) := by
  rcases x.is with ⟨h1, rfl, h3, h4, h5⟩ | ⟨_, _, _, h4, _⟩
  · have : cs.take (cap * sz) = cs := List.take_of_length_le (by rw [h4]; exact Nat.mul_le_mul_right _ h1)
    rw [this]; exact h3
  · exact h4
theorem More.append {P : Program} {h0 h : Q0} {i cap sz n e : Nat} {g : SL} {cs ds : List AV} {A : Prop} (x : More h0 h i cap g sz n cs) (hd : ds.length = sz) (hp : QL ds = true) (hr : jy P e (n + 1) = true) (hh : h0.next <= h.next) (h0i : i < h0.next)
    (ha : More h0 (Qx h g sz 1 ds) i cap (g.app h.next 1) sz (n + 1) (cs ++ ds) -> Q5 (fun j => j = i ∨ h0.next <= j) h (Qx h g sz 1 ds) -> A) : jz P h g e sz 1 ds A := by
  rcases x.is with ⟨h1, rfl, h3, h4, h5⟩ | ⟨h1, h2, h3, h4, h5⟩
  · obtain ⟨c, c1, c2, c3⟩ := h3
    by_cases hlt : n < cap
    · have hb : Nat.ble (n + 1) cap = true := zG0 hlt
      have hle : n * sz + sz <= cap * sz := by
        have := Nat.mul_le_mul_right sz (show n + 1 <= cap from hlt)
        rw [Nat.add_mul, Nat.one_mul] at this; exact this
      have e1 : Qx h ⟨false, i, 0, n, cap, false⟩ sz 1 ds = hput h i (0 + n * sz) ds := by
        unfold Qx
        rw [show Nat.beq 1 0 = false from rfl]
        simp only
        rw [hb]
      have e2 : SL.app ⟨false, i, 0, n, cap, false⟩ h.next 1 = ⟨false, i, 0, n + 1, cap, false⟩ := by
        unfold SL.app
        rw [show Nat.beq 1 0 = false from rfl]
        simp only
        rw [hb]
      rw [Nat.zero_add] at e1
      refine ⟨⟨fun _ => h1, fun _ e => (by cases e), fun _ _ _ => ?_, fun _ hc => ?_, fun _ _ _ e => (by cases e), fun _ _ hc => ?_⟩, hp, ?_⟩
      · refine ⟨h5, c, sz, false, false, c1, ?_⟩
        show 0 + n * sz + ds.length <= c.length
        rw [hd, c2]; omega
      · rcases hc with hc | hc
        · exact absurd hc (by show ¬ cap < n + 1; omega)
        · cases hc
      · exact absurd hc (by show ¬ cap < n + 1; omega)
      · rw [e1, e2] at ha
        refine ha ⟨.inl ⟨hlt, rfl, ⟨_, qEy c1, ?_, ?_⟩, ?_, by rw [qg]; exact h5⟩⟩ (Q5.hput h _ _ fun _ => .inl rfl)
        · simp only [zC0, zW0, List.length_drop, hd, c2]; omega
        · rw [<- h4, c3, <- List.append_assoc]
          exact List.take_left
        · rw [zC0, h4, hd, Nat.add_mul, Nat.one_mul]
    · have hcap : cap = n := by omega
      subst hcap
      have hb : Nat.ble (cap + 1) cap = false := by
        cases hq : Nat.ble (cap + 1) cap with
        | false => rfl
        | true => exact absurd (zZ0 hq) (by omega)
      have ec : (c.drop 0).take (cap * sz) = cs := by rw [List.drop_zero, <- h4]; exact c3
      have e1 : Qx h ⟨false, i, 0, cap, cap, false⟩ sz 1 ds = h.newO (.cells (cs ++ ds) sz true false) := by
        unfold Qx
        rw [show Nat.beq 1 0 = false from rfl]
        simp only
        rw [hb, c1]
        simp only
        rw [ec]
      have e2 : SL.app ⟨false, i, 0, cap, cap, false⟩ h.next 1 = ⟨false, h.next, 0, cap + 1, cap + 1, true⟩ := by
        unfold SL.app
        rw [show Nat.beq 1 0 = false from rfl]
        simp only
        rw [hb]
      have hl2 : (cs ++ ds).length = (cap + 1) * sz := by rw [zC0, h4, hd, Nat.add_mul, Nat.one_mul]
      refine ⟨⟨fun _ => h1, fun _ e => (by cases e), fun _ _ hc => ?_, fun _ hc => ?_, fun _ _ _ e => (by cases e), fun _ _ _ _ => ⟨c, qEg c1, ?_⟩⟩, hp, ?_⟩
      · exact absurd hc (by show ¬ cap + 1 <= cap; omega)
      · exact hr
      · rw [List.drop_zero, c2]; exact zN0 _
      · rw [e1, e2] at ha
        refine ha ⟨.inr ⟨rfl, ⟨hl2, .inr ⟨rfl, rfl, rfl, rfl, rfl, hh, zO0 _, Ql _ _⟩⟩, Nat.le_succ _, ?_, h0i⟩⟩ (Q5.newO _ _ _)
        rw [<- h4, List.take_left]
        exact ⟨c, by rw [qm (Nat.ne_of_lt h5)]; exact c1, c2, c3⟩
  · refine h2.append1 hh (by decide) (by rw [hd, Nat.one_mul]) hp hr fun g2 f hi => ha ⟨.inr ⟨?_, g2, by omega, ?_, h5⟩⟩ (f.mono fun j _ ⟨e1, e2⟩ => ?_)
    · rcases g2.2 with ⟨e, _⟩ | ⟨e, _⟩
      · omega
      · exact e
    · have hlen : cap * sz <= cs.length := by rw [h2.1]; exact Nat.mul_le_mul_right _ h3
      rw [List.take_append_of_le_length hlen]
      refine h4.fr f (zF0 h5 hh) fun ⟨e1, e2⟩ => ?_
      rcases x.own with e | e
      · rcases h2.2 with ⟨_, rfl⟩ | ⟨_, _, _, _, _, h6, _⟩
        · cases e1
        · omega
      · omega
    · rcases h2.2 with ⟨_, rfl⟩ | ⟨_, _, _, _, _, h6, _⟩
      · cases e1
      · rw [e2]; exact .inr h6
structure Ext (h0 h : Q0) (b g : SL) (sz n : Nat) (cs : List AV) : Prop where
  is : (b.nil = true /\ Grown h0 h g sz n cs) ∨ (b.nil = false /\ b.i < h0.next /\ More h0 h b.i b.cap g sz n cs)
theorem Ext.len {h0 h : Q0} {sz n : Nat} {b g : SL} {cs : List AV} (x : Ext h0 h b g sz n cs) : cs.length = n * sz := by
  rcases x.is with ⟨_, h⟩ | ⟨_, _, h⟩
  · exact h.1
  · exact h.len
theorem Ext.seg {h0 h : Q0} {sz n : Nat} {b g : SL} {cs : List AV} (x : Ext h0 h b g sz n cs) : Seg h g sz cs := by
  rcases x.is with ⟨_, h⟩ | ⟨_, _, h⟩
  · exact h.seg
  · exact h.seg
theorem Ext.own {h0 h : Q0} {sz n : Nat} {b g : SL} {cs : List AV} (x : Ext h0 h b g sz n cs) : g.nil = false -> (b.nil = false /\ g.i = b.i) ∨ h0.next <= g.i := fun e => by
  rcases x.is with ⟨_, ⟨_, h1⟩⟩ | ⟨e1, _, h⟩
  · rcases h1 with ⟨_, rfl⟩ | ⟨_, _, _, _, _, h6, _⟩
    · cases e
    · exact .inr h6
  · rcases h.own with h | h
    · exact .inl ⟨e1, h⟩
    · exact .inr h
theorem Ext.fr {S : Nat -> Prop} {h0 h h' : Q0} {sz n : Nat} {b g : SL} {cs : List AV} (x : Ext h0 h b g sz n cs) (f : Q5 S h h') (hi : b.nil = false -> ¬ S b.i) (hg : ∀ j, h0.next <= j -> g.nil = false -> j = g.i -> ¬ S j) (hh : h0.next <= h.next) : Ext h0 h' b g sz n cs := by
  rcases x.is with ⟨e, h1⟩ | ⟨e, h2, h1⟩
  · refine ⟨.inl ⟨e, h1.fr f fun e2 => ?_⟩⟩
    rcases h1.2 with ⟨_, rfl⟩ | ⟨_, _, _, _, _, h6, _⟩
    · cases e2
    · exact hg _ h6 e2 rfl
  · refine ⟨.inr ⟨e, h2, ?_⟩⟩
    rcases h1.is with ⟨h3, rfl, h4, h5, h6⟩ | ⟨h3, h4, h5, h6, h7⟩
    · exact h1.fr f (hi e) (hi e) hh
    · refine h1.fr f (hi e) ?_ hh
      rcases h4.2 with ⟨_, rfl⟩ | ⟨_, _, _, _, _, h8, _⟩
      · cases h3
      · exact hg _ h8 h3 rfl
theorem Ext.append {P : Program} {h0 h : Q0} {sz n e : Nat} {b g : SL} {cs ds : List AV} {A : Prop} (x : Ext h0 h b g sz n cs) (hd : ds.length = sz) (hp : QL ds = true) (hr : jy P e (n + 1) = true) (hh : h0.next <= h.next)
    (ha : Ext h0 (Qx h g sz 1 ds) b (g.app h.next 1) sz (n + 1) (cs ++ ds) -> Q5 (fun j => (b.nil = false /\ j = b.i) ∨ h0.next <= j) h (Qx h g sz 1 ds) -> A) : jz P h g e sz 1 ds A := by
  rcases x.is with ⟨e1, h1⟩ | ⟨e1, h2, h1⟩
  · exact h1.append hh (by decide) (by rw [hd, Nat.one_mul]) hp hr fun g2 f => ha ⟨.inl ⟨e1, g2⟩⟩ (f.mono fun i _ h => .inr h)
  · exact h1.append hd hp hr hh h2 fun g2 f => ha ⟨.inr ⟨e1, h2, g2⟩⟩ (f.mono fun i _ h => h.imp (fun h => ⟨e1, h⟩) id)
end Go.X
namespace Go.X
open Go Go.RowKit
structure Cln (h0 h : Q0) (s : SL) (k : List Nat) : Prop where
  byts : qz h s k
  own : s.nil = false -> h0.next <= s.i /\ s.o = 0 /\ s.cap = k.length /\ h.get s.i = some (.cells (ofBytes k) 1 s.ext false)
  nils : s.nil = true -> s = QE
structure qy (h0 h : Q0) (s : SL) (k : List Nat) : Prop where
  byts : qz h s k
  own : s.nil = false -> h0.next <= s.i /\ s.o = 0 /\ s.ext = false /\ Head h s.i s.cap 1 (ofBytes k)
  nils : s.nil = true -> s = QE
theorem qy.fr {h0 h h' : Q0} {s : SL} {k : List Nat} {S : Nat -> Prop} (x : qy h0 h s k) (f : Q5 S h h') (hs : s.nil = false -> ¬ S s.i) : qy h0 h' s k :=
  ⟨x.byts.fr f hs, fun e => by
    obtain ⟨h1, h2, h3, h4⟩ := x.own e
    exact ⟨h1, h2, h3, h4.fr f (x.byts.seg.lt e) (hs e)⟩, x.nils⟩
theorem qy.of {h0 h1 h : Q0} {s : SL} {k : List Nat} (x : qy h1 h s k) (hn : h0.next <= h1.next) : qy h0 h s k :=
  ⟨x.byts, fun e => by
    obtain ⟨h1, h2, h3, h4⟩ := x.own e
    exact ⟨zP0 hn h1, h2, h3, h4⟩, x.nils⟩
theorem qy.nil (h0 h : Q0) : qy h0 h QE [] := ⟨qz.nil _ _, fun e => (by cases e), fun _ => rfl⟩
theorem qSx {P : Program} {h : Q0} {s : SL} {k : List Nat} {e : Nat} {Q : Q0 -> SL -> Prop} (hb : qz h s k) (hr : jy P e k.length = true)
    (hk : ∀ h' s', Q5 Qa h h' -> Cln h h' s' k -> s'.nil = false -> Q h' s') :
    jz P (h.newO (.cells [] 1 false false)) ⟨false, h.next, 0, 0, 0, false⟩ e 1 s.n (ofBytes k) (Q (Qx (h.newO (.cells [] 1 false false)) ⟨false, h.next, 0, 0, 0, false⟩ 1 s.n (ofBytes k)) (SL.app ⟨false, h.next, 0, 0, 0, false⟩ (h.newO (.cells [] 1 false false)).next s.n)) := by
  rw [hb.len]
  refine ⟨⟨fun _ => zN0 _, fun _ e => (by cases e), fun h1 _ h2 => ?_, fun _ _ => ?_, fun _ _ _ h => (by cases h), fun _ _ _ _ => ⟨[], qEg (Ql _ _), by simp⟩⟩, qPc k, ?_⟩
  · exact absurd h2 (by show ¬ 0 + k.length <= 0; omega)
  · show jy P e (0 + k.length) = true
    rw [Nat.zero_add]; exact hr
  cases k with
  | nil =>
    refine hk _ _ (Q5.newO _ _ _) ⟨⟨Seg.own (cs := []) (more := []) (e := 1) (g := false) (m := false) (by rfl) (zO0 _) (Ql _ _), fun x hx => (by cases hx)⟩, fun _ => ⟨zN0 _, rfl, rfl, Ql _ _⟩, fun e => (by cases e)⟩ rfl
  | cons x k =>
    have e1 : Qx (h.newO (.cells [] 1 false false)) ⟨false, h.next, 0, 0, 0, false⟩ 1 (x :: k).length (ofBytes (x :: k)) = (h.newO (.cells [] 1 false false)).newO (.cells (ofBytes (x :: k)) 1 true false) := by
      unfold Qx
      rw [show Nat.beq (x :: k).length 0 = false from rfl]
      simp only
      rw [show Nat.ble (0 + (x :: k).length) 0 = false by rw [Nat.zero_add]; rfl, Ql]
      rfl
    have e2 : SL.app ⟨false, h.next, 0, 0, 0, false⟩ (h.newO (.cells [] 1 false false)).next (x :: k).length = ⟨false, h.next + 1, 0, (x :: k).length, (x :: k).length, true⟩ := by
      unfold SL.app
      rw [show Nat.beq (x :: k).length 0 = false from rfl]
      simp only
      rw [show Nat.ble (0 + (x :: k).length) 0 = false by rw [Nat.zero_add]; rfl, Nat.zero_add]
      rfl
    rw [e1, e2]
    refine hk _ _ ((Q5.newO _ _ _).trans (Q5.newO _ _ _)) ⟨⟨Seg.own (cs := ofBytes (x :: k)) (more := []) (e := 1) (g := true) (m := false) (by rw [Qt, zA1]) (zO0 _) (by rw [zS0]; exact Ql _ _), hb.byte⟩, fun _ => ⟨Nat.le_succ _, rfl, rfl, Ql _ _⟩, fun e => (by cases e)⟩ rfl
theorem rev_own {K : ZK} {h0 h : Q0} {s : SL} {k : List Nat} (w : Cln h0 h s k) (hk : ∀ h' s', Q5 (fun i => s.nil = false /\ i = s.i) h h' -> qy h0 h' s' k -> (s'.nil = s.nil) -> K (.sl s') h') : qJ7 K (.sl s) h := by
  obtain ⟨nil, i, o, len, cap, ext⟩ := s
  unfold qJ7
  cases nil with
  | true => exact hk _ _ (Q5.refl _ _) ⟨w.byts, fun e => (by cases e), w.nils⟩ rfl
  | false =>
    obtain ⟨h1, h2, h3, h4⟩ := w.own rfl
    have h2 : o = 0 := h2
    have h3 : cap = k.length := h3
    subst h2; subst h3
    have hlen : len = k.length := by have := w.byts.len; exact this
    subst hlen
    have lt : i < h.next := w.byts.seg.lt rfl
    cases ext with
    | false =>
      refine hk _ _ (Q5.refl _ _) ⟨w.byts, fun _ => ⟨h1, rfl, rfl, ofBytes k, h4, by rw [Qt, zA1], List.take_length⟩, fun e => (by cases e)⟩ rfl
    | true =>
      refine ⟨_, _, _, h4, lt, fun x => ?_⟩
      have g := qD1 h i (some (.cells (ofBytes k ++ List.replicate (x * 1) AV.junk) 1 false false))
      refine hk _ _ (Q5.put h _ fun _ => ⟨rfl, rfl⟩) ⟨⟨Seg.own (more := List.replicate (x * 1) AV.junk) (by rw [Qt, zA1]) lt g, w.byts.byte⟩, fun _ => ⟨h1, rfl, rfl, _, g, ?_, ?_⟩, fun e => (by cases e)⟩ rfl
      · rw [zC0, zX0, Qt]
        show _ = (k.length + x) * 1
        omega
      · rw [List.take_left]
end Go.X
