/-
  PROVED: slices of bytes, rows, bytes of one's own, the order of keys, functions that answer by their arguments alone, as summaries. Condition: each law's own.
-/
import Derived.Test.YtjchcfiiijgmdaaGreatDoorXg
set_option linter.unusedVariables false
set_option linter.unusedSimpArgs false
namespace Go.X
abbrev nowhere (_ : Nat) : Prop := False
theorem SL.n_nil {s : SL} (e : s.nil = true) : s.n = 0 := by unfold SL.n; rw [e]
theorem SL.n_of {s : SL} (e : s.nil = false) : s.n = s.len := by unfold SL.n; rw [e]
structure Seg (h : Heap) (s : SL) (sz : Nat) (cs : List AV) : Prop where
  len : cs.length = s.n * sz
  lt : s.nil = false → s.i < h.next
  src : s.nil = false → ∃ c, cellsAt h s.i = some c ∧ (c.drop s.o).take (s.len * sz) = cs ∧ s.len * sz ≤ (c.drop s.o).length
theorem Seg.fr {S : Nat → Prop} {h h' : Heap} {s : SL} {sz : Nat} {cs : List AV} (x : Seg h s sz cs) (f : Fram S h h') (hs : s.nil = false → ¬ S s.i) : Seg h' s sz cs :=
  ⟨x.len, fun e => Nat.lt_of_lt_of_le (x.lt e) f.next, fun e => by rw [cellsAt_eq (f.same _ (x.lt e) (hs e))]; exact x.src e⟩
theorem Seg.nil_cs {h : Heap} {s : SL} {sz : Nat} {cs : List AV} (x : Seg h s sz cs) (e : s.nil = true) : cs = [] :=
  List.eq_nil_of_length_eq_zero (by rw [x.len, SL.n_nil e, Nat.zero_mul])
theorem Seg.at' {h : Heap} {s : SL} {sz : Nat} {cs : List AV} (x : Seg h s sz cs) (e : s.nil = false) {q : Nat} {v : AV} (hq : cs[q]? = some v) : cellAt h s.i (s.o + q) = some v := by
  obtain ⟨c, hc, h1, h2⟩ := x.src e
  unfold cellAt; rw [hc]
  show c[s.o + q]? = _
  have hl : q < s.len * sz := by
    have := (List.getElem?_eq_some_iff.1 hq).1
    rw [x.len, SL.n_of e] at this; exact this
  rw [← h1, List.getElem?_take_of_lt hl, List.getElem?_drop] at hq
  exact hq
theorem Seg.zsrc {h : Heap} {s : SL} {sz : Nat} {cs : List AV} {K : List AV → Prop} (x : Seg h s sz cs) (k : K cs) : ZSrc h s sz K :=
  ⟨cs, fun e => x.nil_cs e, fun e => x.src e, k⟩
theorem Seg.nil (h : Heap) (sz : Nat) (ext : Bool) : Seg h ⟨true, 0, 0, 0, 0, ext⟩ sz [] := ⟨by simp [SL.n], fun e => (by cases e), fun e => (by cases e)⟩
theorem Seg.own {h : Heap} {i n cap : Nat} {ext : Bool} {cs more : List AV} {sz e : Nat} {g m : Bool} (hl : cs.length = n * sz) (hi : i < h.next) (hg : h.get i = some (.cells (cs ++ more) e g m)) : Seg h ⟨false, i, 0, n, cap, ext⟩ sz cs :=
  ⟨hl, fun _ => hi, fun _ => ⟨_, cellsAt_of hg, by rw [List.drop_zero]; show List.take (n * sz) _ = _; rw [← hl, List.take_left], by rw [List.drop_zero, List.length_append]; show n * sz ≤ _; omega⟩⟩
theorem Grown.seg {h0 h : Heap} {s : SL} {sz n : Nat} {cs : List AV} (g : Grown h0 h s sz n cs) : Seg h s sz cs := by
  obtain ⟨hl, g⟩ := g
  rcases g with ⟨rfl, rfl⟩ | ⟨h1, h2, h3, h4, h5, h6, h7, h8⟩
  · have : cs = [] := List.eq_nil_of_length_eq_zero (by rw [hl]; simp)
    subst this
    exact Seg.nil _ _ _
  · obtain ⟨nil, i, o, len, cap, ext⟩ := s
    simp only at h1 h2 h3 h4 h5 h6 h7 h8
    subst h1; subst h2; subst h3
    exact Seg.own (more := []) hl h7 (by rw [List.append_nil]; exact h8)
theorem Grown.n_eq {h0 h : Heap} {s : SL} {sz n : Nat} {cs : List AV} (g : Grown h0 h s sz n cs) : s.n = n := by
  rcases g.2 with ⟨rfl, rfl⟩ | ⟨h1, _, h3, _⟩
  · rfl
  · rw [SL.n_of h1]; exact h3
theorem Grown.fr {h0 h h' : Heap} {s : SL} {sz n : Nat} {cs : List AV} (g : Grown h0 h s sz n cs) {S : Nat → Prop} (f : Fram S h h') (hs : s.nil = false → ¬ S s.i) : Grown h0 h' s sz n cs := by
  refine ⟨g.1, g.2.imp id fun ⟨h1, h2, h3, h4, h5, h6, h7, h8⟩ => ⟨h1, h2, h3, h4, h5, h6, Nat.lt_of_lt_of_le h7 f.next, (f.same _ h7 (hs h1)).trans h8⟩⟩
structure Byts (h : Heap) (s : SL) (k : List Nat) : Prop where
  seg : Seg h s 1 (ofBytes k)
  byte : ∀ x, x ∈ k → x < 256
theorem ofBytes_length (l : List Nat) : (ofBytes l).length = l.length := by rw [ofBytes_eq, List.length_map]
theorem ofBytes_append (a b : List Nat) : ofBytes (a ++ b) = ofBytes a ++ ofBytes b := by simp [ofBytes_eq]
theorem Byts.len {h : Heap} {s : SL} {k : List Nat} (x : Byts h s k) : s.n = k.length := by
  have := x.seg.len
  rw [ofBytes_length] at this; omega
theorem Byts.fr {h h' : Heap} {s : SL} {k : List Nat} {S : Nat → Prop} (x : Byts h s k) (f : Fram S h h') (hs : s.nil = false → ¬ S s.i) : Byts h' s k := ⟨x.seg.fr f hs, x.byte⟩
theorem Byts.zbytes {h : Heap} {s : SL} {k : List Nat} {K : List Nat → Prop} (x : Byts h s k) (hk : K k) : ZBytes h s K := by
  refine ⟨k, fun e => ?_, fun e => ?_, x.byte, hk⟩
  · have := x.seg.nil_cs e
    have h2 := ofBytes_length k
    rw [this] at h2
    exact List.eq_nil_of_length_eq_zero h2.symm
  · have := x.seg.src e
    rwa [Nat.mul_one] at this
theorem Byts.nil (h : Heap) (ext : Bool) : Byts h ⟨true, 0, 0, 0, 0, ext⟩ [] := ⟨Seg.nil h 1 ext, fun x hx => (by cases hx)⟩
theorem Byts.at' {h : Heap} {s : SL} {k : List Nat} (x : Byts h s k) (e : s.nil = false) {j b : Nat} (hj : k[j]? = some b) : cellAt h s.i (s.o + j) = some (.int .u8 (.ofNat b)) :=
  x.seg.at' e (by rw [ofBytes_eq, List.getElem?_map, hj]; rfl)
theorem allPlain_bytes (l : List Nat) : allPlain (ofBytes l) = true := by
  rw [ofBytes_eq]
  induction l with
  | nil => rfl
  | cons x l ih => exact ih
theorem sl_plain (s : SL) : s.av.plainC = true := by
  unfold SL.av
  cases s.nil
  · rfl
  · cases s.ext <;> rfl
structure Rws {α : Type} (sz : Nat) (row : α → List AV) (Q : Heap → α → Prop) (h : Heap) (s : SL) (l : List α) : Prop where
  seg : Seg h s sz (l.flatMap row)
  rl : ∀ x, x ∈ l → (row x).length = sz
  ok : ∀ x, x ∈ l → Q h x
section
variable {α : Type} {sz : Nat} {row : α → List AV} {Q : Heap → α → Prop} {h h' : Heap} {s : SL} {l : List α}
theorem flat_length (hr : ∀ x, x ∈ l → (row x).length = sz) : (l.flatMap row).length = l.length * sz := by
  induction l with
  | nil => simp
  | cons x l ih => rw [List.flatMap_cons, List.length_append, hr x List.mem_cons_self, ih fun y hy => hr y (List.mem_cons_of_mem _ hy), List.length_cons, Nat.add_mul]; omega
theorem flat_at (hr : ∀ x, x ∈ l → (row x).length = sz) {j : Nat} {x : α} (hj : l[j]? = some x) {q : Nat} (hq : q < sz) : (l.flatMap row)[j * sz + q]? = (row x)[q]? := by
  induction l generalizing j with
  | nil => cases hj
  | cons y l ih =>
    have hy := hr y List.mem_cons_self
    rw [List.flatMap_cons]
    cases j with
    | zero =>
      cases hj
      rw [Nat.zero_mul, Nat.zero_add, List.getElem?_append_left (by omega)]
    | succ j =>
      rw [List.getElem?_append_right (by rw [hy, Nat.add_mul]; omega), hy, show (j + 1) * sz + q - sz = j * sz + q by rw [Nat.add_mul]; omega]
      exact ih (fun z hz => hr z (List.mem_cons_of_mem _ hz)) (by simpa using hj)
theorem Rws.len (hsz : 0 < sz) (x : Rws sz row Q h s l) : s.n = l.length := by
  have := x.seg.len
  rw [flat_length x.rl] at this
  exact (Nat.eq_of_mul_eq_mul_right hsz this).symm
theorem Rws.at' (x : Rws sz row Q h s l) (e : s.nil = false) {j : Nat} {y : α} (hj : l[j]? = some y) {q : Nat} (hq : q < sz) {v : AV} (hv : (row y)[q]? = some v) : cellAt h s.i (s.o + j * sz + q) = some v := by
  rw [Nat.add_assoc]
  exact x.seg.at' e (by rw [flat_at x.rl hj hq]; exact hv)
theorem Rws.nil_of (hsz : 0 < sz) (x : Rws sz row Q h s l) {j : Nat} (hj : j < l.length) : s.nil = false := by
  have := x.len hsz
  cases e : s.nil with
  | false => rfl
  | true => rw [SL.n_nil e] at this; omega
theorem Rws.len' (hsz : 0 < sz) (x : Rws sz row Q h s l) (e : s.nil = false) : s.len = l.length := by
  rw [← SL.n_of e]; exact x.len hsz
theorem Rws.fr {S : Nat → Prop} (x : Rws sz row Q h s l) (f : Fram S h h') (hs : s.nil = false → ¬ S s.i) (hq : ∀ y, y ∈ l → Q h y → Q h' y) : Rws sz row Q h' s l :=
  ⟨x.seg.fr f hs, x.rl, fun y hy => hq y hy (x.ok y hy)⟩
theorem Rws.nil (h : Heap) (ext : Bool) : Rws sz row Q h ⟨true, 0, 0, 0, 0, ext⟩ [] := ⟨Seg.nil _ _ _, fun _ hx => (by cases hx), fun _ hx => (by cases hx)⟩
end
structure Var (h : Heap) (i : Nat) (cs : List AV) : Prop where
  lt : i < h.next
  get : h.get i = some (.cells cs 0 false false)
section
variable {h : Heap} {i : Nat} {cs : List AV}
theorem Var.new (h : Heap) (cs : List AV) : Var (h.newO (.cells cs 0 false false)) h.next cs := ⟨Nat.lt_succ_self _, newO_get_self _ _⟩
theorem Var.fr {S : Nat → Prop} {h' : Heap} (x : Var h i cs) (f : Fram S h h') (hs : ¬ S i) : Var h' i cs := ⟨Nat.lt_of_lt_of_le x.lt f.next, (f.same _ x.lt hs).trans x.get⟩
theorem Var.cell (x : Var h i cs) (o : Nat) : cellAt h i o = cs[o]? := cellAt_of x.get
theorem Var.ldL (x : Var h i cs) {o : Nat} (s : SL) {K : SL → Prop} (e : cs[o]? = some s.av) (k : K s) : ZLdL h i o K := ⟨s, (x.cell o).trans e, k⟩
theorem Var.ldB (x : Var h i cs) {o : Nat} (b : Bool) {K : Bool → Prop} (e : cs[o]? = some (.bool b)) (k : K b) : ZLdB h i o K := ⟨b, (x.cell o).trans e, k⟩
theorem Var.ldI (x : Var h i cs) {o : Nat} {q : IntKind} (n : Int) {K : Int → Prop} (e : cs[o]? = some (.int q n)) (k : K n) : ZLdI h i o q K := ⟨n, (x.cell o).trans e, k⟩
theorem Var.zput (x : Var h i cs) {o n : Nat} {A : Prop} (hn : o + n ≤ cs.length) (k : A) : ZPut h i o n A := ⟨⟨x.lt, cs, 0, false, false, x.get, hn⟩, k⟩
theorem Var.put (x : Var h i cs) (o : Nat) (vs : List AV) : Var (hput h i o vs) i (cs.take o ++ (vs ++ cs.drop (o + vs.length))) := by
  refine ⟨?_, hput_get x.get⟩
  unfold hput; rw [x.get]; exact x.lt
theorem Var.put_fr (x : Var h i cs) (o : Nat) (vs : List AV) : Fram (fun j => j = i) h (hput h i o vs) := Fram.hput h o vs fun _ => rfl
end
theorem Fram.back {S T : Nat → Prop} {h0 a b : Heap} (x : Fram T h0 a) (y : Fram S a b) (hs : ∀ i, i < h0.next → S i → T i) : Fram T h0 b :=
  ⟨Nat.le_trans x.next y.next, fun i hi ht => (y.same i (Nat.lt_of_lt_of_le hi x.next) fun h => ht (hs i hi h)).trans (x.same i hi ht)⟩
structure Own (h0 h : Heap) (s : SL) (k : List Nat) : Prop where
  byts : Byts h s k
  own : s.nil = false → h0.next ≤ s.i ∧ s.o = 0 ∧ ∃ e g, h.get s.i = some (.cells (ofBytes k) e g false)
theorem Own.fr {h0 h h' : Heap} {s : SL} {k : List Nat} {S : Nat → Prop} (x : Own h0 h s k) (f : Fram S h h') (hs : s.nil = false → ¬ S s.i) : Own h0 h' s k :=
  ⟨x.byts.fr f hs, fun e => by
    obtain ⟨h1, h2, a, b, h3⟩ := x.own e
    exact ⟨h1, h2, a, b, (f.same _ (x.byts.seg.lt e) (hs e)).trans h3⟩⟩
theorem Own.of {h0 h1 h : Heap} {s : SL} {k : List Nat} (x : Own h1 h s k) (hn : h0.next ≤ h1.next) : Own h0 h s k :=
  ⟨x.byts, fun e => by
    obtain ⟨h1, h2, h3⟩ := x.own e
    exact ⟨Nat.le_trans hn h1, h2, h3⟩⟩
theorem SL.isNil_nil {s : SL} (h : s.isNil = true) : s.nil = true := by
  unfold SL.isNil at h
  cases hn : s.nil with
  | true => rfl
  | false => rw [hn] at h; cases h
end Go.X
namespace Go.X.Df
open Go.X
abbrev Ky := List Nat
structure Ch where
  k : Ky
  had : Bool
  has : Bool
  old : Ky
  new : Ky
theorem lt_cons (x : Nat) (a : Ky) (y : Nat) (b : Ky) : bytesLt (x :: a) (y :: b) = cnd (ltb x y) true (cnd (Nat.beq x y) (bytesLt a b) false) := rfl
theorem lt_irr : ∀ a : Ky, bytesLt a a = false
  | [] => rfl
  | x :: a => by
    rw [lt_cons, ltb_false.2 (Nat.le_refl x), Nat.beq_refl]
    exact lt_irr a
theorem lt_spec {x : Nat} {a : Ky} {y : Nat} {b : Ky} : bytesLt (x :: a) (y :: b) = true ↔ x < y ∨ (x = y ∧ bytesLt a b = true) := by
  rw [lt_cons]
  cases h : ltb x y with
  | true => simp [ltb_iff.1 h]
  | false =>
    have := ltb_false.1 h
    rw [cnd_false]
    cases h2 : Nat.beq x y with
    | true =>
      have := Nat.eq_of_beq_eq_true h2
      subst this
      simp
    | false =>
      have hne : x ≠ y := fun e => by subst e; rw [Nat.beq_refl] at h2; cases h2
      rw [cnd_false]
      constructor
      · intro h; cases h
      · rintro (h | ⟨h, _⟩)
        · omega
        · exact absurd h hne
theorem lt_trans : ∀ {a b c : Ky}, bytesLt a b = true → bytesLt b c = true → bytesLt a c = true
  | [], [], _, h, _ => Bool.noConfusion (show false = true from h)
  | _ :: _, [], _, h, _ => Bool.noConfusion (show false = true from h)
  | [], _ :: _, [], _, h => Bool.noConfusion (show false = true from h)
  | [], _ :: _, _ :: _, _, _ => rfl
  | _ :: _, _ :: _, [], _, h => Bool.noConfusion (show false = true from h)
  | x :: a, y :: b, z :: c, h1, h2 => by
    rw [lt_spec] at h1 h2 ⊢
    rcases h1 with h1 | ⟨rfl, h1⟩
    · rcases h2 with h2 | ⟨rfl, _⟩
      · exact .inl (by omega)
      · exact .inl h1
    · rcases h2 with h2 | ⟨rfl, h2⟩
      · exact .inl h2
      · exact .inr ⟨rfl, lt_trans h1 h2⟩
theorem lt_asymm {a b : Ky} (h : bytesLt a b = true) : bytesLt b a = false := by
  cases h2 : bytesLt b a with
  | false => rfl
  | true => have := lt_trans h h2; rw [lt_irr] at this; cases this
theorem lt_ne {a b : Ky} (h : bytesLt a b = true) : a ≠ b := fun e => by subst e; rw [lt_irr] at h; cases h
def Rise {α : Type} (key : α → Ky) (l : List α) : Prop := l.Pairwise fun a b => bytesLt (key a) (key b) = true
section
variable {β : Type}
def look (l : List (Ky × β)) (k : Ky) : Option β := match l with | [] => none | e :: r => if e.1 = k then some e.2 else look r k
noncomputable def put (l : List (Ky × β)) (k : Ky) (v : β) : List (Ky × β) := match l with
  | [] => [(k, v)]
  | e :: r => if e.1 = k then (k, v) :: r else if bytesLt k e.1 then (k, v) :: e :: r else e :: put r k v
def del (l : List (Ky × β)) (k : Ky) : List (Ky × β) := match l with | [] => [] | e :: r => if e.1 = k then r else e :: del r k
end
noncomputable def step (m : List (Ky × Ky)) (c : Ch) : Option (List (Ky × Ky)) :=
  match look m c.k with
  | none => if c.had = true then none else some (if c.has = true then put m c.k c.new else m)
  | some v => if c.had = true ∧ v = c.old then some (if c.has = true then put m c.k c.new else del m c.k) else none
def back (c : Ch) : Ch := ⟨c.k, c.has, c.had, c.new, c.old⟩
abbrev Up (l : List (Ky × Ky)) : Prop := Rise Prod.fst l
theorem Up.shift {p r : List (Ky × Ky)} {x : Ky × Ky} (h : Up (p ++ x :: r)) : Up ((p ++ [x]) ++ r) := by simpa using h
end Go.X.Df
namespace Go.X
open Go Go.RowKit Go.ChangeShapes Go.WideShapes
section
variable {H : Type} {enc : TypeId × Value → H} {P : Program} {W : World} {base : Nat} {sp : Nat → Bool} {held : Bool}
theorem trod_u8 {e : TypeId} (he : P.underlying e = some (.int .u8)) {u : Value} {fuel : Nat} {x : DataW H × List MemPlace} (h : DataW.trod enc P W 0 (fun _ => true) held fuel e [u] = some x) :
    ∃ n : Nat, u = .int .u8 (.ofNat n) ∧ n < 256 := by
  cases fuel with
  | zero => simp [DataW.trod] at h
  | succ m =>
    unfold DataW.trod at h
    rw [he] at h
    cases u <;> simp at h
    rename_i q n
    obtain ⟨⟨rfl, hw⟩, rfl⟩ := h
    obtain ⟨h1, h2⟩ := bounds_u8 hw
    obtain ⟨m, rfl⟩ := Int.eq_ofNat_of_zero_le h1
    exact ⟨m, rfl, by omega⟩
def valB : List Value → Nat
  | [.int _ n] => n.toNat
  | _ => 0
theorem abs_bytes {t e : TypeId} (ht : P.underlying t = some (.slice e)) (he : P.underlying e = some (.int .u8)) (hc : P.cellsOf e = 1) {v : Value} {fuel : Nat} {x : DataW H × List MemPlace}
    (h : DataW.trod enc P W 0 (fun _ => true) held fuel t [v] = some x) :
    ∃ (s : SL) (k : List Nat), absV W.heap.size v = s.av ∧ Byts (absH W) s k ∧ ((x.1 = .nil ∧ k = []) ∨ ∃ es r, x.1 = .slice es r ∧ es.length = k.length) := by
  obtain ⟨s, rows, m, hv, hn, hcell, hrow, hx⟩ := abs_rows ht hc (by decide) h
  have hone : ∀ r, r ∈ rows → ∃ n : Nat, r.1 = [.int .u8 (.ofNat n)] ∧ n < 256 := fun r hr => by
    obtain ⟨h1, p, h2⟩ := hrow r hr
    match hr1 : r.1, h1 with
    | [u], _ =>
      rw [hr1] at h2
      obtain ⟨n, rfl, h3⟩ := trod_u8 he h2
      exact ⟨n, rfl, h3⟩
  refine ⟨s, rows.map fun r => valB r.1, hv, ⟨⟨by rw [ofBytes_length, List.length_map, Nat.mul_one]; exact hn.symm, fun e => (hcell e).1, fun e => ?_⟩, ?_⟩, ?_⟩
  · obtain ⟨hlt, c, el, f, hb, hq⟩ := hcell e
    refine ⟨c.toList.map (absV W.heap.size), by unfold cellsAt; rw [absH_cells hb], ?_⟩
    have hlen : s.len = rows.length := by unfold SL.n at hn; rw [e] at hn; exact hn
    have := take_drop_of (c := c.toList.map (absV W.heap.size)) (l := ofBytes (rows.map fun r => valB r.1)) (o := s.o) fun j y hy => by
      rw [ofBytes_eq, List.getElem?_map, List.getElem?_map, Option.map_map] at hy
      obtain ⟨r, hr, rfl⟩ := Option.map_eq_some_iff.1 hy
      obtain ⟨u, hu, hcu⟩ := hq j r hr 0 (by decide)
      obtain ⟨n, h1, _⟩ := hone r (List.mem_of_getElem? hr)
      rw [h1] at hu
      cases hu
      rw [Nat.mul_one, Nat.add_zero] at hcu
      rw [List.getElem?_map, Array.getElem?_toList, hcu]
      show some (absV W.heap.size (.int .u8 (.ofNat n))) = some (AV.int .u8 (.ofNat (valB r.1)))
      rw [absV_int, h1]; rfl
    rw [ofBytes_length, List.length_map, ← hlen] at this
    rw [Nat.mul_one]
    exact this
  · intro n hn
    obtain ⟨r, hr, rfl⟩ := List.mem_map.1 hn
    obtain ⟨n, h1, h2⟩ := hone r hr
    rw [h1]; exact h2
  · rcases hx with ⟨h1, h2⟩ | ⟨sp, h1⟩
    · exact .inl ⟨h1, by rw [h2]; rfl⟩
    · exact .inr ⟨_, _, h1, by rw [List.length_map, List.length_map]⟩
end
end Go.X
namespace Go.X
open Go Go.RowKit
noncomputable def revC (i o len cap : Nat) (k : KV) (a : AObj) : FM := match a with
  | .cells c esz true mk => .any fun x => .set i (.cells (c ++ List.replicate (x * esz) .junk) esz false mk) (k (.slice i o len (cap + x) false))
  | _ => .fail 300
noncomputable def revK (v : AV) (k : KV) : FM := match v with
  | .slice i o len cap true => .get i (revC i o len cap k)
  | v => k v
theorem VRs_junkL {E : Env} : ∀ (l : List Value), VRs E (List.replicate l.length .junk) l
  | [] => .nil
  | v :: l => .cons _ _ _ _ (.junk v) (VRs_junkL l)
section
variable {P : Program} {W0 : World} {E : Env} {h : Heap} {p : Post} {w : World}
theorem revK_sound (r : Rel P W0 E h w) {av : AV} {v : Value} (hv : VR E av v) {k : KV} (hs : (revK av k).sat p h) :
    ∃ E' h' av', Stp E h E' h' ∧ Rel P W0 E' h' w ∧ VR E' av' v ∧ (k av').sat p h' := by
  unfold revK at hs
  split at hs
  · rename_i i o len cap
    obtain ⟨a, hg, hs1⟩ := hs
    have hs : (revC i o len cap k a).sat p h := hs1
    unfold revC at hs
    split at hs
    · rename_i c esz mk
      have hs := hs (E.ext i)
      obtain ⟨hi, hs⟩ := hs
      obtain ⟨b, ob, hb, hw, hor⟩ := r.obj _ _ hg
      cases hv with
      | slice _ _ _ _ _ b2 x cc h1 hx hcc =>
      rw [hb] at h1; cases h1
      refine ⟨E, h.put i (some (.cells (c ++ List.replicate (E.ext i * esz) .junk) esz false mk)), _, ?_, ?_, .slice _ _ _ _ _ b x cc hb hx ?_, hs⟩
      · exact ⟨.refl _, fun _ _ h => .inl h, rfl, Nat.le_refl _⟩
      · have eqw := putObj_same hw
        have := Rel.set r hg hb (a1 := .cells (c ++ List.replicate (E.ext i * esz) .junk) esz false mk) (o1 := ob) (fun h => by rcases h with h | ⟨_, h⟩ <;> cases h) (fun _ _ h => by cases h) (by
          cases hor with
          | cells _ _ _ _ cs e fr pre c1 rest hcs hp hc hrest hfr =>
            have hrest : rest.length = E.ext i * esz := hrest
            refine .cells _ _ _ _ cs _ fr pre (c1 ++ rest) [] (by simpa using hcs) hp ?_ rfl hfr
            refine hc.append ?_
            rw [← hrest]
            exact VRs_junkL rest)
        rw [eqw] at this
        exact this
      · show cc = cap + E.ext i + 0
        exact hcc
    · exact hs.elim
  · exact ⟨E, h, _, .refl _ _, r, hv, hs⟩
end
noncomputable def revX (P : Program) (sums : Sums) (lf n : Nat) (g : FuncId) : List AV → KV → (Chain → FM) → FM := fun args k kp => (xCR P noHints sums lf n).call g args (fun v => revK v k) kp
noncomputable def addRX (P : Program) (lf n : Nat) (g : FuncId) (sums : Sums) : Sums := fun f => match Nat.beq f g with | true => some (revX P sums lf n g) | false => sums f
section
variable {P : Program} {W0 : World}
theorem SumsSound.addR {sums : Sums} (hs : SumsSound P W0 sums) (hmo : P.follows .mixedOrders = true) (lf n : Nat) (g : FuncId) : SumsSound P W0 (addRX P lf n g sums) := by
  intro f s hf args k kp p E h w vs hb hsat r hv
  have hf1 : (match Nat.beq f g with | true => some (revX P sums lf n g) | false => sums f) = some s := hf
  cases hfg : Nat.beq f g with
  | false => rw [hfg] at hf1; exact hs f s hf1 args k kp p E h w vs hb hsat r hv
  | true =>
    rw [hfg] at hf1
    cases hf1
    have e := beq_iff.1 hfg
    subst e
    refine Calls.mono ((xCR_sound hs (.inr fun _ => Nat.zero_le _) hmo n).1 f args _ _ p E h w vs hb hsat r hv) fun e w' he => ?_
    cases e with
    | returned v =>
      obtain ⟨E', h', av, s1, r', hv', hs'⟩ := he
      obtain ⟨E2, h2, av2, s2, r2, hv2, hk⟩ := revK_sound r' hv' hs'
      exact ⟨E2, h2, av2, s1.trans s2, r2, hv2, hk⟩
    | panicked c => exact he
    | outgrown => exact he.elim
end
end Go.X
namespace Go.X
open Go Go.RowKit
def Head (h : Heap) (i cap : Nat) (sz : Nat) (cs : List AV) : Prop := ∃ c, h.get i = some (.cells c sz false false) ∧ c.length = cap * sz ∧ c.take cs.length = cs
theorem Head.fr {S : Nat → Prop} {h h' : Heap} {i cap sz : Nat} {cs : List AV} (x : Head h i cap sz cs) (f : Fram S h h') (hi : i < h.next) (hs : ¬ S i) : Head h' i cap sz cs := by
  obtain ⟨c, h1, h2, h3⟩ := x
  exact ⟨c, (f.same _ hi hs).trans h1, h2, h3⟩
theorem Head.len {h : Heap} {i cap sz : Nat} {cs : List AV} (x : Head h i cap sz cs) : cs.length ≤ cap * sz := by
  obtain ⟨c, h1, h2, h3⟩ := x
  have := congrArg List.length h3
  rw [List.length_take] at this
  omega
theorem Head.seg {h : Heap} {i cap sz n : Nat} {cs : List AV} (x : Head h i cap sz cs) (hi : i < h.next) (hn : cs.length = n * sz) (ext : Bool) : Seg h ⟨false, i, 0, n, cap, ext⟩ sz cs := by
  obtain ⟨c, h1, h2, h3⟩ := x
  refine ⟨hn, fun _ => hi, fun _ => ⟨c, cellsAt_of h1, by rw [List.drop_zero]; show List.take (n * sz) c = _; rw [← hn]; exact h3, ?_⟩⟩
  rw [List.drop_zero]
  have := congrArg List.length h3
  rw [List.length_take] at this
  show n * sz ≤ _
  omega
structure More (h0 h : Heap) (i cap : Nat) (g : SL) (sz n : Nat) (cs : List AV) : Prop where
  is : (n ≤ cap ∧ g = ⟨false, i, 0, n, cap, false⟩ ∧ Head h i cap sz cs ∧ cs.length = n * sz ∧ i < h.next) ∨ (g.nil = false ∧ Grown h0 h g sz n cs ∧ cap ≤ n ∧ Head h i cap sz (cs.take (cap * sz)) ∧ i < h0.next)
theorem More.start {h0 h : Heap} {i cap sz n : Nat} {cs : List AV} (x : Head h i cap sz cs) (hl : cs.length = n * sz) (hi : i < h.next) (hn : n ≤ cap) : More h0 h i cap ⟨false, i, 0, n, cap, false⟩ sz n cs := ⟨.inl ⟨hn, rfl, x, hl, hi⟩⟩
theorem More.len {h0 h : Heap} {i cap sz n : Nat} {g : SL} {cs : List AV} (x : More h0 h i cap g sz n cs) : cs.length = n * sz := by
  rcases x.is with ⟨_, _, _, h, _⟩ | ⟨_, h, _⟩
  · exact h
  · exact h.1
theorem More.seg {h0 h : Heap} {i cap sz n : Nat} {g : SL} {cs : List AV} (x : More h0 h i cap g sz n cs) : Seg h g sz cs := by
  rcases x.is with ⟨_, rfl, h1, h2, h3⟩ | ⟨_, h1, _⟩
  · exact h1.seg h3 h2 _
  · exact h1.seg
theorem More.own {h0 h : Heap} {i cap sz n : Nat} {g : SL} {cs : List AV} (x : More h0 h i cap g sz n cs) : g.i = i ∨ h0.next ≤ g.i := by
  rcases x.is with ⟨_, rfl, _⟩ | ⟨h0, ⟨_, h1⟩, _⟩
  · exact .inl rfl
  · rcases h1 with ⟨_, rfl⟩ | ⟨_, _, _, _, _, h6, _⟩
    · cases h0
    · exact .inr h6
theorem More.fr {S : Nat → Prop} {h0 h h' : Heap} {i cap sz n : Nat} {g : SL} {cs : List AV} (x : More h0 h i cap g sz n cs) (f : Fram S h h') (hi : ¬ S i) (hg : ¬ S g.i) (hh : h0.next ≤ h.next) : More h0 h' i cap g sz n cs := by
  rcases x.is with ⟨h1, rfl, h3, h4, h5⟩ | ⟨h1, h2, h3, h4, h5⟩
  · exact ⟨.inl ⟨h1, rfl, h3.fr f h5 hi, h4, Nat.lt_of_lt_of_le h5 f.next⟩⟩
  · exact ⟨.inr ⟨h1, h2.fr f fun _ => hg, h3, h4.fr f (Nat.lt_of_lt_of_le h5 hh) hi, h5⟩⟩
theorem More.append {P : Program} {h0 h : Heap} {i cap sz n e : Nat} {g : SL} {cs ds : List AV} {A : Prop} (x : More h0 h i cap g sz n cs) (hd : ds.length = sz) (hp : allPlain ds = true) (hr : roomB P e (n + 1) = true) (hh : h0.next ≤ h.next) (h0i : i < h0.next)
    (ha : More h0 (happ h g sz 1 ds) i cap (g.app h.next 1) sz (n + 1) (cs ++ ds) → Fram (fun j => j = i ∨ h0.next ≤ j) h (happ h g sz 1 ds) → A) : ZApp P h g e sz 1 ds A := by
  rcases x.is with ⟨h1, rfl, h3, h4, h5⟩ | ⟨h1, h2, h3, h4, h5⟩
  · obtain ⟨c, c1, c2, c3⟩ := h3
    by_cases hlt : n < cap
    · have hb : Nat.ble (n + 1) cap = true := Nat.ble_eq_true_of_le hlt
      have hle : n * sz + sz ≤ cap * sz := by
        have := Nat.mul_le_mul_right sz (show n + 1 ≤ cap from hlt)
        rw [Nat.add_mul, Nat.one_mul] at this; exact this
      have e1 : happ h ⟨false, i, 0, n, cap, false⟩ sz 1 ds = hput h i (0 + n * sz) ds := by
        unfold happ
        rw [show Nat.beq 1 0 = false from rfl]
        simp only
        rw [hb]
      have e2 : SL.app ⟨false, i, 0, n, cap, false⟩ h.next 1 = ⟨false, i, 0, n + 1, cap, false⟩ := by
        unfold SL.app
        rw [show Nat.beq 1 0 = false from rfl]
        simp only
        rw [hb]
      rw [Nat.zero_add] at e1
      refine ⟨⟨fun _ => h1, fun _ e => (by cases e), fun _ _ _ => ?_, fun _ hc => ?_, fun _ _ _ e => (by cases e), fun _ _ hc => ?_⟩, hp, ?_⟩
      · refine ⟨h5, c, sz, false, false, c1, ?_⟩
        show 0 + n * sz + ds.length ≤ c.length
        rw [hd, c2]; omega
      · rcases hc with hc | hc
        · exact absurd hc (by show ¬ cap < n + 1; omega)
        · cases hc
      · exact absurd hc (by show ¬ cap < n + 1; omega)
      · rw [e1, e2] at ha
        refine ha ⟨.inl ⟨hlt, rfl, ⟨_, hput_get c1, ?_, ?_⟩, ?_, by rw [hput_next]; exact h5⟩⟩ (Fram.hput h _ _ fun _ => .inl rfl)
        · simp only [List.length_append, List.length_take, List.length_drop, hd, c2]; omega
        · rw [← h4, c3, ← List.append_assoc]
          exact List.take_left
        · rw [List.length_append, h4, hd, Nat.add_mul, Nat.one_mul]
    · have hcap : cap = n := by omega
      subst hcap
      have hb : Nat.ble (cap + 1) cap = false := by
        cases hq : Nat.ble (cap + 1) cap with
        | false => rfl
        | true => exact absurd (Nat.le_of_ble_eq_true hq) (by omega)
      have ec : (c.drop 0).take (cap * sz) = cs := by rw [List.drop_zero, ← h4]; exact c3
      have e1 : happ h ⟨false, i, 0, cap, cap, false⟩ sz 1 ds = h.newO (.cells (cs ++ ds) sz true false) := by
        unfold happ
        rw [show Nat.beq 1 0 = false from rfl]
        simp only
        rw [hb, c1]
        simp only
        rw [ec]
      have e2 : SL.app ⟨false, i, 0, cap, cap, false⟩ h.next 1 = ⟨false, h.next, 0, cap + 1, cap + 1, true⟩ := by
        unfold SL.app
        rw [show Nat.beq 1 0 = false from rfl]
        simp only
        rw [hb]
      have hl2 : (cs ++ ds).length = (cap + 1) * sz := by rw [List.length_append, h4, hd, Nat.add_mul, Nat.one_mul]
      refine ⟨⟨fun _ => h1, fun _ e => (by cases e), fun _ _ hc => ?_, fun _ hc => ?_, fun _ _ _ e => (by cases e), fun _ _ _ _ => ⟨c, cellsAt_of c1, ?_⟩⟩, hp, ?_⟩
      · exact absurd hc (by show ¬ cap + 1 ≤ cap; omega)
      · exact hr
      · rw [List.drop_zero, c2]; exact Nat.le_refl _
      · rw [e1, e2] at ha
        refine ha ⟨.inr ⟨rfl, ⟨hl2, .inr ⟨rfl, rfl, rfl, rfl, rfl, hh, Nat.lt_succ_self _, newO_get_self _ _⟩⟩, Nat.le_succ _, ?_, h0i⟩⟩ (Fram.newO _ _ _)
        rw [← h4, List.take_left]
        exact ⟨c, by rw [newO_get_ne (Nat.ne_of_lt h5)]; exact c1, c2, c3⟩
  · refine h2.append1 hh (by decide) (by rw [hd, Nat.one_mul]) hp hr fun g2 f hi => ha ⟨.inr ⟨?_, g2, by omega, ?_, h5⟩⟩ (f.mono fun j _ ⟨e1, e2⟩ => ?_)
    · rcases g2.2 with ⟨e, _⟩ | ⟨e, _⟩
      · omega
      · exact e
    · have hlen : cap * sz ≤ cs.length := by rw [h2.1]; exact Nat.mul_le_mul_right _ h3
      rw [List.take_append_of_le_length hlen]
      refine h4.fr f (Nat.lt_of_lt_of_le h5 hh) fun ⟨e1, e2⟩ => ?_
      rcases x.own with e | e
      · rcases h2.2 with ⟨_, rfl⟩ | ⟨_, _, _, _, _, h6, _⟩
        · cases e1
        · omega
      · omega
    · rcases h2.2 with ⟨_, rfl⟩ | ⟨_, _, _, _, _, h6, _⟩
      · cases e1
      · rw [e2]; exact .inr h6
structure Ext (h0 h : Heap) (b g : SL) (sz n : Nat) (cs : List AV) : Prop where
  is : (b.nil = true ∧ Grown h0 h g sz n cs) ∨ (b.nil = false ∧ b.i < h0.next ∧ More h0 h b.i b.cap g sz n cs)
theorem Ext.len {h0 h : Heap} {sz n : Nat} {b g : SL} {cs : List AV} (x : Ext h0 h b g sz n cs) : cs.length = n * sz := by
  rcases x.is with ⟨_, h⟩ | ⟨_, _, h⟩
  · exact h.1
  · exact h.len
theorem Ext.seg {h0 h : Heap} {sz n : Nat} {b g : SL} {cs : List AV} (x : Ext h0 h b g sz n cs) : Seg h g sz cs := by
  rcases x.is with ⟨_, h⟩ | ⟨_, _, h⟩
  · exact h.seg
  · exact h.seg
theorem Ext.own {h0 h : Heap} {sz n : Nat} {b g : SL} {cs : List AV} (x : Ext h0 h b g sz n cs) : g.nil = false → (b.nil = false ∧ g.i = b.i) ∨ h0.next ≤ g.i := fun e => by
  rcases x.is with ⟨_, ⟨_, h1⟩⟩ | ⟨e1, _, h⟩
  · rcases h1 with ⟨_, rfl⟩ | ⟨_, _, _, _, _, h6, _⟩
    · cases e
    · exact .inr h6
  · rcases h.own with h | h
    · exact .inl ⟨e1, h⟩
    · exact .inr h
theorem Ext.fr {S : Nat → Prop} {h0 h h' : Heap} {sz n : Nat} {b g : SL} {cs : List AV} (x : Ext h0 h b g sz n cs) (f : Fram S h h') (hi : b.nil = false → ¬ S b.i) (hg : ∀ j, h0.next ≤ j → g.nil = false → j = g.i → ¬ S j) (hh : h0.next ≤ h.next) : Ext h0 h' b g sz n cs := by
  rcases x.is with ⟨e, h1⟩ | ⟨e, h2, h1⟩
  · refine ⟨.inl ⟨e, h1.fr f fun e2 => ?_⟩⟩
    rcases h1.2 with ⟨_, rfl⟩ | ⟨_, _, _, _, _, h6, _⟩
    · cases e2
    · exact hg _ h6 e2 rfl
  · refine ⟨.inr ⟨e, h2, ?_⟩⟩
    rcases h1.is with ⟨h3, rfl, h4, h5, h6⟩ | ⟨h3, h4, h5, h6, h7⟩
    · exact h1.fr f (hi e) (hi e) hh
    · refine h1.fr f (hi e) ?_ hh
      rcases h4.2 with ⟨_, rfl⟩ | ⟨_, _, _, _, _, h8, _⟩
      · cases h3
      · exact hg _ h8 h3 rfl
theorem Ext.append {P : Program} {h0 h : Heap} {sz n e : Nat} {b g : SL} {cs ds : List AV} {A : Prop} (x : Ext h0 h b g sz n cs) (hd : ds.length = sz) (hp : allPlain ds = true) (hr : roomB P e (n + 1) = true) (hh : h0.next ≤ h.next)
    (ha : Ext h0 (happ h g sz 1 ds) b (g.app h.next 1) sz (n + 1) (cs ++ ds) → Fram (fun j => (b.nil = false ∧ j = b.i) ∨ h0.next ≤ j) h (happ h g sz 1 ds) → A) : ZApp P h g e sz 1 ds A := by
  rcases x.is with ⟨e1, h1⟩ | ⟨e1, h2, h1⟩
  · exact h1.append hh (by decide) (by rw [hd, Nat.one_mul]) hp hr fun g2 f => ha ⟨.inl ⟨e1, g2⟩⟩ (f.mono fun i _ h => .inr h)
  · exact h1.append hd hp hr hh h2 fun g2 f => ha ⟨.inr ⟨e1, h2, g2⟩⟩ (f.mono fun i _ h => h.imp (fun h => ⟨e1, h⟩) id)
end Go.X
namespace Go.X
open Go Go.RowKit
structure Cln (h0 h : Heap) (s : SL) (k : List Nat) : Prop where
  byts : Byts h s k
  own : s.nil = false → h0.next ≤ s.i ∧ s.o = 0 ∧ s.cap = k.length ∧ h.get s.i = some (.cells (ofBytes k) 1 s.ext false)
  nils : s.nil = true → s = nilSL
structure Ownd (h0 h : Heap) (s : SL) (k : List Nat) : Prop where
  byts : Byts h s k
  own : s.nil = false → h0.next ≤ s.i ∧ s.o = 0 ∧ s.ext = false ∧ Head h s.i s.cap 1 (ofBytes k)
  nils : s.nil = true → s = nilSL
theorem Ownd.fr {h0 h h' : Heap} {s : SL} {k : List Nat} {S : Nat → Prop} (x : Ownd h0 h s k) (f : Fram S h h') (hs : s.nil = false → ¬ S s.i) : Ownd h0 h' s k :=
  ⟨x.byts.fr f hs, fun e => by
    obtain ⟨h1, h2, h3, h4⟩ := x.own e
    exact ⟨h1, h2, h3, h4.fr f (x.byts.seg.lt e) (hs e)⟩, x.nils⟩
theorem Ownd.of {h0 h1 h : Heap} {s : SL} {k : List Nat} (x : Ownd h1 h s k) (hn : h0.next ≤ h1.next) : Ownd h0 h s k :=
  ⟨x.byts, fun e => by
    obtain ⟨h1, h2, h3, h4⟩ := x.own e
    exact ⟨Nat.le_trans hn h1, h2, h3, h4⟩, x.nils⟩
theorem Ownd.nil (h0 h : Heap) : Ownd h0 h nilSL [] := ⟨Byts.nil _ _, fun e => (by cases e), fun _ => rfl⟩
end Go.X
namespace Go.X
open Go Go.RowKit
section
variable {P : Program} {W : World} {G g : Nat} {cs : List AV} {bs : List Nat}
end
end Go.X
namespace Go.X
open Go Go.RowKit
noncomputable def allIs (v : AV) (o : Out) : Bool := Out.rec (motive := fun _ => Bool) (fun _ => false) (fun l _ => List.rec (motive := fun _ => Bool) true (fun x _ ih => cnd (eqRes x.1 (.val v)) ih false) l) o
theorem allIs_spec {v : AV} {o : Out} (h : allIs v o = true) : ∃ l g, o = .ok l g ∧ ∀ x, x ∈ l → x.1 = .val v := by
  cases o with
  | err n => cases h
  | ok l g =>
    refine ⟨l, g, rfl, ?_⟩
    have key : ∀ l : List (Res × THeap), (List.rec (motive := fun _ => Bool) true (fun x _ ih => cnd (eqRes x.1 (.val v)) ih false) l : Bool) = true → ∀ x, x ∈ l → x.1 = .val v := by
      intro l
      induction l with
      | nil => exact fun _ x hx => absurd hx List.not_mem_nil
      | cons a t ih =>
        intro h x hx
        have h2 : cnd (eqRes a.1 (.val v)) (List.rec (motive := fun _ => Bool) true (fun x _ ih => cnd (eqRes x.1 (.val v)) ih false) t) false = true := h
        rw [cnd_and] at h2
        rcases List.mem_cons.1 hx with e | e
        · rw [e]; exact eqRes_eq h2.1
        · exact ih h2.2 x e
    exact key l h
theorem VRs_ints_inv {E : Env} {q : IntKind} : ∀ (zs : List Int) (l : List Value), VRs E (zs.map fun z => AV.int q z) l → l = zs.map fun z => Value.int q z
  | [], l, h => by cases h; rfl
  | z :: zs, l, h => by
    cases h with
    | cons _ v _ m h1 h2 => cases h1; rw [VRs_ints_inv zs m h2]; rfl
section
variable {P : Program} {W W0 : World} {G : Nat}
theorem closed_is {H : Hints} {sums : Sums} {lf n : Nat} {f : FuncId} {v : AV} (hmo : P.follows .mixedOrders = true) (hG : P.globals.size = G) (hsz : G ≤ W.heap.size) (ht : G ≤ top) (hb : bodied P f = true)
    (hsum : SumsSound P W sums) (hW : 0 < W.heap.size ∨ ∀ f, H.join f ≤ 1) (hrun : allIs v ((xCall P H sums lf n f []).run 0 (startH G) Log.nil) = true) :
    Calls P f #[] W fun e W' => ∃ u E, e = .returned u ∧ VR E v u ∧ Below W.heap.size W W' := by
  obtain ⟨l, g, e, hl⟩ := allIs_spec hrun
  have hs := run_sat _ _ _ _ _ _ (fun r _ => r = .val v) e (start_WF ht) (Nat.zero_le _) hl
  refine Calls.mono (xCall_sound hsum hW hmo hb hs (start_rel hG hsz ht) (vs := #[]) .nil) fun e w' ⟨v, E', h', av, e1, s, r, hv, hp⟩ => ?_
  subst e1
  cases hp
  exact ⟨_, _, rfl, hv, r.below⟩
noncomputable def rowV (q : IntKind) (zs : List Int) : AV := .agg (zs.map fun z => AV.int q z)
def constZ (f : FuncId) (v : AV) : ZSums := fun g => match Nat.beq g f with | true => some (fun args K h => args = [] ∧ K (.any v) h) | false => none
def constX (f : FuncId) (v : AV) : Sums := fun g => match Nat.beq g f with | true => some (fun args k _ => match args with | [] => k v | _ => .fail 172) | false => none
theorem const_fit (f : FuncId) (v : AV) : SumFit (constZ f v) (constX f v) := by
  constructor
  · intro g hg
    unfold constZ at hg; unfold constX
    cases hb : Nat.beq g f with
    | true => rw [hb] at hg; cases hg
    | false => rfl
  · intro g s hg
    unfold constZ at hg; unfold constX
    cases hb : Nat.beq g f with
    | false => rw [hb] at hg; cases hg
    | true =>
      rw [hb] at hg
      cases hg
      refine ⟨_, rfl, ?_⟩
      rintro args K h hi ⟨rfl, hk⟩ kp k p hp
      have := hp _ h hi hk
      rwa [av_any] at this
theorem const_sound {f : FuncId} {q : IntKind} {zs : List Int} (hc : ∀ w, Below W0.heap.size W0 w → Calls P f #[] w fun e w' => e = .returned (.agg (zs.map fun z => Value.int q z).toArray) ∧ Below w.heap.size w w') : SumsSound P W0 (constX f (rowV q zs)) := by
  intro g s hg args k kp p E h w vs hb hs r hv
  unfold constX at hg
  cases hbq : Nat.beq g f with
  | false => rw [hbq] at hg; cases hg
  | true =>
    rw [hbq] at hg
    have := Nat.eq_of_beq_eq_true hbq
    subst this
    cases hg
    cases args with
    | cons => exact hs.elim
    | nil =>
      have e : vs = #[] := by
        obtain ⟨l⟩ := vs
        cases hv; rfl
      subst e
      refine Calls.mono (hc w r.below) fun e w' ⟨e1, hb'⟩ => ?_
      subst e1
      exact ⟨E, h, rowV q zs, .refl _ _, r.garbage hb', .agg _ _ (VRs_ints q zs), hs⟩
theorem law_int {S : ZSums} {sums : Sums} (hsum : SumsSound P W sums) (hS : SumFit S sums) (hmo : P.follows .mixedOrders = true) (hG : P.globals.size ≤ W.heap.size) {lf n : Nat} {f : FuncId} (hb : bodied P f = true) {q : IntKind} {z : Int}
    {args : List ZV} {vs : Array Value} (hv : VRs (absE W.heap.size) (avs args) vs.toList) (hz : zCall P S lf n f args (fun v _ => v.av = .int q z) (absH W)) :
    Calls P f vs W fun e W' => e = .returned (.int q z) ∧ Below W.heap.size W W' := by
  have hs : (xCall P noHints sums lf n f (avs args)).sat (fun r _ => r = .val (.int q z)) (absH W) :=
    (zCall_sound hS (lf := lf) n).call f args _ (absH W) (bodied_lt hb) rfl hz (fun _ => .fail 163) (fun v => .ret (.val v)) (fun r _ => r = .val (.int q z)) fun v h' _ hv => by
      show Res.val v.av = _
      rw [hv]
  refine Calls.mono (xCall_sound hsum (.inr fun f => Nat.zero_le _) hmo hb hs (abs_rel hG) hv) fun e w' ⟨v, E', h', av, e1, s, r, hv, hp⟩ => ?_
  subst e1
  cases hp
  cases hv
  exact ⟨rfl, r.below⟩
noncomputable def okSl (b : AV) (m : FM) : FM := b.onSlice m m (fun _ _ len cap _ => cnd (Nat.ble len cap) (cnd (Nat.ble len 1048576) m (.fail 173)) (.fail 173)) (.fail 173)
noncomputable def byteF (F : Nat → List Nat → (Nat → FM) → FM) (args : List AV) (k : KV) : FM :=
  just2 args fun a b => a.onInt (fun q n => kEq q .u64 (Int.rec (motive := fun _ => FM) (fun m => cnd (ltb m 18446744073709551616) (okSl b (bytesOfK b fun l => F m l fun r => k (.int .u64 (.ofNat r)))) (.fail 173)) (fun _ => .fail 173) n)) (.fail 173)
noncomputable def byteX (f : FuncId) (F : Nat → List Nat → (Nat → FM) → FM) (S : Sums) : Sums := fun g => cnd (Nat.beq g f) (some fun args k _ => byteF F args k) (S g)
theorem bytes_abs {E : Env} {h : Heap} {w : World} {p : Post} (r : Rel P W0 E h w) {a : AV} {v : Value} (ha : VR E a v) {kk : List Nat → FM} (hs : (okSl a (bytesOfK a kk)).sat p h) :
    ∃ (s : SL) (l : List Nat), VR (absE w.heap.size) s.av v ∧ Byts (absH w) s l ∧ l.length ≤ 1048576 ∧ (kk l).sat p h := by
  cases ha with
  | nils => exact ⟨⟨true, 0, 0, 0, 0, false⟩, [], .nils, Byts.nil _ _, by simp, hs⟩
  | emp a c => exact ⟨⟨true, 0, 0, 0, 0, true⟩, [], .emp _ _, Byts.nil _ _, by simp, hs⟩
  | slice i o len cap ext b x cc hi hx hcc =>
    subst hx
    have hs1 : (cnd (Nat.ble len cap) (cnd (Nat.ble len 1048576) (readCells i fun c => takeK len (dropL o c) fun l => bytesK l kk) (.fail 173)) (.fail 173)).sat p h := hs
    obtain ⟨_, hs1⟩ := cnd_sat hs1
    obtain ⟨hle, hs1⟩ := cnd_sat hs1
    have hle := ble_iff.1 hle
    obtain ⟨ao, hg, hs2⟩ := hs1
    obtain ⟨c, ho, hs3⟩ := onRead_sat hs2
    obtain ⟨hl, hs4⟩ := takeK_sat hs3
    rw [dropL_eq] at hl hs4
    obtain ⟨s, he, hb, hk⟩ := bytesK_sat _ _ hs4
    obtain ⟨vs, h1, h2, h3⟩ := (r.readAt hg ho hi).cells o len hl
    rw [he] at h2
    have h4 := map_ofBytes_inj h2
    have hbw := r.bound i b hi
    have hsl : s.length = len := by rw [← h1, h4]; simp
    refine ⟨⟨false, b, E.base i + o, len, cc, false⟩, s, .slice _ _ _ _ _ b _ cc (if_pos hbw) (by simp [absE]) (by simp [cnd]), ⟨⟨by rw [ofBytes_length, hsl]; show len = len * 1; omega, fun _ => hbw, fun _ => ?_⟩, hb⟩, by rw [hsl]; exact hle, hk⟩
    obtain ⟨cs, e, fr, pre, c1, rest, q1, q2, q3, q4⟩ := (r.readAt hg ho hi).ex
    refine ⟨cs.toList.map (absV w.heap.size), by unfold cellsAt; rw [absH_cells q1], ?_⟩
    have := take_drop_of (c := cs.toList.map (absV w.heap.size)) (l := ofBytes s) (o := E.base i + o) fun j u hu => by
      rw [ofBytes_eq, List.getElem?_map] at hu
      obtain ⟨y, hy, rfl⟩ := Option.map_eq_some_iff.1 hu
      have h5 := h3 j (.int .u8 (.ofNat y)) (by rw [h4, List.getElem?_map, hy]; rfl)
      rw [addr_add, cell_at q1] at h5
      rw [List.getElem?_map, Array.getElem?_toList, h5]; rfl
    rw [ofBytes_length, hsl] at this
    rw [Nat.mul_one]
    exact this
  | _ => exact False.elim hs
theorem byte_sound {sums : Sums} (hs0 : SumsSound P W0 sums) {f : FuncId} {F : Nat → List Nat → (Nat → FM) → FM} {fn : Nat → List Nat → Nat} (hF : ∀ a l k, F a l k = k (fn a l))
    (hc : ∀ w (a : Nat) (v : Value) (s : SL) (l : List Nat), Below W0.heap.size W0 w → a < 18446744073709551616 → VR (absE w.heap.size) s.av v → Byts (absH w) s l → l.length ≤ 1048576 →
      Calls P f #[.int .u64 (.ofNat a), v] w fun e w' => e = .returned (.int .u64 (.ofNat (fn a l))) ∧ Below w.heap.size w w') : SumsSound P W0 (byteX f F sums) := by
  intro g s hg args k kp p E h w vs hb hsat r hv
  have hg1 : cnd (Nat.beq g f) (some fun args k _ => byteF F args k) (sums g) = some s := hg
  cases hbq : Nat.beq g f with
  | false => rw [hbq, cnd_false] at hg1; exact hs0 g s hg1 args k kp p E h w vs hb hsat r hv
  | true =>
    rw [hbq, cnd_true] at hg1
    have := Nat.eq_of_beq_eq_true hbq
    subst this
    cases hg1
    obtain ⟨a, b, u, v, e, hu, hv2, hs1⟩ := just2_sat hv (show (byteF F args k).sat p h from hsat)
    cases hu with
    | int q n =>
      obtain ⟨hq, hs2⟩ := kEq_sat (m := Int.rec (motive := fun _ => FM) (fun m => cnd (ltb m 18446744073709551616) (okSl b (bytesOfK b fun l => F m l fun r => k (.int .u64 (.ofNat r)))) (.fail 173)) (fun _ => .fail 173) n) hs1
      subst hq
      cases n with
      | negSucc m => exact False.elim hs2
      | ofNat m =>
        obtain ⟨hm, hs3⟩ := cnd_sat (show (cnd (ltb m 18446744073709551616) (okSl b (bytesOfK b fun l => F m l fun r => k (.int .u64 (.ofNat r)))) (.fail 173)).sat p h from hs2)
        obtain ⟨s, l, h1, h2, h3, h4⟩ := bytes_abs r hv2 hs3
        rw [hF] at h4
        rw [toArr e]
        refine Calls.mono (hc w m v s l r.below (ltb_iff.1 hm) h1 h2 h3) fun e w' ⟨e1, hb'⟩ => ?_
        subst e1
        exact ⟨E, h, _, .refl _ _, r.garbage hb', .int _ _, h4⟩
    | _ => exact False.elim hs1
end
end Go.X
