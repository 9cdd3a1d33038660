/-
  PROVED: propositions over heaps whose values may be variables: loads, reads, operations that read are sound. Condition: the heap's names are without end.
-/
import Derived.Test.YtghpkpddmicleaaGreatDoorXe
set_option linter.unusedVariables false
set_option linter.unusedSimpArgs false

namespace Go.X
/-! ## Z: what programs do, said as propositions over heaps whose values may be variables -/

/-- a slice: nil, or of a name, from a cell on -/
structure SL where
  nil : Bool
  i : Nat
  o : Nat
  len : Nat
  cap : Nat
  ext : Bool
/-- (nil and ext: an empty slice, not nil, of no place that is known) -/
def SL.av (s : SL) : AV := match s.nil with | true => (match s.ext with | true => .emp | false => .nils) | false => .slice s.i s.o s.len s.cap s.ext
/-- is it nil -/
def SL.isNil (s : SL) : Bool := match s.nil with | true => (match s.ext with | true => false | false => true) | false => false
def SL.n (s : SL) : Nat := match s.nil with | true => 0 | false => s.len

inductive ZV where
  | any (a : AV)
  | bool (b : Bool)
  | int (q : IntKind) (n : Int)
  | str (s : List Nat)
  | pv (nil : Bool) (i o : Nat)
  | sl (s : SL)
  | mp (nil : Bool) (i : Nat)
  | fn (f : AFn) (first captured : List ZV)
  | iface (t : TypeId) (v : ZV)
  | agg (cs : List ZV)
  | tup (vs : List ZV)
def ZV.av : ZV → AV
  | .any a => a
  | .bool b => .bool b
  | .int q n => .int q n
  | .str s => .str s
  | .pv nil i o => match nil with | true => .nilp | false => .ptr i o
  | .sl s => s.av
  | .mp nil i => match nil with | true => .nilMap | false => .map i
  | .fn f a c => .func f (avs a) (avs c)
  | .iface t v => .iface t v.av
  | .agg cs => .agg (avs cs)
  | .tup vs => .tuple (avs vs)
where avs : List ZV → List AV
  | [] => []
  | v :: l => v.av :: avs l
def avs (l : List ZV) : List AV := ZV.av.avs l
@[simp] theorem avs_nil : avs [] = [] := rfl
@[simp] theorem avs_cons (v : ZV) (l : List ZV) : avs (v :: l) = v.av :: avs l := rfl
theorem avs_map (l : List ZV) : avs l = l.map ZV.av := by
  induction l with
  | nil => rfl
  | cons v l ih => simp [ih]
theorem avs_length (l : List ZV) : (avs l).length = l.length := by rw [avs_map]; simp
theorem avs_append (a b : List ZV) : avs (a ++ b) = avs a ++ avs b := by simp [avs_map]
@[simp] theorem av_fn (f : AFn) (a c : List ZV) : (ZV.fn f a c).av = .func f (avs a) (avs c) := by rw [ZV.av]; rfl
@[simp] theorem av_iface (t : TypeId) (v : ZV) : (ZV.iface t v).av = .iface t v.av := by rw [ZV.av]
@[simp] theorem av_agg (cs : List ZV) : (ZV.agg cs).av = .agg (avs cs) := by rw [ZV.av]; rfl
@[simp] theorem av_tup (cs : List ZV) : (ZV.tup cs).av = .tuple (avs cs) := by rw [ZV.av]; rfl
@[simp] theorem av_any (a : AV) : (ZV.any a).av = a := by rw [ZV.av]
@[simp] theorem av_bool (b : Bool) : (ZV.bool b).av = .bool b := by rw [ZV.av]
@[simp] theorem av_int (q : IntKind) (n : Int) : (ZV.int q n).av = .int q n := by rw [ZV.av]
@[simp] theorem av_str (s : List Nat) : (ZV.str s).av = .str s := by rw [ZV.av]
@[simp] theorem av_pvf (i o : Nat) : (ZV.pv false i o).av = .ptr i o := by rw [ZV.av]
@[simp] theorem av_pvt (i o : Nat) : (ZV.pv true i o).av = .nilp := by rw [ZV.av]
@[simp] theorem av_sl (s : SL) : (ZV.sl s).av = s.av := by rw [ZV.av]
@[simp] theorem av_mpf (i : Nat) : (ZV.mp false i).av = .map i := by rw [ZV.av]
@[simp] theorem av_mpt (i : Nat) : (ZV.mp true i).av = .nilMap := by rw [ZV.av]

/-! ### from values that are known -/
mutual
def zOf : AV → ZV
  | .bool b => .bool b
  | .int q n => .int q n
  | .str s => .str s
  | .nilp => .pv true 0 0
  | .ptr i o => .pv false i o
  | .nils => .sl ⟨true, 0, 0, 0, 0, false⟩
  | .slice i o l c e => .sl ⟨false, i, o, l, c, e⟩
  | .nilMap => .mp true 0
  | .map i => .mp false i
  | .func f a c => .fn f (zOfs a) (zOfs c)
  | .iface t v => .iface t (zOf v)
  | .agg cs => .agg (zOfs cs)
  | .tuple vs => .tup (zOfs vs)
  | .junk => .any .junk
  | .emp => .sl ⟨true, 0, 0, 0, 0, true⟩
  | .nilFunc => .any .nilFunc
  | .nilIface => .any .nilIface
def zOfs : List AV → List ZV
  | [] => []
  | v :: l => zOf v :: zOfs l
end
mutual
theorem zOf_av : ∀ a : AV, (zOf a).av = a
  | .bool b => by simp [zOf]
  | .int q n => by simp [zOf]
  | .str s => by simp [zOf]
  | .nilp => by simp [zOf]
  | .ptr i o => by simp [zOf]
  | .nils => by simp [zOf, SL.av]
  | .slice i o l c e => by simp [zOf, SL.av]
  | .nilMap => by simp [zOf]
  | .map i => by simp [zOf]
  | .func f a c => by simp [zOf, zOfs_av a, zOfs_av c]
  | .iface t v => by simp [zOf, zOf_av v]
  | .agg cs => by simp [zOf, zOfs_av cs]
  | .tuple vs => by simp [zOf, zOfs_av vs]
  | .junk => by simp [zOf]
  | .emp => by simp [zOf, SL.av]
  | .nilFunc => by simp [zOf]
  | .nilIface => by simp [zOf]
theorem zOfs_av : ∀ l : List AV, avs (zOfs l) = l
  | [] => by simp [zOfs]
  | v :: l => by simp [zOfs, zOf_av v, zOfs_av l]
end

/-! ### heaps -/
/-- the cells of a name that can be read -/
def cellsAt (h : Heap) (i : Nat) : Option (List AV) := match h.get i with
  | some (.cells c _ _ _) => some c
  | some (.ro c) => some c
  | _ => none
def cellAt (h : Heap) (i o : Nat) : Option AV := (cellsAt h i).bind fun c => c[o]?
/-- a name's cells, vs from cell o on -/
def hput (h : Heap) (i o : Nat) (vs : List AV) : Heap := match h.get i with
  | some (.cells c e g m) => h.put i (some (.cells (c.take o ++ (vs ++ c.drop (o + vs.length))) e g m))
  | _ => h
/-- a name whose cells up to n can be written -/
def canPut (h : Heap) (i n : Nat) : Prop := i < h.next ∧ ∃ c e g m, h.get i = some (.cells c e g m) ∧ n ≤ c.length

abbrev ZK := ZV → Heap → Prop
/-- temporaries -/
abbrev ZT := List ZV
def zget (z : ZT) (s : Nat) : ZV := match z, s with
  | [], _ => .tup []
  | v :: _, 0 => v
  | _ :: l, n + 1 => zget l n
def zset (z : ZT) (s : Nat) (v : ZV) : ZT := match z, s with
  | [], 0 => [v]
  | [], n + 1 => .tup [] :: zset [] n v
  | _ :: l, 0 => v :: l
  | w :: l, n + 1 => w :: zset l n v
theorem zget_zset (z : ZT) (s r : Nat) (v : ZV) : zget (zset z s v) r = if r = s then v else zget z r := by
  induction s generalizing z r with
  | zero =>
    cases z <;> cases r <;> simp [zset, zget]
  | succ s ih =>
    cases z with
    | nil =>
      cases r with
      | zero => simp [zset, zget]
      | succ r => simp only [zset, zget]; rw [ih]; by_cases e : r = s <;> simp [e, zget]
    | cons w l =>
      cases r with
      | zero => simp [zset, zget]
      | succ r => simp only [zset, zget]; rw [ih]; by_cases e : r = s <;> simp [e]
/-- so many of them -/
def padT : Nat → ZT → ZT
  | 0, z => z
  | n + 1, [] => .tup [] :: padT n []
  | n + 1, v :: z => v :: padT n z
theorem zget_padT (n : Nat) (z : ZT) (s : Nat) : zget (padT n z) s = zget z s := by
  induction n generalizing z s with
  | zero => rfl
  | succ n ih =>
    cases z with
    | nil =>
      cases s with
      | zero => rfl
      | succ s => exact (ih [] s).trans (by cases s <;> rfl)
    | cons v z =>
      cases s with
      | zero => rfl
      | succ s => exact ih z s
/-- what a state of temporaries is, seen so -/
structure ZS (D : List ADef) (z : ZT) (st : St) : Prop where
  at' : ∀ s, s < 4096 → st.tmps.at s = (zget z s).av
  defers : st.defers = D
  na : st.u = .na
/-! ### propositions that name what they ask -/
/-- a test -/
structure ZIf (b : Bool) (A B : Prop) : Prop where
  yes : b = true → A
  no : b = false → B
/-- a number as it is kept -/
inductive ZW (q : IntKind) (e : Int) (K : Int → Prop) : Prop where
  | mk (h : K (q.wrap e))
/-- an element's place: of so many -/
inductive ZIdx (n : Int) (len : Nat) (K : Nat → Prop) : Prop where
  | mk (m : Nat) (e : n = m) (lt : m < len) (h : K m)
/-- a number that is none below nought -/
inductive ZNat (n : Int) (K : Nat → Prop) : Prop where
  | mk (m : Nat) (e : n = m) (h : K m)
/-- a thing that is asked for -/
structure ZAnd (A B : Prop) : Prop where
  asked : A
  then' : B
inductive ZLdI (h : Heap) (i o : Nat) (q : IntKind) (K : Int → Prop) : Prop where
  | mk (n : Int) (e : cellAt h i o = some (.int q n)) (k : K n)
inductive ZLdB (h : Heap) (i o : Nat) (K : Bool → Prop) : Prop where
  | mk (b : Bool) (e : cellAt h i o = some (.bool b)) (k : K b)
inductive ZLdS (h : Heap) (i o : Nat) (K : List Nat → Prop) : Prop where
  | mk (s : List Nat) (e : cellAt h i o = some (.str s)) (k : K s)
inductive ZLdP (h : Heap) (i o : Nat) (K : Bool → Nat → Nat → Prop) : Prop where
  | mk (nil : Bool) (j p : Nat) (e : cellAt h i o = some (ZV.pv nil j p).av) (k : K nil j p)
inductive ZLdL (h : Heap) (i o : Nat) (K : SL → Prop) : Prop where
  | mk (s : SL) (e : cellAt h i o = some s.av) (k : K s)
inductive ZLdM (h : Heap) (i o : Nat) (K : Bool → Nat → Prop) : Prop where
  | mk (nil : Bool) (j : Nat) (e : cellAt h i o = some (ZV.mp nil j).av) (k : K nil j)
inductive ZLdA (h : Heap) (i o : Nat) (K : AV → Prop) : Prop where
  | mk (a : AV) (p : a.plainC = true) (e : cellAt h i o = some a) (k : K a)
end Go.X

namespace Go.X
section
variable (P : Program)

noncomputable def zEv (z : ZT) (x : Operand) : ZV := match x with
  | .tmp s => match ltb s 4096 with | true => zget z s | false => .any .junk
  | .const v => zOf (ofValue v)
  | .global g => match ltb g P.globals.size with | true => .pv false g 0 | false => .any .junk
  | .func f => .fn (.plain (.func f)) [] []
noncomputable def zEvs (z : ZT) (l : List Operand) : List ZV := match l with | [] => [] | x :: r => zEv P z x :: zEvs z r
noncomputable def zEvo (z : ZT) (x : Option Operand) : Option ZV := match x with | none => none | some y => some (zEv P z y)

/-! ### operations that leave the heap as it is -/
/-- shapes of cells -/
inductive Sh where | I (q : IntKind) | B | S | P | L | M | A
def shapeOf (t : TypeId) : Sh := match P.underlying t with
  | some (.int q) => .I q
  | some .bool => .B
  | some .string => .S
  | some (.pointer _) => .P
  | some (.slice _) => .L
  | some (.map _ _) => .M
  | _ => .A
/-- the shapes of a type's cells -/
def shapesOf (n : Nat) (t : TypeId) : Option (List Sh) := match n with
  | 0 => none
  | n + 1 => match P.underlying t with
    | some (.struct fs) => fs.toList.foldr (fun f r => match shapesOf n f.type, r with | some a, some b => some (a ++ b) | _, _ => none) (some [])
    | some (.array m e) => match shapesOf n e with | some a => some (List.replicate m a).flatten | none => none
    | _ => some [shapeOf P t]
def zLd1 (s : Sh) (h : Heap) (i o : Nat) (K : ZV → Prop) : Prop := match s with
  | .I q => ZLdI h i o q fun n => K (.int q n)
  | .B => ZLdB h i o fun b => K (.bool b)
  | .S => ZLdS h i o fun s => K (.str s)
  | .P => ZLdP h i o fun n j p => K (.pv n j p)
  | .L => ZLdL h i o fun s => K (.sl s)
  | .M => ZLdM h i o fun n j => K (.mp n j)
  | .A => ZLdA h i o fun a => K (.any a)
def zLds (l : List Sh) (h : Heap) (i o : Nat) (K : List ZV → Prop) : Prop := match l with
  | [] => K []
  | s :: r => zLd1 s h i o fun v => zLds r h i (o + 1) fun vs => K (v :: vs)
theorem zLd1_spec {s : Sh} {h : Heap} {i o : Nat} {K : ZV → Prop} (hs : zLd1 s h i o K) : ∃ v, cellAt h i o = some v.av ∧ v.av.plainC = true ∧ K v := by
  cases s with
  | I q => obtain ⟨n, e, k⟩ := hs; exact ⟨_, by simpa using e, by simp; rfl, k⟩
  | B => obtain ⟨n, e, k⟩ := hs; exact ⟨_, by simpa using e, by simp; rfl, k⟩
  | S => obtain ⟨n, e, k⟩ := hs; exact ⟨_, by simpa using e, by simp; rfl, k⟩
  | P => obtain ⟨n, j, p, e, k⟩ := hs; exact ⟨_, e, by cases n <;> simp <;> rfl, k⟩
  | L => obtain ⟨s, e, k⟩ := hs; exact ⟨_, by simpa using e, by obtain ⟨n, _, _, _, _, x⟩ := s; cases n <;> cases x <;> simp [SL.av] <;> rfl, k⟩
  | M => obtain ⟨n, j, e, k⟩ := hs; exact ⟨_, e, by cases n <;> simp <;> rfl, k⟩
  | A => obtain ⟨a, p, e, k⟩ := hs; exact ⟨.any a, by simpa using e, by simpa using p, k⟩
theorem cellAt_some {h : Heap} {i o : Nat} {a : AV} (e : cellAt h i o = some a) : ∃ c, cellsAt h i = some c ∧ c[o]? = some a := by
  unfold cellAt at e
  cases hc : cellsAt h i with
  | none => rw [hc] at e; cases e
  | some c => rw [hc] at e; exact ⟨c, rfl, e⟩
theorem zLds_spec {h : Heap} {i : Nat} : ∀ {l : List Sh} {o : Nat} {K : List ZV → Prop}, zLds l h i o K → ∃ vs, vs.length = l.length ∧ K vs ∧ ∀ j, j < l.length → ∃ v, vs[j]? = some v ∧ cellAt h i (o + j) = some v.av
  | [], o, K, hs => ⟨[], rfl, hs, fun j hj => absurd hj (Nat.not_lt_zero _)⟩
  | s :: r, o, K, hs => by
    obtain ⟨v, e, _, k⟩ := zLd1_spec hs
    obtain ⟨vs, hl, hk, hall⟩ := zLds_spec k
    refine ⟨v :: vs, by simp [hl], hk, fun j hj => ?_⟩
    cases j with
    | zero => exact ⟨v, rfl, e⟩
    | succ j =>
      obtain ⟨u, h1, h2⟩ := hall j (by simpa using hj)
      exact ⟨u, by simpa using h1, by rw [show o + (j + 1) = o + 1 + j by omega]; exact h2⟩
def zLoad (t : TypeId) (i o : Nat) (h : Heap) (K : ZV → Prop) : Prop := match isAggO P t with
  | some true => match shapesOf P 8 t, szO P t with
    | some l, some n => match Nat.beq l.length n, l with
      | true, s :: r => zLds (s :: r) h i o fun vs => K (.agg vs)
      | _, _ => False
    | _, _ => False
  | some false => zLd1 (shapeOf P t) h i o K
  | none => False
theorem readCells_sat {h : Heap} {i : Nat} {c : List AV} {k : List AV → FM} {p : Post} (e : cellsAt h i = some c) (hs : (k c).sat p h) : (readCells i k).sat p h := by
  unfold cellsAt at e
  cases hg : h.get i with
  | none => rw [hg] at e; cases e
  | some o =>
    rw [hg] at e
    have e2 : o.onRead k (.fail 9) = k c := by
      cases o <;> simp at e <;> subst e <;> rfl
    refine ⟨o, hg, ?_⟩
    show (o.onRead k (.fail 9)).sat p h
    rw [e2]; exact hs
theorem drop_take_of {c : List AV} : ∀ {vs : List ZV} {o : Nat}, (∀ j, j < vs.length → ∃ v, vs[j]? = some v ∧ c[o + j]? = some v.av) → (c.drop o).take vs.length = avs vs ∧ (vs ≠ [] → vs.length ≤ (c.drop o).length)
  | [], o, _ => ⟨by simp, fun h => absurd rfl h⟩
  | v :: vs, o, hall => by
    obtain ⟨u, h1, h2⟩ := hall 0 (by simp)
    simp only [List.getElem?_cons_zero, Option.some.injEq] at h1
    subst h1
    have ih := drop_take_of (c := c) (vs := vs) (o := o + 1) fun j hj => by
      obtain ⟨w, h3, h4⟩ := hall (j + 1) (by simpa using hj)
      exact ⟨w, by simpa using h3, by rw [show o + 1 + j = o + (j + 1) by omega]; exact h4⟩
    simp only [Nat.add_zero] at h2
    obtain ⟨hlt, he⟩ := List.getElem?_eq_some_iff.1 h2
    have hd : c.drop o = v.av :: c.drop (o + 1) := by rw [← he]; exact List.drop_eq_getElem_cons hlt
    refine ⟨?_, fun _ => ?_⟩
    · rw [hd]
      simp only [List.length_cons, List.take_succ_cons, avs_cons, ih.1]
    · rw [hd]
      simp only [List.length_cons]
      cases vs with
      | nil => simp
      | cons w r => have := ih.2 (by simp); omega
theorem zLoad_sound {t : TypeId} {i o : Nat} {h : Heap} {K : ZV → Prop} (hs : zLoad P t i o h K) : ∃ v, K v ∧ ∀ (k : KV) (p : Post), (k v.av).sat p h → (loadC P t i o k).sat p h := by
  unfold zLoad at hs
  cases ha : isAggO P t with
  | none => rw [ha] at hs; exact hs.elim
  | some b =>
    rw [ha] at hs
    cases b with
    | false =>
      obtain ⟨v, e, _, k⟩ := zLd1_spec hs
      obtain ⟨c, hc, ho⟩ := cellAt_some e
      refine ⟨v, k, fun kk p hk => readCells_sat hc ?_⟩
      unfold partK
      rw [ha]
      show (optM (nthL c o) (.fail 17) kk).sat p h
      rw [nthL_eq, ho]; exact hk
    | true =>
      cases hsh : shapesOf P 8 t with
      | none => rw [hsh] at hs; exact hs.elim
      | some l =>
        cases hsz : szO P t with
        | none => rw [hsh, hsz] at hs; exact hs.elim
        | some n =>
          rw [hsh, hsz] at hs
          simp only at hs
          cases hb : Nat.beq l.length n with
          | false => rw [hb] at hs; exact hs.elim
          | true =>
            rw [hb] at hs
            cases l with
            | nil => exact hs.elim
            | cons s r =>
              obtain ⟨vs, hl, hk, hall⟩ := zLds_spec hs
              obtain ⟨v0, _, e0⟩ := hall 0 (by simp)
              obtain ⟨c, hc, _⟩ := cellAt_some e0
              have hall' : ∀ j, j < vs.length → ∃ v, vs[j]? = some v ∧ c[o + j]? = some v.av := fun j hj => by
                obtain ⟨v, h1, h2⟩ := hall j (by omega)
                unfold cellAt at h2; rw [hc] at h2
                exact ⟨v, h1, h2⟩
              obtain ⟨h1, h2⟩ := drop_take_of hall'
              have hn : n = vs.length := by have := natbeq hb; omega
              refine ⟨.agg vs, hk, fun kk p hkk => readCells_sat hc ?_⟩
              unfold partK
              rw [ha]
              show (optM (szO P t) (.fail 17) fun n => takeK n (dropL o c) fun l => kk (.agg l)).sat p h
              rw [hsz]
              show (takeK n (dropL o c) fun l => kk (.agg l)).sat p h
              have hne : vs ≠ [] := fun e => by rw [e] at hl; simp at hl
              rw [takeK_eq, dropL_eq, if_pos (by rw [hn]; exact h2 hne), hn, h1]
              simpa using hkk
end
end Go.X

namespace Go.X
/-! ### operations that only read -/
/-- a value read off a map -/
noncomputable def mlook (es : List (AV × AV)) (k : AV) : Option AV := match es with
  | [] => none
  | e :: r => match eqAV k e.1 with | true => some e.2 | false => mlook r k
/-- a key that can be held against all keys there -/
noncomputable def keyFit (k : AV) : AV → Bool
  | .int r _ => match k with | .int q _ => Nat.beq (kindN q) (kindN r) | _ => false
  | .str _ => match k with | .str _ => true | _ => false
  | _ => false
noncomputable def keysFit (es : List (AV × AV)) (k : AV) : Bool := es.all fun e => keyFit k e.1
inductive ZLook (h : Heap) (nil : Bool) (i : Nat) (key : AV) (A : AV → Prop) (B : Prop) : Prop where
  | mk (hn : nil = true → B) (hm : nil = false → ∃ es ver, h.get i = some (.map es ver) ∧ keysFit es key = true ∧ (∀ v, mlook es key = some v → A v) ∧ (mlook es key = none → B))
inductive ZAs (a : AV) (s : Sh) (K : ZV → Prop) : Prop where
  | I (q : IntKind) (n : Int) (hs : s = .I q) (e : a = .int q n) (k : K (.int q n))
  | B (b : Bool) (hs : s = .B) (e : a = .bool b) (k : K (.bool b))
  | S (l : List Nat) (hs : s = .S) (e : a = .str l) (k : K (.str l))
  | P (n : Bool) (j p : Nat) (hs : s = .P) (e : a = (ZV.pv n j p).av) (k : K (.pv n j p))
  | L (l : SL) (hs : s = .L) (e : a = l.av) (k : K (.sl l))
  | M (n : Bool) (j : Nat) (hs : s = .M) (e : a = (ZV.mp n j).av) (k : K (.mp n j))
  | A (hs : s = .A) (p : a.plainC = true) (k : K (.any a))
theorem ZAs.val {a : AV} {s : Sh} {K : ZV → Prop} (h : ZAs a s K) : ∃ v, a = v.av ∧ K v := by
  cases h with
  | I q n hs e k => exact ⟨_, by simpa using e, k⟩
  | B b hs e k => exact ⟨_, by simpa using e, k⟩
  | S l hs e k => exact ⟨_, by simpa using e, k⟩
  | P n j p hs e k => exact ⟨_, e, k⟩
  | L l hs e k => exact ⟨_, by simpa using e, k⟩
  | M n j hs e k => exact ⟨_, e, k⟩
  | A hs p k => exact ⟨.any a, by simp, k⟩
/-- a struct out of a map -/
inductive ZAsAgg (a : AV) (K : List AV → Prop) : Prop where
  | mk (cs : List AV) (e : a = .agg cs) (k : K cs)
def isNilIf : AV → Bool | .nilIface => true | _ => false
def isIf : AV → Bool | .nilIface => true | .iface _ _ => true | _ => false
def isNilFn : AV → Bool | .nilFunc => true | _ => false
def isFn : AV → Bool | .nilFunc => true | .func _ _ _ => true | _ => false
def okRef : AV → Bool
  | .ptr _ _ => true
  | .iface _ _ => true
  | .func (.plain (.func _)) _ _ => true
  | .func (.yield _) _ _ => true
  | _ => false
/-- a name whose cells no string shares -/
def plainAt (h : Heap) (i : Nat) : Prop := ∃ c e g, h.get i = some (.cells c e g false)
theorem ZLook.nilCase {h : Heap} {nil : Bool} {i : Nat} {key : AV} {A : AV → Prop} {B : Prop} (s : ZLook h nil i key A B) : nil = true → B := by cases s; assumption
theorem ZLook.mapCase {h : Heap} {nil : Bool} {i : Nat} {key : AV} {A : AV → Prop} {B : Prop} (s : ZLook h nil i key A B) : nil = false → ∃ es ver, h.get i = some (.map es ver) ∧ keysFit es key = true ∧ (∀ v, mlook es key = some v → A v) ∧ (mlook es key = none → B) := by cases s; assumption
/-- bytes that a slice shows -/
inductive ZBytes (h : Heap) (s : SL) (K : List Nat → Prop) : Prop where
  | mk (l : List Nat) (hn : s.nil = true → l = []) (hs : s.nil = false → ∃ c, cellsAt h s.i = some c ∧ (c.drop s.o).take s.len = ofBytes l ∧ s.len ≤ (c.drop s.o).length) (hb : ∀ x, x ∈ l → x < 256) (k : K l)
section
variable (P : Program)
noncomputable def zInt (op : BinOp) (q : IntKind) (n m : Int) (K : ZV → Prop) : Prop := match op with
  | .add => ZW q (n + m) fun r => K (.int q r)
  | .sub => ZW q (n - m) fun r => K (.int q r)
  | .mul => ZW q (n * m) fun r => K (.int q r)
  | .quo => ZAnd (m ≠ 0) (ZW q (n.tdiv m) fun r => K (.int q r))
  | .rem => ZAnd (m ≠ 0) (K (.int q (n.tmod m)))
  | .and => ZW q (.ofNat (Nat.land (toU q n) (toU q m))) fun r => K (.int q r)
  | .or => ZW q (.ofNat (Nat.lor (toU q n) (toU q m))) fun r => K (.int q r)
  | .xor => ZW q (.ofNat (Nat.xor (toU q n) (toU q m))) fun r => K (.int q r)
  | .andNot => ZW q (.ofNat (Nat.land (toU q n) (Nat.xor (toU q m) (Nat.sub (Nat.pow 2 (kbits q)) 1)))) fun r => K (.int q r)
  | .shl => ZNat m fun j => ZW q (n * Int.ofNat (Nat.pow 2 (cnd (Nat.ble j (kbits q)) j (kbits q)))) fun r => K (.int q r)
  | .shr => ZNat m fun j => K (.int q (n.fdiv (Int.ofNat (Nat.pow 2 (cnd (Nat.ble j (kbits q)) j (kbits q))))))
  | .eql => K (.bool (decide (n = m)))
  | .neq => K (.bool (!decide (n = m)))
  | .lss => K (.bool (decide (n < m)))
  | .leq => K (.bool (decide (n ≤ m)))
  | .gtr => K (.bool (decide (m < n)))
  | .geq => K (.bool (decide (m ≤ n)))
noncomputable def zStr (op : BinOp) (a b : List Nat) (K : ZV → Prop) : Prop := match op with
  | .add => ZAnd (a.length + b.length ≤ most) (K (.str (a ++ b)))
  | .eql => K (.bool (decide (a = b)))
  | .neq => K (.bool (!decide (a = b)))
  | .lss => K (.bool (bytesLt a b))
  | .leq => K (.bool (!bytesLt b a))
  | .gtr => K (.bool (bytesLt b a))
  | .geq => K (.bool (!bytesLt a b))
  | _ => False
/-- the equality of two values that are neither numbers nor strings -/
noncomputable def zEq (t : TypeId) (h : Heap) (a b : ZV) (K : Bool → Prop) : Prop := match a, b with
  | .bool x, .bool y => match Nat.beq (tagOf P t) 1 with | true => K (decide (x = y)) | false => False
  | .pv n i o, .pv m j p => match Nat.beq (tagOf P t) 4 with
    | true => cnd m (K n) (cnd n (K m) (match (elemP P t).bind (szO P) with
      | some (_ + 1) => ZAnd (i = j ∨ (plainAt h i ∧ plainAt h j)) (K (decide (i = j ∧ o = p)))
      | _ => False))
    | false => False
  | .sl x, .sl y => match Nat.beq (tagOf P t) 9 with | true => cnd y.isNil (K x.isNil) (cnd x.isNil (K y.isNil) False) | false => False
  | .mp n _, .mp m _ => match Nat.beq (tagOf P t) 10 with | true => cnd m (K n) (cnd n (K m) False) | false => False
  | .fn _ _ _, .any .nilFunc => match Nat.beq (tagOf P t) 11 with | true => K false | false => False
  | .any a, .any .nilFunc => match Nat.beq (tagOf P t) 11 with | true => ZAnd (isFn a = true) (K (isNilFn a)) | false => False
  | .iface _ _, .any .nilIface => match Nat.beq (tagOf P t) 6 with | true => K false | false => False
  | .any a, .any .nilIface => match Nat.beq (tagOf P t) 6 with | true => ZAnd (isIf a = true) (K (isNilIf a)) | false => False
  | .iface t1 (.int q n), .iface t2 (.int r m) => match Nat.beq (tagOf P t) 6 with
    | true => match Nat.beq t1 t2 with
      | true => match cmpO P t1, Nat.beq (tagOf P t1) 2, Nat.beq (kindN q) (kindN r) with | some true, true, true => K (decide (n = m)) | _, _, _ => False
      | false => K false
    | false => False
  | _, _ => False
noncomputable def zBin (lit : Bool) (op : BinOp) (t : TypeId) (h : Heap) (a b : ZV) (K : ZV → Prop) : Prop := match a, b with
  | .int q n, .int r m => match op with
    | .shl => zInt op q n m K
    | .shr => zInt op q n m K
    | _ => match Nat.beq (kindN q) (kindN r) with | true => zInt op q n m K | false => False
  | .str x, .str y => zStr op x y K
  | .int _ _, _ => False
  | .str _, _ => False
  | a, b => match lit, op with
    | true, .eql => zEq P t h a b fun r => K (.bool r)
    | true, .neq => zEq P t h a b fun r => K (.bool (!r))
    | false, .eql => (match a, b with | .any _, .any .nilIface => False | _, _ => zEq P t h a b fun r => K (.bool r))
    | false, .neq => (match a, b with | .any _, .any .nilIface => False | _, _ => zEq P t h a b fun r => K (.bool (!r)))
    | _, _ => False
end
section
variable {P : Program} {h : Heap}
/-- an operation that reads, said of its value -/
def RdOk (h : Heap) (K : ZV → Prop) (m : KV → FM) : Prop := ∃ v, K v ∧ ∀ (k : KV) (p : Post), (k v.av).sat p h → (m k).sat p h
theorem RdOk.val {K : ZV → Prop} {m : KV → FM} (v : ZV) (hk : K v) (e : ∀ k, m k = k v.av) : RdOk h K m := ⟨v, hk, fun k p hs => by rw [e]; exact hs⟩
/-- .. whatever the heap -/
def RdEq (K : ZV → Prop) (m : KV → FM) : Prop := ∃ v, K v ∧ ∀ k, m k = k v.av
theorem RdEq.val {K : ZV → Prop} {m : KV → FM} (v : ZV) (hk : K v) (e : ∀ k, m k = k v.av) : RdEq K m := ⟨v, hk, e⟩
theorem RdEq.ok {K : ZV → Prop} {m : KV → FM} (r : RdEq K m) : RdOk h K m := by
  obtain ⟨v, hk, e⟩ := r
  exact ⟨v, hk, fun k p hs => by rw [e]; exact hs⟩
theorem RdEq.eq {K : ZV → Prop} {m m' : KV → FM} (e : ∀ k, m k = m' k) (r : RdEq K m') : RdEq K m := by
  obtain ⟨v, hk, e2⟩ := r
  exact ⟨v, hk, fun k => (e k).trans (e2 k)⟩
theorem kEq_true {q r : IntKind} (e : Nat.beq (kindN q) (kindN r) = true) (m : FM) : kEq q r m = m := by unfold kEq; rw [e]; rfl
theorem eqI_false_of {m : Int} (h : m ≠ 0) : eqI m 0 = false := by rw [eqI_dec]; simp [h]
theorem zInt_sound {op : BinOp} {q r : IntKind} {n m : Int} {K : ZV → Prop} (hk : op = .shl ∨ op = .shr ∨ Nat.beq (kindN q) (kindN r) = true) (hs : zInt op q n m K) : RdOk h K (fun k => intBin op q r n m k) := by
  have key : op ≠ .shl → op ≠ .shr → Nat.beq (kindN q) (kindN r) = true := fun a b => by
    rcases hk with e | e | e
    · exact absurd e a
    · exact absurd e b
    · exact e
  cases op with
  | add => obtain ⟨hs⟩ := hs; exact .val _ hs fun k => by show kEq q r (bAdd q n m k) = _; rw [kEq_true (key (by simp) (by simp))]; unfold bAdd; rw [retI_eq, addI_eq]; simp
  | sub => obtain ⟨hs⟩ := hs; exact .val _ hs fun k => by show kEq q r (bSub q n m k) = _; rw [kEq_true (key (by simp) (by simp))]; unfold bSub; rw [retI_eq, addI_eq, negI_eq]; simp [Int.sub_eq_add_neg]
  | mul => obtain ⟨hs⟩ := hs; exact .val _ hs fun k => by show kEq q r (bMul q n m k) = _; rw [kEq_true (key (by simp) (by simp))]; unfold bMul; rw [retI_eq]; simp
  | quo => obtain ⟨h0, ⟨hs⟩⟩ := hs; exact .val _ hs fun k => by show kEq q r (bQuo q n m k) = _; rw [kEq_true (key (by simp) (by simp))]; unfold bQuo; rw [eqI_false_of h0, cnd_false, retI_eq]; simp
  | rem => obtain ⟨h0, hs⟩ := hs; exact .val _ hs fun k => by show kEq q r (bRem q n m k) = _; rw [kEq_true (key (by simp) (by simp))]; unfold bRem; rw [eqI_false_of h0, cnd_false, forceInt_eq]; simp
  | and => obtain ⟨hs⟩ := hs; exact .val _ hs fun k => by show kEq q r (bAnd q n m k) = _; rw [kEq_true (key (by simp) (by simp))]; unfold bAnd; rw [retI_eq]; simp
  | or => obtain ⟨hs⟩ := hs; exact .val _ hs fun k => by show kEq q r (bOr q n m k) = _; rw [kEq_true (key (by simp) (by simp))]; unfold bOr; rw [retI_eq]; simp
  | xor => obtain ⟨hs⟩ := hs; exact .val _ hs fun k => by show kEq q r (bXor q n m k) = _; rw [kEq_true (key (by simp) (by simp))]; unfold bXor; rw [retI_eq]; simp
  | andNot => obtain ⟨hs⟩ := hs; exact .val _ hs fun k => by show kEq q r (bAndNot q n m k) = _; rw [kEq_true (key (by simp) (by simp))]; unfold bAndNot; rw [retI_eq]; simp
  | shl =>
    obtain ⟨j, e, ⟨hs⟩⟩ := hs; subst e
    exact .val _ hs fun k => by
      show retI q (n * Int.ofNat (Nat.pow 2 (cnd (Nat.ble j (kbits q)) j (kbits q)))) k = _
      rw [retI_eq]; simp
  | shr =>
    obtain ⟨j, e, hs⟩ := hs; subst e
    exact .val _ hs fun k => by
      show forceInt (n.fdiv (Int.ofNat (Nat.pow 2 (cnd (Nat.ble j (kbits q)) j (kbits q))))) (fun r => k (.int q r)) = _
      rw [forceInt_eq]; simp
  | eql => exact .val _ hs fun k => by show kEq q r (bEql q n m k) = _; rw [kEq_true (key (by simp) (by simp))]; unfold bEql; rw [retB_eq, eqI_dec]; simp
  | neq => exact .val _ hs fun k => by show kEq q r (bNeq q n m k) = _; rw [kEq_true (key (by simp) (by simp))]; unfold bNeq; rw [retB_eq, eqI_dec]; simp
  | lss => exact .val _ hs fun k => by show kEq q r (bLss q n m k) = _; rw [kEq_true (key (by simp) (by simp))]; unfold bLss; rw [retB_eq, ltI_eq]; simp
  | leq =>
    exact .val _ hs fun k => by
      show kEq q r (bLeq q n m k) = _
      rw [kEq_true (key (by simp) (by simp))]; unfold bLeq; rw [retB_eq, ltI_eq]
      have : (decide (m < n)).not = decide (n ≤ m) := by by_cases h : n ≤ m <;> simp [h] <;> omega
      rw [this]; simp
  | gtr => exact .val _ hs fun k => by show kEq q r (bGtr q n m k) = _; rw [kEq_true (key (by simp) (by simp))]; unfold bGtr; rw [retB_eq, ltI_eq]; simp
  | geq =>
    exact .val _ hs fun k => by
      show kEq q r (bGeq q n m k) = _
      rw [kEq_true (key (by simp) (by simp))]; unfold bGeq; rw [retB_eq, ltI_eq]
      have : (decide (n < m)).not = decide (m ≤ n) := by by_cases h : m ≤ n <;> simp [h] <;> omega
      rw [this]; simp
theorem zStr_sound {op : BinOp} {a b : List Nat} {K : ZV → Prop} (hs : zStr op a b K) : RdOk h K (fun k => strBin op a b k) := by
  cases op with
  | add =>
    obtain ⟨h0, hs⟩ := hs
    exact .val _ hs fun k => by
      show catK a b k = _
      unfold catK
      rw [lenK_eq, lenK_eq]
      simp only [Nat.zero_eq, Nat.zero_add]
      have : Nat.ble (Nat.add a.length b.length) most = true := Nat.ble_eq_true_of_le h0
      rw [this, cnd_true, appK_eq]; simp
  | eql => exact .val _ hs fun k => by show retB (bytesEq a b) k = _; rw [retB_eq, bytesEq_dec]; simp
  | neq => exact .val _ hs fun k => by show retB (bytesEq a b).not k = _; rw [retB_eq, bytesEq_dec]; simp
  | lss => exact .val _ hs fun k => by show retB (bytesLt a b) k = _; rw [retB_eq]; simp
  | leq => exact .val _ hs fun k => by show retB (bytesLt b a).not k = _; rw [retB_eq]; simp
  | gtr => exact .val _ hs fun k => by show retB (bytesLt b a) k = _; rw [retB_eq]; simp
  | geq => exact .val _ hs fun k => by show retB (bytesLt a b).not k = _; rw [retB_eq]; simp
  | _ => exact hs.elim
end
end Go.X

namespace Go.X
section
variable {P : Program} {h : Heap}
theorem tagIs_true {t n : Nat} (e : Nat.beq (tagOf P t) n = true) (m : FM) : tagIs P t n m = m := by unfold tagIs; rw [e]; rfl
/-- an equality, said of its answer -/
def EqOk (h : Heap) (K : Bool → Prop) (m : (Bool → FM) → FM) : Prop := ∃ v, K v ∧ ∀ (k : Bool → FM) (p : Post), (k v).sat p h → (m k).sat p h
theorem EqOk.val {K : Bool → Prop} {m : (Bool → FM) → FM} (v : Bool) (hk : K v) (e : ∀ k, m k = k v) : EqOk h K m := ⟨v, hk, fun k p hs => by rw [e]; exact hs⟩
theorem zEq_sound {lit : Bool} {t : TypeId} {a b : ZV} {K : Bool → Prop} (hl : lit = true ∨ ∀ x, a = .any x → b ≠ .any .nilIface) (hs : zEq P t h a b K) : EqOk h K (fun k => xEql P lit t a.av b.av k) := by
  unfold zEq at hs
  split at hs
  · rename_i x y
    cases ht : Nat.beq (tagOf P t) 1 with
    | false => rw [ht] at hs; exact hs.elim
    | true =>
      rw [ht] at hs
      refine .val _ hs fun k => ?_
      simp only [av_bool]
      show tagIs P t 1 (k (cnd x y (cnd y false true))) = _
      rw [tagIs_true ht]
      cases x <;> cases y <;> rfl
  · rename_i n i o m j p
    cases ht : Nat.beq (tagOf P t) 4 with
    | false => rw [ht] at hs; exact hs.elim
    | true =>
      rw [ht] at hs
      cases m with
      | true =>
        refine .val _ hs fun k => ?_
        cases n with
        | true =>
          show tagIs P t 4 (k true) = _
          rw [tagIs_true ht]
        | false =>
          show tagIs P t 4 (k false) = _
          rw [tagIs_true ht]
      | false =>
        cases n with
        | true =>
          refine .val _ hs fun k => ?_
          show tagIs P t 4 (k false) = _
          rw [tagIs_true ht]
        | false =>
          simp only [cnd_false] at hs
          cases he : (elemP P t).bind (szO P) with
          | none => rw [he] at hs; exact hs.elim
          | some sz =>
            rw [he] at hs
            cases sz with
            | zero => exact hs.elim
            | succ sz =>
              obtain ⟨hp, hk⟩ := hs
              obtain ⟨e, he1, he2⟩ := Option.bind_eq_some_iff.1 he
              have hx : ∀ k : Bool → FM, xEql P lit t (ZV.pv false i o).av (ZV.pv false j p).av k = eqPtr i o j p k := by
                intro k
                simp only [av_pvf]
                show eqPtrT P t i o j p k = _
                unfold eqPtrT
                rw [ht, cnd_true, he1]
                show optM (szO P e) (.fail 60) (fun n => cnd (Nat.beq n Nat.zero) (.fail 60) (eqPtr i o j p k)) = _
                rw [he2]; rfl
              by_cases hij : i = j
              · refine .val _ hk fun k => ?_
                rw [hx]
                unfold eqPtr
                subst hij
                rw [show Nat.beq i i = true from Nat.beq_refl i, cnd_true]
                congr 1
                cases hb : Nat.beq o p
                · have : o ≠ p := fun e => by subst e; simp at hb
                  simp [this]
                · simp [natbeq hb]
              · obtain ⟨⟨c1, e1, g1, w1⟩, c2, e2, g2, w2⟩ := hp.resolve_left hij
                refine ⟨_, hk, fun k q hq => ?_⟩
                simp only [hx]
                unfold eqPtr
                have hb : Nat.beq i j = false := by
                  cases hb : Nat.beq i j
                  · rfl
                  · exact absurd (natbeq hb) hij
                rw [hb, cnd_false]
                refine ⟨_, w1, ?_⟩
                show (FM.get j _).sat q h
                refine ⟨_, w2, ?_⟩
                show (k false).sat q h
                simpa [hij] using hq
  · rename_i x y
    cases ht : Nat.beq (tagOf P t) 9 with
    | false => rw [ht] at hs; exact hs.elim
    | true =>
      rw [ht] at hs
      obtain ⟨xn, xi, xo, xl, xc, xe⟩ := x
      obtain ⟨yn, yi, yo, yl, yc, ye⟩ := y
      cases yn with
      | true =>
        cases ye with
        | false =>
          refine .val _ hs fun k => ?_
          cases xn <;> cases xe <;> (show tagIs P t 9 _ = _; rw [tagIs_true ht]; rfl)
        | true =>
          cases xn with
          | true =>
            cases xe with
            | false =>
              refine .val _ hs fun k => ?_
              show tagIs P t 9 _ = _; rw [tagIs_true ht]; rfl
            | true => exact hs.elim
          | false => exact hs.elim
      | false =>
        cases xn with
        | true =>
          cases xe with
          | false =>
            refine .val _ hs fun k => ?_
            show tagIs P t 9 _ = _; rw [tagIs_true ht]; rfl
          | true => exact hs.elim
        | false => exact hs.elim
  · rename_i n i m j
    cases ht : Nat.beq (tagOf P t) 10 with
    | false => rw [ht] at hs; exact hs.elim
    | true =>
      rw [ht] at hs
      cases m with
      | true =>
        refine .val _ hs fun k => ?_
        cases n <;> (show tagIs P t 10 _ = _; rw [tagIs_true ht]; rfl)
      | false =>
        cases n with
        | true =>
          refine .val _ hs fun k => ?_
          show tagIs P t 10 _ = _; rw [tagIs_true ht]; rfl
        | false => exact hs.elim
  · rename_i f a c
    cases ht : Nat.beq (tagOf P t) 11 with
    | false => rw [ht] at hs; exact hs.elim
    | true =>
      rw [ht] at hs
      refine .val _ hs fun k => ?_
      simp only [av_fn, av_any]
      show tagIs P t 11 (k false) = _; rw [tagIs_true ht]
  · rename_i a
    cases ht : Nat.beq (tagOf P t) 11 with
    | false => rw [ht] at hs; exact hs.elim
    | true =>
      rw [ht] at hs
      obtain ⟨hf, hs⟩ := hs
      refine .val _ hs fun k => ?_
      simp only [av_any]
      cases a with
      | nilFunc => show tagIs P t 11 (k true) = _; rw [tagIs_true ht]; rfl
      | func f x y => show tagIs P t 11 (k false) = _; rw [tagIs_true ht]; rfl
      | _ => cases hf
  · rename_i u v
    cases ht : Nat.beq (tagOf P t) 6 with
    | false => rw [ht] at hs; exact hs.elim
    | true =>
      rw [ht] at hs
      refine .val _ hs fun k => ?_
      simp only [av_iface, av_any]
      show tagIs P t 6 (k false) = _; rw [tagIs_true ht]
  · rename_i a
    cases ht : Nat.beq (tagOf P t) 6 with
    | false => rw [ht] at hs; exact hs.elim
    | true =>
      rw [ht] at hs
      have hl2 : lit = true := hl.resolve_right fun hh => hh a rfl rfl
      subst hl2
      obtain ⟨hf, hs⟩ := hs
      refine .val _ hs fun k => ?_
      simp only [av_any]
      cases a with
      | nilIface => show tagIs P t 6 (k true) = _; rw [tagIs_true ht]; rfl
      | iface u v => show tagIs P t 6 (k false) = _; rw [tagIs_true ht]; rfl
      | _ => cases hf
  · rename_i t1 q n t2 r m
    cases ht : Nat.beq (tagOf P t) 6 with
    | false => rw [ht] at hs; exact hs.elim
    | true =>
      rw [ht] at hs
      simp only at hs
      cases h12 : Nat.beq t1 t2 with
      | false =>
        rw [h12] at hs
        refine .val _ hs fun k => ?_
        simp only [av_iface, av_int]
        show tagIs P t 6 (cnd (Nat.beq t1 t2) _ (k false)) = _
        rw [tagIs_true ht, h12, cnd_false]
      | true =>
        rw [h12] at hs
        simp only at hs
        cases hc : cmpO P t1 with
        | none => rw [hc] at hs; exact hs.elim
        | some c =>
          rw [hc] at hs
          cases c with
          | false => exact hs.elim
          | true =>
            cases ht2 : Nat.beq (tagOf P t1) 2 with
            | false => rw [ht2] at hs; exact hs.elim
            | true =>
              cases hkk : Nat.beq (kindN q) (kindN r) with
              | false => rw [ht2, hkk] at hs; exact hs.elim
              | true =>
                rw [ht2, hkk] at hs
                refine .val _ hs fun k => ?_
                simp only [av_iface, av_int]
                show tagIs P t 6 (cnd (Nat.beq t1 t2) (optM (cmpO P t1) (.fail 63) fun c => cnd c (tagIs P t1 2 (kEq q r (k (eqI n m)))) (.fail 63)) (k false)) = _
                rw [tagIs_true ht, h12, cnd_true, hc]
                show tagIs P t1 2 (kEq q r (k (eqI n m))) = _
                rw [tagIs_true ht2, kEq_true hkk, eqI_dec]
  · exact hs.elim
theorem eqv_sound {op : BinOp} (hop : op = .eql ∨ op = .neq) {lit : Bool} {t : TypeId} {a b : ZV} {K : ZV → Prop} (hl : lit = true ∨ ∀ x, a = .any x → b ≠ .any .nilIface)
    (hs : zEq P t h a b fun r => K (.bool (if op = .eql then r else !r))) : RdOk h K (fun k => eqBin P lit op t a.av b.av k) := by
  obtain ⟨v, hk, e⟩ := zEq_sound hl hs
  refine ⟨_, hk, fun k p hp => ?_⟩
  rcases hop with rfl | rfl
  · show (xEql P lit t a.av b.av fun r => retB r k).sat p h
    refine e _ p ?_
    rw [retB_eq]; simpa using hp
  · show (xEql P lit t a.av b.av fun r => retB r.not k).sat p h
    refine e _ p ?_
    rw [retB_eq]; simpa using hp
end
end Go.X

namespace Go.X
theorem not_any_of_eqv {a b : ZV} (h1 : ∀ (x : AV), a = .any x → b = .any .nilIface → False) : ∀ x, a = .any x → b ≠ .any .nilIface := fun x e f => h1 x e f
section
variable {P : Program} {h : Heap}
theorem binAV_sl {lit : Bool} {op : BinOp} {t : TypeId} {a b : AV} {k : KV} (ha : ∀ q n, a ≠ .int q n) (ha' : ∀ s, a ≠ .str s) : binAV P lit op t a b k = eqBin P lit op t a b k := by
  cases a <;> first | rfl | exact absurd rfl (ha _ _) | exact absurd rfl (ha' _)
/-- a value that is of no number nor string, whatever is in it -/
def ZV.solid : ZV → Bool
  | .any _ | .int _ _ | .str _ => false
  | _ => true
theorem ZV.solid_av {a : ZV} (hs : a.solid = true) : (∀ q n, a.av ≠ .int q n) ∧ (∀ s, a.av ≠ .str s) := by
  cases a with
  | any a => cases hs
  | int q n => cases hs
  | str s => cases hs
  | bool b => simp
  | pv n i o => cases n <;> simp
  | sl s => obtain ⟨n, _, _, _, _, x⟩ := s; cases n <;> cases x <;> simp [SL.av]
  | mp n i => cases n <;> simp
  | fn f a c => simp
  | iface t v => simp
  | agg cs => simp
  | tup cs => simp
theorem isIf_no {a : AV} (h : isIf a = true) : (∀ q n, a ≠ .int q n) ∧ (∀ s, a ≠ .str s) := by cases a <;> simp_all [isIf]
theorem isFn_no {a : AV} (h : isFn a = true) : (∀ q n, a ≠ .int q n) ∧ (∀ s, a ≠ .str s) := by cases a <;> simp_all [isFn]
theorem zEq_noint {t : TypeId} {a b : ZV} {K : Bool → Prop} (hs : zEq P t h a b K) : (∀ q n, a.av ≠ .int q n) ∧ (∀ s, a.av ≠ .str s) := by
  cases hsol : a.solid with
  | true => exact ZV.solid_av hsol
  | false =>
    unfold zEq at hs
    split at hs <;> first | (cases hsol; done) | skip
    · split at hs
      · obtain ⟨hf, _⟩ := hs; rw [av_any]; exact isFn_no hf
      · exact hs.elim
    · split at hs
      · obtain ⟨hf, _⟩ := hs; rw [av_any]; exact isIf_no hf
      · exact hs.elim
    · exact hs.elim
theorem zBin_sound {lit : Bool} {op : BinOp} {t : TypeId} {a b : ZV} {K : ZV → Prop} (hs : zBin P lit op t h a b K) : RdOk h K (fun k => binAV P lit op t a.av b.av k) := by
  unfold zBin at hs
  split at hs
  · rename_i q n r m
    simp only [av_int]
    split at hs
    · exact zInt_sound (r := r) (.inl rfl) hs
    · exact zInt_sound (r := r) (.inr (.inl rfl)) hs
    · split at hs
      · rename_i hb; exact zInt_sound (.inr (.inr hb)) hs
      · exact hs.elim
  · simp only [av_str]; exact zStr_sound hs
  · exact hs.elim
  · exact hs.elim
  · have fin : ∀ (o : BinOp), o = .eql ∨ o = .neq → (lit = true ∨ ∀ x, a = .any x → b ≠ .any .nilIface) → (zEq P t h a b fun r => K (.bool (if o = .eql then r else !r))) → RdOk h K (fun k => binAV P lit o t a.av b.av k) := by
      intro o ho hl hz
      obtain ⟨n1, n2⟩ := zEq_noint hz
      obtain ⟨v, hk, e⟩ := eqv_sound ho hl hz
      exact ⟨v, hk, fun k p hp => by simp only [binAV_sl n1 n2]; exact e k p hp⟩
    split at hs
    · exact fin .eql (.inl rfl) (.inl rfl) (by simpa using hs)
    · exact fin .neq (.inr rfl) (.inl rfl) (by simpa using hs)
    · split at hs
      · exact hs.elim
      · rename_i hno
        exact fin .eql (.inl rfl) (.inr fun x e f => hno x e f) (by simpa using hs)
    · split at hs
      · exact hs.elim
      · rename_i hno
        exact fin .neq (.inr rfl) (.inr fun x e f => hno x e f) (by simpa using hs)
    · exact hs.elim
end

/-! ### slices of slices; looks -/
def oNat (d : Nat) (x : Option ZV) (K : Nat → Prop) : Prop := match x with
  | none => K d
  | some (.int _ n) => ZNat n K
  | _ => False
/-- places from lo up to hi of a slice, room up to mx -/
def SL.cut (s : SL) (sz l h m : Nat) (e : Bool) : SL := match Nat.beq l m && e && !s.nil with
  | true => ⟨true, 0, 0, 0, 0, true⟩
  | false => ⟨s.nil, s.i, match Nat.beq l m with | true => s.o | false => s.o + l * sz, h - l, m - l, e⟩
theorem SL.cut_false (s : SL) (sz l h m : Nat) : s.cut sz l h m false = ⟨s.nil, s.i, match Nat.beq l m with | true => s.o | false => s.o + l * sz, h - l, m - l, false⟩ := by
  unfold SL.cut; rw [Bool.and_false]; rfl
theorem SL.cut_nil {s : SL} (hn : s.nil = true) (sz l h m : Nat) (e : Bool) : s.cut sz l h m e = ⟨true, s.i, match Nat.beq l m with | true => s.o | false => s.o + l * sz, h - l, m - l, e⟩ := by
  unfold SL.cut; rw [hn, Bool.not_true, Bool.and_false]
section
variable (P : Program)
noncomputable def zSlc (t : TypeId) (x : ZV) (lo hi mx : Option ZV) (K : ZV → Prop) : Prop := match x with
  | .str s => match Nat.beq (tagOf P t) 3, mx with
    | true, none => oNat 0 lo fun l => oNat s.length hi fun h => ZAnd (l ≤ h ∧ h ≤ s.length) (K (.str ((s.take h).drop l)))
    | _, _ => False
  | .sl s => match (elemS P t).bind (szO P), Nat.beq (tagOf P t) 9 with
    | some sz, true => match mx with
      | none => oNat 0 lo fun l => oNat s.n hi fun h => ZAnd ((s.nil = true → l = 0 ∧ h = 0) ∧ (s.nil = false → l ≤ h ∧ h ≤ s.cap)) (K (.sl (s.cut sz l h s.cap s.ext)))
      | some (.int _ mm) => match hi with
        | some (.int _ hn) => oNat 0 lo fun l => ZNat hn fun h => ZNat mm fun m => ZAnd ((s.nil = true → l = 0 ∧ h = 0 ∧ m = 0 ∧ s.ext = false) ∧ (s.nil = false → l ≤ h ∧ h ≤ m ∧ m ≤ s.cap)) (K (.sl (s.cut sz l h m false)))
        | _ => False
      | _ => False
    | _, _ => False
  | .pv nil i o => match elemA P t, mx with
    | some (n, e), none => match szO P e with
      | some sz => ZAnd (nil = false) (oNat 0 lo fun l => oNat n hi fun h => ZAnd (l ≤ h ∧ h ≤ n) (K (.sl (SL.cut ⟨false, i, o, n, n, false⟩ sz l h n false))))
      | none => False
    | _, _ => False
  | _ => False
end
section
variable {P : Program} {h : Heap}
theorem oNat_spec {d : Nat} {x : Option ZV} {K : Nat → Prop} (hs : oNat d x K) : ∃ m, K m ∧ ∀ k : Nat → FM, optNat d (x.map ZV.av) k = k m := by
  unfold oNat at hs
  split at hs
  · exact ⟨_, hs, fun k => rfl⟩
  · obtain ⟨m, e, hk⟩ := hs
    subst e
    exact ⟨m, hk, fun k => by
      show optNat d (some (ZV.int _ _).av) k = _
      rw [av_int]; rfl⟩
  · exact hs.elim
theorem optM_some {α : Type} (a : α) (d : FM) (k : α → FM) : optM (some a) d k = k a := rfl
theorem leb3_true {a b c : Nat} (h1 : a ≤ b) (h2 : b ≤ c) : leb3 a b c = true := by
  unfold leb3; rw [Nat.ble_eq_true_of_le h1, Nat.ble_eq_true_of_le h2]; rfl
theorem slSlice_eq {e : TypeId} {sz : Nat} (hsz : szO P e = some sz) {i o len cap : Nat} {ext : Bool} {lo hi : Option AV} {l hh : Nat} (h1 : ∀ k : Nat → FM, optNat Nat.zero lo k = k l) (h2 : ∀ k : Nat → FM, optNat len hi k = k hh)
    (hl : l ≤ hh) (hc : hh ≤ cap) (k : KV) : slSlice P e i o len cap ext lo hi none k = k (SL.cut ⟨false, i, o, len, cap, ext⟩ sz l hh cap ext).av := by
  unfold slSlice
  rw [h1]
  show optNat len hi _ = _
  rw [h2, leb3_true hl hc, cnd_true]
  unfold SL.cut SL.av
  cases hb : Nat.beq l cap with
  | true =>
    have e := natbeq hb
    rw [cnd_true]
    cases ext with
    | true => rfl
    | false =>
    rw [cnd_false]
    simp only [Bool.and_false, Bool.false_and]
    have e1 : hh - l = 0 := by omega
    have e2 : cap - l = 0 := by omega
    rw [e1, e2]
  | false =>
    rw [cnd_false]
    unfold slcAt
    rw [hsz, optM_some, forceNat_eq, forceNat_eq, forceNat_eq]; rfl
theorem zSlc_sound {t : TypeId} {x : ZV} {lo hi mx : Option ZV} {K : ZV → Prop} (hs : zSlc P t x lo hi mx K) : RdEq K (fun k => xSlice P t x.av (lo.map ZV.av) (hi.map ZV.av) (mx.map ZV.av) k) := by
  unfold zSlc at hs
  split at hs
  · rename_i s
    split at hs
    · rename_i ht
      obtain ⟨l, hs, e1⟩ := oNat_spec hs
      obtain ⟨hh, hs, e2⟩ := oNat_spec hs
      obtain ⟨⟨h1, h2⟩, hk⟩ := hs
      refine .val _ hk fun k => ?_
      show cnd (Nat.beq (tagOf P t) 3) (slStr s (lo.map ZV.av) (hi.map ZV.av) k) (.fail 26) = _
      rw [ht, cnd_true]
      unfold slStr
      rw [lenK_eq, show Nat.zero + s.length = s.length from Nat.zero_add _]
      have e1' : ∀ k : Nat → FM, optNat Nat.zero (lo.map ZV.av) k = k l := e1
      rw [e1', e2, leb3_true h1 h2, cnd_true, takeK_eq, if_pos h2, dropL_eq, av_str]
    · exact hs.elim
  · rename_i s
    split at hs
    · rename_i sz he ht
      obtain ⟨e, he1, he2⟩ := Option.bind_eq_some_iff.1 he
      obtain ⟨sn, si, so, sl, sc, se⟩ := s
      split at hs
      · obtain ⟨l, hs, e1⟩ := oNat_spec hs
        obtain ⟨hh, hs, e2⟩ := oNat_spec hs
        obtain ⟨⟨h1, h2⟩, hk⟩ := hs
        refine .val _ hk fun k => ?_
        cases sn with
        | true =>
          obtain ⟨r1, r2⟩ := h1 rfl
          subst r1; subst r2
          cases se with
          | false =>
            show cnd (Nat.beq (tagOf P t) 9) (optM (elemS P t) (.fail 26) fun e => optM (szO P e) (.fail 26) fun _ => slNil .nils (lo.map ZV.av) (hi.map ZV.av) none k) (.fail 26) = _
            rw [ht, cnd_true, he1]
            show optM (szO P e) (.fail 26) (fun _ => slNil .nils (lo.map ZV.av) (hi.map ZV.av) none k) = _
            rw [he2]
            show slNil .nils (lo.map ZV.av) (hi.map ZV.av) none k = _
            unfold slNil
            rw [e1]
            show optNat Nat.zero (hi.map ZV.av) _ = _
            have e2' : ∀ k : Nat → FM, optNat Nat.zero (hi.map ZV.av) k = k 0 := e2
            rw [e2', SL.cut_nil rfl]; rfl
          | true =>
            show cnd (Nat.beq (tagOf P t) 9) (optM (elemS P t) (.fail 26) fun e => optM (szO P e) (.fail 26) fun _ => slNil .emp (lo.map ZV.av) (hi.map ZV.av) none k) (.fail 26) = _
            rw [ht, cnd_true, he1]
            show optM (szO P e) (.fail 26) (fun _ => slNil .emp (lo.map ZV.av) (hi.map ZV.av) none k) = _
            rw [he2]
            show slNil .emp (lo.map ZV.av) (hi.map ZV.av) none k = _
            unfold slNil
            rw [e1]
            show optNat Nat.zero (hi.map ZV.av) _ = _
            have e2' : ∀ k : Nat → FM, optNat Nat.zero (hi.map ZV.av) k = k 0 := e2
            rw [e2', SL.cut_nil rfl]; rfl
        | false =>
          obtain ⟨r1, r2⟩ := h2 rfl
          show optM (elemS P t) (.fail 26) (fun e => optM (szO P e) (.fail 26) fun _ => slSlice P e si so sl sc se (lo.map ZV.av) (hi.map ZV.av) none k) = _
          rw [he1]
          show optM (szO P e) (.fail 26) (fun _ => slSlice P e si so sl sc se (lo.map ZV.av) (hi.map ZV.av) none k) = _
          rw [he2]
          show slSlice P e si so sl sc se (lo.map ZV.av) (hi.map ZV.av) none k = _
          rw [slSlice_eq (len := sl) (cap := sc) (ext := se) he2 e1 e2 r1 r2]
          simp
      · rename_i mm
        split at hs
        · rename_i q hn
          obtain ⟨l, hs2, e1⟩ := oNat_spec (d := 0) (x := lo) hs
          obtain ⟨hh, eh, hs3⟩ := hs2
          subst eh
          obtain ⟨m, em, hs4⟩ := hs3
          subst em
          obtain ⟨⟨h1, h2⟩, hk⟩ := hs4
          refine .val _ hk fun k => ?_
          cases sn with
          | true =>
            obtain ⟨r1, r2, r3, r4⟩ := h1 rfl
            have r4 : se = false := r4
            subst r1; subst r2; subst r3; subst r4
            show cnd (Nat.beq (tagOf P t) 9) (optM (elemS P t) (.fail 26) fun e => optM (szO P e) (.fail 26) fun _ => slNil .nils (lo.map ZV.av) (some (ZV.int q ((0 : Nat) : Int)).av) (some (ZV.int _ ((0 : Nat) : Int)).av) k) (.fail 26) = _
            rw [ht, cnd_true, he1]
            show optM (szO P e) (.fail 26) (fun _ => slNil .nils (lo.map ZV.av) (some (ZV.int q ((0 : Nat) : Int)).av) (some (ZV.int _ ((0 : Nat) : Int)).av) k) = _
            rw [he2]
            show slNil .nils (lo.map ZV.av) (some (ZV.int q ((0 : Nat) : Int)).av) (some (ZV.int _ ((0 : Nat) : Int)).av) k = _
            unfold slNil
            rw [e1]
            simp only [av_int]
            rfl
          | false =>
            obtain ⟨r1, r2, r3⟩ := h2 rfl
            show optM (elemS P t) (.fail 26) (fun e => optM (szO P e) (.fail 26) fun _ => slSlice P e si so sl sc se (lo.map ZV.av) (some (ZV.int q (hh : Int)).av) (some (ZV.int _ (m : Int)).av) k) = _
            rw [he1]
            show optM (szO P e) (.fail 26) (fun _ => slSlice P e si so sl sc se (lo.map ZV.av) (some (ZV.int q (hh : Int)).av) (some (ZV.int _ (m : Int)).av) k) = _
            rw [he2]
            show slSlice P e si so sl sc se (lo.map ZV.av) (some (ZV.int q (hh : Int)).av) (some (ZV.int _ (m : Int)).av) k = _
            unfold slSlice
            rw [e1]
            simp only [av_int]
            show cnd (cnd (leb3 l hh m) (Nat.ble m sc) false) (cnd (Nat.beq m l) _ _) (FM.fail 24) = _
            rw [leb3_true r1 r2, cnd_true, Nat.ble_eq_true_of_le r3, cnd_true]
            rw [av_sl]
            unfold SL.cut SL.av
            cases hb : Nat.beq m l with
            | true =>
              have em := natbeq hb
              subst em
              rw [cnd_true]
              simp only [Nat.beq_refl]
              have : hh - m = 0 := by omega
              simp [this]
            | false =>
              have hb2 : Nat.beq l m = false := by
                cases hb2 : Nat.beq l m
                · rfl
                · have := natbeq hb2; subst this; simp at hb
              rw [cnd_false]
              simp only [hb2]
              unfold slcAt
              rw [he2, optM_some, forceNat_eq, forceNat_eq, forceNat_eq]; rfl
        · exact hs.elim
      · exact hs.elim
    · exact hs.elim
  · rename_i nil i o
    split at hs
    · rename_i n e he
      split at hs
      · rename_i sz hsz
        obtain ⟨hn, hs⟩ := hs
        subst hn
        obtain ⟨l, hs, e1⟩ := oNat_spec hs
        obtain ⟨hh, hs, e2⟩ := oNat_spec hs
        obtain ⟨⟨h1, h2⟩, hk⟩ := hs
        refine .val _ hk fun k => ?_
        simp only [av_pvf]
        show optM (elemA P t) (.fail 27) (fun ne => optM (szO P ne.2) (.fail 26) fun _ => slSlice P ne.2 i o ne.1 ne.1 false (lo.map ZV.av) (hi.map ZV.av) none k) = _
        rw [he]
        show optM (szO P e) (.fail 26) (fun _ => slSlice P e i o n n false (lo.map ZV.av) (hi.map ZV.av) none k) = _
        rw [hsz]
        show slSlice P e i o n n false (lo.map ZV.av) (hi.map ZV.av) none k = _
        rw [slSlice_eq hsz e1 e2 h1 h2]
        simp [SL.cut]
      · exact hs.elim
    · exact hs.elim
  · exact hs.elim
end
end Go.X

namespace Go.X
/-! ### what comes back -/
inductive ZRI (v : AV) (q : IntKind) (K : Int → Prop) : Prop where
  | mk (n : Int) (e : v = .int q n) (k : K n)
inductive ZRB (v : AV) (K : Bool → Prop) : Prop where
  | mk (b : Bool) (e : v = .bool b) (k : K b)
inductive ZRS (v : AV) (K : List Nat → Prop) : Prop where
  | mk (l : List Nat) (e : v = .str l) (k : K l)
inductive ZRP (v : AV) (K : Bool → Nat → Nat → Prop) : Prop where
  | mk (nil : Bool) (j p : Nat) (e : v = (ZV.pv nil j p).av) (k : K nil j p)
inductive ZRL (v : AV) (K : SL → Prop) : Prop where
  | mk (s : SL) (e : v = s.av) (k : K s)
inductive ZRM (v : AV) (K : Bool → Nat → Prop) : Prop where
  | mk (nil : Bool) (j : Nat) (e : v = (ZV.mp nil j).av) (k : K nil j)
/-- so many values, by their places -/
def avsOf (f : Nat → AV) : Nat → List AV
  | 0 => []
  | n + 1 => avsOf f n ++ [f n]
inductive ZRA (v : AV) (n : Nat) (K : (Nat → AV) → Prop) : Prop where
  | mk (f : Nat → AV) (e : v = .agg (avsOf f n)) (k : K f)
inductive ZRT (v : AV) (n : Nat) (K : (Nat → AV) → Prop) : Prop where
  | mk (f : Nat → AV) (e : v = .tuple (avsOf f n)) (k : K f)
/-- a result, by its shape -/
def zSh (s : Sh) (v : AV) (K : ZV → Prop) : Prop := match s with
  | .I q => ZRI v q fun n => K (.int q n)
  | .B => ZRB v fun b => K (.bool b)
  | .S => ZRS v fun l => K (.str l)
  | .P => ZRP v fun n j p => K (.pv n j p)
  | .L => ZRL v fun s => K (.sl s)
  | .M => ZRM v fun n j => K (.mp n j)
  | .A => K (.any v)
def zShs (l : List Sh) (vs : List AV) (K : List ZV → Prop) : Prop := match l, vs with
  | [], [] => K []
  | s :: r, v :: vs => zSh s v fun u => zShs r vs fun us => K (u :: us)
  | _, _ => False
section
variable (P : Program)
noncomputable def zTy1 (t : TypeId) (v : AV) (K : ZV → Prop) : Prop := match isAggO P t with
  | some true => match shapesOf P 8 t with | some l => ZRA v l.length fun f => zShs l (avsOf f l.length) fun us => K (.agg us) | none => False
  | some false => zSh (shapeOf P t) v K
  | none => False
end
section
variable {P : Program}
theorem zSh_spec {s : Sh} {v : AV} {K : ZV → Prop} (hs : zSh s v K) : ∃ u, u.av = v ∧ K u := by
  cases s with
  | I q => obtain ⟨n, e, k⟩ := hs; exact ⟨_, by rw [av_int, e], k⟩
  | B => obtain ⟨n, e, k⟩ := hs; exact ⟨_, by rw [av_bool, e], k⟩
  | S => obtain ⟨n, e, k⟩ := hs; exact ⟨_, by rw [av_str, e], k⟩
  | P => obtain ⟨n, j, p, e, k⟩ := hs; exact ⟨_, e.symm, k⟩
  | L => obtain ⟨n, e, k⟩ := hs; exact ⟨_, by rw [av_sl, e], k⟩
  | M => obtain ⟨n, j, e, k⟩ := hs; exact ⟨_, e.symm, k⟩
  | A => exact ⟨.any v, by simp, hs⟩
theorem zShs_spec : ∀ {l : List Sh} {vs : List AV} {K : List ZV → Prop}, zShs l vs K → ∃ us, avs us = vs ∧ K us
  | [], [], K, hs => ⟨[], rfl, hs⟩
  | [], _ :: _, K, hs => hs.elim
  | _ :: _, [], K, hs => hs.elim
  | s :: r, v :: vs, K, hs => by
    obtain ⟨u, e1, h1⟩ := zSh_spec hs
    obtain ⟨us, e2, h2⟩ := zShs_spec h1
    exact ⟨u :: us, by rw [avs_cons, e1, e2], h2⟩
theorem zTy1_spec {t : TypeId} {v : AV} {K : ZV → Prop} (hs : zTy1 P t v K) : ∃ u, u.av = v ∧ K u := by
  unfold zTy1 at hs
  split at hs
  · split at hs
    · obtain ⟨f, e, hk⟩ := hs
      obtain ⟨us, e2, h2⟩ := zShs_spec hk
      exact ⟨.agg us, by rw [av_agg, e2, e], h2⟩
    · exact hs.elim
  · exact zSh_spec hs
  · exact hs.elim
end
section
variable (P : Program)
/-- one of two values -/
noncomputable def zPick (t : Bool) (a b : ZV) (K : ZV → Prop) : Prop := match a, b with
  | .bool x, .bool y => K (.bool (cnd t x y))
  | .int q n, .int r m => match Nat.beq (kindN q) (kindN r) with | true => K (.int q (cnd t n m)) | false => False
  | a, b => cnd t (K a) (K b)
noncomputable def zCnv (s d : TypeId) (x : ZV) (h : Heap) (K : ZV → Prop) : Prop := match cvOf P s d, x with
  | .toInt q, .int _ n => ZW q n fun r => K (.int q r)
  | .toString, .str l => K (.str l)
  | .bytes, .sl s => ZBytes h s fun l => K (.str l)
  | _, _ => False
/-- a cell, or some, out of a struct's -/
def zNth (cs : List ZV) (n : Nat) : Option ZV := match cs, n with
  | [], _ => none
  | v :: _, 0 => some v
  | _ :: l, n + 1 => zNth l n
def zDrop (cs : List ZV) (n : Nat) : List ZV := match cs, n with
  | l, 0 => l
  | [], _ + 1 => []
  | _ :: l, n + 1 => zDrop l n
def zTake (n : Nat) (cs : List ZV) : Option (List ZV) := match n, cs with
  | 0, _ => some []
  | _ + 1, [] => none
  | n + 1, v :: l => match zTake n l with | some r => some (v :: r) | none => none
noncomputable def zPart (t : TypeId) (cs : List ZV) (off : Nat) (K : ZV → Prop) : Prop := match isAggO P t with
  | some true => match szO P t with
    | some n => match zTake n (zDrop cs off) with | some l => K (.agg l) | none => False
    | none => False
  | some false => match zNth cs off with | some v => K v | none => False
  | none => False
noncomputable def zField (t : TypeId) (x : ZV) (f : Nat) (K : ZV → Prop) : Prop := match x, fieldO P t f with
  | .agg cs, some fd => zPart P fd.type cs fd.offset K
  | _, _ => False
noncomputable def zFieldAddr (t : TypeId) (x : ZV) (f : Nat) (K : ZV → Prop) : Prop := match x, fieldO P t f with
  | .pv nil i o, some fd => match szO P fd.type with
    | some (_ + 1) => ZAnd (nil = false) (K (.pv false i (Nat.add o fd.offset)))
    | _ => False
  | _, _ => False
noncomputable def zIdxAddr (t : TypeId) (x ix : ZV) (K : ZV → Prop) : Prop := match x, ix with
  | .sl s, .int _ n => match (elemS P t).bind (szO P) with
    | some sz => ZAnd (s.nil = false) (ZIdx n s.len fun m => K (.pv false s.i (s.o + m * sz)))
    | none => False
  | .pv nil i o, .int _ n => match elemA P t with
    | some (len, e) => match szO P e with
      | some sz => ZAnd (nil = false) (ZIdx n len fun m => K (.pv false i (o + m * sz)))
      | none => False
    | none => False
  | _, _ => False
noncomputable def zIdx (t : TypeId) (x ix : ZV) (K : ZV → Prop) : Prop := match x, ix with
  | .str s, .int _ n => match Nat.beq (tagOf P t) 3 with | true => ZIdx n s.length fun m => K (.int .u8 (.ofNat (s.getD m 0))) | false => False
  | _, _ => False
/-- a value out of a map, as its type says -/
noncomputable def zAsT (t : TypeId) (a : AV) (K : ZV → Prop) : Prop := zTy1 P t a K
noncomputable def zLookup (t : TypeId) (m key : ZV) (ok : Bool) (h : Heap) (K : ZV → Prop) : Prop := match m, elemM P t with
  | .mp nil i, some (kt, e) => match key with
    | .int q n => match Nat.beq (tagOf P kt) 2, zeroO P e with
      | true, some z => ZLook h nil i (.int q n) (fun v => zAsT P e v fun u => cnd ok (K (.tup [u, .bool true])) (K u)) (cnd ok (K (.tup [zOf z, .bool false])) (K (zOf z)))
      | _, _ => False
    | .str l => match Nat.beq (tagOf P kt) 3, zeroO P e with
      | true, some z => ZLook h nil i (.str l) (fun v => zAsT P e v fun u => cnd ok (K (.tup [u, .bool true])) (K u)) (cnd ok (K (.tup [zOf z, .bool false])) (K (zOf z)))
      | _, _ => False
    | _ => False
  | _, _ => False
noncomputable def zTa (as : TypeId) (ok r : Bool) (v : ZV) (K : ZV → Prop) : Prop := match r, ok with
  | true, true => K (.tup [v, .bool true])
  | true, false => K v
  | false, true => match zeroO P as with | some z => K (.tup [zOf z, .bool false]) | none => False
  | false, false => False
noncomputable def zAssert (x : ZV) (as : TypeId) (ok : Bool) (K : ZV → Prop) : Prop := match Nat.beq (tagOf P as) 0, x with
  | false, .iface t v => match ifaceO P as with
    | none => zTa P as ok (Nat.beq t as) v K
    | some want => match hasMethods P want t with | some r => zTa P as ok r (.iface t v) K | none => False
  | false, .any .nilIface => zTa P as ok false (.any .junk) K
  | _, _ => False
noncomputable def zLen (t : TypeId) (x : ZV) (h : Heap) (K : ZV → Prop) : Prop := match x with
  | .sl s => match Nat.beq (tagOf P t) 9 with | true => K (.int .i64 (.ofNat s.n)) | false => False
  | .str l => match Nat.beq (tagOf P t) 3 with | true => K (.int .i64 (.ofNat l.length)) | false => False
  | .mp nil i => match Nat.beq (tagOf P t) 10 with
    | true => cnd nil (K (.int .i64 0)) (∃ es ver, h.get i = some (.map es ver) ∧ K (.int .i64 (.ofNat es.length)))
    | false => False
  | _ => False
noncomputable def zBltR (b : Builtin) (l : List ZV) (ts : Array TypeId) (h : Heap) (K : ZV → Prop) : Prop := match b, l with
  | .len, [x] => match ts[0]? with | some t => zLen P t x h K | none => False
  | .cap, [.sl s] => match ts[0]? with | some t => (match Nat.beq (tagOf P t) 9 with | true => ZAnd (s.ext = false) (K (.int .i64 (.ofNat (cnd s.nil 0 s.cap)))) | false => False) | none => False
  | .max, [.int q n, .int r m] => match Nat.beq (kindN q) (kindN r) with | true => K (.int q (if n < m then m else n)) | false => False
  | .min, [.int q n, .int r m] => match Nat.beq (kindN q) (kindN r) with | true => K (.int q (if m < n then m else n)) | false => False
  | _, _ => False
/-- parts over cells -/
def zOver (vs l : List ZV) : Option (List ZV) := match vs, l with
  | [], l => some l
  | _ :: _, [] => none
  | v :: vs, _ :: l => match zOver vs l with | some r => some (v :: r) | none => none
def zPutAt (vs : List ZV) (n : Nat) (l : List ZV) : Option (List ZV) := match n, l with
  | 0, l => zOver vs l
  | _ + 1, [] => none
  | n + 1, v :: l => match zPutAt vs n l with | some r => some (v :: r) | none => none
noncomputable def zCells (n : Nat) (v : ZV) (K : List ZV → Prop) : Prop := match v with
  | .agg cs => match Nat.beq cs.length n with | true => K cs | false => False
  | .tup _ => False
  | .any a => match n with | 1 => ZAnd (a.plainC = true) (K [.any a]) | _ => False
  | v => match n with | 1 => K [v] | _ => False
noncomputable def zFill (z : ZT) (place : Nat → Option (Nat × Nat)) (parts : List (Nat × Operand)) (cs : List ZV) (K : List ZV → Prop) : Prop := match parts with
  | [] => K cs
  | p :: r => match place p.1 with
    | some os => zCells os.2 (zEv P z p.2) fun ps => match zPutAt ps os.1 cs with | some cs' => zFill z place r cs' K | none => False
    | none => False
/-- the cells of a value that is known -/
def cellsOf : AV → Option (List AV)
  | .junk => none
  | .agg cs => some cs
  | v => some [v]
noncomputable def zBuild (z : ZT) (t : TypeId) (parts : Array (Nat × Operand)) (K : ZV → Prop) : Prop := match (zeroO P t).bind cellsOf, placeOf P t with
  | some zs, some pl => zFill P z pl parts.toList (zOfs zs) fun cs => K (.agg cs)
  | _, _ => False
/-- the equality of structs and arrays whose cells are numbers and truths -/
noncomputable def zEqL (ih : TypeId → ZV → ZV → (Bool → Prop) → Prop) (l : List (TypeId × Nat)) (cs ds : List ZV) (K : Bool → Prop) : Prop := match l with
  | [] => K true
  | x :: r => zPart P x.1 cs x.2 fun u => zPart P x.1 ds x.2 fun v => ih x.1 u v fun b => cnd b (zEqL ih r cs ds K) (K false)
noncomputable def zEqA : Nat → TypeId → ZV → ZV → (Bool → Prop) → Prop
  | 0, _, _, _, _ => False
  | n + 1, t, a, b, K => match a, b with
    | .agg cs, .agg ds => match partsEq P t with | some l => zEqL P (zEqA n) l cs ds K | none => False
    | .int q x, .int r y => match Nat.beq (tagOf P t) 2, Nat.beq (kindN q) (kindN r) with | true, true => K (decide (x = y)) | _, _ => False
    | .bool x, .bool y => match Nat.beq (tagOf P t) 1 with | true => K (decide (x = y)) | false => False
    | _, _ => False
noncomputable def zBinA (lit : Bool) (op : BinOp) (t : TypeId) (h : Heap) (a b : ZV) (K : ZV → Prop) : Prop := match a, b with
  | .agg cs, .agg ds => ZAnd (P.eqGuardType P.depth t = false) (match op with
    | .eql => zEqA P 6 t (.agg cs) (.agg ds) fun r => K (.bool r)
    | .neq => zEqA P 6 t (.agg cs) (.agg ds) fun r => K (.bool (!r))
    | _ => False)
  | a, b => zBin P lit op t h a b K
noncomputable def zRead (o : Op) (z : ZT) (h : Heap) (K : ZV → Prop) : Prop := match o with
  | .move x => K (zEv P z x)
  | .assign x => K (zEv P z x)
  | .pick c a b => match zEv P z c with | .bool t => zPick t (zEv P z a) (zEv P z b) K | _ => False
  | .nilCheck x => match zEv P z x with
    | .pv nil i o => ZAnd (nil = false) (K (.pv false i o))
    | .iface t v => K (.iface t v)
    | .fn (.plain (.func f)) a b => K (.fn (.plain (.func f)) a b)
    | .any a => ZAnd (okRef a = true) (K (.any a))
    | _ => False
  | .binOp op t x y _ => zBinA P (cnd (isLit x) true (isLit y)) op t h (zEv P z x) (zEv P z y) K
  | .unOp op _ x => match op, zEv P z x with
    | .neg, .int q n => ZW q (-n) fun r => K (.int q r)
    | .xor, .int q n => ZW q (.ofNat (Nat.xor (Nat.sub (Nat.pow 2 (kbits q)) 1) (toU q n))) fun r => K (.int q r)
    | .not, .bool b => K (.bool (!b))
    | _, _ => False
  | .convert s d x => zCnv P s d (zEv P z x) h K
  | .makeInterface t x => match Nat.beq (tagOf P t) 6, Nat.beq (tagOf P t) 0 with | false, false => K (.iface t (zEv P z x)) | _, _ => False
  | .makeFunc f a c => K (.fn (.plain f) (zEvs P z a.toList) (zEvs P z c.toList))
  | .slice t x lo hi mx => zSlc P t (zEv P z x) (zEvo P z lo) (zEvo P z hi) (zEvo P z mx) K
  | .fieldAddr t x f => zFieldAddr P t (zEv P z x) f K
  | .field t x f => zField P t (zEv P z x) f K
  | .indexAddr t x i => zIdxAddr P t (zEv P z x) (zEv P z i) K
  | .index t x i => zIdx P t (zEv P z x) (zEv P z i) K
  | .lookup t m k ok => zLookup P t (zEv P z m) (zEv P z k) ok h K
  | .load t a => match zEv P z a with | .pv nil i o => ZAnd (nil = false) (zLoad P t i o h K) | _ => False
  | .typeAssert x _ as ok => zAssert P (zEv P z x) as ok K
  | .extract t n => match zEv P z t with | .tup vs => (match zNth vs n with | some v => K v | none => False) | _ => False
  | .call c => match c.callee with | .builtin b => zBltR P b (zEvs P z c.args.toList) c.argTypes h K | _ => False
  | .build t parts => zBuild P z t parts K
  | _ => False
end
section
variable {P : Program} {h : Heap}
theorem zPick_sound {t : Bool} {a b : ZV} {K : ZV → Prop} (hs : zPick t a b K) : RdEq K (fun k => cnd t (k a.av) (k b.av)) := by
  unfold zPick at hs
  split at hs
  · refine .val _ hs fun k => ?_
    simp only [av_bool]
    cases t <;> rfl
  · split at hs
    · rename_i hb
      have e := kindN_eq hb
      subst e
      refine .val _ hs fun k => ?_
      simp only [av_int]
      cases t <;> rfl
    · exact hs.elim
  · cases t
    · exact .val _ hs fun k => rfl
    · exact .val _ hs fun k => rfl
theorem zNth_av : ∀ {cs : List ZV} {n : Nat} {v : ZV}, zNth cs n = some v → (avs cs)[n]? = some v.av
  | [], _, _, e => by simp [zNth] at e
  | w :: l, 0, v, e => by simp only [zNth, Option.some.injEq] at e; subst e; rfl
  | w :: l, n + 1, v, e => by
    have := zNth_av (cs := l) (n := n) (v := v) (by simpa [zNth] using e)
    simpa using this
theorem zDrop_av : ∀ (cs : List ZV) (n : Nat), avs (zDrop cs n) = (avs cs).drop n
  | [], 0 => rfl
  | v :: l, 0 => rfl
  | [], n + 1 => rfl
  | v :: l, n + 1 => by simpa [zDrop] using zDrop_av l n
theorem zTake_av : ∀ {n : Nat} {cs l : List ZV}, zTake n cs = some l → n ≤ (avs cs).length ∧ avs l = (avs cs).take n
  | 0, cs, l, e => by simp only [zTake, Option.some.injEq] at e; subst e; simp
  | n + 1, [], l, e => by simp [zTake] at e
  | n + 1, v :: cs, l, e => by
    simp only [zTake] at e
    split at e
    · rename_i r hr
      cases e
      obtain ⟨h1, h2⟩ := zTake_av hr
      exact ⟨by simp; omega, by simp [h2]⟩
    · cases e
theorem zPart_sound {t : TypeId} {cs : List ZV} {off : Nat} {K : ZV → Prop} (hs : zPart P t cs off K) : RdEq K (fun k => partK P t (avs cs) off k) := by
  unfold zPart at hs
  split at hs
  · rename_i ha
    split at hs
    · rename_i n hn
      split at hs
      · rename_i l hl
        obtain ⟨h1, h2⟩ := zTake_av hl
        rw [zDrop_av] at h1 h2
        refine .val _ hs fun k => ?_
        unfold partK
        rw [ha, optM_some, cnd_true, hn, optM_some, takeK_eq, dropL_eq, if_pos h1, av_agg, h2]
      · exact hs.elim
    · exact hs.elim
  · rename_i ha
    split at hs
    · rename_i v hv
      refine .val _ hs fun k => ?_
      unfold partK
      rw [ha, optM_some, cnd_false, nthL_eq, zNth_av hv, optM_some]
    · exact hs.elim
  · exact hs.elim
theorem zEqL_sound {n : Nat} {ih : TypeId → ZV → ZV → (Bool → Prop) → Prop} (hih : ∀ t a b K, ih t a b K → ∃ r, K r ∧ ∀ k : Bool → FM, eqA P n t a.av b.av k = k r) {cs ds : List ZV} {K : Bool → Prop} : ∀ l : List (TypeId × Nat), zEqL P ih l cs ds K →
    ∃ r, K r ∧ ∀ k : Bool → FM, (List.rec (motive := fun _ => FM) (k true) (fun x _ ihl => partK P x.1 (avs cs) x.2 fun u => partK P x.1 (avs ds) x.2 fun v => eqA P n x.1 u v fun r => cnd r ihl (k false)) l : FM) = k r
  | [], hs => ⟨true, hs, fun k => rfl⟩
  | x :: r, hs => by
    obtain ⟨u, hu, eu⟩ := zPart_sound (show zPart P x.1 cs x.2 _ from hs)
    obtain ⟨v, hv, ev⟩ := zPart_sound hu
    have eu' : ∀ k, partK P x.1 (avs cs) x.2 k = k u.av := eu
    have ev' : ∀ k, partK P x.1 (avs ds) x.2 k = k v.av := ev
    obtain ⟨b, hb, eb⟩ := hih _ _ _ _ hv
    cases b with
    | true =>
      obtain ⟨q, hq, eq⟩ := zEqL_sound hih r hb
      refine ⟨q, hq, fun k => ?_⟩
      show (partK P x.1 (avs cs) x.2 fun u => partK P x.1 (avs ds) x.2 fun v => eqA P n x.1 u v fun r' => cnd r' _ (k false)) = k q
      rw [eu', ev', eb, cnd_true]
      exact eq k
    | false =>
      refine ⟨false, hb, fun k => ?_⟩
      show (partK P x.1 (avs cs) x.2 fun u => partK P x.1 (avs ds) x.2 fun v => eqA P n x.1 u v fun r' => cnd r' _ (k false)) = k false
      rw [eu', ev', eb, cnd_false]
theorem zEqA_sound : ∀ (n : Nat) (t : TypeId) (a b : ZV) (K : Bool → Prop), zEqA P n t a b K → ∃ r, K r ∧ ∀ k : Bool → FM, eqA P n t a.av b.av k = k r
  | 0, _, _, _, _, hs => False.elim hs
  | n + 1, t, a, b, K, hs => by
    unfold zEqA at hs
    split at hs
    · rename_i cs ds
      split at hs
      · rename_i l hl
        obtain ⟨r, hr, e⟩ := zEqL_sound (n := n) (fun t a b K h => zEqA_sound n t a b K h) l hs
        refine ⟨r, hr, fun k => ?_⟩
        rw [av_agg, av_agg]
        show (optM (partsEq P t) (.fail 65) fun l => (List.rec (motive := fun _ => FM) (k true) (fun x _ ihl => partK P x.1 (avs cs) x.2 fun u => partK P x.1 (avs ds) x.2 fun v => eqA P n x.1 u v fun r => cnd r ihl (k false)) l : FM)) = k r
        rw [hl, optM_some]
        exact e k
      · exact hs.elim
    · rename_i q x r y
      split at hs
      · rename_i h1 h2
        refine ⟨_, hs, fun k => ?_⟩
        rw [av_int, av_int]
        show tagIs P t 2 (kEq q r (k (eqI x y))) = _
        unfold tagIs kEq
        rw [h1, h2, cnd_true, cnd_true, eqI_dec]
      · exact hs.elim
    · rename_i x y
      split at hs
      · rename_i h1
        refine ⟨_, hs, fun k => ?_⟩
        rw [av_bool, av_bool]
        show tagIs P t 1 (k (cnd x y (cnd y false true))) = _
        unfold tagIs
        rw [h1, cnd_true]
        cases x <;> cases y <;> rfl
      · exact hs.elim
    · exact hs.elim
theorem mlook_findK {key : AV} : ∀ {es : List (AV × AV)} {k : Option AV → FM}, keysFit es key = true → findK key es k = k (mlook es key)
  | [], k, _ => rfl
  | e :: r, k, hf => by
    have hf' : (keyFit key e.1 && keysFit r key) = true := hf
    rw [Bool.and_eq_true] at hf'
    obtain ⟨h1, h2⟩ := hf'
    have ih := mlook_findK (es := r) (k := k) h2
    show keyEqK key e.1 (fun b => cnd b (k (some e.2)) (findK key r k)) = k (match eqAV key e.1 with | true => some e.2 | false => mlook r key)
    obtain ⟨ek, ev⟩ := e
    simp only at h1 ⊢
    cases ek with
    | int r2 m =>
      cases key with
      | int q n =>
        have hb : Nat.beq (kindN q) (kindN r2) = true := h1
        have e1 : keyEqK (.int q n) (.int r2 m) (fun b => cnd b (k (some ev)) (findK (.int q n) r k)) = cnd (eqI n m) (k (some ev)) (findK (.int q n) r k) := by
          show cnd (Nat.beq (kindN q) (kindN r2)) _ _ = _
          rw [hb]; rfl
        have e2 : eqAV (.int q n) (.int r2 m) = eqI n m := by
          show cnd (Nat.beq (kindN q) (kindN r2)) (eqI n m) false = _
          rw [hb]; rfl
        rw [e1, e2]
        cases eqI n m
        · rw [cnd_false]; exact ih
        · rfl
      | _ => cases h1
    | str s2 =>
      cases key with
      | str s1 =>
        have e1 : keyEqK (.str s1) (.str s2) (fun b => cnd b (k (some ev)) (findK (.str s1) r k)) = cnd (bytesEq s1 s2) (k (some ev)) (findK (.str s1) r k) := rfl
        have e2 : eqAV (.str s1) (.str s2) = bytesEq s1 s2 := by
          show eqNs s1 s2 = _
          rw [bytesEq_dec]
          by_cases e : s1 = s2
          · subst e
            simp only [decide_true]
            have : ∀ l : List Nat, eqNs l l = true := fun l => by
              induction l with
              | nil => rfl
              | cons x t ih => show cnd (Nat.beq x x) (eqNs t t) false = true; rw [Nat.beq_refl, cnd_true, ih]
            exact this _
          · simp only [e, decide_false]
            cases hb : eqNs s1 s2
            · rfl
            · exact absurd (eqNs_eq hb) e
        rw [e1, e2]
        cases bytesEq s1 s2
        · rw [cnd_false]; exact ih
        · rfl
      | _ => cases h1
    | _ => cases h1
end
end Go.X

namespace Go.X
section
variable {P : Program} {h : Heap}
theorem bytesK_ofBytes : ∀ (l : List Nat) (k : List Nat → FM), (∀ x, x ∈ l → x < 256) → bytesK (ofBytes l) k = k l
  | [], k, _ => rfl
  | b :: l, k, hb => by
    show cnd (ltb b 256) (bytesK (ofBytes l) fun r => k (b :: r)) (.fail 29) = _
    rw [ltb_iff.2 (hb b (by simp)), cnd_true, bytesK_ofBytes l _ fun x hx => hb x (by simp [hx])]
theorem zCnv_sound {s d : TypeId} {x : ZV} {K : ZV → Prop} (hs : zCnv P s d x h K) : RdOk h K (fun k => xConvert P s d x.av k) := by
  unfold zCnv at hs
  split at hs
  · rename_i q _ n hc
    obtain ⟨hs⟩ := hs
    refine .val _ hs fun k => ?_
    unfold xConvert
    rw [hc, av_int]
    show retI q n k = _
    rw [retI_eq, av_int]
  · rename_i l hc
    refine .val _ hs fun k => ?_
    unfold xConvert
    rw [hc, av_str]; rfl
  · rename_i s hc
    obtain ⟨l, hn, hsl, hb, hk⟩ := hs
    obtain ⟨sn, si, so, sl, sc, se⟩ := s
    refine ⟨_, hk, fun k p hp => ?_⟩
    unfold xConvert
    rw [hc, av_sl]
    cases sn with
    | true =>
      have e := hn rfl
      subst e
      cases se <;> (show (k (.str [])).sat p h; simpa using hp)
    | false =>
      obtain ⟨c, hc1, hc2, hc3⟩ := hsl rfl
      show (readCells si fun c => takeK sl (dropL so c) fun l => bytesK l fun s => k (.str s)).sat p h
      refine readCells_sat hc1 ?_
      simp only at hc2 hc3
      rw [takeK_eq, dropL_eq, if_pos hc3, hc2, bytesK_ofBytes _ _ hb]
      simpa using hp
  · exact hs.elim
theorem zAsT_sound {t : TypeId} {a : AV} {K : ZV → Prop} (hs : zAsT P t a K) : ∃ v, a = v.av ∧ K v := by
  obtain ⟨u, e, k⟩ := zTy1_spec hs
  exact ⟨u, e.symm, k⟩
theorem lkDone_sound {t : TypeId} {e : TypeId} {z : AV} (hz : zeroO P e = some z) {ok : Bool} {nil : Bool} {i : Nat} {key : AV} {K : ZV → Prop}
    (hs : ZLook h nil i key (fun v => zAsT P e v fun u => cnd ok (K (.tup [u, .bool true])) (K u)) (cnd ok (K (.tup [zOf z, .bool false])) (K (zOf z)))) :
    RdOk h K (fun k => (ZV.mp nil i).av.onMapN (lkDone P e ok none k) (fun i => .get i fun o => o.onMap (fun es _ => findK key es fun r => lkDone P e ok r k) (.fail 134)) (.fail 135)) := by
  have hn := hs.nilCase
  have hm := hs.mapCase
  have none_ok : (cnd ok (K (.tup [zOf z, .bool false])) (K (zOf z))) → ∃ v, K v ∧ ∀ (k : KV) (p : Post), (k v.av).sat p h → (lkDone P e ok none k).sat p h := by
    intro hk
    cases ok with
    | true =>
      refine ⟨_, hk, fun k p hp => ?_⟩
      show (zeroVal P e fun z => cnd true (k (.tuple [z, .bool false])) (k z)).sat p h
      unfold zeroVal
      rw [hz, optM_some, cnd_true]
      simpa [zOf_av] using hp
    | false =>
      refine ⟨_, hk, fun k p hp => ?_⟩
      show (zeroVal P e fun z => cnd false (k (.tuple [z, .bool false])) (k z)).sat p h
      unfold zeroVal
      rw [hz, optM_some, cnd_false]
      simpa [zOf_av] using hp
  cases nil with
  | true =>
    obtain ⟨v, hk, e1⟩ := none_ok (hn rfl)
    exact ⟨v, hk, fun k p hp => e1 k p hp⟩
  | false =>
    obtain ⟨es, ver, hg, hf, hsome, hnone⟩ := hm rfl
    have fin : ∀ (r : Option AV), mlook es key = r → (∃ v, K v ∧ ∀ (k : KV) (p : Post), (k v.av).sat p h → (lkDone P e ok r k).sat p h) →
        RdOk h K (fun k => (ZV.mp false i).av.onMapN (lkDone P e ok none k) (fun i => .get i fun o => o.onMap (fun es _ => findK key es fun r => lkDone P e ok r k) (.fail 134)) (.fail 135)) := by
      intro r hr ⟨v, hk, e1⟩
      refine ⟨v, hk, fun k p hp => ?_⟩
      show (FM.get i fun o => o.onMap (fun es _ => findK key es fun r => lkDone P e ok r k) (.fail 134)).sat p h
      refine ⟨_, hg, ?_⟩
      show (findK key es fun r => lkDone P e ok r k).sat p h
      rw [mlook_findK hf, hr]
      exact e1 k p hp
    cases hr : mlook es key with
    | none => exact fin none hr (none_ok (hnone hr))
    | some a =>
      obtain ⟨u, eu, hk⟩ := zAsT_sound (hsome a hr)
      refine fin (some a) hr ?_
      cases ok with
      | true =>
        refine ⟨_, hk, fun k p hp => ?_⟩
        show (k (.tuple [a, .bool true])).sat p h
        rw [eu]; simpa using hp
      | false =>
        refine ⟨_, hk, fun k p hp => ?_⟩
        show (k a).sat p h
        rw [eu]; exact hp
theorem zLookup_sound {t : TypeId} {m key : ZV} {ok : Bool} {K : ZV → Prop} (hs : zLookup P t m key ok h K) : RdOk h K (fun k => xLookup P t m.av key.av ok k) := by
  unfold zLookup at hs
  split at hs
  · rename_i nil i kt e hm
    split at hs
    · rename_i q n
      split at hs
      · rename_i z ht hz
        obtain ⟨v, hk, e1⟩ := lkDone_sound (t := t) hz hs
        refine ⟨v, hk, fun k p hp => ?_⟩
        have h1 := e1 k p hp
        show (mapK P t fun e => fitK P t (ZV.int q n).av ((ZV.mp nil i).av.onMapN (lkDone P e ok none k) (fun i => .get i fun o => o.onMap (fun es _ => findK (ZV.int q n).av es fun r => lkDone P e ok r k) (.fail 134)) (.fail 135))).sat p h
        unfold mapK fitK
        rw [hm, optM_some]
        simp only [ht, cnd_true]
        rw [optM_some, av_int]
        show FM.sat (cnd (Nat.beq (tagOf P kt) 2) _ _) p h
        rw [ht, cnd_true]
        exact h1
      · exact hs.elim
    · rename_i l
      split at hs
      · rename_i z ht hz
        obtain ⟨v, hk, e1⟩ := lkDone_sound (t := t) hz hs
        refine ⟨v, hk, fun k p hp => ?_⟩
        have h1 := e1 k p hp
        show (mapK P t fun e => fitK P t (ZV.str l).av ((ZV.mp nil i).av.onMapN (lkDone P e ok none k) (fun i => .get i fun o => o.onMap (fun es _ => findK (ZV.str l).av es fun r => lkDone P e ok r k) (.fail 134)) (.fail 135))).sat p h
        unfold mapK fitK
        rw [hm, optM_some]
        have h2 : Nat.beq (tagOf P kt) 2 = false := by
          cases hb : Nat.beq (tagOf P kt) 2
          · rfl
          · have a := natbeq hb; have b := natbeq ht; omega
        simp only [ht, h2, cnd_true, cnd_false]
        rw [optM_some, av_str]
        show FM.sat (cnd (Nat.beq (tagOf P kt) 3) _ _) p h
        rw [ht, cnd_true]
        exact h1
      · exact hs.elim
    · exact hs.elim
  · exact hs.elim
theorem zTa_sound {as : TypeId} {ok r : Bool} {v : ZV} {K : ZV → Prop} (hs : zTa P as ok r v K) : RdEq K (fun k => taDone P as ok r v.av k) := by
  unfold zTa at hs
  split at hs
  · refine .val _ hs fun k => ?_
    simp; rfl
  · exact .val _ hs fun k => rfl
  · split at hs
    · rename_i z hz
      refine .val _ hs fun k => ?_
      show zeroVal P as (fun z => k (.tuple [z, .bool false])) = _
      unfold zeroVal
      rw [hz, optM_some]
      simp [zOf_av]
    · exact hs.elim
  · exact hs.elim
theorem zAssert_sound {x : ZV} {as : TypeId} {ok : Bool} {K : ZV → Prop} (hs : zAssert P x as ok K) : RdEq K (fun k => cnd (Nat.beq (tagOf P as) 0) (.fail 149) (x.av.onIfaceN (taDone P as ok false .junk k)
    (fun t v => Option.rec (motive := fun _ => FM) (taDone P as ok (Nat.beq t as) v k)
      (fun want => optM (hasMethods P want t) (.fail 149) fun r => taDone P as ok r (.iface t v) k) (ifaceO P as)) (.fail 150))) := by
  unfold zAssert at hs
  split at hs
  · rename_i t v ht
    rw [ht]
    simp only [cnd_false, av_iface]
    split at hs
    · rename_i hi
      rw [hi]
      exact zTa_sound hs
    · rename_i want hi
      rw [hi]
      split at hs
      · rename_i r hr
        have := zTa_sound hs
        simp only [av_iface] at this
        show RdEq K fun k => optM (hasMethods P want t) (.fail 149) fun r => taDone P as ok r (.iface t v.av) k
        rw [hr]
        exact this
      · exact hs.elim
  · rename_i ht
    rw [ht]
    simp only [cnd_false, av_any]
    have := zTa_sound hs
    simp only [av_any] at this
    exact this
  · exact hs.elim
theorem zLen_sound {t : TypeId} {x : ZV} {K : ZV → Prop} (hs : zLen P t x h K) : RdOk h K (fun k => xLen P t x.av k) := by
  unfold zLen at hs
  split at hs
  · rename_i s
    split at hs
    · rename_i ht
      refine .val _ hs fun k => ?_
      obtain ⟨sn, si, so, sl, sc, se⟩ := s
      have hrn : ∀ n, retN n k = k (.int .i64 (.ofNat n)) := fun n => forceNat_eq _ _
      cases sn with
      | true =>
        rw [av_sl, av_int]
        cases se <;> (show cnd (Nat.beq (tagOf P t) 9) (retN Nat.zero k) (.fail 42) = _; rw [ht, cnd_true, hrn]; rfl)
      | false =>
        rw [av_sl, av_int]
        show cnd (Nat.beq (tagOf P t) 9) (retN sl k) (.fail 42) = _
        rw [ht, cnd_true, hrn]; rfl
    · exact hs.elim
  · rename_i l
    split at hs
    · rename_i ht
      refine .val _ hs fun k => ?_
      rw [av_str, av_int]
      show cnd (Nat.beq (tagOf P t) 3) (lenK l Nat.zero fun n => retN n k) (.fail 42) = _
      rw [ht, cnd_true, lenK_eq, show Nat.zero + l.length = l.length from Nat.zero_add _]
      exact forceNat_eq _ _
    · exact hs.elim
  · rename_i nil i
    split at hs
    · rename_i ht
      cases nil with
      | true =>
        refine .val _ hs fun k => ?_
        rw [av_mpt, av_int]
        show cnd (Nat.beq (tagOf P t) 10) (retN Nat.zero k) (.fail 41) = _
        rw [ht, cnd_true]
        exact forceNat_eq _ _
      | false =>
        obtain ⟨es, ver, hg, hk⟩ := hs
        refine ⟨_, hk, fun k p hp => ?_⟩
        rw [av_mpf]
        show FM.sat (cnd (Nat.beq (tagOf P t) 10) (.get i fun o => o.onMap (fun es _ => lenK es Nat.zero fun n => retN n k) (.fail 41)) (.fail 41)) p h
        rw [ht, cnd_true]
        refine ⟨_, hg, ?_⟩
        show (lenK es Nat.zero fun n => retN n k).sat p h
        rw [lenK_eq, show Nat.zero + es.length = es.length from Nat.zero_add _]
        unfold retN
        rw [forceNat_eq]; simpa using hp
    · exact hs.elim
  · exact hs.elim
theorem zBltR_sound {b : Builtin} {l : List ZV} {ts : Array TypeId} {K : ZV → Prop} (hs : zBltR P b l ts h K) : RdOk h K (fun k => bltK P b (avs l) ts k) := by
  unfold zBltR at hs
  split at hs
  · rename_i x
    split at hs
    · rename_i t ht
      obtain ⟨v, hk, e⟩ := zLen_sound hs
      refine ⟨v, hk, fun k p hp => ?_⟩
      show (optM ts[0]? (.fail 50) fun t => args1 (avs [x]) fun x => xLen P t x k).sat p h
      rw [ht, optM_some]
      exact e k p hp
    · exact hs.elim
  · rename_i s
    split at hs
    · rename_i t ht
      split at hs
      · rename_i htag
        obtain ⟨he, hk⟩ := hs
        refine .val _ hk fun k => ?_
        show optM ts[0]? (.fail 50) (fun t => args1 (avs [ZV.sl s]) fun x => cnd (Nat.beq (tagOf P t) 9) (x.onSlice (retN Nat.zero k) (.fail 51) (fun _ _ _ c ext => cnd ext (.fail 52) (retN c k)) (.fail 53)) (.fail 53)) = _
        rw [ht, optM_some]
        show cnd (Nat.beq (tagOf P t) 9) ((ZV.sl s).av.onSlice (retN Nat.zero k) (.fail 51) (fun _ _ _ c ext => cnd ext (.fail 52) (retN c k)) (.fail 53)) (.fail 53) = _
        rw [htag, cnd_true, av_sl, av_int]
        obtain ⟨sn, si, so, sl, sc, se⟩ := s
        simp only at he
        subst he
        cases sn with
        | true => exact forceNat_eq Nat.zero fun m => k (.int .i64 (.ofNat m))
        | false =>
          exact forceNat_eq sc fun m => k (.int .i64 (.ofNat m))
      · exact hs.elim
    · exact hs.elim
  · rename_i q n r m
    split at hs
    · rename_i hb
      refine .val _ hs fun k => ?_
      simp only [avs_cons, av_int, avs_nil]
      show kEq q r (k (.int q (cnd (ltI n m) m n))) = _
      rw [kEq_true hb, ltI_eq]
      by_cases hlt : n < m <;> simp [hlt, cnd]
    · exact hs.elim
  · rename_i q n r m
    split at hs
    · rename_i hb
      refine .val _ hs fun k => ?_
      simp only [avs_cons, av_int, avs_nil]
      show kEq q r (k (.int q (cnd (ltI m n) m n))) = _
      rw [kEq_true hb, ltI_eq]
      by_cases hlt : m < n <;> simp [hlt, cnd]
    · exact hs.elim
  · exact hs.elim
theorem zOver_av : ∀ {vs l r : List ZV}, zOver vs l = some r → ∀ k : List AV → FM, overK (avs vs) (avs l) k = k (avs r)
  | [], l, r, e, k => by simp only [zOver, Option.some.injEq] at e; subst e; rfl
  | v :: vs, [], r, e, k => by simp [zOver] at e
  | v :: vs, w :: l, r, e, k => by
    simp only [zOver] at e
    split at e
    · rename_i r' hr
      cases e
      show overK (avs vs) (avs l) (fun r => k (v.av :: r)) = _
      rw [zOver_av hr]; rfl
    · cases e
theorem zPutAt_av {vs : List ZV} : ∀ {n : Nat} {l r : List ZV}, zPutAt vs n l = some r → ∀ k : List AV → FM, putK (avs vs) n (avs l) k = k (avs r)
  | 0, l, r, e, k => zOver_av (by simpa [zPutAt] using e) k
  | n + 1, [], r, e, k => by simp [zPutAt] at e
  | n + 1, v :: l, r, e, k => by
    simp only [zPutAt] at e
    split at e
    · rename_i r' hr
      cases e
      show putK (avs vs) n (avs l) (fun r => k (v.av :: r)) = _
      rw [zPutAt_av hr]; rfl
    · cases e
theorem plain_cellsK {a : AV} (h : a.plainC = true) (k : List AV → FM) : a.cellsK k = k [a] := by cases a <;> first | rfl | cases h
theorem plainC_of {v : ZV} (hv : ∀ a, v ≠ .any a) (h2 : ∀ cs, v ≠ .agg cs) (h3 : ∀ cs, v ≠ .tup cs) : v.av.plainC = true := by
  cases v with
  | any a => exact absurd rfl (hv a)
  | agg cs => exact absurd rfl (h2 cs)
  | tup cs => exact absurd rfl (h3 cs)
  | bool b => rw [av_bool]; rfl
  | int q n => rw [av_int]; rfl
  | str s => rw [av_str]; rfl
  | pv n i o => cases n <;> simp <;> rfl
  | sl s => obtain ⟨n, _, _, _, _, x⟩ := s; cases n <;> cases x <;> simp [SL.av] <;> rfl
  | mp n i => cases n <;> simp <;> rfl
  | fn f a c => rw [av_fn]; rfl
  | iface t v => rw [av_iface]; rfl
theorem zCells_sound {n : Nat} {v : ZV} {K : List ZV → Prop} (hs : zCells n v K) : ∃ cs, K cs ∧ cs.length = n ∧ v.av.cellsK = (fun k => k (avs cs)) ∧ ∀ k : List AV → FM, cellsN n v.av k = k (avs cs) := by
  have fin : ∀ (cs : List ZV), cs.length = n → (v.av.cellsK = fun k => k (avs cs)) → ∀ k : List AV → FM, cellsN n v.av k = k (avs cs) := by
    intro cs hl he k
    show (v.av.cellsK fun cs => lenK cs Nat.zero fun m => cnd (Nat.beq m n) (k cs) (.fail 18)) = _
    rw [he]
    show lenK (avs cs) Nat.zero (fun m => cnd (Nat.beq m n) (k (avs cs)) (.fail 18)) = _
    rw [lenK_eq, avs_length, show Nat.zero + cs.length = cs.length from Nat.zero_add _, hl, Nat.beq_refl, cnd_true]
  unfold zCells at hs
  split at hs
  · rename_i cs
    split at hs
    · rename_i hb
      have hl := natbeq hb
      have he : (ZV.agg cs).av.cellsK = fun k => k (avs cs) := by rw [av_agg]; rfl
      exact ⟨cs, hs, hl, he, fin cs hl he⟩
    · exact hs.elim
  · exact hs.elim
  · rename_i a
    split at hs
    · obtain ⟨hp, hk⟩ := hs
      have he : (ZV.any a).av.cellsK = fun k => k (avs [.any a]) := by
        funext k; rw [av_any, plain_cellsK hp]; simp
      exact ⟨_, hk, rfl, he, fin [.any a] rfl he⟩
    · exact hs.elim
  · rename_i n1 n2 n3
    split at hs
    · have hp := plainC_of (v := v) (fun a e => n3 a e) (fun cs e => n1 cs e) (fun cs e => n2 cs e)
      have he : v.av.cellsK = fun k => k (avs [v]) := by
        funext k; rw [plain_cellsK hp]; simp
      exact ⟨_, hs, rfl, he, fin [v] rfl he⟩
    · exact hs.elim
theorem zFill_sound {z : ZT} {c : OC} (hev : ∀ x, c.ev x = (zEv P z x).av) {place : Nat → Option (Nat × Nat)} : ∀ {parts : List (Nat × Operand)} {cs : List ZV} {K : List ZV → Prop}, zFill P z place parts cs K →
    ∃ r, K r ∧ r.length = cs.length ∧ ∀ k : List AV → FM, fillK c place parts (avs cs) k = k (avs r)
  | [], cs, K, hs => ⟨cs, hs, rfl, fun k => rfl⟩
  | p :: parts, cs, K, hs => by
    unfold zFill at hs
    split at hs
    · rename_i os ho
      obtain ⟨ps, hs2, _, _, e1⟩ := zCells_sound hs
      split at hs2
      · rename_i cs' hp
        obtain ⟨r, hk, hl, e2⟩ := zFill_sound hev hs2
        have hl2 : cs'.length = cs.length := by
          have key : ∀ {vs l r : List ZV}, zOver vs l = some r → r.length = l.length := by
            intro vs
            induction vs with
            | nil => intro l r e; simp only [zOver, Option.some.injEq] at e; rw [e]
            | cons v vs ih =>
              intro l r e
              cases l with
              | nil => simp [zOver] at e
              | cons w l =>
                simp only [zOver] at e
                split at e
                · rename_i r' hr; cases e; simp [ih hr]
                · cases e
          have key2 : ∀ {n : Nat} {l r : List ZV}, zPutAt ps n l = some r → r.length = l.length := by
            intro n
            induction n with
            | zero => intro l r e; exact key (by simpa [zPutAt] using e)
            | succ n ih =>
              intro l r e
              cases l with
              | nil => simp [zPutAt] at e
              | cons w l =>
                simp only [zPutAt] at e
                split at e
                · rename_i r' hr; cases e; simp [ih hr]
                · cases e
          exact key2 hp
        refine ⟨r, hk, by omega, fun k => ?_⟩
        show optM (place p.1) (.fail 102) (fun os => cellsN os.2 (c.ev p.2) fun ps => putK ps os.1 (avs cs) fun cs' => fillK c place parts cs' k) = _
        rw [ho, optM_some, hev, e1, zPutAt_av hp, e2]
      · exact hs2.elim
    · exact hs.elim
theorem cellsOf_cellsK {a : AV} {cs : List AV} (h : cellsOf a = some cs) (k : List AV → FM) : a.cellsK k = k cs := by
  cases a <;> simp [cellsOf] at h <;> subst h <;> rfl
theorem zBuild_sound {z : ZT} {c : OC} (hev : ∀ x, c.ev x = (zEv P z x).av) {t : TypeId} {parts : Array (Nat × Operand)} {K : ZV → Prop} (hs : zBuild P z t parts K) {kd : ADef → FM} {kp : Chain → FM} : RdEq K (fun k => oBuild P t parts c k kd kp) := by
  unfold zBuild at hs
  split at hs
  · rename_i zs pl hz hp
    obtain ⟨zv, hz1, hz2⟩ := Option.bind_eq_some_iff.1 hz
    obtain ⟨r, hk, _, e⟩ := zFill_sound hev hs
    refine .val _ hk fun k => ?_
    unfold oBuild
    rw [hz1, optM_some, hp, optM_some, cellsOf_cellsK hz2]
    rw [zOfs_av] at e
    rw [e, av_agg]
  · exact hs.elim
end
end Go.X

namespace Go.X
section
variable {P : Program} {h : Heap} {z : ZT} {c : OC} {kd : ADef → FM} {kp : Chain → FM}
theorem evs_av (hev : ∀ x, c.ev x = (zEv P z x).av) : ∀ l : List Operand, c.evs l = avs (zEvs P z l)
  | [] => rfl
  | x :: l => by
    show c.ev x :: c.evs l = avs (zEv P z x :: zEvs P z l)
    rw [hev, evs_av hev l, avs_cons]
theorem evo_av (hev : ∀ x, c.ev x = (zEv P z x).av) (x : Option Operand) : c.evo x = (zEvo P z x).map ZV.av := by
  cases x with
  | none => rfl
  | some y => show some (c.ev y) = _; rw [hev]; rfl
theorem RdOk.eq {K : ZV → Prop} {m m' : KV → FM} (e : ∀ k, m k = m' k) (r : RdOk h K m') : RdOk h K m := by
  obtain ⟨v, h1, h2⟩ := r
  exact ⟨v, h1, fun k p hp => by rw [e]; exact h2 k p hp⟩
/-- does an operation that reads look into no memory -/
def isPure (o : Op) : Bool := match o with
  | .move _ | .assign _ | .pick _ _ _ | .nilCheck _ | .unOp _ _ _ | .makeInterface _ _ | .makeFunc _ _ _ | .slice _ _ _ _ _ | .fieldAddr _ _ _ | .field _ _ _ | .indexAddr _ _ _ | .index _ _ _ | .typeAssert _ _ _ _ | .extract _ _ | .build _ _ => true
  | _ => false
/-- an operation that looks into no memory -/
theorem zRead_pure (hev : ∀ x, c.ev x = (zEv P z x).av) {o : Op} (hp : isPure o = true) {K : ZV → Prop} (hs : zRead P o z h K) : RdEq K (fun k => opK P o c k kd kp) := by
  unfold zRead at hs
  split at hs
  · exact .val _ hs fun k => congrArg k (hev _)
  · exact .val _ hs fun k => congrArg k (hev _)
  · rename_i x a b
    split at hs
    · rename_i t ht
      refine .eq (fun k => ?_) (zPick_sound hs)
      show (c.ev x).onBool (fun t => cnd t (k (c.ev a)) (k (c.ev b))) (.fail 100) = _
      rw [hev, hev, hev, ht, av_bool]; rfl
    · exact hs.elim
  · rename_i x
    have e : ∀ k, opK P (.nilCheck x) c k kd kp = (c.ev x).onPtr (fun i o => k (.ptr i o)) ((c.ev x).onIface (fun t v => k (.iface t v)) ((c.ev x).onFunc (fun f a b => afnM f (fun _ => k (.func f a b)) (fun _ => .fail 109) (fun _ => k (.func f a b)) (.fail 109)) (.fail 109))) := fun k => rfl
    split at hs
    · rename_i nil i o hx
      obtain ⟨hn, hk⟩ := hs
      subst hn
      refine .val _ hk fun k => ?_
      rw [e, hev, hx, av_pvf]; rfl
    · rename_i t v hx
      refine .val _ hs fun k => ?_
      rw [e, hev, hx, av_iface]; rfl
    · rename_i f a b hx
      refine .val _ hs fun k => ?_
      rw [e, hev, hx, av_fn]; rfl
    · rename_i a hx
      obtain ⟨ho, hk⟩ := hs
      refine .val _ hk fun k => ?_
      rw [e, hev, hx, av_any]
      cases a with
      | ptr i o => rfl
      | iface t v => rfl
      | func f a b =>
        cases f with
        | plain g =>
          cases g with
          | func g => rfl
          | _ => cases ho
        | yield i => rfl
      | _ => cases ho
    · exact hs.elim
  · cases hp
  · rename_i op t x
    split at hs
    · rename_i q n hx
      obtain ⟨hs⟩ := hs
      refine .val _ hs fun k => ?_
      show (c.ev x).onInt (fun q n => retI q (negI n) k) (.fail 114) = _
      rw [hev, hx, av_int, av_int]
      show retI q (negI n) k = _
      rw [retI_eq, negI_eq]
    · rename_i q n hx
      obtain ⟨hs⟩ := hs
      refine .val _ hs fun k => ?_
      show (c.ev x).onInt (fun q n => retI q (.ofNat (Nat.xor (Nat.sub (Nat.pow 2 (kbits q)) 1) (toU q n))) k) (.fail 114) = _
      rw [hev, hx, av_int, av_int]
      show retI q (.ofNat (Nat.xor (Nat.sub (Nat.pow 2 (kbits q)) 1) (toU q n))) k = _
      rw [retI_eq]
    · rename_i b hx
      refine .val _ hs fun k => ?_
      show (c.ev x).onBool (fun b => retB b.not k) (.fail 114) = _
      rw [hev, hx, av_bool, av_bool]
      show retB b.not k = _
      rw [retB_eq]
    · exact hs.elim
  · cases hp
  · rename_i t x
    split at hs
    · rename_i h6 h0
      refine .val _ hs fun k => ?_
      show cnd (Nat.beq (tagOf P t) 6) (.fail 115) (cnd (Nat.beq (tagOf P t) 0) (.fail 115) (k (.iface t (c.ev x)))) = _
      rw [h6, h0, hev, cnd_false, cnd_false, av_iface]
    · exact hs.elim
  · rename_i f a b
    refine .val _ hs fun k => ?_
    show k (.func (.plain f) (c.evs a.toList) (c.evs b.toList)) = _
    rw [evs_av hev, evs_av hev, av_fn]
  · rename_i t x lo hi mx
    refine .eq (fun k => ?_) (zSlc_sound hs)
    show xSlice P t (c.ev x) (c.evo lo) (c.evo hi) (c.evo mx) k = _
    rw [hev, evo_av hev, evo_av hev, evo_av hev]
  · rename_i t x f
    unfold zFieldAddr at hs
    split at hs
    · rename_i nil i o fd hx hf
      split at hs
      · rename_i n hsz
        obtain ⟨hn, hk⟩ := hs
        subst hn
        refine .val _ hk fun k => ?_
        show (c.ev x).onPtr (fun i o => optM (fieldO P t f) (.fail 118) fun fd => optM (szO P fd.type) (.fail 118) fun n => cnd (Nat.beq n Nat.zero) (.fail 118) (forceNat (Nat.add o fd.offset) fun o' => k (.ptr i o'))) (.fail 119) = _
        rw [hev, hx, av_pvf, av_pvf]
        show optM (fieldO P t f) (.fail 118) (fun fd => optM (szO P fd.type) (.fail 118) fun n => cnd (Nat.beq n Nat.zero) (.fail 118) (forceNat (Nat.add o fd.offset) fun o' => k (.ptr i o'))) = _
        rw [hf, optM_some, hsz, optM_some]
        show forceNat (Nat.add o fd.offset) (fun o' => k (.ptr i o')) = _
        rw [forceNat_eq]
      · exact hs.elim
    · exact hs.elim
  · rename_i t x f
    unfold zField at hs
    split at hs
    · rename_i cs fd hx hf
      refine .eq (fun k => ?_) (zPart_sound hs)
      show (c.ev x).onAgg (fun cs => optM (fieldO P t f) (.fail 120) fun fd => partK P fd.type cs fd.offset k) (.fail 121) = _
      rw [hev, hx, av_agg]
      show optM (fieldO P t f) (.fail 120) (fun fd => partK P fd.type (avs cs) fd.offset k) = _
      rw [hf, optM_some]
    · exact hs.elim
  · rename_i t x ix
    have e : ∀ k, opK P (.indexAddr t x ix) c k kd kp = (c.ev x).onSlicePtr (fun i o len _ _ => optM (elemS P t) (.fail 124) fun e => ixAt P e i o len (c.ev ix) k)
      (fun i o => optM (elemA P t) (.fail 125) fun ne => ixAt P ne.2 i o ne.1 (c.ev ix) k) (.fail 126) := fun k => rfl
    have ix_eq : ∀ {e : TypeId} {sz : Nat}, szO P e = some sz → ∀ (i o len m : Nat) (q : IntKind), m < len → ∀ k : KV, ixAt P e i o len (.int q (m : Int)) k = k (.ptr i (o + m * sz)) := by
      intro e sz hsz i o len m q hlt k
      show cnd (ltb m len) (optM (szO P e) (.fail 122) fun sz => forceNat (Nat.add o (Nat.mul m sz)) fun o' => k (.ptr i o')) (.fail 122) = _
      rw [ltb_iff.2 hlt, cnd_true, hsz, optM_some, forceNat_eq]; rfl
    unfold zIdxAddr at hs
    split at hs
    · rename_i s q n hx hix
      split at hs
      · rename_i sz he
        obtain ⟨e1, he1, he2⟩ := Option.bind_eq_some_iff.1 he
        obtain ⟨hn, m, en, hlt, hk⟩ := hs
        obtain ⟨sn, si, so, sl, sc, se⟩ := s
        simp only at hn
        subst hn; subst en
        refine .val _ hk fun k => ?_
        rw [e, hev, hev, hx, hix, av_sl, av_int, av_pvf]
        show optM (elemS P t) (.fail 124) (fun e => ixAt P e si so sl (.int q (m : Int)) k) = _
        rw [he1, optM_some, ix_eq he2 _ _ _ _ _ hlt]
      · exact hs.elim
    · rename_i nil i o q n hx hix
      split at hs
      · rename_i len e1 he1
        split at hs
        · rename_i sz he2
          obtain ⟨hn, m, en, hlt, hk⟩ := hs
          subst hn; subst en
          refine .val _ hk fun k => ?_
          rw [e, hev, hev, hx, hix, av_pvf, av_int, av_pvf]
          show optM (elemA P t) (.fail 125) (fun ne => ixAt P ne.2 i o ne.1 (.int q (m : Int)) k) = _
          rw [he1, optM_some]
          exact ix_eq he2 _ _ _ _ _ hlt k
        · exact hs.elim
      · exact hs.elim
    · exact hs.elim
  · rename_i t x ix
    unfold zIdx at hs
    split at hs
    · rename_i s q n hx hix
      split at hs
      · rename_i ht
        obtain ⟨m, en, hlt, hk⟩ := hs
        subst en
        refine .val _ hk fun k => ?_
        show (c.ev x).onStrAgg (fun s => tagIs P t 3 ((c.ev ix).onNat (fun n => optM (nthL s n) (.fail 127) fun b => k (.int .u8 (.ofNat b))) (.fail 128)))
          (fun cs => (c.ev ix).onNat (fun n => optM (elemA P t) (.fail 129) fun ne => cnd (ltb n ne.1) (optM (szO P ne.2) (.fail 129) fun sz => partK P ne.2 cs (Nat.mul n sz) k) (.fail 130)) (.fail 128)) (.fail 131) = _
        rw [hev, hev, hx, hix, av_str, av_int, av_int]
        show tagIs P t 3 (optM (nthL s m) (.fail 127) fun b => k (.int .u8 (.ofNat b))) = _
        rw [tagIs_true ht, nthL_eq, List.getElem?_eq_getElem hlt, optM_some, List.getD_eq_getElem?_getD, List.getElem?_eq_getElem hlt]; rfl
      · exact hs.elim
    · exact hs.elim
  · cases hp
  · cases hp
  · rename_i x xt as ok
    refine .eq (fun k => ?_) (zAssert_sound hs)
    show cnd (Nat.beq (tagOf P as) 0) (.fail 149) ((c.ev x).onIfaceN (taDone P as ok false .junk k)
      (fun t v => Option.rec (motive := fun _ => FM) (taDone P as ok (Nat.beq t as) v k)
        (fun want => optM (hasMethods P want t) (.fail 149) fun r => taDone P as ok r (.iface t v) k) (ifaceO P as)) (.fail 150)) = _
    rw [hev]
  · rename_i t n
    split at hs
    · rename_i vs hx
      split at hs
      · rename_i v hv
        refine .val _ hs fun k => ?_
        show (c.ev t).onTuple (fun vs => optM (nthL vs n) (.fail 151) k) (.fail 152) = _
        rw [hev, hx, av_tup]
        show optM (nthL (avs vs) n) (.fail 151) k = _
        rw [nthL_eq, zNth_av hv, optM_some]
      · exact hs.elim
    · exact hs.elim
  · cases hp
  · exact zBuild_sound (kd := kd) (kp := kp) hev hs
  · exact hs.elim
/-- an operation that reads has one value, and goes on with it -/
theorem zBinA_sound {lit : Bool} {op : BinOp} {t : TypeId} {a b : ZV} {K : ZV → Prop} (hs : zBinA P lit op t h a b K) : RdOk h K (fun k => binAV P lit op t a.av b.av k) := by
  unfold zBinA at hs
  split at hs
  · rename_i cs ds
    obtain ⟨hg, hs⟩ := hs
    have e : ∀ k2 : Bool → FM, xEql P lit t (ZV.agg cs).av (ZV.agg ds).av k2 = eqA P 6 t (ZV.agg cs).av (ZV.agg ds).av k2 := fun k2 => by
      rw [av_agg, av_agg]
      show cnd (P.eqGuardType P.depth t) (.fail 65) (eqA P 6 t (.agg (avs cs)) (.agg (avs ds)) k2) = _
      rw [hg, cnd_false]
    split at hs
    · obtain ⟨r, hr, er⟩ := zEqA_sound 6 t _ _ _ hs
      refine ⟨_, hr, fun k p hp => ?_⟩
      have e2 : binAV P lit .eql t (ZV.agg cs).av (ZV.agg ds).av k = xEql P lit t (ZV.agg cs).av (ZV.agg ds).av fun r => retB r k := by rw [av_agg, av_agg]; rfl
      simp only [e2]
      rw [e, er, retB_eq]
      rw [av_bool] at hp
      exact hp
    · obtain ⟨r, hr, er⟩ := zEqA_sound 6 t _ _ _ hs
      refine ⟨_, hr, fun k p hp => ?_⟩
      have e2 : binAV P lit .neq t (ZV.agg cs).av (ZV.agg ds).av k = xEql P lit t (ZV.agg cs).av (ZV.agg ds).av fun r => retB r.not k := by rw [av_agg, av_agg]; rfl
      simp only [e2]
      rw [e, er, retB_eq]
      rw [av_bool] at hp
      exact hp
    · exact hs.elim
  · exact zBin_sound hs
theorem zRead_sound (hev : ∀ x, c.ev x = (zEv P z x).av) {o : Op} {K : ZV → Prop} (hs : zRead P o z h K) : RdOk h K (fun k => opK P o c k kd kp) := by
  unfold zRead at hs
  split at hs
  · exact .val _ hs fun k => congrArg k (hev _)
  · exact .val _ hs fun k => congrArg k (hev _)
  · rename_i x a b
    split at hs
    · rename_i t ht
      refine .eq (fun k => ?_) (zPick_sound hs).ok
      show (c.ev x).onBool (fun t => cnd t (k (c.ev a)) (k (c.ev b))) (.fail 100) = _
      rw [hev, hev, hev, ht, av_bool]; rfl
    · exact hs.elim
  · rename_i x
    have e : ∀ k, opK P (.nilCheck x) c k kd kp = (c.ev x).onPtr (fun i o => k (.ptr i o)) ((c.ev x).onIface (fun t v => k (.iface t v)) ((c.ev x).onFunc (fun f a b => afnM f (fun _ => k (.func f a b)) (fun _ => .fail 109) (fun _ => k (.func f a b)) (.fail 109)) (.fail 109))) := fun k => rfl
    split at hs
    · rename_i nil i o hx
      obtain ⟨hn, hk⟩ := hs
      subst hn
      refine .val _ hk fun k => ?_
      rw [e, hev, hx, av_pvf]; rfl
    · rename_i t v hx
      refine .val _ hs fun k => ?_
      rw [e, hev, hx, av_iface]; rfl
    · rename_i f a b hx
      refine .val _ hs fun k => ?_
      rw [e, hev, hx, av_fn]; rfl
    · rename_i a hx
      obtain ⟨ho, hk⟩ := hs
      refine .val _ hk fun k => ?_
      rw [e, hev, hx, av_any]
      cases a with
      | ptr i o => rfl
      | iface t v => rfl
      | func f a b =>
        cases f with
        | plain g =>
          cases g with
          | func g => rfl
          | _ => cases ho
        | yield i => rfl
      | _ => cases ho
    · exact hs.elim
  · rename_i op t x y yt
    refine .eq (fun k => ?_) (zBinA_sound hs)
    show binAV P (cnd (isLit x) true (isLit y)) op t (c.ev x) (c.ev y) k = _
    rw [hev, hev]
  · rename_i op t x
    split at hs
    · rename_i q n hx
      obtain ⟨hs⟩ := hs
      refine .val _ hs fun k => ?_
      show (c.ev x).onInt (fun q n => retI q (negI n) k) (.fail 114) = _
      rw [hev, hx, av_int, av_int]
      show retI q (negI n) k = _
      rw [retI_eq, negI_eq]
    · rename_i q n hx
      obtain ⟨hs⟩ := hs
      refine .val _ hs fun k => ?_
      show (c.ev x).onInt (fun q n => retI q (.ofNat (Nat.xor (Nat.sub (Nat.pow 2 (kbits q)) 1) (toU q n))) k) (.fail 114) = _
      rw [hev, hx, av_int, av_int]
      show retI q (.ofNat (Nat.xor (Nat.sub (Nat.pow 2 (kbits q)) 1) (toU q n))) k = _
      rw [retI_eq]
    · rename_i b hx
      refine .val _ hs fun k => ?_
      show (c.ev x).onBool (fun b => retB b.not k) (.fail 114) = _
      rw [hev, hx, av_bool, av_bool]
      show retB b.not k = _
      rw [retB_eq]
    · exact hs.elim
  · rename_i s d x
    refine .eq (fun k => ?_) (zCnv_sound hs)
    show xConvert P s d (c.ev x) k = _
    rw [hev]
  · rename_i t x
    split at hs
    · rename_i h6 h0
      refine .val _ hs fun k => ?_
      show cnd (Nat.beq (tagOf P t) 6) (.fail 115) (cnd (Nat.beq (tagOf P t) 0) (.fail 115) (k (.iface t (c.ev x)))) = _
      rw [h6, h0, hev, cnd_false, cnd_false, av_iface]
    · exact hs.elim
  · rename_i f a b
    refine .val _ hs fun k => ?_
    show k (.func (.plain f) (c.evs a.toList) (c.evs b.toList)) = _
    rw [evs_av hev, evs_av hev, av_fn]
  · rename_i t x lo hi mx
    refine .eq (fun k => ?_) (zSlc_sound hs).ok
    show xSlice P t (c.ev x) (c.evo lo) (c.evo hi) (c.evo mx) k = _
    rw [hev, evo_av hev, evo_av hev, evo_av hev]
  · rename_i t x f
    unfold zFieldAddr at hs
    split at hs
    · rename_i nil i o fd hx hf
      split at hs
      · rename_i n hsz
        obtain ⟨hn, hk⟩ := hs
        subst hn
        refine .val _ hk fun k => ?_
        show (c.ev x).onPtr (fun i o => optM (fieldO P t f) (.fail 118) fun fd => optM (szO P fd.type) (.fail 118) fun n => cnd (Nat.beq n Nat.zero) (.fail 118) (forceNat (Nat.add o fd.offset) fun o' => k (.ptr i o'))) (.fail 119) = _
        rw [hev, hx, av_pvf, av_pvf]
        show optM (fieldO P t f) (.fail 118) (fun fd => optM (szO P fd.type) (.fail 118) fun n => cnd (Nat.beq n Nat.zero) (.fail 118) (forceNat (Nat.add o fd.offset) fun o' => k (.ptr i o'))) = _
        rw [hf, optM_some, hsz, optM_some]
        show forceNat (Nat.add o fd.offset) (fun o' => k (.ptr i o')) = _
        rw [forceNat_eq]
      · exact hs.elim
    · exact hs.elim
  · rename_i t x f
    unfold zField at hs
    split at hs
    · rename_i cs fd hx hf
      refine .eq (fun k => ?_) (zPart_sound hs).ok
      show (c.ev x).onAgg (fun cs => optM (fieldO P t f) (.fail 120) fun fd => partK P fd.type cs fd.offset k) (.fail 121) = _
      rw [hev, hx, av_agg]
      show optM (fieldO P t f) (.fail 120) (fun fd => partK P fd.type (avs cs) fd.offset k) = _
      rw [hf, optM_some]
    · exact hs.elim
  · rename_i t x ix
    have e : ∀ k, opK P (.indexAddr t x ix) c k kd kp = (c.ev x).onSlicePtr (fun i o len _ _ => optM (elemS P t) (.fail 124) fun e => ixAt P e i o len (c.ev ix) k)
      (fun i o => optM (elemA P t) (.fail 125) fun ne => ixAt P ne.2 i o ne.1 (c.ev ix) k) (.fail 126) := fun k => rfl
    have ix_eq : ∀ {e : TypeId} {sz : Nat}, szO P e = some sz → ∀ (i o len m : Nat) (q : IntKind), m < len → ∀ k : KV, ixAt P e i o len (.int q (m : Int)) k = k (.ptr i (o + m * sz)) := by
      intro e sz hsz i o len m q hlt k
      show cnd (ltb m len) (optM (szO P e) (.fail 122) fun sz => forceNat (Nat.add o (Nat.mul m sz)) fun o' => k (.ptr i o')) (.fail 122) = _
      rw [ltb_iff.2 hlt, cnd_true, hsz, optM_some, forceNat_eq]; rfl
    unfold zIdxAddr at hs
    split at hs
    · rename_i s q n hx hix
      split at hs
      · rename_i sz he
        obtain ⟨e1, he1, he2⟩ := Option.bind_eq_some_iff.1 he
        obtain ⟨hn, m, en, hlt, hk⟩ := hs
        obtain ⟨sn, si, so, sl, sc, se⟩ := s
        simp only at hn
        subst hn; subst en
        refine .val _ hk fun k => ?_
        rw [e, hev, hev, hx, hix, av_sl, av_int, av_pvf]
        show optM (elemS P t) (.fail 124) (fun e => ixAt P e si so sl (.int q (m : Int)) k) = _
        rw [he1, optM_some, ix_eq he2 _ _ _ _ _ hlt]
      · exact hs.elim
    · rename_i nil i o q n hx hix
      split at hs
      · rename_i len e1 he1
        split at hs
        · rename_i sz he2
          obtain ⟨hn, m, en, hlt, hk⟩ := hs
          subst hn; subst en
          refine .val _ hk fun k => ?_
          rw [e, hev, hev, hx, hix, av_pvf, av_int, av_pvf]
          show optM (elemA P t) (.fail 125) (fun ne => ixAt P ne.2 i o ne.1 (.int q (m : Int)) k) = _
          rw [he1, optM_some]
          exact ix_eq he2 _ _ _ _ _ hlt k
        · exact hs.elim
      · exact hs.elim
    · exact hs.elim
  · rename_i t x ix
    unfold zIdx at hs
    split at hs
    · rename_i s q n hx hix
      split at hs
      · rename_i ht
        obtain ⟨m, en, hlt, hk⟩ := hs
        subst en
        refine .val _ hk fun k => ?_
        show (c.ev x).onStrAgg (fun s => tagIs P t 3 ((c.ev ix).onNat (fun n => optM (nthL s n) (.fail 127) fun b => k (.int .u8 (.ofNat b))) (.fail 128)))
          (fun cs => (c.ev ix).onNat (fun n => optM (elemA P t) (.fail 129) fun ne => cnd (ltb n ne.1) (optM (szO P ne.2) (.fail 129) fun sz => partK P ne.2 cs (Nat.mul n sz) k) (.fail 130)) (.fail 128)) (.fail 131) = _
        rw [hev, hev, hx, hix, av_str, av_int, av_int]
        show tagIs P t 3 (optM (nthL s m) (.fail 127) fun b => k (.int .u8 (.ofNat b))) = _
        rw [tagIs_true ht, nthL_eq, List.getElem?_eq_getElem hlt, optM_some, List.getD_eq_getElem?_getD, List.getElem?_eq_getElem hlt]; rfl
      · exact hs.elim
    · exact hs.elim
  · rename_i t m k ok
    refine .eq (fun kk => ?_) (zLookup_sound hs)
    show xLookup P t (c.ev m) (c.ev k) ok kk = _
    rw [hev, hev]
  · rename_i t a
    split at hs
    · rename_i nil i o ha
      obtain ⟨hn, hk⟩ := hs
      subst hn
      refine .eq (fun k => ?_) (zLoad_sound P hk)
      show (c.ev a).onPtr (fun i o => loadC P t i o k) (.fail 107) = _
      rw [hev, ha, av_pvf]; rfl
    · exact hs.elim
  · rename_i x xt as ok
    refine .eq (fun k => ?_) (zAssert_sound hs).ok
    show cnd (Nat.beq (tagOf P as) 0) (.fail 149) ((c.ev x).onIfaceN (taDone P as ok false .junk k)
      (fun t v => Option.rec (motive := fun _ => FM) (taDone P as ok (Nat.beq t as) v k)
        (fun want => optM (hasMethods P want t) (.fail 149) fun r => taDone P as ok r (.iface t v) k) (ifaceO P as)) (.fail 150)) = _
    rw [hev]
  · rename_i t n
    split at hs
    · rename_i vs hx
      split at hs
      · rename_i v hv
        refine .val _ hs fun k => ?_
        show (c.ev t).onTuple (fun vs => optM (nthL vs n) (.fail 151) k) (.fail 152) = _
        rw [hev, hx, av_tup]
        show optM (nthL (avs vs) n) (.fail 151) k = _
        rw [nthL_eq, zNth_av hv, optM_some]
      · exact hs.elim
    · exact hs.elim
  · rename_i cl
    split at hs
    · rename_i b hb
      refine .eq (fun k => ?_) (zBltR_sound hs)
      show Callee.rec (motive := fun _ => FM) _ _ (fun b => bltK P b (c.evs cl.args.toList) cl.argTypes k) cl.callee = _
      rw [hb, evs_av hev]
    · exact hs.elim
  · exact (zBuild_sound (kd := kd) (kp := kp) hev hs).ok
  · exact hs.elim
end
end Go.X

namespace Go.X
/-! ### operations that make or write -/
abbrev ZCall := FuncId → List ZV → ZK → Heap → Prop
/-- the cells of a value, however many -/
noncomputable def zCellsN (v : ZV) (K : List ZV → Prop) : Prop := match v with
  | .agg cs => K cs
  | .tup _ => False
  | .any a => ZAnd (a.plainC = true) (K [.any a])
  | v => K [v]
/-- cells that may be written -/
def zPlain (l : List ZV) (A : Prop) : Prop := match l with
  | [] => A
  | .any a :: r => ZAnd (a.plainC = true) (zPlain r A)
  | .agg _ :: _ => False
  | .tup _ :: _ => False
  | _ :: r => zPlain r A
/-- a write that is allowed -/
inductive ZPut (h : Heap) (i o : Nat) (n : Nat) (A : Prop) : Prop where
  | mk (c : canPut h i (o + n)) (k : A)
/-- a slice of bytes that is converted to its own type -/
inductive ZMark (h : Heap) (s : SL) (K : Heap → Prop) : Prop where
  | mk (c : List AV) (e : Nat) (g m : Bool) (hn : s.nil = false) (hg : h.get s.i = some (.cells c e g m)) (hi : s.i < h.next) (k : K (h.put s.i (some (.cells c e g true))))
/-! maps -/
noncomputable def minsert (key v : AV) (l : List (AV × AV)) : List (AV × AV) := match l with
  | [] => [(key, v)]
  | e :: t => match keyLt key e.1 with | true => (key, v) :: e :: t | false => e :: minsert key v t
noncomputable def mreplace (key v : AV) (l : List (AV × AV)) : List (AV × AV) := match l with
  | [] => []
  | e :: t => match eqAV key e.1 with | true => (key, v) :: t | false => e :: mreplace key v t
noncomputable def mdelete (key : AV) (l : List (AV × AV)) : List (AV × AV) := match l with
  | [] => []
  | e :: t => match eqAV key e.1 with | true => t | false => e :: mdelete key t
noncomputable def mset (key v : AV) (l : List (AV × AV)) : List (AV × AV) := match mlook l key with | none => minsert key v l | some _ => mreplace key v l
/-- a map's entries are others -/
noncomputable def hmap (h : Heap) (i : Nat) (f : List (AV × AV) → List (AV × AV)) : Heap := match h.get i with
  | some (.map es v) => h.put i (some (.map (f es) (v + 1)))
  | _ => h
inductive ZMap (h : Heap) (nil : Bool) (i : Nat) (key : AV) (A : Prop) : Prop where
  | mk (hn : nil = false) (hi : i < h.next) (hm : ∃ es ver, h.get i = some (.map es ver) ∧ keysFit es key = true) (k : A)
section
variable (P : Program)
noncomputable def zKeyFit (t : TypeId) (key : ZV) (K : AV → Prop) : Prop := match elemM P t, key with
  | some (kt, _), .int q n => match Nat.beq (tagOf P kt) 2 with | true => K (.int q n) | false => False
  | some (kt, _), .str s => match Nat.beq (tagOf P kt) 3 with | true => K (.str s) | false => False
  | _, _ => False
noncomputable def zUpdate (t : TypeId) (m key v : ZV) (h : Heap) (K : ZK) : Prop := match m with
  | .mp nil i => zKeyFit P t key fun ka => ZMap h nil i ka (K (.tup []) (hmap h i (mset ka v.av)))
  | _ => False
/-- is a row of so many elements short enough -/
noncomputable def roomB (e : TypeId) (n : Nat) : Bool := match bytesO P e with | some b => cnd (Nat.ble (Nat.mul n b) most) (Nat.ble n most) false | none => false
inductive ZRoom (e : TypeId) (n : Nat) (A : Prop) : Prop where
  | mk (h : roomB P e n = true) (k : A)
/-- what a source of an append holds: so many cells -/
inductive ZSrc (h : Heap) (s : SL) (sz : Nat) (K : List AV → Prop) : Prop where
  | mk (ds : List AV) (hn : s.nil = true → ds = []) (hs : s.nil = false → ∃ c, cellsAt h s.i = some c ∧ (c.drop s.o).take (s.len * sz) = ds ∧ s.len * sz ≤ (c.drop s.o).length) (k : K ds)
/-- behind an append of n elements whose cells are ds: the slice -/
def SL.app (s : SL) (next n : Nat) : SL := match Nat.beq n 0 with
  | true => s
  | false => match s.nil with
    | true => ⟨false, next, 0, n, n, true⟩
    | false => match Nat.ble (s.len + n) s.cap with
      | true => ⟨false, s.i, s.o, s.len + n, s.cap, s.ext⟩
      | false => ⟨false, next, 0, s.len + n, s.len + n, true⟩
/-- .. the heap -/
noncomputable def happ (h : Heap) (s : SL) (sz n : Nat) (ds : List AV) : Heap := match Nat.beq n 0 with
  | true => h
  | false => match s.nil with
    | true => h.newO (.cells ds sz true false)
    | false => match Nat.ble (s.len + n) s.cap with
      | true => hput h s.i (s.o + s.len * sz) ds
      | false => match h.get s.i with
        | some (.cells c _ _ mk) => match s.ext with
          | true => (h.put s.i (some .tomb)).newO (.cells ((c.drop s.o).take (s.len * sz) ++ ds) sz true mk)
          | false => h.newO (.cells ((c.drop s.o).take (s.len * sz) ++ ds) sz true false)
        | some (.ro c) => h.newO (.cells ((c.drop s.o).take (s.len * sz) ++ ds) sz true false)
        | _ => h
/-- what an append asks of the slice -/
structure AppOk (h : Heap) (s : SL) (e sz n : Nat) (ds : List AV) : Prop where
  cap : s.nil = false → s.len ≤ s.cap
  known : n ≠ 0 → s.nil = true → s.ext = false
  here : n ≠ 0 → s.nil = false → s.len + n ≤ s.cap → canPut h s.i (s.o + s.len * sz + ds.length)
  room : n ≠ 0 → s.cap < s.len + n ∨ s.nil = true → roomB P e (s.n + n) = true
  grown : n ≠ 0 → s.nil = false → s.cap < s.len + n → s.ext = true → s.i < h.next ∧ ∃ c mk, h.get s.i = some (.cells c sz true mk) ∧ s.o + s.cap * sz = c.length ∧ s.len * sz ≤ (c.drop s.o).length
  read : n ≠ 0 → s.nil = false → s.cap < s.len + n → s.ext = false → ∃ c, cellsAt h s.i = some c ∧ s.len * sz ≤ (c.drop s.o).length
inductive ZApp (h : Heap) (s : SL) (e sz n : Nat) (ds : List AV) (A : Prop) : Prop where
  | mk (ok : AppOk P h s e sz n ds) (pl : allPlain ds = true) (k : A)
noncomputable def zAppend (st xt : TypeId) (s x : ZV) (h : Heap) (K : ZK) : Prop := match elemS P st, s with
  | some e, .sl s => match szO P e, (zeroO P e).bind cellsOf with
    | some sz, some zs => match Nat.beq zs.length sz with
      | true => match x with
        | .sl xs => match Nat.beq (tagOf P xt) 9 with
          | true => ZSrc h xs sz fun ds => ZApp P h s e sz xs.n ds (K (.sl (s.app h.next xs.n)) (happ h s sz xs.n ds))
          | false => False
        | .str l => match Nat.beq (tagOf P xt) 3, Nat.beq sz 1 with
          | true, true => ZApp P h s e 1 l.length (ofBytes l) (K (.sl (s.app h.next l.length)) (happ h s 1 l.length (ofBytes l)))
          | _, _ => False
        | _ => False
      | false => False
    | _, _ => False
  | _, _ => False
noncomputable def zCopy (t : TypeId) (d x : ZV) (h : Heap) (K : ZK) : Prop := match elemS P t, d with
  | some e, .sl d => match szO P e, x with
    | some sz, .sl s => ZSrc h s sz fun ds => ZPut h d.i d.o ((min d.n s.n) * sz) (ZAnd (allPlain ds = true) (K (.int .i64 (.ofNat (min d.n s.n))) (hput h d.i d.o (ds.take (min d.n s.n * sz)))))
    | _, _ => False
  | _, _ => False
noncomputable def zMakeSlice (t : TypeId) (l m : ZV) (h : Heap) (K : ZK) : Prop := match elemS P t, l, m with
  | some e, .int _ n, .int _ p => match szO P e, (zeroO P e).bind cellsOf with
    | some sz, some zs => match Nat.beq zs.length sz with
      | true => ZNat n fun n => ZNat p fun p => ZAnd (n ≤ p) (ZRoom P e p (K (.sl ⟨false, h.next, 0, n, p, false⟩) (h.newO (.cells (List.replicate p zs).flatten sz false false))))
      | false => False
    | _, _ => False
  | _, _, _ => False
noncomputable def zBuildSlice (z : ZT) (t : TypeId) (len : Nat) (parts : Array (Nat × Operand)) (h : Heap) (K : ZK) : Prop := match elemS P t with
  | some e => match szO P e, (zeroO P e).bind cellsOf with
    | some sz, some zs => match Nat.beq zs.length sz, roomB P e len, Nat.ble (Nat.mul len sz) 16777216 with
      | true, true, true => zFill P z (fun i => some (Nat.mul i sz, sz)) parts.toList (zOfs (List.replicate len zs).flatten) fun cs => K (.sl ⟨false, h.next, 0, len, len, false⟩) (h.newO (.cells (avs cs) sz false false))
      | _, _, _ => False
    | _, _ => False
  | none => False
/-- functions without bodies -/
noncomputable def zCas (nil : Bool) (i o : Nat) (a b : Int) (h : Heap) (K : ZK) : Prop := ZAnd (nil = false) (ZLdI h i o .i32 fun n => ZPut h i o 1 (cnd (eqI n a) (K (.bool true) (hput h i o [.int .i32 b])) (K (.bool false) h)))
noncomputable def zXadd (nil : Bool) (i o : Nat) (b : Int) (h : Heap) (K : ZK) : Prop := ZAnd (nil = false) (ZLdI h i o .i32 fun n => ZPut h i o 1 (ZW .i32 (n + b) fun r => K (.int .i32 r) (hput h i o [.int .i32 r])))
noncomputable def zExt (n : Nat) (args : List ZV) (h : Heap) (K : ZK) : Prop := match Nat.beq n 9, args with
  | true, [.sl a, .sl b] => ZBytes h a fun x => ZBytes h b fun y => K (.int .i64 (if bytesLt x y then -1 else if x = y then 0 else 1)) h
  | false, [.pv nil i o, .int .i32 a, .int .i32 b] => match Nat.beq n 2 with | true => zCas nil i o a b h K | false => False
  | false, [.pv nil i o, .int .i32 b] => match Nat.beq n 3 with | true => zXadd nil i o b h K | false => False
  | _, _ => False
noncomputable def zFunc (C : ZCall) (f : FuncId) (args : List ZV) (h : Heap) (K : ZK) : Prop := match bodied P f with
  | true => C f args K h
  | false => zExt (extOf P f) args h K
inductive ZFn (a : AV) (K : FuncId → List AV → List AV → Prop) : Prop where
  | mk (g : FuncId) (fs cap : List AV) (e : a = .func (.plain (.func g)) fs cap) (k : K g fs cap)
/-- the number of a loop's rounds, behind those of the functions -/
def rndId (P : Program) (l : Nat) : Nat := P.funcs.size + l
noncomputable def zCallV (C : ZCall) (f : ZV) (args : List ZV) (h : Heap) (K : ZK) : Prop := match f with
  | .fn (.plain (.func g)) fs cap => zFunc P C g ((fs ++ args) ++ cap) h K
  | .fn (.yield l) fs _ => C (rndId P l) (fs ++ args) K h
  | .any a => ZFn a fun g fs cap => zFunc P C g ((zOfs fs ++ args) ++ zOfs cap) h K
  | _ => False
noncomputable def zMethod (C : ZCall) (r : ZV) (name : String) (args : List ZV) (h : Heap) (K : ZK) : Prop := match r with
  | .iface t v => match methodOf P t name with
    | .direct f => zFunc P C f (v :: args) h K
    | .load f el => match v with | .pv nil i o => ZAnd (nil = false) (zLoad P el i o h fun v' => zFunc P C f (v' :: args) h K) | _ => False
    | _ => False
  | _ => False
noncomputable def zBltE (b : Builtin) (l : List ZV) (ts : Array TypeId) (h : Heap) (K : ZK) : Prop := match b, l with
  | .append, [s, x] => match ts[0]?, ts[1]? with | some st, some xt => zAppend P st xt s x h K | _, _ => False
  | .copy, [d, x] => match ts[0]? with | some t => zCopy P t d x h K | none => False
  | .delete, [.mp nil i, key] => match ts[0]? with | some t => zKeyFit P t key fun ka => ZMap h nil i ka (K (.tup []) (hmap h i (mdelete ka))) | none => False
  | _, _ => False
/-- a map that is ranged over -/
inductive ZMapIs (h : Heap) (m : Nat) (K : List (AV × AV) → Nat → Prop) : Prop where
  | mk (es : List (AV × AV)) (ver : Nat) (e : h.get m = some (.map es ver)) (k : K es ver)
/-- its next entry: any of those left -/
inductive ZNext (h : Heap) (i : Nat) (A : Heap → Prop) (B : AV → AV → Heap → Prop) : Prop where
  | mk (m ver : Nat) (left : List (AV × AV)) (cur : AV) (es : List (AV × AV)) (e : h.get i = some (.mapIter m ver left cur)) (lt : i < h.next) (em : h.get m = some (.map es ver))
      (over : left = [] → A (h.put i (some .tomb)))
      (next : ∀ j x, left[j]? = some x → B x.1 x.2 (h.put i (some (.mapIter m ver (left.eraseIdx j) (.tuple [x.1, x.2])))))
/-- the entry where it stands -/
inductive ZEntry (h : Heap) (i : Nat) (K : AV → AV → Heap → Prop) : Prop where
  | mk (m ver : Nat) (left : List (AV × AV)) (a b : AV) (es : List (AV × AV)) (e : h.get i = some (.mapIter m ver left (.tuple [a, b]))) (em : h.get m = some (.map es ver)) (k : K a b h)
noncomputable def zEff (C : ZCall) (o : Op) (z : ZT) (h : Heap) (K : ZK) : Prop := match o with
  | .alloc e => match (zeroO P e).bind cellsOf with | some zs => K (.pv false h.next 0) (h.newO (.cells zs 0 false false)) | none => False
  | .box _ x => zCellsN (zEv P z x) fun cs => K (.pv false h.next 0) (h.newO (.cells (avs cs) 0 false false))
  | .buildSlice t len parts => zBuildSlice P z t len parts h K
  | .store t a v => match zEv P z a, szO P t with
    | .pv nil i o, some n => ZAnd (nil = false) (zCells n (zEv P z v) fun cs => zPlain cs (ZPut h i o n (K (.tup []) (hput h i o (avs cs)))))
    | _, _ => False
  | .insert t m k v => zUpdate P t (zEv P z m) (zEv P z k) (zEv P z v) h K
  | .mapUpdate t m k v => zUpdate P t (zEv P z m) (zEv P z k) (zEv P z v) h K
  | .makeMap t r => match r with
    | none => K (.mp false h.next) (h.newO (.map [] 0))
    | some x => match elemM P t, zEv P z x with | some _, .int _ _ => K (.mp false h.next) (h.newO (.map [] 0)) | _, _ => False
  | .makeSlice t l m => zMakeSlice P t (zEv P z l) (zEv P z m) h K
  | .convert s d x => match cvOf P s d, zEv P z x with
    | .toBytes _, .str l => K (.sl ⟨false, h.next, 0, l.length, l.length, true⟩) (h.newO (.cells (ofBytes l) 1 true true))
    | .mark, .sl s => ZMark h s fun h' => K (.sl s) h'
    | _, _ => False
  | .range t x => match Nat.beq (tagOf P t) 10, zEv P z x with
    | true, .mp nil m => ZAnd (nil = false) (ZMapIs h m fun es ver => K (.pv false h.next 0) (h.newO (.mapIter m ver es .junk)))
    | _, _ => False
  | .next it false => match zEv P z it with
    | .pv nil i o => ZAnd (nil = false) (ZAnd (o = 0) (ZNext h i (fun h' => K (.tup [.bool false]) h') fun a b h' => K (.tup [.bool true, .any a, .any b]) h'))
    | _ => False
  | .entry it => match zEv P z it with
    | .pv nil i o => ZAnd (nil = false) (ZAnd (o = 0) (ZEntry h i fun a b h' => K (.tup [.any a, .any b]) h'))
    | _ => False
  | .call c => match c.callee with
    | .value f => zCallV P C (zEv P z f) (zEvs P z c.args.toList) h K
    | .invoke r name => zMethod P C (zEv P z r) name (zEvs P z c.args.toList) h K
    | .builtin b => zBltE P b (zEvs P z c.args.toList) c.argTypes h K
  | _ => False
end
end Go.X
