/-
  PROVED: entries as summaries, slices of bytes, laws whose arguments name blocks, functions that answer by their arguments alone, functions that defer calls, entries whose cells are variables. Condition: each law's own.
-/
import Derived.Test.YtghpkpddmicleaaGreatDoorXg
import Derived.KernelRfl
set_option linter.unusedVariables false
set_option linter.unusedSimpArgs false

namespace Go.X
open Go Go.RowKit
/-! ### calls that have been run once, in heaps without an end -/
/-- what has been written -/
def putH (l : List (Nat × AObj)) (h : Heap) : Heap := match l with | [] => h | x :: r => putH r (h.put x.1 (some x.2))
/-- what is new -/
def newH (l : List AObj) (h : Heap) : Heap := match l with | [] => h | o :: r => newH r (h.newO o)
/-- the heap behind a call that has been run -/
def entHeap (e : Ent) (h : Heap) : Heap := newH e.new (putH e.wr h)
theorem putH_inf : ∀ (l : List (Nat × AObj)) (h : Heap), (putH l h).inf = h.inf
  | [], _ => rfl
  | x :: l, h => (putH_inf l (h.put x.1 (some x.2))).trans rfl
theorem newH_inf : ∀ (l : List AObj) (h : Heap), (newH l h).inf = h.inf
  | [], _ => rfl
  | o :: l, h => (newH_inf l (h.newO o)).trans rfl
theorem entHeap_inf (e : Ent) (h : Heap) : (entHeap e h).inf = h.inf := (newH_inf _ _).trans (putH_inf _ _)
section
variable {P : Program} {W0 : World} {p : Post} {m : FM}
theorem putWr_of : ∀ (l : List (Nat × AObj)) (h : Heap), (∀ x, x ∈ l → x.1 < h.next) → m.sat p (putH l h) → (putWr l m).sat p h
  | [], _, _, hs => hs
  | x :: l, h, hl, hs => ⟨hl x List.mem_cons_self, putWr_of l (h.put x.1 (some x.2)) (fun y hy => hl y (List.mem_cons_of_mem _ hy)) hs⟩
theorem newAll_of : ∀ (l : List AObj) (h : Heap), h.inf = true → m.sat p (newH l h) → (newAll l m).sat p h
  | [], _, _, hs => hs
  | o :: l, h, hi, hs => ⟨.inl hi, newAll_of l (h.newO o) hi hs⟩
/-- chosen by a proposition -/
noncomputable def whenC (p : Prop) (a b : FM) : FM := @ite FM p (Classical.propDecidable p) a b
theorem whenC_pos {p : Prop} {a b : FM} (h : p) : whenC p a b = a := if_pos h
theorem whenC_neg {p : Prop} {a b : FM} (h : ¬p) : whenC p a b = b := if_neg h
noncomputable def rdI (l : List (Nat × AObj)) (m : FM) : FM := match l with
  | [] => m
  | x :: r => .get x.1 fun o => whenC (o = x.2) (rdI r m) (.fail 224)
noncomputable def replayI1 (tab : List Ent) (a : Nat) (args : List AV) (k : KV) : FM := match tab with
  | [] => .fail 225
  | e :: t => whenC (e.next = a ∧ e.args = args) (whenC (a + e.new.length ≤ 65536) (rdI e.rd (putWr e.wr (newAll e.new (k e.v)))) (.fail 226)) (replayI1 t a args k)
/-- the summary, for propositions: the first entry that bears this name and these arguments -/
noncomputable def replayI (tab : List Ent) (args : List AV) (k : KV) (_ : Chain → FM) : FM := .here fun a => replayI1 tab a args k
/-- what an entry reads is there -/
def rdL (l : List (Nat × AObj)) (h : Heap) : List (Option AObj) := match l with | [] => [] | x :: r => h.get x.1 :: rdL r h
def rdR (l : List (Nat × AObj)) : List (Option AObj) := match l with | [] => [] | x :: r => some x.2 :: rdR r
/-- what it asks of Z -/
def zRep (tab : List Ent) (args : List ZV) (K : ZK) (h : Heap) : Prop := match tab with
  | [] => False
  | e :: t => (e.next = h.next ∧ e.args = avs args ∧ rdL e.rd h = rdR e.rd ∧ keysLt e.wr h.next = true ∧ h.next + e.new.length ≤ 65536 ∧ K (zOf e.v) (entHeap e h)) ∨ (¬ (e.next = h.next ∧ e.args = avs args) ∧ zRep t args K h)
theorem rdI_of {h : Heap} : ∀ (l : List (Nat × AObj)), rdL l h = rdR l → m.sat p h → (rdI l m).sat p h
  | [], _, hs => hs
  | x :: l, hr, hs => by
    have hr1 : h.get x.1 :: rdL l h = some x.2 :: rdR l := hr
    injection hr1 with h1 h2
    refine ⟨x.2, h1, ?_⟩
    show FM.sat (whenC (x.2 = x.2) (rdI l m) (.fail 224)) p h
    rw [whenC_pos rfl]
    exact rdI_of l h2 hs
theorem rdI_sat {h : Heap} : ∀ (l : List (Nat × AObj)), (rdI l m).sat p h → (∀ x, x ∈ l → h.get x.1 = some x.2) ∧ m.sat p h
  | [], hs => ⟨fun _ hx => absurd hx List.not_mem_nil, hs⟩
  | x :: l, hs => by
    obtain ⟨o, hg, hs1⟩ := hs
    have hs2 : FM.sat (whenC (o = x.2) (rdI l m) (.fail 224)) p h := hs1
    by_cases e : o = x.2
    · rw [whenC_pos e] at hs2
      obtain ⟨h1, h2⟩ := rdI_sat l hs2
      refine ⟨fun y hy => ?_, h2⟩
      rcases List.mem_cons.1 hy with hy | hy
      · rw [hy, hg, e]
      · exact h1 y hy
    · rw [whenC_neg e] at hs2; exact False.elim hs2
theorem zRep_sound {args : List ZV} {K : ZK} {h : Heap} (hi : h.inf = true) : ∀ (tab : List Ent), zRep tab args K h → ∀ (k : KV), (∀ v h', h'.inf = true → K v h' → (k v.av).sat p h') → (replayI1 tab h.next (avs args) k).sat p h
  | [], hz, _, _ => False.elim hz
  | e :: t, hz, k, hk => by
    show FM.sat (whenC (e.next = h.next ∧ e.args = avs args) (whenC (h.next + e.new.length ≤ 65536) (rdI e.rd (putWr e.wr (newAll e.new (k e.v)))) (.fail 226)) (replayI1 t h.next (avs args) k)) p h
    rcases hz with ⟨h1, h2, h3, h4, h5, h6⟩ | ⟨h1, h2⟩
    · rw [whenC_pos ⟨h1, h2⟩, whenC_pos h5]
      refine rdI_of _ h3 (putWr_of _ _ (keysLt_iff h4) (newAll_of _ _ (by rw [putH_inf]; exact hi) ?_))
      have := hk _ _ (by rw [entHeap_inf]; exact hi) h6
      rw [zOf_av] at this
      exact this
    · rw [whenC_neg h1]
      exact zRep_sound hi t h2 k hk
/-- an end, and none -/
def Heap.toI (l : Nat) (g : Heap) : Heap := ⟨g.t, g.next, l, true⟩
def Heap.toF (g : Heap) : Heap := ⟨g.t, g.next, 65536, false⟩
theorem putWr_fin {m' : FM} {p' : Post} {n : Nat} : ∀ (l : List (Nat × AObj)) (g : Heap), (∀ g', m.sat p (Heap.toI n g') → g'.next = g.next → g'.lim = g.lim → g'.inf = g.inf → m'.sat p' g') → (putWr l m).sat p (Heap.toI n g) → (putWr l m').sat p' g
  | [], g, hm, hs => hm g hs rfl rfl rfl
  | x :: l, g, hm, hs => ⟨hs.1, putWr_fin l (g.put x.1 (some x.2)) (fun g' a b c d => hm g' a b c d) hs.2⟩
theorem newAll_fin {m' : FM} {p' : Post} {n : Nat} (hm : ∀ g', m.sat p (Heap.toI n g') → m'.sat p' g') : ∀ (l : List AObj) (g : Heap), g.next + l.length ≤ g.lim → (newAll l m).sat p (Heap.toI n g) → (newAll l m').sat p' g
  | [], g, _, hs => hm g hs
  | o :: l, g, hl, hs => by
    simp only [List.length_cons] at hl
    refine ⟨.inr (by omega), ?_⟩
    refine newAll_fin hm l (g.newO o) ?_ hs.2
    show g.next + 1 + l.length ≤ g.lim
    omega
theorem Rel.toF {E : Env} {h : Heap} {w : World} (r : Rel P W0 E h w) (hi : h.inf = true) (hn : h.next ≤ 65536) : Rel P W0 E h.toF w := by
  refine ⟨r.obj, r.inj, fun i h1 _ => r.free i h1 (.inl hi), r.bound, r.below, r.old, r.glob, .inr ⟨Nat.le_refl _, fun i ao hg => ?_⟩, .inr hn⟩
  obtain ⟨b, o, hb, _⟩ := r.obj i ao hg
  rcases Nat.lt_or_ge i h.next with hlt | hge
  · exact Nat.lt_of_lt_of_le hlt hn
  · rw [r.free i hge (.inl hi)] at hb; cases hb
theorem Rel.ofF {E E' : Env} {h h' : Heap} {w w' : World} (r0 : Rel P W0 E h w) (hi : h.inf = true) (hn : h.next ≤ 65536) (s : Stp E h.toF E' h') (r : Rel P W0 E' h' w') : Stp E h E' (h'.toI h.lim) ∧ Rel P W0 E' (h'.toI h.lim) w' := by
  have hl : h'.lim = 65536 ∧ h'.inf = false := by
    have := s.lim
    simp only [Prod.mk.injEq] at this
    exact this
  refine ⟨⟨s.le, fun i b hb => (s.new i b hb).imp id fun ⟨a, _⟩ => ⟨a, .inl hi⟩, by show (h.lim, true) = _; rw [hi], s.next⟩, ⟨r.obj, r.inj, fun i h1 _ => ?_, r.bound, r.below, r.old, r.glob, .inl rfl, .inl rfl⟩⟩
  have h1' : h'.next ≤ i := h1
  rcases Nat.lt_or_ge i 65536 with hlt | hge
  · exact r.free i h1' (.inr (by rw [hl.1]; exact hlt))
  · cases hb : E'.blk i with
    | none => rfl
    | some b =>
      rcases s.new i b hb with h2 | ⟨_, h2⟩
      · rw [r0.free i (by omega) (.inl hi)] at h2; cases h2
      · rcases h2 with h2 | h2
        · cases h2
        · exact absurd h2 (Nat.not_lt_of_le hge)
theorem replayI_sound {H : Hints} {sums0 : Sums} {lf n : Nat} {f : FuncId} (hsum : SumsSound P W0 sums0) (hW : 0 < W0.heap.size ∨ ∀ f, H.join f ≤ 1) (hmo : P.follows .mixedOrders = true)
    (args : List AV) (k : KV) (kp : Chain → FM) (E : Env) (h : Heap) (w : World) (vs : Array Value) (hb : bodied P f = true) (r : Rel P W0 E h w) (hv : VRs E args vs.toList) :
    ∀ (tab : List Ent), (∀ e, e ∈ tab → entOk P H sums0 lf n f e = true) → (replayI1 tab h.next args k).sat p h → Calls P f vs w (RetPost P W0 E h k kp p)
  | [], _, hs => False.elim hs
  | e :: t, hent, hs => by
    have hs1 : FM.sat (whenC (e.next = h.next ∧ e.args = args) (whenC (h.next + e.new.length ≤ 65536) (rdI e.rd (putWr e.wr (newAll e.new (k e.v)))) (.fail 226)) (replayI1 t h.next args k)) p h := hs
    by_cases hc : e.next = h.next ∧ e.args = args
    · rw [whenC_pos hc] at hs1
      by_cases hro : h.next + e.new.length ≤ 65536
      · rw [whenC_pos hro] at hs1
        obtain ⟨hrd, hs2⟩ := rdI_sat _ hs1
        have hok := hent e List.mem_cons_self
        cases hinf : h.inf with
        | false => exact ent_sound hok hsum hW hmo args k kp p E h w vs hb hinf hc.1 hc.2 hrd hs2 r hv
        | true =>
          have hh : h = Heap.toI h.lim h.toF := Heap.ext (fun _ => rfl) rfl rfl hinf
          refine Calls.mono (ent_sound hok hsum hW hmo args (fun v => .ret (.val v)) (fun _ => .fail 0) (fun r g => ∃ v, r = .val v ∧ (k v).sat p (Heap.toI h.lim g)) E h.toF w vs hb rfl hc.1 hc.2 hrd ?_ (r.toF hinf (by omega)) hv) fun en w' he => ?_
          · rw [hh] at hs2
            refine putWr_fin _ _ (fun g' hg e1 e2 e3 => newAll_fin (m := k e.v) (m' := .ret (.val e.v)) (p := p) (p' := fun r g => ∃ v, r = .val v ∧ (k v).sat p (Heap.toI h.lim g)) (n := h.lim) (fun g' hg => (show ∃ v, Res.val e.v = .val v ∧ (k v).sat p (Heap.toI h.lim g') from ⟨_, rfl, hg⟩)) _ _ ?_ hg) hs2
            rw [e1, e2]; exact hro
          · cases en with
            | returned v =>
              obtain ⟨E', h', av, s, r', hv', v2, e3, hk⟩ := he
              cases e3
              obtain ⟨a, b⟩ := r.ofF hinf (by omega) s r'
              exact ⟨E', _, _, a, b, hv', hk⟩
            | panicked c => obtain ⟨_, _, _, _, _, _, hf⟩ := he; exact hf.elim
            | outgrown => exact he.elim
      · rw [whenC_neg hro] at hs1; exact False.elim hs1
    · rw [whenC_neg hc] at hs1
      exact replayI_sound hsum hW hmo args k kp E h w vs hb r hv t (fun e he => hent e (List.mem_cons_of_mem _ he)) hs1
/-- one function's entries, for X .. -/
noncomputable def addX (g : FuncId) (tab : List Ent) (sums : Sums) : Sums := fun f => match Nat.beq f g with | true => some (replayI tab) | false => sums f
/-- .. and for Z -/
def addZ (g : FuncId) (tab : List Ent) (S : ZSums) : ZSums := fun f => match Nat.beq f g with | true => some (zRep tab) | false => S f
theorem SumsSound.addI {H : Hints} {sums sums0 : Sums} (hs : SumsSound P W0 sums) (hs0 : SumsSound P W0 sums0) {lf n : Nat} {g : FuncId} {tab : List Ent} (hW : 0 < W0.heap.size ∨ ∀ f, H.join f ≤ 1) (hmo : P.follows .mixedOrders = true) (hent : ∀ e, e ∈ tab → entOk P H sums0 lf n g e = true) :
    SumsSound P W0 (addX g tab sums) := by
  intro f s hf args k kp p E h w vs hb hsat r hv
  have hf1 : (match Nat.beq f g with | true => some (replayI tab) | false => sums f) = some s := hf
  cases hfg : Nat.beq f g with
  | false =>
    rw [hfg] at hf1
    exact hs f s hf1 args k kp p E h w vs hb hsat r hv
  | true =>
    rw [hfg] at hf1
    cases hf1
    have e := beq_iff.1 hfg
    subst e
    exact replayI_sound hs0 hW hmo args k kp E h w vs hb r hv tab hent hsat
theorem sumFit_addI {S : ZSums} {sums : Sums} (hs : SumFit S sums) (g : FuncId) (tab : List Ent) : SumFit (addZ g tab S) (addX g tab sums) := by
  constructor
  · intro f hf
    have hf1 : (match Nat.beq f g with | true => some (zRep tab) | false => S f) = none := hf
    show (match Nat.beq f g with | true => some (replayI tab) | false => sums f) = none
    cases hfg : Nat.beq f g with
    | false => rw [hfg] at hf1; exact hs.none f hf1
    | true => rw [hfg] at hf1; cases hf1
  · intro f s hf
    have hf1 : (match Nat.beq f g with | true => some (zRep tab) | false => S f) = some s := hf
    show ∃ x, (match Nat.beq f g with | true => some (replayI tab) | false => sums f) = some x ∧ _
    cases hfg : Nat.beq f g with
    | false => rw [hfg] at hf1; exact hs.some f s hf1
    | true =>
      rw [hfg] at hf1
      cases hf1
      exact ⟨_, rfl, fun args K h hi hz kp k p hp => zRep_sound hi tab hz k hp⟩
end
/-! ### from a table on, names without an end -/
noncomputable def startI (G g : Nat) (cs : List AV) : Heap := ⟨(startT G g cs).get, G, 0, true⟩
section
variable {P : Program} {W : World} {G g : Nat} {cs : List AV}
theorem startI_rel (hG : P.globals.size = G) (hg : g < G) (hsz : G ≤ W.heap.size) (ht : G ≤ top) {arr : Array Value} {t : TypeId} {fr : Nat × Nat} (hw : W.heap[g]? = some (.cells arr t fr)) (hv : VRs (startE G) cs arr.toList) : Rel P W (startE G) (startI G g cs) W := by
  have r := startT_rel (cs := cs) hG hg hsz ht hw hv
  refine ⟨r.obj, r.inj, fun i h1 _ => ?_, r.bound, r.below, r.old, r.glob, .inl rfl, .inl rfl⟩
  have h1' : G ≤ i := h1
  exact if_neg (by omega)
/-- a law over values that may be anything, but that name no block, and one table -/
theorem lawI_true {S : ZSums} {sums : Sums} (hsum : SumsSound P W sums) (hS : SumFit S sums) (hmo : P.follows .mixedOrders = true) (hG : P.globals.size = G) (hg : g < G) (hsz : G ≤ W.heap.size) (ht : G ≤ top)
    {name : String} {k : IntKind} {zs : List Int} (hgl : P.globalNamed name = some g) (htab : Lib.TabIs P W name k zs) (hcs : cs = zs.map fun z => AV.int k z) {lf n : Nat} {f : FuncId} (hb : bodied P f = true)
    {args : List ZV} {vs : Array Value} (hv : ∀ E, VRs E (avs args) vs.toList) (hz : zCall P S lf n f args (fun v _ => v.av = .bool true) (startI G g cs)) :
    Calls P f vs W fun e W' => e = .returned (.bool true) ∧ Below W.heap.size W W' := by
  have hs : (xCall P noHints sums lf n f (avs args)).sat (fun r _ => r = .val (.bool true)) (startI G g cs) :=
    (zCall_sound hS (lf := lf) n).call f args _ (startI G g cs) (bodied_lt hb) rfl hz (fun _ => .fail 163) (fun v => .ret (.val v)) (fun r _ => r = .val (.bool true)) fun v h' _ hv => by
      show Res.val v.av = _
      rw [hv]
  have hrow : ∃ t fr, W.heap[g]? = some (.cells (zs.map fun z => Value.int k z).toArray t fr) := by
    unfold Lib.TabIs World.var? at htab
    rw [hgl, Option.bind_some] at htab
    split at htab
    · rename_i cs t fr hw
      exact ⟨t, fr, by rw [hw, Option.some.inj htab]⟩
    · cases htab
  obtain ⟨t, fr, hw⟩ := hrow
  have r := startI_rel (cs := cs) hG hg hsz ht hw (by rw [hcs]; exact VRs_ints k zs)
  refine Calls.mono (xCall_sound hsum (.inr fun f => Nat.zero_le _) hmo hb hs r (vs := vs) (hv _)) fun e w' ⟨v, E', h', av, e1, s, r, hv, hp⟩ => ?_
  subst e1
  cases hp
  cases hv
  exact ⟨rfl, r.below⟩
end
end Go.X

namespace Go.X
/-! ## slices of bytes, slices of rows -/
abbrev nowhere (_ : Nat) : Prop := False
theorem SL.n_nil {s : SL} (e : s.nil = true) : s.n = 0 := by unfold SL.n; rw [e]
theorem SL.n_of {s : SL} (e : s.nil = false) : s.n = s.len := by unfold SL.n; rw [e]
/-- a slice's cells: s.n rows of sz cells -/
structure Seg (h : Heap) (s : SL) (sz : Nat) (cs : List AV) : Prop where
  len : cs.length = s.n * sz
  lt : s.nil = false → s.i < h.next
  src : s.nil = false → ∃ c, cellsAt h s.i = some c ∧ (c.drop s.o).take (s.len * sz) = cs ∧ s.len * sz ≤ (c.drop s.o).length
theorem Seg.fr {S : Nat → Prop} {h h' : Heap} {s : SL} {sz : Nat} {cs : List AV} (x : Seg h s sz cs) (f : Fram S h h') (hs : s.nil = false → ¬ S s.i) : Seg h' s sz cs :=
  ⟨x.len, fun e => Nat.lt_of_lt_of_le (x.lt e) f.next, fun e => by rw [cellsAt_eq (f.same _ (x.lt e) (hs e))]; exact x.src e⟩
theorem Seg.nil_cs {h : Heap} {s : SL} {sz : Nat} {cs : List AV} (x : Seg h s sz cs) (e : s.nil = true) : cs = [] :=
  List.eq_nil_of_length_eq_zero (by rw [x.len, SL.n_nil e, Nat.zero_mul])
theorem Seg.at' {h : Heap} {s : SL} {sz : Nat} {cs : List AV} (x : Seg h s sz cs) (e : s.nil = false) {q : Nat} {v : AV} (hq : cs[q]? = some v) : cellAt h s.i (s.o + q) = some v := by
  obtain ⟨c, hc, h1, h2⟩ := x.src e
  unfold cellAt; rw [hc]
  show c[s.o + q]? = _
  have hl : q < s.len * sz := by
    have := (List.getElem?_eq_some_iff.1 hq).1
    rw [x.len, SL.n_of e] at this; exact this
  rw [← h1, List.getElem?_take_of_lt hl, List.getElem?_drop] at hq
  exact hq
theorem Seg.zsrc {h : Heap} {s : SL} {sz : Nat} {cs : List AV} {K : List AV → Prop} (x : Seg h s sz cs) (k : K cs) : ZSrc h s sz K :=
  ⟨cs, fun e => x.nil_cs e, fun e => x.src e, k⟩
theorem Seg.nil (h : Heap) (sz : Nat) (ext : Bool) : Seg h ⟨true, 0, 0, 0, 0, ext⟩ sz [] := ⟨by simp [SL.n], fun e => (by cases e), fun e => (by cases e)⟩
/-- a slice of its own name, laid out from its first cell on -/
theorem Seg.own {h : Heap} {i n cap : Nat} {ext : Bool} {cs more : List AV} {sz e : Nat} {g m : Bool} (hl : cs.length = n * sz) (hi : i < h.next) (hg : h.get i = some (.cells (cs ++ more) e g m)) : Seg h ⟨false, i, 0, n, cap, ext⟩ sz cs :=
  ⟨hl, fun _ => hi, fun _ => ⟨_, cellsAt_of hg, by rw [List.drop_zero]; show List.take (n * sz) _ = _; rw [← hl, List.take_left], by rw [List.drop_zero, List.length_append]; show n * sz ≤ _; omega⟩⟩
theorem Grown.seg {h0 h : Heap} {s : SL} {sz n : Nat} {cs : List AV} (g : Grown h0 h s sz n cs) : Seg h s sz cs := by
  obtain ⟨hl, g⟩ := g
  rcases g with ⟨rfl, rfl⟩ | ⟨h1, h2, h3, h4, h5, h6, h7, h8⟩
  · have : cs = [] := List.eq_nil_of_length_eq_zero (by rw [hl]; simp)
    subst this
    exact Seg.nil _ _ _
  · obtain ⟨nil, i, o, len, cap, ext⟩ := s
    simp only at h1 h2 h3 h4 h5 h6 h7 h8
    subst h1; subst h2; subst h3
    exact Seg.own (more := []) hl h7 (by rw [List.append_nil]; exact h8)
theorem Grown.n_eq {h0 h : Heap} {s : SL} {sz n : Nat} {cs : List AV} (g : Grown h0 h s sz n cs) : s.n = n := by
  rcases g.2 with ⟨rfl, rfl⟩ | ⟨h1, _, h3, _⟩
  · rfl
  · rw [SL.n_of h1]; exact h3
/-- from another start -/
theorem Grown.fr {h0 h h' : Heap} {s : SL} {sz n : Nat} {cs : List AV} (g : Grown h0 h s sz n cs) {S : Nat → Prop} (f : Fram S h h') (hs : s.nil = false → ¬ S s.i) : Grown h0 h' s sz n cs := by
  refine ⟨g.1, g.2.imp id fun ⟨h1, h2, h3, h4, h5, h6, h7, h8⟩ => ⟨h1, h2, h3, h4, h5, h6, Nat.lt_of_lt_of_le h7 f.next, (f.same _ h7 (hs h1)).trans h8⟩⟩
/-! ### bytes -/
structure Byts (h : Heap) (s : SL) (k : List Nat) : Prop where
  seg : Seg h s 1 (ofBytes k)
  byte : ∀ x, x ∈ k → x < 256
theorem ofBytes_length (l : List Nat) : (ofBytes l).length = l.length := by rw [ofBytes_eq, List.length_map]
theorem ofBytes_append (a b : List Nat) : ofBytes (a ++ b) = ofBytes a ++ ofBytes b := by simp [ofBytes_eq]
theorem Byts.len {h : Heap} {s : SL} {k : List Nat} (x : Byts h s k) : s.n = k.length := by
  have := x.seg.len
  rw [ofBytes_length] at this; omega
theorem Byts.fr {h h' : Heap} {s : SL} {k : List Nat} {S : Nat → Prop} (x : Byts h s k) (f : Fram S h h') (hs : s.nil = false → ¬ S s.i) : Byts h' s k := ⟨x.seg.fr f hs, x.byte⟩
theorem Byts.zbytes {h : Heap} {s : SL} {k : List Nat} {K : List Nat → Prop} (x : Byts h s k) (hk : K k) : ZBytes h s K := by
  refine ⟨k, fun e => ?_, fun e => ?_, x.byte, hk⟩
  · have := x.seg.nil_cs e
    have h2 := ofBytes_length k
    rw [this] at h2
    exact List.eq_nil_of_length_eq_zero h2.symm
  · have := x.seg.src e
    rwa [Nat.mul_one] at this
theorem Byts.nil (h : Heap) (ext : Bool) : Byts h ⟨true, 0, 0, 0, 0, ext⟩ [] := ⟨Seg.nil h 1 ext, fun x hx => (by cases hx)⟩
theorem Byts.at' {h : Heap} {s : SL} {k : List Nat} (x : Byts h s k) (e : s.nil = false) {j b : Nat} (hj : k[j]? = some b) : cellAt h s.i (s.o + j) = some (.int .u8 (.ofNat b)) :=
  x.seg.at' e (by rw [ofBytes_eq, List.getElem?_map, hj]; rfl)
theorem allPlain_bytes (l : List Nat) : allPlain (ofBytes l) = true := by
  rw [ofBytes_eq]
  induction l with
  | nil => rfl
  | cons x l ih => exact ih
theorem sl_plain (s : SL) : s.av.plainC = true := by
  unfold SL.av
  cases s.nil
  · rfl
  · cases s.ext <;> rfl
/-! ### rows -/
/-- all of a list's rows are there -/
def AllOk {α : Type} (h : Heap) (Q : Heap → α → Prop) (l : List α) : Prop := ∀ x, x ∈ l → Q h x
/-- a slice of rows -/
structure Rws {α : Type} (sz : Nat) (row : α → List AV) (Q : Heap → α → Prop) (h : Heap) (s : SL) (l : List α) : Prop where
  seg : Seg h s sz (l.flatMap row)
  rl : ∀ x, x ∈ l → (row x).length = sz
  ok : ∀ x, x ∈ l → Q h x
section
variable {α : Type} {sz : Nat} {row : α → List AV} {Q : Heap → α → Prop} {h h' : Heap} {s : SL} {l : List α}
theorem flat_length (hr : ∀ x, x ∈ l → (row x).length = sz) : (l.flatMap row).length = l.length * sz := by
  induction l with
  | nil => simp
  | cons x l ih => rw [List.flatMap_cons, List.length_append, hr x List.mem_cons_self, ih fun y hy => hr y (List.mem_cons_of_mem _ hy), List.length_cons, Nat.add_mul]; omega
theorem flat_at (hr : ∀ x, x ∈ l → (row x).length = sz) {j : Nat} {x : α} (hj : l[j]? = some x) {q : Nat} (hq : q < sz) : (l.flatMap row)[j * sz + q]? = (row x)[q]? := by
  induction l generalizing j with
  | nil => cases hj
  | cons y l ih =>
    have hy := hr y List.mem_cons_self
    rw [List.flatMap_cons]
    cases j with
    | zero =>
      cases hj
      rw [Nat.zero_mul, Nat.zero_add, List.getElem?_append_left (by omega)]
    | succ j =>
      rw [List.getElem?_append_right (by rw [hy, Nat.add_mul]; omega), hy, show (j + 1) * sz + q - sz = j * sz + q by rw [Nat.add_mul]; omega]
      exact ih (fun z hz => hr z (List.mem_cons_of_mem _ hz)) (by simpa using hj)
theorem Rws.len (hsz : 0 < sz) (x : Rws sz row Q h s l) : s.n = l.length := by
  have := x.seg.len
  rw [flat_length x.rl] at this
  exact (Nat.eq_of_mul_eq_mul_right hsz this).symm
theorem Rws.at' (x : Rws sz row Q h s l) (e : s.nil = false) {j : Nat} {y : α} (hj : l[j]? = some y) {q : Nat} (hq : q < sz) {v : AV} (hv : (row y)[q]? = some v) : cellAt h s.i (s.o + j * sz + q) = some v := by
  rw [Nat.add_assoc]
  exact x.seg.at' e (by rw [flat_at x.rl hj hq]; exact hv)
theorem Rws.nil_of (hsz : 0 < sz) (x : Rws sz row Q h s l) {j : Nat} (hj : j < l.length) : s.nil = false := by
  have := x.len hsz
  cases e : s.nil with
  | false => rfl
  | true => rw [SL.n_nil e] at this; omega
theorem Rws.len' (hsz : 0 < sz) (x : Rws sz row Q h s l) (e : s.nil = false) : s.len = l.length := by
  rw [← SL.n_of e]; exact x.len hsz
theorem Rws.fr {S : Nat → Prop} (x : Rws sz row Q h s l) (f : Fram S h h') (hs : s.nil = false → ¬ S s.i) (hq : ∀ y, y ∈ l → Q h y → Q h' y) : Rws sz row Q h' s l :=
  ⟨x.seg.fr f hs, x.rl, fun y hy => hq y hy (x.ok y hy)⟩
theorem Rws.nil (h : Heap) (ext : Bool) : Rws sz row Q h ⟨true, 0, 0, 0, 0, ext⟩ [] := ⟨Seg.nil _ _ _, fun _ hx => (by cases hx), fun _ hx => (by cases hx)⟩
theorem Grown.rws {h0 : Heap} {n : Nat} (g : Grown h0 h s sz n (l.flatMap row)) (rl : ∀ x, x ∈ l → (row x).length = sz) (ok : ∀ x, x ∈ l → Q h x) : Rws sz row Q h s l := ⟨g.seg, rl, ok⟩
end
/-! ### variables of a function's own -/
structure Var (h : Heap) (i : Nat) (cs : List AV) : Prop where
  lt : i < h.next
  get : h.get i = some (.cells cs 0 false false)
section
variable {h : Heap} {i : Nat} {cs : List AV}
theorem Var.new (h : Heap) (cs : List AV) : Var (h.newO (.cells cs 0 false false)) h.next cs := ⟨Nat.lt_succ_self _, newO_get_self _ _⟩
theorem Var.fr {S : Nat → Prop} {h' : Heap} (x : Var h i cs) (f : Fram S h h') (hs : ¬ S i) : Var h' i cs := ⟨Nat.lt_of_lt_of_le x.lt f.next, (f.same _ x.lt hs).trans x.get⟩
theorem Var.cell (x : Var h i cs) (o : Nat) : cellAt h i o = cs[o]? := cellAt_of x.get
theorem Var.ldL (x : Var h i cs) {o : Nat} (s : SL) {K : SL → Prop} (e : cs[o]? = some s.av) (k : K s) : ZLdL h i o K := ⟨s, (x.cell o).trans e, k⟩
theorem Var.ldB (x : Var h i cs) {o : Nat} (b : Bool) {K : Bool → Prop} (e : cs[o]? = some (.bool b)) (k : K b) : ZLdB h i o K := ⟨b, (x.cell o).trans e, k⟩
theorem Var.ldI (x : Var h i cs) {o : Nat} {q : IntKind} (n : Int) {K : Int → Prop} (e : cs[o]? = some (.int q n)) (k : K n) : ZLdI h i o q K := ⟨n, (x.cell o).trans e, k⟩
theorem Var.ldS (x : Var h i cs) {o : Nat} (l : List Nat) {K : List Nat → Prop} (e : cs[o]? = some (.str l)) (k : K l) : ZLdS h i o K := ⟨l, (x.cell o).trans e, k⟩
theorem Var.ldP (x : Var h i cs) {o : Nat} (nil : Bool) (j p : Nat) {K : Bool → Nat → Nat → Prop} (e : cs[o]? = some (ZV.pv nil j p).av) (k : K nil j p) : ZLdP h i o K := ⟨nil, j, p, (x.cell o).trans e, k⟩
theorem Var.ldM (x : Var h i cs) {o : Nat} (nil : Bool) (j : Nat) {K : Bool → Nat → Prop} (e : cs[o]? = some (ZV.mp nil j).av) (k : K nil j) : ZLdM h i o K := ⟨nil, j, (x.cell o).trans e, k⟩
theorem Var.zput (x : Var h i cs) {o n : Nat} {A : Prop} (hn : o + n ≤ cs.length) (k : A) : ZPut h i o n A := ⟨⟨x.lt, cs, 0, false, false, x.get, hn⟩, k⟩
theorem Var.put (x : Var h i cs) (o : Nat) (vs : List AV) : Var (hput h i o vs) i (cs.take o ++ (vs ++ cs.drop (o + vs.length))) := by
  refine ⟨?_, hput_get x.get⟩
  unfold hput; rw [x.get]; exact x.lt
theorem Var.put_fr (x : Var h i cs) (o : Nat) (vs : List AV) : Fram (fun j => j = i) h (hput h i o vs) := Fram.hput h o vs fun _ => rfl
end
/-- back to where one came from: what is behind h0 does not count -/
theorem Fram.back {S T : Nat → Prop} {h0 a b : Heap} (x : Fram T h0 a) (y : Fram S a b) (hs : ∀ i, i < h0.next → S i → T i) : Fram T h0 b :=
  ⟨Nat.le_trans x.next y.next, fun i hi ht => (y.same i (Nat.lt_of_lt_of_le hi x.next) fun h => ht (hs i hi h)).trans (x.same i hi ht)⟩
/-! ### clones -/
/-- bytes of one's own, behind h0 -/
structure Own (h0 h : Heap) (s : SL) (k : List Nat) : Prop where
  byts : Byts h s k
  own : s.nil = false → h0.next ≤ s.i ∧ s.o = 0 ∧ ∃ e g, h.get s.i = some (.cells (ofBytes k) e g false)
theorem Own.fr {h0 h h' : Heap} {s : SL} {k : List Nat} {S : Nat → Prop} (x : Own h0 h s k) (f : Fram S h h') (hs : s.nil = false → ¬ S s.i) : Own h0 h' s k :=
  ⟨x.byts.fr f hs, fun e => by
    obtain ⟨h1, h2, a, b, h3⟩ := x.own e
    exact ⟨h1, h2, a, b, (f.same _ (x.byts.seg.lt e) (hs e)).trans h3⟩⟩
theorem Own.of {h0 h1 h : Heap} {s : SL} {k : List Nat} (x : Own h1 h s k) (hn : h0.next ≤ h1.next) : Own h0 h s k :=
  ⟨x.byts, fun e => by
    obtain ⟨h1, h2, h3⟩ := x.own e
    exact ⟨Nat.le_trans hn h1, h2, h3⟩⟩
theorem SL.isNil_nil {s : SL} (h : s.isNil = true) : s.nil = true := by
  unfold SL.isNil at h
  cases hn : s.nil with
  | true => rfl
  | false => rw [hn] at h; cases h
/-- append([]byte{}, b...) -/
theorem app_new {P : Program} {h : Heap} {s : SL} {k : List Nat} {e : Nat} {Q : Heap → SL → Prop} (hb : Byts h s k) (hr : roomB P e k.length = true)
    (hk : ∀ h' s', Fram nowhere h h' → Own h h' s' k → Q h' s') :
    ZApp P (h.newO (.cells [] 1 false false)) ⟨false, h.next, 0, 0, 0, false⟩ e 1 s.n (ofBytes k) (Q (happ (h.newO (.cells [] 1 false false)) ⟨false, h.next, 0, 0, 0, false⟩ 1 s.n (ofBytes k)) (SL.app ⟨false, h.next, 0, 0, 0, false⟩ (h.newO (.cells [] 1 false false)).next s.n)) := by
  rw [hb.len]
  refine ⟨⟨fun _ => Nat.le_refl _, fun _ e => (by cases e), fun h1 _ h2 => ?_, fun _ _ => ?_, fun _ _ _ h => (by cases h), fun _ _ _ _ => ⟨[], cellsAt_of (newO_get_self _ _), by simp⟩⟩, allPlain_bytes k, ?_⟩
  · exact absurd h2 (by show ¬ 0 + k.length ≤ 0; omega)
  · show roomB P e (0 + k.length) = true
    rw [Nat.zero_add]; exact hr
  cases k with
  | nil =>
    refine hk _ _ (Fram.newO _ _ _) ⟨⟨Seg.own (cs := []) (more := []) (e := 1) (g := false) (m := false) (by rfl) (Nat.lt_succ_self _) (newO_get_self _ _), fun x hx => (by cases hx)⟩, fun _ => ⟨Nat.le_refl _, rfl, 1, false, newO_get_self _ _⟩⟩
  | cons x k =>
    have e1 : happ (h.newO (.cells [] 1 false false)) ⟨false, h.next, 0, 0, 0, false⟩ 1 (x :: k).length (ofBytes (x :: k)) = (h.newO (.cells [] 1 false false)).newO (.cells (ofBytes (x :: k)) 1 true false) := by
      unfold happ
      rw [show Nat.beq (x :: k).length 0 = false from rfl]
      simp only
      rw [show Nat.ble (0 + (x :: k).length) 0 = false by rw [Nat.zero_add]; rfl, newO_get_self]
      rfl
    have e2 : SL.app ⟨false, h.next, 0, 0, 0, false⟩ (h.newO (.cells [] 1 false false)).next (x :: k).length = ⟨false, h.next + 1, 0, (x :: k).length, (x :: k).length, true⟩ := by
      unfold SL.app
      rw [show Nat.beq (x :: k).length 0 = false from rfl]
      simp only
      rw [show Nat.ble (0 + (x :: k).length) 0 = false by rw [Nat.zero_add]; rfl, Nat.zero_add]
      rfl
    rw [e1, e2]
    refine hk _ _ ((Fram.newO _ _ _).trans (Fram.newO _ _ _)) ⟨⟨Seg.own (cs := ofBytes (x :: k)) (more := []) (e := 1) (g := true) (m := false) (by rw [ofBytes_length, Nat.mul_one]) (Nat.lt_succ_self _) (by rw [List.append_nil]; exact newO_get_self _ _), hb.byte⟩, fun _ => ⟨Nat.le_succ _, rfl, 1, true, newO_get_self _ _⟩⟩
end Go.X

namespace Go.X
open Go Go.RowKit Go.ChangeShapes Go.WideShapes
/-! ### bytes that are read of a world -/
section
variable {H : Type} {enc : TypeId × Value → H} {P : Program} {W : World} {base : Nat} {sp : Nat → Bool} {held : Bool}
theorem trod_u8 {e : TypeId} (he : P.underlying e = some (.int .u8)) {u : Value} {fuel : Nat} {x : DataW H × List MemPlace} (h : DataW.trod enc P W 0 (fun _ => true) held fuel e [u] = some x) :
    ∃ n : Nat, u = .int .u8 (.ofNat n) ∧ n < 256 := by
  cases fuel with
  | zero => simp [DataW.trod] at h
  | succ m =>
    unfold DataW.trod at h
    rw [he] at h
    cases u <;> simp at h
    rename_i q n
    obtain ⟨⟨rfl, hw⟩, rfl⟩ := h
    obtain ⟨h1, h2⟩ := bounds_u8 hw
    obtain ⟨m, rfl⟩ := Int.eq_ofNat_of_zero_le h1
    exact ⟨m, rfl, by omega⟩
def valB : List Value → Nat
  | [.int _ n] => n.toNat
  | _ => 0
/-- a slice of bytes that is read -/
theorem abs_bytes {t e : TypeId} (ht : P.underlying t = some (.slice e)) (he : P.underlying e = some (.int .u8)) (hc : P.cellsOf e = 1) {v : Value} {fuel : Nat} {x : DataW H × List MemPlace}
    (h : DataW.trod enc P W 0 (fun _ => true) held fuel t [v] = some x) :
    ∃ (s : SL) (k : List Nat), absV W.heap.size v = s.av ∧ Byts (absH W) s k ∧ ((x.1 = .nil ∧ k = []) ∨ ∃ es r, x.1 = .slice es r ∧ es.length = k.length) := by
  obtain ⟨s, rows, m, hv, hn, hcell, hrow, hx⟩ := abs_rows ht hc (by decide) h
  have hone : ∀ r, r ∈ rows → ∃ n : Nat, r.1 = [.int .u8 (.ofNat n)] ∧ n < 256 := fun r hr => by
    obtain ⟨h1, p, h2⟩ := hrow r hr
    match hr1 : r.1, h1 with
    | [u], _ =>
      rw [hr1] at h2
      obtain ⟨n, rfl, h3⟩ := trod_u8 he h2
      exact ⟨n, rfl, h3⟩
  refine ⟨s, rows.map fun r => valB r.1, hv, ⟨⟨by rw [ofBytes_length, List.length_map, Nat.mul_one]; exact hn.symm, fun e => (hcell e).1, fun e => ?_⟩, ?_⟩, ?_⟩
  · obtain ⟨hlt, c, el, f, hb, hq⟩ := hcell e
    refine ⟨c.toList.map (absV W.heap.size), by unfold cellsAt; rw [absH_cells hb], ?_⟩
    have hlen : s.len = rows.length := by unfold SL.n at hn; rw [e] at hn; exact hn
    have := take_drop_of (c := c.toList.map (absV W.heap.size)) (l := ofBytes (rows.map fun r => valB r.1)) (o := s.o) fun j y hy => by
      rw [ofBytes_eq, List.getElem?_map, List.getElem?_map, Option.map_map] at hy
      obtain ⟨r, hr, rfl⟩ := Option.map_eq_some_iff.1 hy
      obtain ⟨u, hu, hcu⟩ := hq j r hr 0 (by decide)
      obtain ⟨n, h1, _⟩ := hone r (List.mem_of_getElem? hr)
      rw [h1] at hu
      cases hu
      rw [Nat.mul_one, Nat.add_zero] at hcu
      rw [List.getElem?_map, Array.getElem?_toList, hcu]
      show some (absV W.heap.size (.int .u8 (.ofNat n))) = some (AV.int .u8 (.ofNat (valB r.1)))
      rw [absV_int, h1]; rfl
    rw [ofBytes_length, List.length_map, ← hlen] at this
    rw [Nat.mul_one]
    exact this
  · intro n hn
    obtain ⟨r, hr, rfl⟩ := List.mem_map.1 hn
    obtain ⟨n, h1, h2⟩ := hone r hr
    rw [h1]; exact h2
  · rcases hx with ⟨h1, h2⟩ | ⟨sp, h1⟩
    · exact .inl ⟨h1, by rw [h2]; rfl⟩
    · exact .inr ⟨_, _, h1, by rw [List.length_map, List.length_map]⟩
end
end Go.X

namespace Go.X
open Go Go.RowKit
/-! ### arguments that name blocks of which nothing is asked; a table; names without an end -/
def startEb (G : Nat) (bs : List Nat) : Env := ⟨fun i => if i < G then some i else bs[i - G]?, fun _ => 0, fun _ => 0⟩
noncomputable def startJ (G g : Nat) (cs : List AV) (m : Nat) : Heap := ⟨(startT G g cs).get, G + m, 0, true⟩
section
variable {P : Program} {W : World} {G g : Nat} {cs : List AV} {bs : List Nat}
theorem startEb_le : (startE G).Le (startEb G bs) :=
  ⟨fun i b h => by
    unfold startE at h; unfold startEb
    simp only at h ⊢
    by_cases hi : i < G
    · rw [if_pos hi] at h ⊢; exact h
    · rw [if_neg hi] at h; exact absurd h (by simp), fun _ _ _ => rfl, fun _ _ _ => rfl⟩
theorem startJ_rel (hG : P.globals.size = G) (hg : g < G) (hsz : G ≤ W.heap.size) (ht : G ≤ top) (hbs : ∀ b, b ∈ bs → b < W.heap.size) {arr : Array Value} {t : TypeId} {fr : Nat × Nat} (hw : W.heap[g]? = some (.cells arr t fr)) (hv : VRs (startE G) cs arr.toList) : Rel P W (startEb G bs) (startJ G g cs bs.length) W := by
  have hget : ∀ {i ao}, (startT G g cs).get i = some ao → i = g ∧ ao = .ro cs := by
    intro i ao h
    rw [startT_get (Nat.lt_of_lt_of_le hg ht)] at h
    by_cases e : i = g
    · rw [if_pos e] at h; cases h; exact ⟨e, rfl⟩
    · rw [if_neg e] at h; cases h
  refine ⟨fun i ao hi => ?_, fun i j x y b hi hj _ _ _ _ => (hget hi).1.trans (hget hj).1.symm, fun i h1 _ => ?_, fun i b hb => ?_, Below.refl _ _, fun i ao b hi _ _ => .inr ⟨cs, (hget hi).2⟩, fun i hi => ⟨if_pos (by omega), rfl⟩, .inl rfl, .inl rfl⟩
  · obtain ⟨e1, e2⟩ := hget hi
    subst e1; subst e2
    exact ⟨i, _, if_pos hg, hw, .ro _ _ _ _ [] arr.toList [] (by simp) rfl (hv.mono startEb_le)⟩
  · have h1' : G + bs.length ≤ i := h1
    show (if i < G then some i else bs[i - G]?) = none
    rw [if_neg (by omega)]
    exact List.getElem?_eq_none (by omega)
  · have hb : (if i < G then some i else bs[i - G]?) = some b := hb
    split at hb
    · cases hb; omega
    · exact hbs b (List.mem_of_getElem? hb)
/-- a law over values that may be anything, and one table -/
theorem lawJ_true {S : ZSums} {sums : Sums} (hsum : SumsSound P W sums) (hS : SumFit S sums) (hmo : P.follows .mixedOrders = true) (hG : P.globals.size = G) (hg : g < G) (hsz : G ≤ W.heap.size) (ht : G ≤ top)
    {name : String} {k : IntKind} {zs : List Int} (hgl : P.globalNamed name = some g) (htab : Lib.TabIs P W name k zs) (hcs : cs = zs.map fun z => AV.int k z) {lf n : Nat} {f : FuncId} (hb : bodied P f = true)
    {args : List ZV} {vs : Array Value} (hbs : ∀ b, b ∈ bs → b < W.heap.size) (hv : VRs (startEb G bs) (avs args) vs.toList) (hz : zCall P S lf n f args (fun v _ => v.av = .bool true) (startJ G g cs bs.length)) :
    Calls P f vs W fun e W' => e = .returned (.bool true) ∧ Below W.heap.size W W' := by
  have hs : (xCall P noHints sums lf n f (avs args)).sat (fun r _ => r = .val (.bool true)) (startJ G g cs bs.length) :=
    (zCall_sound hS (lf := lf) n).call f args _ (startJ G g cs bs.length) (bodied_lt hb) rfl hz (fun _ => .fail 163) (fun v => .ret (.val v)) (fun r _ => r = .val (.bool true)) fun v h' _ hv => by
      show Res.val v.av = _
      rw [hv]
  have hrow : ∃ t fr, W.heap[g]? = some (.cells (zs.map fun z => Value.int k z).toArray t fr) := by
    unfold Lib.TabIs World.var? at htab
    rw [hgl, Option.bind_some] at htab
    split at htab
    · rename_i cs t fr hw
      exact ⟨t, fr, by rw [hw, Option.some.inj htab]⟩
    · cases htab
  obtain ⟨t, fr, hw⟩ := hrow
  have r := startJ_rel (cs := cs) hG hg hsz ht hbs hw (by rw [hcs]; exact VRs_ints k zs)
  refine Calls.mono (xCall_sound hsum (.inr fun _ => Nat.zero_le _) hmo hb hs r (vs := vs) hv) fun e w' ⟨v, E', h', av, e1, s, r, hv, hp⟩ => ?_
  subst e1
  cases hp
  cases hv
  exact ⟨rfl, r.below⟩
end
end Go.X

namespace Go.X
open Go Go.RowKit
/-! ### functions that answer by their arguments alone, and leave nothing behind -/
noncomputable def allIs (v : AV) (o : Out) : Bool := Out.rec (motive := fun _ => Bool) (fun _ => false) (fun l _ => List.rec (motive := fun _ => Bool) true (fun x _ ih => cnd (eqRes x.1 (.val v)) ih false) l) o
theorem allIs_spec {v : AV} {o : Out} (h : allIs v o = true) : ∃ l g, o = .ok l g ∧ ∀ x, x ∈ l → x.1 = .val v := by
  cases o with
  | err n => cases h
  | ok l g =>
    refine ⟨l, g, rfl, ?_⟩
    have key : ∀ l : List (Res × THeap), (List.rec (motive := fun _ => Bool) true (fun x _ ih => cnd (eqRes x.1 (.val v)) ih false) l : Bool) = true → ∀ x, x ∈ l → x.1 = .val v := by
      intro l
      induction l with
      | nil => exact fun _ x hx => absurd hx List.not_mem_nil
      | cons a t ih =>
        intro h x hx
        have h2 : cnd (eqRes a.1 (.val v)) (List.rec (motive := fun _ => Bool) true (fun x _ ih => cnd (eqRes x.1 (.val v)) ih false) t) false = true := h
        rw [cnd_and] at h2
        rcases List.mem_cons.1 hx with e | e
        · rw [e]; exact eqRes_eq h2.1
        · exact ih h2.2 x e
    exact key l h
theorem VRs_ints_inv {E : Env} {q : IntKind} : ∀ (zs : List Int) (l : List Value), VRs E (zs.map fun z => AV.int q z) l → l = zs.map fun z => Value.int q z
  | [], l, h => by cases h; rfl
  | z :: zs, l, h => by
    cases h with
    | cons _ v _ m h1 h2 => cases h1; rw [VRs_ints_inv zs m h2]; rfl
section
variable {P : Program} {W W0 : World} {G : Nat}
theorem closed_is {H : Hints} {sums : Sums} {lf n : Nat} {f : FuncId} {v : AV} (hmo : P.follows .mixedOrders = true) (hG : P.globals.size = G) (hsz : G ≤ W.heap.size) (ht : G ≤ top) (hb : bodied P f = true)
    (hsum : SumsSound P W sums) (hW : 0 < W.heap.size ∨ ∀ f, H.join f ≤ 1) (hrun : allIs v ((xCall P H sums lf n f []).run 0 (startH G) Log.nil) = true) :
    Calls P f #[] W fun e W' => ∃ u E, e = .returned u ∧ VR E v u ∧ Below W.heap.size W W' := by
  obtain ⟨l, g, e, hl⟩ := allIs_spec hrun
  have hs := run_sat _ _ _ _ _ _ (fun r _ => r = .val v) e (start_WF ht) (Nat.zero_le _) hl
  refine Calls.mono (xCall_sound hsum hW hmo hb hs (start_rel hG hsz ht) (vs := #[]) .nil) fun e w' ⟨v, E', h', av, e1, s, r, hv, hp⟩ => ?_
  subst e1
  cases hp
  exact ⟨_, _, rfl, hv, r.below⟩
/-- a function without arguments that answers this row of numbers -/
noncomputable def rowV (q : IntKind) (zs : List Int) : AV := .agg (zs.map fun z => AV.int q z)
def constZ (f : FuncId) (v : AV) : ZSums := fun g => match Nat.beq g f with | true => some (fun args K h => args = [] ∧ K (.any v) h) | false => none
def constX (f : FuncId) (v : AV) : Sums := fun g => match Nat.beq g f with | true => some (fun args k _ => match args with | [] => k v | _ => .fail 172) | false => none
theorem const_fit (f : FuncId) (v : AV) : SumFit (constZ f v) (constX f v) := by
  constructor
  · intro g hg
    unfold constZ at hg; unfold constX
    cases hb : Nat.beq g f with
    | true => rw [hb] at hg; cases hg
    | false => rfl
  · intro g s hg
    unfold constZ at hg; unfold constX
    cases hb : Nat.beq g f with
    | false => rw [hb] at hg; cases hg
    | true =>
      rw [hb] at hg
      cases hg
      refine ⟨_, rfl, ?_⟩
      rintro args K h hi ⟨rfl, hk⟩ kp k p hp
      have := hp _ h hi hk
      rwa [av_any] at this
theorem const_sound {f : FuncId} {q : IntKind} {zs : List Int} (hc : ∀ w, Below W0.heap.size W0 w → Calls P f #[] w fun e w' => e = .returned (.agg (zs.map fun z => Value.int q z).toArray) ∧ Below w.heap.size w w') : SumsSound P W0 (constX f (rowV q zs)) := by
  intro g s hg args k kp p E h w vs hb hs r hv
  unfold constX at hg
  cases hbq : Nat.beq g f with
  | false => rw [hbq] at hg; cases hg
  | true =>
    rw [hbq] at hg
    have := Nat.eq_of_beq_eq_true hbq
    subst this
    cases hg
    cases args with
    | cons => exact hs.elim
    | nil =>
      have e : vs = #[] := by
        obtain ⟨l⟩ := vs
        cases hv; rfl
      subst e
      refine Calls.mono (hc w r.below) fun e w' ⟨e1, hb'⟩ => ?_
      subst e1
      exact ⟨E, h, rowV q zs, .refl _ _, r.garbage hb', .agg _ _ (VRs_ints q zs), hs⟩
/-- a call whose answer is a number -/
theorem law_int {S : ZSums} {sums : Sums} (hsum : SumsSound P W sums) (hS : SumFit S sums) (hmo : P.follows .mixedOrders = true) (hG : P.globals.size ≤ W.heap.size) {lf n : Nat} {f : FuncId} (hb : bodied P f = true) {q : IntKind} {z : Int}
    {args : List ZV} {vs : Array Value} (hv : VRs (absE W.heap.size) (avs args) vs.toList) (hz : zCall P S lf n f args (fun v _ => v.av = .int q z) (absH W)) :
    Calls P f vs W fun e W' => e = .returned (.int q z) ∧ Below W.heap.size W W' := by
  have hs : (xCall P noHints sums lf n f (avs args)).sat (fun r _ => r = .val (.int q z)) (absH W) :=
    (zCall_sound hS (lf := lf) n).call f args _ (absH W) (bodied_lt hb) rfl hz (fun _ => .fail 163) (fun v => .ret (.val v)) (fun r _ => r = .val (.int q z)) fun v h' _ hv => by
      show Res.val v.av = _
      rw [hv]
  refine Calls.mono (xCall_sound hsum (.inr fun f => Nat.zero_le _) hmo hb hs (abs_rel hG) hv) fun e w' ⟨v, E', h', av, e1, s, r, hv, hp⟩ => ?_
  subst e1
  cases hp
  cases hv
  exact ⟨rfl, r.below⟩
/-! ### a number of a number and bytes -/
noncomputable def okSl (b : AV) (m : FM) : FM := b.onSlice m m (fun _ _ len cap _ => cnd (Nat.ble len cap) (cnd (Nat.ble len 1048576) m (.fail 173)) (.fail 173)) (.fail 173)
noncomputable def byteF (F : Nat → List Nat → (Nat → FM) → FM) (args : List AV) (k : KV) : FM :=
  just2 args fun a b => a.onInt (fun q n => kEq q .u64 (Int.rec (motive := fun _ => FM) (fun m => cnd (ltb m 18446744073709551616) (okSl b (bytesOfK b fun l => F m l fun r => k (.int .u64 (.ofNat r)))) (.fail 173)) (fun _ => .fail 173) n)) (.fail 173)
noncomputable def byteX (f : FuncId) (F : Nat → List Nat → (Nat → FM) → FM) (S : Sums) : Sums := fun g => cnd (Nat.beq g f) (some fun args k _ => byteF F args k) (S g)
/-- the bytes that are read, of the world's own heap -/
theorem bytes_abs {E : Env} {h : Heap} {w : World} {p : Post} (r : Rel P W0 E h w) {a : AV} {v : Value} (ha : VR E a v) {kk : List Nat → FM} (hs : (okSl a (bytesOfK a kk)).sat p h) :
    ∃ (s : SL) (l : List Nat), VR (absE w.heap.size) s.av v ∧ Byts (absH w) s l ∧ l.length ≤ 1048576 ∧ (kk l).sat p h := by
  cases ha with
  | nils => exact ⟨⟨true, 0, 0, 0, 0, false⟩, [], .nils, Byts.nil _ _, by simp, hs⟩
  | emp a c => exact ⟨⟨true, 0, 0, 0, 0, true⟩, [], .emp _ _, Byts.nil _ _, by simp, hs⟩
  | slice i o len cap ext b x cc hi hx hcc =>
    subst hx
    have hs1 : (cnd (Nat.ble len cap) (cnd (Nat.ble len 1048576) (readCells i fun c => takeK len (dropL o c) fun l => bytesK l kk) (.fail 173)) (.fail 173)).sat p h := hs
    obtain ⟨_, hs1⟩ := cnd_sat hs1
    obtain ⟨hle, hs1⟩ := cnd_sat hs1
    have hle := ble_iff.1 hle
    obtain ⟨ao, hg, hs2⟩ := hs1
    obtain ⟨c, ho, hs3⟩ := onRead_sat hs2
    obtain ⟨hl, hs4⟩ := takeK_sat hs3
    rw [dropL_eq] at hl hs4
    obtain ⟨s, he, hb, hk⟩ := bytesK_sat _ _ hs4
    obtain ⟨vs, h1, h2, h3⟩ := (r.readAt hg ho hi).cells o len hl
    rw [he] at h2
    have h4 := map_ofBytes_inj h2
    have hbw := r.bound i b hi
    have hsl : s.length = len := by rw [← h1, h4]; simp
    refine ⟨⟨false, b, E.base i + o, len, cc, false⟩, s, .slice _ _ _ _ _ b _ cc (if_pos hbw) (by simp [absE]) (by simp [cnd]), ⟨⟨by rw [ofBytes_length, hsl]; show len = len * 1; omega, fun _ => hbw, fun _ => ?_⟩, hb⟩, by rw [hsl]; exact hle, hk⟩
    obtain ⟨cs, e, fr, pre, c1, rest, q1, q2, q3, q4⟩ := (r.readAt hg ho hi).ex
    refine ⟨cs.toList.map (absV w.heap.size), by unfold cellsAt; rw [absH_cells q1], ?_⟩
    have := take_drop_of (c := cs.toList.map (absV w.heap.size)) (l := ofBytes s) (o := E.base i + o) fun j u hu => by
      rw [ofBytes_eq, List.getElem?_map] at hu
      obtain ⟨y, hy, rfl⟩ := Option.map_eq_some_iff.1 hu
      have h5 := h3 j (.int .u8 (.ofNat y)) (by rw [h4, List.getElem?_map, hy]; rfl)
      rw [addr_add, cell_at q1] at h5
      rw [List.getElem?_map, Array.getElem?_toList, h5]; rfl
    rw [ofBytes_length, hsl] at this
    rw [Nat.mul_one]
    exact this
  | _ => exact False.elim hs
theorem byte_sound {sums : Sums} (hs0 : SumsSound P W0 sums) {f : FuncId} {F : Nat → List Nat → (Nat → FM) → FM} {fn : Nat → List Nat → Nat} (hF : ∀ a l k, F a l k = k (fn a l))
    (hc : ∀ w (a : Nat) (v : Value) (s : SL) (l : List Nat), Below W0.heap.size W0 w → a < 18446744073709551616 → VR (absE w.heap.size) s.av v → Byts (absH w) s l → l.length ≤ 1048576 →
      Calls P f #[.int .u64 (.ofNat a), v] w fun e w' => e = .returned (.int .u64 (.ofNat (fn a l))) ∧ Below w.heap.size w w') : SumsSound P W0 (byteX f F sums) := by
  intro g s hg args k kp p E h w vs hb hsat r hv
  have hg1 : cnd (Nat.beq g f) (some fun args k _ => byteF F args k) (sums g) = some s := hg
  cases hbq : Nat.beq g f with
  | false => rw [hbq, cnd_false] at hg1; exact hs0 g s hg1 args k kp p E h w vs hb hsat r hv
  | true =>
    rw [hbq, cnd_true] at hg1
    have := Nat.eq_of_beq_eq_true hbq
    subst this
    cases hg1
    obtain ⟨a, b, u, v, e, hu, hv2, hs1⟩ := just2_sat hv (show (byteF F args k).sat p h from hsat)
    cases hu with
    | int q n =>
      obtain ⟨hq, hs2⟩ := kEq_sat (m := Int.rec (motive := fun _ => FM) (fun m => cnd (ltb m 18446744073709551616) (okSl b (bytesOfK b fun l => F m l fun r => k (.int .u64 (.ofNat r)))) (.fail 173)) (fun _ => .fail 173) n) hs1
      subst hq
      cases n with
      | negSucc m => exact False.elim hs2
      | ofNat m =>
        obtain ⟨hm, hs3⟩ := cnd_sat (show (cnd (ltb m 18446744073709551616) (okSl b (bytesOfK b fun l => F m l fun r => k (.int .u64 (.ofNat r)))) (.fail 173)).sat p h from hs2)
        obtain ⟨s, l, h1, h2, h3, h4⟩ := bytes_abs r hv2 hs3
        rw [hF] at h4
        rw [toArr e]
        refine Calls.mono (hc w m v s l r.below (ltb_iff.1 hm) h1 h2 h3) fun e w' ⟨e1, hb'⟩ => ?_
        subst e1
        exact ⟨E, h, _, .refl _ _, r.garbage hb', .int _ _, h4⟩
    | _ => exact False.elim hs1
end
end Go.X

namespace Go.X
open Go Go.RowKit
/-! ### errors.Is of a number and itself -/
noncomputable def isF (te : TypeId) (args : List AV) (k : KV) : FM := match args with
  | [.iface t (.int q n), .iface t' (.int q' m)] => whenC (t = te ∧ t' = te ∧ q = .i64 ∧ q' = .i64 ∧ n = m) (k (.bool true)) (.fail 171)
  | _ => .fail 171
noncomputable def isX (f : FuncId) (te : TypeId) (sums : Sums) : Sums := fun g => match Nat.beq g f with | true => some (fun args k _ => isF te args k) | false => sums g
def isZ (f : FuncId) (te : TypeId) (S : ZSums) : ZSums := fun g => match Nat.beq g f with | true => some (fun args K h => ∃ n : Int, avs args = [AV.iface te (.int .i64 n), AV.iface te (.int .i64 n)] ∧ K (.bool true) h) | false => S g
theorem isZ_ne {f : FuncId} {te : TypeId} {S : ZSums} : ∀ g, g ≠ f → isZ f te S g = S g := fun g hg => by
  unfold isZ
  cases hb : Nat.beq g f with
  | true => exact absurd (Nat.eq_of_beq_eq_true hb) hg
  | false => rfl
theorem is_fit {S : ZSums} {sums : Sums} (hs : SumFit S sums) (f : FuncId) (te : TypeId) : SumFit (isZ f te S) (isX f te sums) := by
  constructor
  · intro g hg
    unfold isZ at hg; unfold isX
    cases hb : Nat.beq g f with
    | true => rw [hb] at hg; cases hg
    | false => rw [hb] at hg; exact hs.none g hg
  · intro g s hg
    unfold isZ at hg; unfold isX
    cases hb : Nat.beq g f with
    | false => rw [hb] at hg; exact hs.some g s hg
    | true =>
      rw [hb] at hg
      cases hg
      refine ⟨_, rfl, ?_⟩
      rintro args K h hi ⟨n, e, hk⟩ kp k p hp
      have := hp _ h hi hk
      rw [av_bool] at this
      show (isF te (avs args) k).sat p h
      rw [e]
      show FM.sat (whenC (te = te ∧ te = te ∧ IntKind.i64 = .i64 ∧ IntKind.i64 = .i64 ∧ n = n) (k (.bool true)) (.fail 171)) p h
      rw [whenC_pos ⟨rfl, rfl, rfl, rfl, rfl⟩]
      exact this
theorem is_sound {P : Program} {W0 : World} {sums : Sums} (hs : SumsSound P W0 sums) {f : FuncId} {te : TypeId} (hc : ∀ (n : Int) w, Calls P f #[.iface te (.int .i64 n), .iface te (.int .i64 n)] w fun e w' => e = .returned (.bool true) ∧ w' = w) : SumsSound P W0 (isX f te sums) := by
  intro g s hg args k kp p E h w vs hb hsat r hv
  unfold isX at hg
  cases hbq : Nat.beq g f with
  | false => rw [hbq] at hg; exact hs g s hg args k kp p E h w vs hb hsat r hv
  | true =>
    rw [hbq] at hg
    have := Nat.eq_of_beq_eq_true hbq
    subst this
    cases hg
    have hs2 : (isF te args k).sat p h := hsat
    unfold isF at hs2
    split at hs2
    · rename_i t q n t' q' m
      by_cases hcond : t = te ∧ t' = te ∧ q = .i64 ∧ q' = .i64 ∧ n = m
      · rw [whenC_pos hcond] at hs2
        obtain ⟨e1, e2, e3, e4, e5⟩ := hcond
        subst e1; subst e2; subst e3; subst e4; subst e5
        have e : vs = #[.iface t' (.int .i64 n), .iface t' (.int .i64 n)] := by
          obtain ⟨l⟩ := vs
          cases hv with
          | cons _ v1 _ l1 h1 t1 =>
            cases t1 with
            | cons _ v2 _ l2 h2 t2 =>
              cases t2
              cases h1 with
              | iface _ _ u1 h1 =>
                cases h2 with
                | iface _ _ u2 h2 => cases h1; cases h2; rfl
        subst e
        refine Calls.mono (hc n w) fun en w' ⟨e1, e2⟩ => ?_
        subst e1; subst e2
        exact ⟨E, h, .bool true, .refl _ _, r, .bool true, hs2⟩
      · rw [whenC_neg hcond] at hs2; exact hs2.elim
    · exact hs2.elim
end Go.X

namespace Go.X
/-! ### a law over entries: a call a line -/
theorem cndP_f {b : Bool} {A B : Prop} (h : b = false) (k : B) : @cnd Prop b A B := by subst h; exact k
theorem cndP_t {b : Bool} {A B : Prop} (h : b = true) (k : A) : @cnd Prop b A B := by subst h; exact k
theorem nay {b : Bool} {A B : Prop} (k : B) (h : b = false := by kernel_rfl) : @cnd Prop b A B := cndP_f h k
theorem yea {b : Bool} {A B : Prop} (k : A) (h : b = true := by kernel_rfl) : @cnd Prop b A B := cndP_t h k
theorem zRep_at {args : List ZV} {K : ZK} {h : Heap} {e : Ent} (hk : (e.next, e.args, rdL e.rd h, keysLt e.wr h.next, Nat.ble (h.next + e.new.length) 65536) = (h.next, avs args, rdR e.rd, true, true)) (k : K (zOf e.v) (entHeap e h)) :
    ∀ (i : Nat) (tab : List Ent), tab[i]? = some e → (tab.take i).all (fun x => !Nat.beq x.next h.next) = true → zRep tab args K h
  | 0, x :: tab, he, _ => by
    cases he
    simp only [Prod.mk.injEq] at hk
    exact Or.inl ⟨hk.1, hk.2.1, hk.2.2.1, hk.2.2.2.1, Nat.le_of_ble_eq_true hk.2.2.2.2, k⟩
  | i + 1, x :: tab, he, hm => by
    rw [List.take_succ_cons, List.all_cons, Bool.and_eq_true, Bool.not_eq_true'] at hm
    exact Or.inr ⟨fun hh => absurd hm.1 (by rw [hh.1, beq_iff.2 rfl]; decide), zRep_at hk k i tab he hm.2⟩
theorem hit {P : Program} {S : ZSums} {lf n : Nat} {f : FuncId} {args : List ZV} {K : ZK} {h : Heap} (i : Nat) (e : Ent) (tab : List Ent) (hS : S f = some (zRep tab))
    (hk : (ltb f P.funcs.size, tab[i]?, (tab.take i).all (fun x => !Nat.beq x.next h.next), e.next, e.args, rdL e.rd h, keysLt e.wr h.next, Nat.ble (h.next + e.new.length) 65536) = (true, some e, true, h.next, avs args, rdR e.rd, true, true)) (k : K (zOf e.v) (entHeap e h)) : zCall P S lf (n + 1) f args K h := by
  simp only [Prod.mk.injEq] at hk
  exact zCall_sum hk.1 hS (zRep_at (by simp only [Prod.mk.injEq]; exact hk.2.2.2) k i tab hk.2.1 hk.2.2.1)
theorem Var.put_all {h : Heap} {i : Nat} {cs vs : List AV} (x : Var h i cs) (e : vs.length = cs.length) : Var (hput h i 0 vs) i vs := by
  have := x.put 0 vs
  rwa [List.take_zero, List.nil_append, Nat.zero_add, e, List.drop_length, List.append_nil] at this
end Go.X

namespace Go.X
open Go Go.RowKit
/-! ### a law over one list of its own name and one table -/
noncomputable def roO (o : Option (List AV)) : Option AObj := Option.rec (motive := fun _ => Option AObj) none (fun c => some (.ro c)) o
noncomputable def startK (G g : Nat) (cs : List AV) (o : Option (List AV)) : Heap := ⟨fun i => cnd (Nat.beq i G) (roO o) ((startT G g cs).get i), G + 1, 0, true⟩
def startEk (G b off : Nat) : Env := ⟨fun i => if i < G then some i else if i = G then some b else none, fun i => if i = G then off else 0, fun _ => 0⟩
section
variable {P : Program} {W : World} {G g : Nat} {cs : List AV} {b off : Nat} {o : Option (List AV)}
theorem startEk_le : (startE G).Le (startEk G b off) :=
  ⟨fun i b h => by
    unfold startE at h; unfold startEk
    simp only at h ⊢
    by_cases hi : i < G
    · rw [if_pos hi] at h ⊢; exact h
    · rw [if_neg hi] at h; exact absurd h (by simp), fun i b h => by
    unfold startE at h; unfold startEk startE
    simp only at h ⊢
    by_cases hi : i < G
    · rw [if_neg (by omega)]
    · rw [if_neg hi] at h; exact absurd h (by simp), fun _ _ _ => rfl⟩
/-- what must be of the list's block -/
structure KOk (W : World) (G g b off : Nat) (o : Option (List AV)) : Prop where
  lt : b < W.heap.size
  ne : ∀ c, o = some c → b ≠ g
  ob : ∀ c, o = some c → ∃ arr t fr pre c1 rest, W.heap[b]? = some (.cells arr t fr) ∧ arr.toList = pre ++ (c1 ++ rest) ∧ pre.length = off ∧ VRs (startEk G b off) c c1
theorem startK_rel (hG : P.globals.size = G) (hg : g < G) (hsz : G ≤ W.heap.size) (ht : G ≤ top) (ko : KOk W G g b off o) {arr : Array Value} {t : TypeId} {fr : Nat × Nat} (hw : W.heap[g]? = some (.cells arr t fr)) (hv : VRs (startE G) cs arr.toList) : Rel P W (startEk G b off) (startK G g cs o) W := by
  have hget : ∀ {i ao}, (startK G g cs o).get i = some ao → (i = G ∧ ∃ c, o = some c ∧ ao = .ro c) ∨ (i = g ∧ ao = .ro cs) := by
    intro i ao h
    have h : cnd (Nat.beq i G) (roO o) ((startT G g cs).get i) = some ao := h
    cases hb : Nat.beq i G with
    | true =>
      rw [hb] at h
      refine .inl ⟨Nat.eq_of_beq_eq_true hb, ?_⟩
      cases o with
      | none => cases h
      | some c => exact ⟨c, rfl, (Option.some.inj h).symm⟩
    | false =>
      rw [hb] at h
      have h : (startT G g cs).get i = some ao := h
      rw [startT_get (Nat.lt_of_lt_of_le hg ht)] at h
      by_cases e : i = g
      · rw [if_pos e] at h; cases h; exact .inr ⟨e, rfl⟩
      · rw [if_neg e] at h; cases h
  have blkG : (startEk G b off).blk G = some b := by
    show (if G < G then some G else if G = G then some b else none) = some b
    rw [if_neg (Nat.lt_irrefl G), if_pos rfl]
  have blkg : (startEk G b off).blk g = some g := by
    show (if g < G then some g else if g = G then some b else none) = some g
    rw [if_pos hg]
  refine ⟨fun i ao hi => ?_, fun i j x y b' hi hj _ _ h1 h2 => ?_, fun i h1 _ => ?_, fun i b' hb => ?_, Below.refl _ _, fun i ao b' hi _ _ => ?_, fun i hi => ⟨if_pos (by omega), if_neg (by omega)⟩, .inl rfl, .inl rfl⟩
  · rcases hget hi with ⟨e1, c, e2, e3⟩ | ⟨e1, e2⟩
    · subst e1; subst e3
      obtain ⟨arr, t, fr, pre, c1, rest, h1, h2, h3, h4⟩ := ko.ob c e2
      exact ⟨b, _, blkG, h1, .ro _ _ _ _ pre c1 rest h2 (h3.trans (if_pos rfl).symm) h4⟩
    · subst e1; subst e2
      exact ⟨i, _, blkg, hw, .ro _ _ _ _ [] arr.toList [] (by simp) (show 0 = if i = G then off else 0 by rw [if_neg (by omega)]) (hv.mono startEk_le)⟩
  · rcases hget hi with ⟨e1, c, e2, e3⟩ | ⟨e1, e2⟩ <;> rcases hget hj with ⟨e4, c', e5, e6⟩ | ⟨e4, e5⟩
    · rw [e1, e4]
    · subst e1; subst e4
      rw [blkG] at h1; rw [blkg] at h2
      cases h1; cases h2
      exact absurd rfl (ko.ne c e2)
    · subst e1; subst e4
      rw [blkG] at h2; rw [blkg] at h1
      cases h1; cases h2
      exact absurd rfl (ko.ne c' e5)
    · rw [e1, e4]
  · have h1' : G + 1 ≤ i := h1
    show (if i < G then some i else if i = G then some b else none) = none
    rw [if_neg (by omega), if_neg (by omega)]
  · have hb : (if i < G then some i else if i = G then some b else none) = some b' := hb
    split at hb
    · cases hb; omega
    · split at hb
      · cases hb; exact ko.lt
      · cases hb
  · rcases hget hi with ⟨_, c, _, e3⟩ | ⟨_, e2⟩
    · exact .inr ⟨c, e3⟩
    · exact .inr ⟨cs, e2⟩
/-- a law over a list and one table -/
theorem lawK_true {S : ZSums} {sums : Sums} (hsum : SumsSound P W sums) (hS : SumFit S sums) (hmo : P.follows .mixedOrders = true) (hG : P.globals.size = G) (hg : g < G) (hsz : G ≤ W.heap.size) (ht : G ≤ top)
    {name : String} {k : IntKind} {zs : List Int} (hgl : P.globalNamed name = some g) (htab : Lib.TabIs P W name k zs) (hcs : cs = zs.map fun z => AV.int k z) {lf n : Nat} {f : FuncId} (hb : bodied P f = true)
    {args : List ZV} {vs : Array Value} (ko : KOk W G g b off o) (hv : VRs (startEk G b off) (avs args) vs.toList) (hz : zCall P S lf n f args (fun v _ => v.av = .bool true) (startK G g cs o)) :
    Calls P f vs W fun e W' => e = .returned (.bool true) ∧ Below W.heap.size W W' := by
  have hs : (xCall P noHints sums lf n f (avs args)).sat (fun r _ => r = .val (.bool true)) (startK G g cs o) :=
    (zCall_sound hS (lf := lf) n).call f args _ (startK G g cs o) (bodied_lt hb) rfl hz (fun _ => .fail 163) (fun v => .ret (.val v)) (fun r _ => r = .val (.bool true)) fun v h' _ hv => by
      show Res.val v.av = _
      rw [hv]
  have hrow : ∃ t fr, W.heap[g]? = some (.cells (zs.map fun z => Value.int k z).toArray t fr) := by
    unfold Lib.TabIs World.var? at htab
    rw [hgl, Option.bind_some] at htab
    split at htab
    · rename_i cs t fr hw
      exact ⟨t, fr, by rw [hw, Option.some.inj htab]⟩
    · cases htab
  obtain ⟨t, fr, hw⟩ := hrow
  have r := startK_rel (cs := cs) hG hg hsz ht ko hw (by rw [hcs]; exact VRs_ints k zs)
  refine Calls.mono (xCall_sound hsum (.inr fun _ => Nat.zero_le _) hmo hb hs r (vs := vs) hv) fun e w' ⟨v, E', h', av, e1, s, r, hv, hp⟩ => ?_
  subst e1
  cases hp
  cases hv
  exact ⟨rfl, r.below⟩
end
/-- may be written, as a Bool -/
noncomputable def canB (h : Heap) (i n : Nat) : Bool := match h.get i with
  | some (.cells c _ _ _) => cnd (ltb i h.next) (Nat.ble n c.length) false
  | _ => false
theorem canPut_of {h : Heap} {i n : Nat} (e : canB h i n = true) : canPut h i n := by
  unfold canB at e
  split at e
  · rename_i c a g m hc
    cases hl : ltb i h.next with
    | true => rw [hl] at e; exact ⟨ltb_iff.1 hl, c, a, g, m, hc, Nat.le_of_ble_eq_true e⟩
    | false => rw [hl] at e; cases e
  · cases e
theorem zPut_b {h : Heap} {i o n : Nat} {A : Prop} (e : canB h i (o + n) = true) (k : A) : ZPut h i o n A := ⟨canPut_of e, k⟩
/-- append([]int{}, l...) of a list that is not empty -/
theorem app_new_ints {P : Program} {h : Heap} {s : SL} {l : List Int} {e : Nat} {Q : Heap → SL → Prop} (hb : Ints h s l) (hl : l ≠ []) (hr : roomB P e l.length = true)
    (hk : Q ((h.newO (.cells [] 1 false false)).newO (.cells (l.map (AV.int .i64)) 1 true false)) ⟨false, h.next + 1, 0, l.length, l.length, true⟩) :
    ZApp P (h.newO (.cells [] 1 false false)) ⟨false, h.next, 0, 0, 0, false⟩ e 1 s.n (l.map (AV.int .i64)) (Q (happ (h.newO (.cells [] 1 false false)) ⟨false, h.next, 0, 0, 0, false⟩ 1 s.n (l.map (AV.int .i64))) (SL.app ⟨false, h.next, 0, 0, 0, false⟩ (h.newO (.cells [] 1 false false)).next s.n)) := by
  rw [hb.len]
  refine ⟨⟨fun _ => Nat.le_refl _, fun _ e => (by cases e), fun h1 _ h2 => ?_, fun _ _ => ?_, fun _ _ _ h => (by cases h), fun _ _ _ _ => ⟨[], cellsAt_of (newO_get_self _ _), by simp⟩⟩, allPlain_ints l, ?_⟩
  · exact absurd h2 (by show ¬ 0 + l.length ≤ 0; omega)
  · show roomB P e (0 + l.length) = true
    rw [Nat.zero_add]; exact hr
  cases l with
  | nil => exact absurd rfl hl
  | cons x k =>
    have e1 : happ (h.newO (.cells [] 1 false false)) ⟨false, h.next, 0, 0, 0, false⟩ 1 (x :: k).length ((x :: k).map (AV.int .i64)) = (h.newO (.cells [] 1 false false)).newO (.cells ((x :: k).map (AV.int .i64)) 1 true false) := by
      unfold happ
      rw [show Nat.beq (x :: k).length 0 = false from rfl]
      simp only
      rw [show Nat.ble (0 + (x :: k).length) 0 = false by rw [Nat.zero_add]; rfl, newO_get_self]
      rfl
    have e2 : SL.app ⟨false, h.next, 0, 0, 0, false⟩ (h.newO (.cells [] 1 false false)).next (x :: k).length = ⟨false, h.next + 1, 0, (x :: k).length, (x :: k).length, true⟩ := by
      unfold SL.app
      rw [show Nat.beq (x :: k).length 0 = false from rfl]
      simp only
      rw [show Nat.ble (0 + (x :: k).length) 0 = false by rw [Nat.zero_add]; rfl, Nat.zero_add]
      rfl
    rw [e1, e2]
    exact hk
/-- .. of an empty one -/
theorem app_new_none {P : Program} {h : Heap} {s : SL} {e : Nat} {Q : Heap → SL → Prop} (h0 : s.n = 0)
    (hk : Q (h.newO (.cells [] 1 false false)) ⟨false, h.next, 0, 0, 0, false⟩) :
    ZApp P (h.newO (.cells [] 1 false false)) ⟨false, h.next, 0, 0, 0, false⟩ e 1 s.n [] (Q (happ (h.newO (.cells [] 1 false false)) ⟨false, h.next, 0, 0, 0, false⟩ 1 s.n []) (SL.app ⟨false, h.next, 0, 0, 0, false⟩ (h.newO (.cells [] 1 false false)).next s.n)) := by
  rw [h0]
  exact ⟨⟨fun _ => Nat.le_refl _, fun h => absurd rfl h, fun h => absurd rfl h, fun h => absurd rfl h, fun h => absurd rfl h, fun h => absurd rfl h⟩, rfl, hk⟩
end Go.X

namespace Go.X
open Go Go.RowKit
/-! ### functions that defer calls, where nothing panics -/
def deferC (o : Oper) : Option Call := match o.guard, o.op with
  | none, .defer c => some c
  | _, _ => none
def hasDefer : Code → Bool
  | .seq a b => hasDefer a || hasDefer b
  | .cond _ a b => hasDefer a || hasDefer b
  | .block _ c => hasDefer c
  | .region _ ops draw => !draw && ops.toList.any fun o => (deferC o).isSome
  | _ => false
section
variable (P : Program) (C : ZCall)
/-- what is deferred -/
noncomputable def zDfr (z : ZT) (c : Call) (K : ADef → Prop) : Prop := match c.callee with
  | .value f => match zEv P z f with
    | .fn (.plain (.func g)) fs cap => K ⟨.plain (.func g), avs ((fs ++ zEvs P z c.args.toList) ++ cap)⟩
    | _ => False
  | _ => False
noncomputable def zOpsD (N : Nat) (ops : Array Oper) (l : List Oper) (D : List ADef) (z : ZT) (h : Heap) (K : List ADef → ZT → Heap → Prop) : Prop := match l with
  | [] => K D z h
  | o :: r => match deferC o with
    | some c => zDfr P z c fun d => zDst N o.dst (.tup []) z fun z' => zOpsD N ops r (d :: D) z' h K
    | none => zOps P C N ops [o] z h fun z' h' => zOpsD N ops r D z' h' K
noncomputable def zRegD (N : Nat) (ops : Array Oper) (draw : Bool) (D : List ADef) (z : ZT) (h : Heap) (K : List ADef → ZT → Heap → Prop) : Prop :=
  match draw, ops.toList.any fun o => (deferC o).isSome with
  | false, true => zOpsD P C N ops ops.toList D z h K
  | _, _ => zRegion P C ops N draw z h (K D)
noncomputable def zSpineD (fn N lf : Nat) (c : Code) : List ADef → ZT → (List ADef → ZT → Heap → Prop) → (List ADef → KZ) → Heap → Prop :=
  Code.rec (motive := fun _ => List ADef → ZT → (List ADef → ZT → Heap → Prop) → (List ADef → KZ) → Heap → Prop)
    (fun D z k _ h => k D z h)
    (fun _ ops draw D z k _ h => zRegD P C N ops draw D z h k)
    (fun _ _ ia ib D z k E h => ia D z (fun D' z' h' => ib D' z' k E h') E h)
    (fun x _ _ it ie D z k E h => match zEv P z x with | .bool b => cnd b (it D (zConst x z true) k E h) (ie D (zConst x z false) k E h) | _ => False)
    (fun id _ ib D z k E h => ib D z k (fun D' => ⟨(id, k D') :: (E D').env, (E D').ret⟩) h)
    (fun body _ D z _ E h => ZLoop lf (zCode P C N lf body) z (E D) h)
    (fun g params assign body _ _ D z k E h => zRange P C fn N g params assign body z h fun e h' => zExit e (k (⟨.yield h.next, []⟩ :: D)) (E (⟨.yield h.next, []⟩ :: D)) z h')
    (fun id D z _ E h => zLook (E D).env id z h)
    (fun _ _ _ _ _ _ _ => False)
    (fun _ D z k _ h => k D z h)
    (fun _ _ _ _ _ _ => False)
    (fun D z _ E h => (E D).ret z h)
    (fun _ _ _ _ _ _ => False)
    c
/-- behind a deferred call's body -/
noncomputable def zDone (fn : Func) (K : Heap → Prop) (z : ZT) (h : Heap) : Prop := zResults P fn.results.toList z h fun _ => K h
/-- a deferred call; recover gives nothing -/
noncomputable def zDefer (lf : Nat) (g : FuncId) (args : List AV) (h : Heap) (K : Heap → Prop) : Prop := ZAnd (bodied P g = true) (match P.funcs[g]? with
  | some fn => match fn.body, Nat.ble fn.ntmps 4096, Nat.ble args.length fn.ntmps with
    | some c, true, true => match recOf c with
      | none => zCode P C fn.ntmps lf c (padT fn.ntmps (zOfs args)) (zDone P fn K) ⟨[], zDone P fn K⟩ h
      | some dr => zDst fn.ntmps dr.1 (.any .nilIface) (padT fn.ntmps (zOfs args)) fun z => zOps P C fn.ntmps dr.2.1 dr.2.2.1 z h fun z' h' => zCode P C fn.ntmps lf dr.2.2.2 z' (zDone P fn K) ⟨[], zDone P fn K⟩ h'
    | _, _, _ => False
  | none => False)
noncomputable def zDefersD (lf : Nat) (D : List ADef) (h : Heap) (K : Heap → Prop) : Prop := match D with
  | [] => K h
  | d :: r => match d.fn with
    | .yield b => h.get b = some (.deferred (some [])) ∧ b < h.next ∧ zDefersD lf r (h.put b (some .tomb)) K
    | .plain (.func g) => zDefer P C lf g d.args h fun h' => zDefersD lf r h' K
    | _ => False
noncomputable def zBodyD (lf : Nat) (f : FuncId) (args : List ZV) (K : ZK) (h : Heap) : Prop := match P.funcs[f]? with
  | some fn => match fn.body, Nat.ble fn.ntmps 4096, Nat.ble args.length fn.ntmps with
    | some c, true, true => zSpineD P C f fn.ntmps lf c [] (padT fn.ntmps args) (fun D z h => zDefersD P C lf D h fun h' => zResults P fn.results.toList z h' fun vs => K (zRes1 vs) h') (fun D => ⟨[], fun z h => zDefersD P C lf D h fun h' => zResults P fn.results.toList z h' fun vs => K (zRes1 vs) h'⟩) h
    | _, _, _ => False
  | none => False
end
section
variable {P : Program} {C : ZCall} {call : CallRec} {round : RoundRec}
theorem deferC_spec {o : Oper} {c : Call} (h : deferC o = some c) : o.guard = none ∧ o.op = .defer c := by
  unfold deferC at h
  split at h
  · rename_i c' h1 h2
    cases h
    exact ⟨h1, h2⟩
  · cases h
theorem zOpsD_sound (hC : CZ P call round C) {N : Nat} (hN : N ≤ 4096) {ops : Array Oper} {k : St → FM} {kp : St → Chain → FM} {p : Post} {K : List ADef → ZT → Heap → Prop} (hK : ∀ D z' st' h', h'.inf = true → ZS D z' st' → K D z' h' → (k st').sat p h') :
    ∀ (l : List Oper) (D : List ADef) (z : ZT) (st : St) (h : Heap), h.inf = true → ZS D z st → zOpsD P C N ops l D z h K → (xOps P call round N true ops l st k kp).sat p h
  | [], D, z, st, h, hi, s, hs => hK D z st h hi s hs
  | o :: r, D, z, st, h, hi, s, hs => by
    unfold zOpsD at hs
    split at hs
    · rename_i c hc
      obtain ⟨hg, ho⟩ := deferC_spec hc
      have hg' : guardOf ops o = none := by unfold guardOf; rw [hg]
      show (wantedK ops st.tmps o fun b => cnd b
        (opK P o.op ⟨call, round, st.tmps, P.globals.size⟩ (fun v => putDst N o.dst v st fun st' => xOps P call round N true ops r st' k kp)
          (fun d => cnd true (putDst N o.dst (.tuple []) ⟨st.tmps, d :: st.defers, st.u⟩ fun st' => xOps P call round N true ops r st' k kp) (.fail 157)) (kp st))
        (putDst N o.dst (.tuple []) st fun st' => xOps P call round N true ops r st' k kp)).sat p h
      unfold wantedK
      rw [hg']
      show (opK P o.op ⟨call, round, st.tmps, P.globals.size⟩ (fun v => putDst N o.dst v st fun st' => xOps P call round N true ops r st' k kp)
          (fun d => cnd true (putDst N o.dst (.tuple []) ⟨st.tmps, d :: st.defers, st.u⟩ fun st' => xOps P call round N true ops r st' k kp) (.fail 157)) (kp st)).sat p h
      rw [ho]
      unfold zDfr at hs
      split at hs
      · rename_i f hcl
        split at hs
        · rename_i g fs cap hf
          obtain ⟨z', st', s', hk', he⟩ := zDst_sound hN (st := ⟨st.tmps, ⟨.plain (.func g), avs ((fs ++ zEvs P z c.args.toList) ++ cap)⟩ :: st.defers, st.u⟩) (Df := ⟨.plain (.func g), avs ((fs ++ zEvs P z c.args.toList) ++ cap)⟩ :: D) ⟨s.at', by rw [s.defers], s.na⟩ hs
          have hev : ∀ x, (⟨call, round, st.tmps, P.globals.size⟩ : OC).ev x = (zEv P z x).av := fun x => zEv_ev (P := P) (t := st.tmps) s.at' x
          show (oDefer c ⟨call, round, st.tmps, P.globals.size⟩ (fun v => putDst N o.dst v st fun st' => xOps P call round N true ops r st' k kp)
            (fun d => cnd true (putDst N o.dst (.tuple []) ⟨st.tmps, d :: st.defers, st.u⟩ fun st' => xOps P call round N true ops r st' k kp) (.fail 157)) (kp st)).sat p h
          unfold oDefer
          rw [hcl]
          show (((⟨call, round, st.tmps, P.globals.size⟩ : OC).ev f).onFunc _ _).sat p h
          rw [hev, hf, av_fn]
          show (appK (avs fs) ((⟨call, round, st.tmps, P.globals.size⟩ : OC).evs c.args.toList) fun l => appK l (avs cap) fun l' =>
              cnd true (putDst N o.dst (.tuple []) ⟨st.tmps, ⟨.plain (.func g), l'⟩ :: st.defers, st.u⟩ fun st' => xOps P call round N true ops r st' k kp) (.fail 157)).sat p h
          rw [appK_eq, appK_eq, cnd_true]
          have hevs : (⟨call, round, st.tmps, P.globals.size⟩ : OC).evs c.args.toList = avs (zEvs P z c.args.toList) := evs_av hev _
          rw [hevs, ← avs_append, ← avs_append]
          have e2 : (AV.tuple []) = (ZV.tup []).av := by simp
          rw [e2, he]
          exact zOpsD_sound hC hN hK r _ z' st' h hi s' hk'
        · exact hs.elim
      · exact hs.elim
    · have step : (xOps P call round N true ops [o] st (fun st' => xOps P call round N true ops r st' k kp) kp).sat p h :=
        zOps_sound hC hN (dok := true) (fun z' st' h' hi' s' hk => zOpsD_sound hC hN hK r D z' st' h' hi' s' hk) [o] z st h hi s hs
      exact step
theorem zRegD_sound (hC : CZ P call round C) {N : Nat} (hN : N ≤ 4096) {ops : Array Oper} {draw : Bool} {k : St → FM} {kp : St → Chain → FM} {p : Post} {K : List ADef → ZT → Heap → Prop} {D : List ADef} {z : ZT} {st : St} {h : Heap} (hi : h.inf = true) (s : ZS D z st)
    (hK : ∀ D z' st' h', h'.inf = true → ZS D z' st' → K D z' h' → (k st').sat p h') (hs : zRegD P C N ops draw D z h K) : (xRegion P call round N true ops draw st k kp).sat p h := by
  unfold zRegD at hs
  split at hs
  · show (xOps P call round N true ops ops.toList st k kp).sat p h
    exact zOpsD_sound hC hN hK _ D z st h hi s hs
  · exact zRegion_sound hC hN hi s (hK D) hs
theorem zSpineD_sound (hC : CZ P call round C) {fn : FuncId} {N lf : Nat} (hN : N ≤ 4096) {p : Post} (c : Code) : ∀ (D : List ADef) (z : ZT) (K : List ADef → ZT → Heap → Prop) (E : List ADef → KZ) (h : Heap) (kk : KC) (st : St), h.inf = true → ZS D z st → KRS K E kk p → zSpineD P C fn N lf c D z K E h →
    (xCode P call round noHints fn N none lf c st kk).sat p h := by
  induction c with
  | skip => exact fun D z K E h kk st hi s kr hs => (kr.at' D).normal z st h hi s hs
  | region id ops draw =>
    exact fun D z K E h kk st hi s kr hs => zRegD_sound (k := fun st' => kk .normal st') (kp := fun st' ch => kk (.panic ch) st') hC hN hi s (fun D z' st' h' hi' s' hk => (kr.at' D).normal z' st' h' hi' s' hk) hs
  | seq a b iha ihb =>
    intro D z K E h kk st hi s kr hs
    exact iha D z (fun D' z' h' => zSpineD P C fn N lf b D' z' K E h') E h (fun e st' => onNormal e st' (fun st2 => xCode P call round noHints fn N none lf b st2 kk) kk) st hi s
      ⟨fun D' => ⟨fun z' st' h' hi' s' hk => ihb D' z' K E h' kk st' hi' s' kr hk, fun id z' st' h' hi' s' hk => (kr.at' D').exit id z' st' h' hi' s' hk, fun z' st' h' hi' s' hk => (kr.at' D').ret z' st' h' hi' s' hk⟩⟩ hs
  | cond x a b iha ihb =>
    intro D z K E h kk st hi s kr hs
    have hs1 : (match zEv P z x with | .bool b' => cnd b' (zSpineD P C fn N lf a D (zConst x z true) K E h) (zSpineD P C fn N lf b D (zConst x z false) K E h) | _ => False) := hs
    show ((evalO P.globals.size st.tmps x).onBool (fun b' => cnd b' (xCode P call round noHints fn N none lf a st kk) (xCode P call round noHints fn N none lf b st kk)) (.fail 206)).sat p h
    have hev := zEv_ev (P := P) (t := st.tmps) s.at' x
    rw [hev]
    split at hs1
    · rename_i t ht
      rw [ht, av_bool]
      have hc : ZS D (zConst x z t) st := by
        unfold zConst
        split
        · rename_i sl
          have hz : zEv P z (.tmp sl) = .bool t := ht
          by_cases hl : sl < 4096
          · have : zget z sl = .bool t := by
              have e : zEv P z (.tmp sl) = (match ltb sl 4096 with | true => zget z sl | false => .any .junk) := rfl
              rw [e, ltb_iff.2 hl] at hz; exact hz
            exact s.const this rfl
          · exfalso
            have e : zEv P z (.tmp sl) = (match ltb sl 4096 with | true => zget z sl | false => .any .junk) := rfl
            rw [e, ltb_false.2 (Nat.le_of_not_lt hl)] at hz; cases hz
        · exact s
      cases t with
      | true => exact iha D _ K E h kk st hi hc kr hs1
      | false => exact ihb D _ K E h kk st hi hc kr hs1
    · exact hs1.elim
  | block id body ih =>
    intro D z K E h kk st hi s kr hs
    refine ih D z K (fun D' => ⟨(id, K D') :: (E D').env, (E D').ret⟩) h (fun e st' => inBlockK id e st' kk) st hi s ⟨fun D' => ⟨fun z' st' h' hi' s' hk => (kr.at' D').normal z' st' h' hi' s' hk, fun id' z' st' h' hi' s' hk => ?_, fun z' st' h' hi' s' hk => (kr.at' D').ret z' st' h' hi' s' hk⟩⟩ hs
    show (cnd (Nat.beq id' id) (kk .normal st') (kk (.exit id') st')).sat p h'
    have hk' : (match Nat.beq id' id with | true => K D' z' h' | false => zLook (E D').env id' z' h') := hk
    cases hb : Nat.beq id' id with
    | true => rw [hb] at hk'; exact (kr.at' D').normal z' st' h' hi' s' hk'
    | false => rw [hb] at hk'; exact (kr.at' D').exit id' z' st' h' hi' s' hk'
  | loop body ih =>
    intro D z K E h kk st hi s kr hs
    exact zCode_sound (cur := none) hC hN (.loop body) z (K D) (E D) h kk st hi s (kr.at' D) hs
  | rangeFunc g params assign body iha ihb =>
    intro D z K E h kk st hi s kr hs
    refine zRange_sound hC hi s (show zRange P C fn N g params assign body z h _ from hs) fun e st' h' hi' s' hk => ?_
    cases e with
    | normal => exact (kr.at' _).normal z st' h' hi' s' hk
    | exit i => exact (kr.at' _).exit i z st' h' hi' s' hk
    | goto l => exact False.elim hk
    | ret => exact (kr.at' _).ret z st' h' hi' s' hk
    | panic ch => exact False.elim hk
  | exit id => exact fun D z K E h kk st hi s kr hs => (kr.at' D).exit id z st h hi s hs
  | scope body => exact fun D z K E h kk st hi s kr hs => hs.elim
  | label l => exact fun D z K E h kk st hi s kr hs => (kr.at' D).normal z st h hi s hs
  | goto l => exact fun D z K E h kk st hi s kr hs => hs.elim
  | ret => exact fun D z K E h kk st hi s kr hs => (kr.at' D).ret z st h hi s hs
  | refuse why => exact fun D z K E h kk st hi s kr hs => hs.elim
theorem pad_start {N : Nat} {args : List ZV} (hN : N ≤ 4096) (hl : args.length ≤ N) (k : TT → FM) : ∃ t, TT.args (avs args) 0 TT.undef k = k t ∧ ZS [] (padT N args) (⟨t, [], .na⟩ : St) := by
  obtain ⟨t, ht, hat⟩ := targs_at args 0 TT.undef k (by omega)
  refine ⟨t, ht, fun s hs => ?_, rfl, rfl⟩
  show t.at s = _
  rw [zget_padT, hat s hs]
  by_cases e : 0 ≤ s ∧ s < 0 + args.length
  · rw [if_pos e, Nat.sub_zero]
  · rw [if_neg e, TT.at_undef, zget_over (by omega)]; simp
theorem zDefer_sound (hC : CZ P call round C) {lf : Nat} {g : FuncId} {args : List AV} {h : Heap} {K : Heap → Prop} {k : AMode → FM} {p : Post} (hk : ∀ h', h'.inf = true → K h' → (k .returning).sat p h') (hi : h.inf = true) (hs : zDefer P C lf g args h K) :
    (xDefer P call round noHints lf g args .returning k).sat p h := by
  obtain ⟨hb, hs⟩ := hs
  unfold xDefer
  rw [hb, cnd_true]
  split at hs
  · rename_i fn hf
    rw [hf, optM_some]
    split at hs
    · rename_i c hbo hN hl
      have hN' := Nat.le_of_ble_eq_true hN
      have hl' := Nat.le_of_ble_eq_true hl
      rw [hbo, optM_some]
      unfold argsK
      rw [hN, cnd_true, lenK_eq, show Nat.zero + args.length = args.length from Nat.zero_add _, hl, cnd_true]
      have done : ∀ (e : XExit) z st h', e = .normal ∨ e = .ret → h'.inf = true → ZS [] z st → zDone P fn K z h' → (doneD P fn .returning k e st).sat p h' := by
        intro e z st h' he hi' s hr
        unfold doneD
        rw [s.defers]
        have fin : (resultsK P st.tmps fn.results.toList fun _ => k (settleA .returning)).sat p h' :=
          zResults_sound s _ _ _ hr fun vs hv => hk h' hi' hv
        rcases he with rfl | rfl <;> exact fin
      have ze : avs (zOfs args) = args := zOfs_av args
      have hl2 : (zOfs args).length ≤ fn.ntmps := by
        have := congrArg List.length ze
        rw [avs_length] at this
        omega
      split at hs
      · rename_i hr
        obtain ⟨t, ht, hz⟩ := pad_start hN' hl2 (fun t => (Option.rec (motive := fun _ => FM) (xCode P call round noHints g fn.ntmps none lf c ⟨t, [], .na⟩ (doneD P fn .returning k))
          (fun dr => recoverK .returning fun v u' => putDst fn.ntmps dr.1 v ⟨t, [], .na⟩ fun st => xOps P call round fn.ntmps true dr.2.1 dr.2.2.1 st (fun st' => xCode P call round noHints g fn.ntmps none lf dr.2.2.2 st' (doneD P fn u' k)) (fun st' ch => doneD P fn u' k (.panic ch) st')) (recOf c) : FM))
        rw [ze] at ht
        have ht' := congrArg (fun m : FM => m.sat p h) ht
        refine (cast ht'.symm ?_)
        show (Option.rec (motive := fun _ => FM) (xCode P call round noHints g fn.ntmps none lf c ⟨t, [], .na⟩ (doneD P fn .returning k)) _ (recOf c) : FM).sat p h
        rw [hr]
        exact zCode_sound hC hN' c _ _ ⟨[], zDone P fn K⟩ h _ _ hi hz ⟨fun z st h' hi' s hk' => done .normal z st h' (.inl rfl) hi' s hk', fun id z st h' hi' s hk' => False.elim hk', fun z st h' hi' s hk' => done .ret z st h' (.inr rfl) hi' s hk'⟩ hs
      · rename_i dr hr
        obtain ⟨t, ht, hz⟩ := pad_start hN' hl2 (fun t => (Option.rec (motive := fun _ => FM) (xCode P call round noHints g fn.ntmps none lf c ⟨t, [], .na⟩ (doneD P fn .returning k))
          (fun dr => recoverK .returning fun v u' => putDst fn.ntmps dr.1 v ⟨t, [], .na⟩ fun st => xOps P call round fn.ntmps true dr.2.1 dr.2.2.1 st (fun st' => xCode P call round noHints g fn.ntmps none lf dr.2.2.2 st' (doneD P fn u' k)) (fun st' ch => doneD P fn u' k (.panic ch) st')) (recOf c) : FM))
        rw [ze] at ht
        have ht' := congrArg (fun m : FM => m.sat p h) ht
        refine (cast ht'.symm ?_)
        show (Option.rec (motive := fun _ => FM) _ (fun dr => recoverK .returning fun v u' => putDst fn.ntmps dr.1 v ⟨t, [], .na⟩ fun st => xOps P call round fn.ntmps true dr.2.1 dr.2.2.1 st (fun st' => xCode P call round noHints g fn.ntmps none lf dr.2.2.2 st' (doneD P fn u' k)) (fun st' ch => doneD P fn u' k (.panic ch) st')) (recOf c) : FM).sat p h
        rw [hr]
        show (putDst fn.ntmps dr.1 .nilIface ⟨t, [], .na⟩ fun st => xOps P call round fn.ntmps true dr.2.1 dr.2.2.1 st (fun st' => xCode P call round noHints g fn.ntmps none lf dr.2.2.2 st' (doneD P fn .returning k)) (fun st' ch => doneD P fn .returning k (.panic ch) st')).sat p h
        obtain ⟨z', st', s', hk', he⟩ := zDst_sound hN' hz hs
        rw [av_any] at he
        rw [he]
        refine zOps_sound hC hN' (fun z2 st2 h2 hi2 s2 hk2 => ?_) _ z' st' h hi s' hk'
        exact zCode_sound hC hN' dr.2.2.2 _ _ ⟨[], zDone P fn K⟩ h2 _ _ hi2 s2 ⟨fun z st h' hi' s hk' => done .normal z st h' (.inl rfl) hi' s hk', fun id z st h' hi' s hk' => False.elim hk', fun z st h' hi' s hk' => done .ret z st h' (.inr rfl) hi' s hk'⟩ hk2
    · exact hs.elim
  · exact hs.elim
theorem zDefersD_sound (hC : CZ P call round C) {lf : Nat} {k : AMode → FM} {p : Post} {K : Heap → Prop} (hk : ∀ h', h'.inf = true → K h' → (k .returning).sat p h') : ∀ (D : List ADef) (h : Heap), h.inf = true → zDefersD P C lf D h K → (xDefers P call round noHints lf D .returning k).sat p h
  | [], h, hi, hs => hk h hi hs
  | ⟨.yield b, as⟩ :: r, h, hi, hs => by
    obtain ⟨hg, hlt, hs2⟩ := (show h.get b = some (.deferred (some [])) ∧ b < h.next ∧ zDefersD P C lf r (h.put b (some .tomb)) K from hs)
    exact ⟨_, hg, hlt, zDefersD_sound hC hk r _ (by exact hi) hs2⟩
  | ⟨.plain (.func g), as⟩ :: r, h, hi, hs => by
    have hs1 : zDefer P C lf g as h (fun h' => zDefersD P C lf r h' K) := hs
    show (xDefer P call round noHints lf g as .returning fun u' => xDefers P call round noHints lf r u' k).sat p h
    exact zDefer_sound hC (k := fun u' => xDefers P call round noHints lf r u' k) (fun h' hi' hk' => zDefersD_sound hC hk r h' hi' hk') hi hs1
theorem zBodyD_sound (hC : CZ P call round C) {lf : Nat} {f : FuncId} {args : List ZV} {K : ZK} {h : Heap} (hinf : h.inf = true) (hs : zBodyD P C lf f args K h) {kp : Chain → FM} : EfOk h K (fun k => xBody P noHints lf call round f (avs args) k kp) := by
  unfold zBodyD at hs
  split at hs
  · rename_i fn hf
    split at hs
    · rename_i c hbo hN hl
      have hN := Nat.le_of_ble_eq_true hN
      have hl := Nat.le_of_ble_eq_true hl
      intro k p hp
      show (optM P.funcs[f]? (.fail 160) fun fn => optM fn.body (.fail 160) fun c => argsK fn.ntmps (avs args) fun t => xCode P call round noHints f fn.ntmps none lf c ⟨t, [], .na⟩ (leaveK P call round noHints lf fn k kp)).sat p h
      rw [hf, optM_some, hbo, optM_some]
      unfold argsK
      rw [Nat.ble_eq_true_of_le hN, cnd_true, lenK_eq, avs_length, show Nat.zero + args.length = args.length from Nat.zero_add _, Nat.ble_eq_true_of_le hl, cnd_true]
      obtain ⟨t, ht', hz⟩ := pad_start hN hl (fun t => xCode P call round noHints f fn.ntmps none lf c ⟨t, [], .na⟩ (leaveK P call round noHints lf fn k kp))
      have ht' : TT.args (avs args) Nat.zero TT.undef (fun t => xCode P call round noHints f fn.ntmps none lf c ⟨t, [], .na⟩ (leaveK P call round noHints lf fn k kp)) = _ := ht'
      rw [ht']
      have leave : ∀ (e : XExit) D z st h', e = .normal ∨ e = .ret → h'.inf = true → ZS D z st → (zDefersD P C lf D h' fun h2 => zResults P fn.results.toList z h2 fun vs => K (zRes1 vs) h2) → (leaveK P call round noHints lf fn k kp e st).sat p h' := by
        intro e D z st h' he hi s hr
        have : leaveK P call round noHints lf fn k kp e st = xDefers P call round noHints lf st.defers .returning (endK P fn st.tmps k kp) := by
          rcases he with rfl | rfl <;> rfl
        rw [this, s.defers]
        refine zDefersD_sound hC (fun h2 hi2 hr => ?_) D h' hi hr
        show (resultsK P st.tmps fn.results.toList fun vs => results1 vs k).sat p h2
        refine zResults_sound s _ _ _ hr fun vs hv => ?_
        have := hp _ _ hi2 hv
        cases vs with
        | nil =>
          show (k (.tuple [])).sat p h2
          simpa [zRes1] using this
        | cons v r =>
          cases r with
          | nil => exact this
          | cons w r =>
            show (k (.tuple (avs (v :: w :: r)))).sat p h2
            simpa [zRes1] using this
      refine zSpineD_sound hC hN c [] (padT fn.ntmps args) _ _ h _ _ hinf hz ⟨fun D => ⟨?_, ?_, ?_⟩⟩ hs
      · exact fun z st h' hi s hr => leave .normal D z st h' (.inl rfl) hi s hr
      · exact fun id z st h' hi s hr => False.elim hr
      · exact fun z st h' hi s hr => leave .ret D z st h' (.inr rfl) hi s hr
    · exact hs.elim
  · exact hs.elim
end
/-! ### as a summary -/
noncomputable def addDX (P : Program) (lf n : Nat) (g : FuncId) (sums : Sums) : Sums := fun f => match Nat.beq f g with | true => some (fun args k kp => xBody P noHints lf (xCR P noHints sums lf n).call (xCR P noHints sums lf n).round g args k kp) | false => sums f
noncomputable def addDZ (P : Program) (lf n : Nat) (g : FuncId) (S : ZSums) : ZSums := fun f => match Nat.beq f g with | true => some (fun args K h => zBodyD P (zCall P S lf n) lf g args K h) | false => S f
section
variable {P : Program} {W0 : World}
theorem SumsSound.addD {sums : Sums} (hs : SumsSound P W0 sums) (hmo : P.follows .mixedOrders = true) (lf n : Nat) (g : FuncId) : SumsSound P W0 (addDX P lf n g sums) := by
  intro f s hf args k kp p E h w vs hb hsat r hv
  have hf1 : (match Nat.beq f g with | true => some (fun args k kp => xBody P noHints lf (xCR P noHints sums lf n).call (xCR P noHints sums lf n).round g args k kp) | false => sums f) = some s := hf
  cases hfg : Nat.beq f g with
  | false => rw [hfg] at hf1; exact hs f s hf1 args k kp p E h w vs hb hsat r hv
  | true =>
    rw [hfg] at hf1
    cases hf1
    have e := beq_iff.1 hfg
    subst e
    have cr := xCR_sound hs (H := noHints) (.inr fun _ => Nat.zero_le _) hmo (lf := lf) n
    exact xBody_sound cr.1 cr.2 hmo f args k kp p E h w vs hb hsat r hv
theorem sumFit_addD {S : ZSums} {sums : Sums} (hs : SumFit S sums) (lf n : Nat) (g : FuncId) : SumFit (addDZ P lf n g S) (addDX P lf n g sums) := by
  constructor
  · intro f hf
    have hf1 : (match Nat.beq f g with | true => some (fun args K h => zBodyD P (zCall P S lf n) lf g args K h) | false => S f) = none := hf
    show (match Nat.beq f g with | true => some (fun args k kp => xBody P noHints lf (xCR P noHints sums lf n).call (xCR P noHints sums lf n).round g args k kp) | false => sums f) = none
    cases hfg : Nat.beq f g with
    | false => rw [hfg] at hf1; exact hs.none f hf1
    | true => rw [hfg] at hf1; cases hf1
  · intro f s hf
    have hf1 : (match Nat.beq f g with | true => some (fun args K h => zBodyD P (zCall P S lf n) lf g args K h) | false => S f) = some s := hf
    show ∃ x, (match Nat.beq f g with | true => some (fun args k kp => xBody P noHints lf (xCR P noHints sums lf n).call (xCR P noHints sums lf n).round g args k kp) | false => sums f) = some x ∧ _
    cases hfg : Nat.beq f g with
    | false => rw [hfg] at hf1; exact hs.some f s hf1
    | true =>
      rw [hfg] at hf1
      cases hf1
      exact ⟨_, rfl, fun args K h hi hz kp => zBodyD_sound (zCall_sound hs (lf := lf) n) hi hz (kp := kp)⟩
end
/-! ### from one of its places on -/
noncomputable def zAtD (P : Program) (C : ZCall) (lf : Nat) (f : FuncId) (p : List Nat) : List ADef → ZT → (List ADef → ZT → Heap → Prop) → (List ADef → KZ) → Heap → Prop := zSpineD P C f (ntOf P f) lf (codeOf P f p)
noncomputable def zFinD (P : Program) (C : ZCall) (lf : Nat) (f : FuncId) (K : ZK) (D : List ADef) (z : ZT) (h : Heap) : Prop := zDefersD P C lf D h fun h' => zFin P f K z h'
def entBD (P : Program) (f : FuncId) (n : Nat) : Bool := match P.funcs[f]? with
  | some fn => match fn.body with | some _ => Nat.ble fn.ntmps 4096 && Nat.ble n fn.ntmps | none => false
  | none => false
theorem zBodyD_at {P : Program} {C : ZCall} {lf : Nat} {f : FuncId} {args : List ZV} {K : ZK} {h : Heap} (he : entBD P f args.length = true) (hs : zAtD P C lf f [] [] (padT (ntOf P f) args) (zFinD P C lf f K) (fun D => ⟨[], zFinD P C lf f K D⟩) h) : zBodyD P C lf f args K h := by
  unfold entBD at he
  unfold zBodyD
  unfold zAtD codeOf ntOf at hs
  cases hf : P.funcs[f]? with
  | none => rw [hf] at he; cases he
  | some fn =>
    have e : zFinD P C lf f K = fun D z h => zDefersD P C lf D h fun h' => zResults P fn.results.toList z h' fun vs => K (zRes1 vs) h' := by
      funext D z h; unfold zFinD zFin; rw [hf]
    rw [e] at hs
    simp only [hf] at he hs ⊢
    cases hb : fn.body with
    | none => simp only [hb] at he; cases he
    | some c =>
      simp only [hb, Bool.and_eq_true] at he hs ⊢
      have e2 : subCode c [] = c := by cases c <;> rfl
      rw [e2] at hs
      rw [he.1, he.2]
      exact hs
end Go.X

namespace Go.X
open Go Go.RowKit
/-! ### runs whose cells are variables: what they come to is held against what is told by the kernel's own equality -/
theorem beqN_self (n : Nat) : Nat.beq n n = true := beq_iff.2 rfl
theorem eqNs_self : ∀ s : List Nat, eqNs s s = true
  | [] => rfl
  | x :: s => by
    show cnd (Nat.beq x x) (eqNs s s) false = true
    rw [beqN_self, cnd_true]; exact eqNs_self s
theorem eqFn_self (f : AFn) : eqFn f f = true := by
  cases f with
  | plain a => exact decide_eq_true (p := a = a) rfl
  | yield i => exact beqN_self i
theorem eqAV_self (x : AV) : eqAV x x = true := by
  induction x using AV.rec (motive_2 := fun l => eqAVs l l = true) with
  | func f first captured h1 h2 =>
    show cnd (eqFn f f) (cnd (eqAVs first first) (eqAVs captured captured) false) false = true
    rw [eqFn_self, h1, h2]; rfl
  | iface t v ih =>
    show cnd (Nat.beq t t) (eqAV v v) false = true
    rw [beqN_self, ih]; rfl
  | agg cs ih => exact ih
  | tuple cs ih => exact ih
  | bool b => exact beqB_eq.2 rfl
  | int q n =>
    show cnd (Nat.beq (kindN q) (kindN q)) (eqI n n) false = true
    rw [beqN_self, eqI_eq.2 rfl]; rfl
  | str s => exact eqNs_self s
  | ptr i o =>
    show cnd (Nat.beq i i) (Nat.beq o o) false = true
    rw [beqN_self, beqN_self]; rfl
  | slice i o len cap ext =>
    show cnd (cnd (Nat.beq i i) (Nat.beq o o) false) (cnd (cnd (Nat.beq len len) (Nat.beq cap cap) false) (beqB ext ext) false) false = true
    rw [beqN_self, beqN_self, beqN_self, beqN_self, beqB_eq.2 rfl]; rfl
  | map i => exact beqN_self i
  | cons a t ha ht =>
    show cnd (eqAV a a) (eqAVs t t) false = true
    rw [ha, ht]; rfl
  | _ => rfl
theorem eqL_self {α : Type} {f : α → α → Bool} (hf : ∀ x, f x x = true) : ∀ l : List α, eqL f l l = true
  | [] => rfl
  | x :: l => by
    show cnd (f x x) (eqL f l l) false = true
    rw [hf, eqL_self hf l]; rfl
theorem eqPair_self (x : AV × AV) : eqPair x x = true := by
  unfold eqPair; rw [eqAV_self, eqAV_self]; rfl
/-- objects that are found equal to themselves -/
def plainO : AObj → Bool
  | .loop _ => false
  | .deferred _ => false
  | _ => true
theorem eqObj_self {o : AObj} (h : plainO o = true) : eqObj o o = true := by
  cases o with
  | cells c e g k =>
    show cnd (cnd (eqL eqAV c c) (Nat.beq e e) false) (cnd (beqB g g) (beqB k k) false) false = true
    rw [eqL_self eqAV_self, beqN_self, beqB_eq.2 rfl, beqB_eq.2 rfl]; rfl
  | map es v =>
    show cnd (eqL eqPair es es) (Nat.beq v v) false = true
    rw [eqL_self eqPair_self, beqN_self]; rfl
  | mapIter m v l c =>
    show cnd (cnd (Nat.beq m m) (Nat.beq v v) false) (cnd (eqL eqPair l l) (eqAV c c) false) false = true
    rw [beqN_self, beqN_self, eqL_self eqPair_self, eqAV_self]; rfl
  | nilIter => rfl
  | tomb => rfl
  | strIter s p =>
    show cnd (eqNs s s) (Nat.beq p p) false = true
    rw [eqNs_self, beqN_self]; rfl
  | loop l => cases h
  | deferred ds => cases h
  | ro c => exact eqL_self eqAV_self c
noncomputable def getsT (h : THeap) (l : List (Nat × AObj)) : List (Option AObj) := match l with | [] => [] | x :: r => h.get x.1 :: getsT h r
noncomputable def newsT (h : THeap) (l : List AObj) (a : Nat) : List (Option AObj) := match l with | [] => [] | _ :: r => h.get a :: newsT h r (a + 1)
def someW (l : List (Nat × AObj)) : List (Option AObj) := match l with | [] => [] | x :: r => some x.2 :: someW r
def someN (l : List AObj) : List (Option AObj) := match l with | [] => [] | x :: r => some x :: someN r
/-- what a run came to -/
noncomputable def outR (e : Ent) (o : Out) : Option (AV × List (Option AObj) × List (Option AObj) × Bool × Nat) :=
  Out.rec (motive := fun _ => Option (AV × List (Option AObj) × List (Option AObj) × Bool × Nat)) (fun _ => none)
    (fun l g => List.rec (motive := fun _ => Option (AV × List (Option AObj) × List (Option AObj) × Bool × Nat)) none (fun x t _ => List.rec (motive := fun _ => Option (AV × List (Option AObj) × List (Option AObj) × Bool × Nat))
      (Res.rec (motive := fun _ => Option (AV × List (Option AObj) × List (Option AObj) × Bool × Nat)) (fun v => some (v, getsT x.2 e.wr, newsT x.2 e.new e.next, cnd (allL (keyIn e.rd) g.rd) (allL (keyIn e.wr) g.wr) false, x.2.next)) (fun _ _ => none) (fun _ _ => none) (fun _ _ => none) x.1)
      (fun _ _ _ => none) t) l) o
/-- what an entry says of it -/
def outE (e : Ent) : Option (AV × List (Option AObj) × List (Option AObj) × Bool × Nat) := some (e.v, someW e.wr, someN e.new, true, e.next + e.new.length)
def plainE (e : Ent) : Bool := (e.wr.all fun x => plainO x.2) && e.new.all plainO
theorem hasAll_of {h : THeap} : ∀ {l : List (Nat × AObj)}, (l.all fun x => plainO x.2) = true → getsT h l = someW l → hasAll h l = true
  | [], _, _ => rfl
  | x :: l, hp, hg => by
    have hg1 : h.get x.1 :: getsT h l = some x.2 :: someW l := hg
    injection hg1 with h1 h2
    rw [List.all_cons, Bool.and_eq_true] at hp
    show cnd (eqOObj (h.get x.1) (some x.2)) (hasAll h l) false = true
    rw [h1, hasAll_of hp.2 h2]
    show cnd (eqObj x.2 x.2) true false = true
    rw [eqObj_self hp.1]; rfl
theorem hasNew_of {h : THeap} : ∀ {l : List AObj} {a : Nat}, l.all plainO = true → newsT h l a = someN l → h.next = a + l.length → hasNew h l a = true
  | [], a, _, _, hn => by
    show Nat.beq h.next a = true
    exact beq_iff.2 (by simpa using hn)
  | x :: l, a, hp, hg, hn => by
    have hg1 : h.get a :: newsT h l (a + 1) = some x :: someN l := hg
    injection hg1 with h1 h2
    rw [List.all_cons, Bool.and_eq_true] at hp
    show cnd (eqOObj (h.get a) (some x)) (hasNew h l (a + 1)) false = true
    rw [h1, hasNew_of hp.2 h2 (by rw [hn, List.length_cons]; omega)]
    show cnd (eqObj x x) true false = true
    rw [eqObj_self hp.1]; rfl
theorem entOk1_of {e : Ent} {o : Out} (hp : plainE e = true) (h : outR e o = outE e) : entOk1 e o = true := by
  unfold plainE at hp
  rw [Bool.and_eq_true] at hp
  cases o with
  | err n => cases h
  | ok l g =>
    cases l with
    | nil => cases h
    | cons x t =>
      cases t with
      | cons y t => cases h
      | nil =>
        obtain ⟨r, h1⟩ := x
        cases r with
        | val v =>
          have h2 : some (v, getsT h1 e.wr, newsT h1 e.new e.next, cnd (allL (keyIn e.rd) g.rd) (allL (keyIn e.wr) g.wr) false, h1.next) = some (e.v, someW e.wr, someN e.new, true, e.next + e.new.length) := h
          simp only [Option.some.injEq, Prod.mk.injEq, cnd_and] at h2
          obtain ⟨a, b, c, ⟨d1, d2⟩, f⟩ := h2
          subst a
          show cnd (eqRes (.val e.v) (.val e.v)) (cnd (allL (keyIn e.rd) g.rd) (cnd (allL (keyIn e.wr) g.wr) (cnd (hasAll h1 e.wr) (hasNew h1 e.new e.next) false) false) false) false = true
          rw [d1, d2, hasAll_of hp.1 b, hasNew_of hp.2 c f]
          show cnd (eqAV e.v e.v) true false = true
          rw [eqAV_self]; rfl
        | _ => cases h
theorem entOk_of {P : Program} {H : Hints} {sums : Sums} {lf n : Nat} {f : FuncId} {e : Ent} (hk : cnd (keysLt e.rd e.next) (cnd (allL (fun x => keyIn e.rd x.1) e.wr) (Nat.ble e.next 65536) false) false = true) (hp : plainE e = true)
    (h : outR e ((xCall P H sums lf n f e.args).run e.next (heapOf e.rd e.next) Log.nil) = outE e) : entOk P H sums lf n f e = true := by
  unfold entOk
  rw [hk, cnd_true]
  exact entOk1_of hp h
end Go.X

namespace Go.X
open Go Go.RowKit
/-! ### a number out of a number and bytes, in Z -/
def zByte (fn : Nat → List Nat → Nat) (args : List ZV) (K : ZK) (h : Heap) : Prop :=
  ∃ (a : Nat) (s : SL) (l : List Nat), args = [.int .u64 (.ofNat a), .sl s] ∧ a < 18446744073709551616 ∧ s.nil = false ∧ s.len ≤ s.cap ∧ s.len ≤ 1048576 ∧ (∃ c, cellsAt h s.i = some c ∧ (c.drop s.o).take s.len = ofBytes l ∧ s.len ≤ (c.drop s.o).length) ∧ (∀ x, x ∈ l → x < 256) ∧ K (.int .u64 (.ofNat (fn a l))) h
noncomputable def byteZ (f : FuncId) (fn : Nat → List Nat → Nat) (S : ZSums) : ZSums := fun g => match Nat.beq g f with | true => some (zByte fn) | false => S g
theorem sumFit_byte {S : ZSums} {sums : Sums} (hs : SumFit S sums) (f : FuncId) {F : Nat → List Nat → (Nat → FM) → FM} {fn : Nat → List Nat → Nat} (hF : ∀ a l k, F a l k = k (fn a l)) : SumFit (byteZ f fn S) (byteX f F sums) := by
  constructor
  · intro g hg
    have hg1 : (match Nat.beq g f with | true => some (zByte fn) | false => S g) = none := hg
    show cnd (Nat.beq g f) (some fun args k _ => byteF F args k) (sums g) = none
    cases hb : Nat.beq g f with
    | false => rw [hb] at hg1; rw [cnd_false]; exact hs.none g hg1
    | true => rw [hb] at hg1; cases hg1
  · intro g s hg
    have hg1 : (match Nat.beq g f with | true => some (zByte fn) | false => S g) = some s := hg
    show ∃ x, cnd (Nat.beq g f) (some fun args k _ => byteF F args k) (sums g) = some x ∧ _
    cases hb : Nat.beq g f with
    | false => rw [hb] at hg1; rw [cnd_false]; exact hs.some g s hg1
    | true =>
      rw [hb] at hg1
      cases hg1
      rw [cnd_true]
      refine ⟨_, rfl, fun args K h hi hz kp k p hp => ?_⟩
      obtain ⟨a, s, l, rfl, ha, hn, hle, hl, ⟨c, c1, c2, c3⟩, hby, hk⟩ := hz
      obtain ⟨sn, si, so, sl, sc, se⟩ := s
      simp only at hn hle hl c1 c2 c3
      subst hn
      show (just2 (avs [.int .u64 (.ofNat a), .sl ⟨false, si, so, sl, sc, se⟩]) fun a b => a.onInt (fun q n => kEq q .u64 (Int.rec (motive := fun _ => FM) (fun m => cnd (ltb m 18446744073709551616) (okSl b (bytesOfK b fun l => F m l fun r => k (.int .u64 (.ofNat r)))) (.fail 173)) (fun _ => .fail 173) n)) (.fail 173)).sat p h
      rw [avs_cons, avs_cons, avs_nil, av_int, av_sl]
      show (cnd (ltb a 18446744073709551616) (okSl (SL.av ⟨false, si, so, sl, sc, se⟩) (bytesOfK (SL.av ⟨false, si, so, sl, sc, se⟩) fun l => F a l fun r => k (.int .u64 (.ofNat r)))) (.fail 173)).sat p h
      rw [ltb_iff.2 ha, cnd_true]
      show (cnd (Nat.ble sl sc) (cnd (Nat.ble sl 1048576) (readCells si fun c => takeK sl (dropL so c) fun l => bytesK l fun l => F a l fun r => k (.int .u64 (.ofNat r))) (.fail 173)) (.fail 173)).sat p h
      rw [Nat.ble_eq_true_of_le hle, cnd_true, Nat.ble_eq_true_of_le hl, cnd_true]
      refine readCells_sat c1 ?_
      rw [takeK_eq, dropL_eq, if_pos c3, c2, bytesK_ofBytes _ _ hby, hF]
      have := hp _ _ hi hk
      rw [av_int] at this
      exact this
/-! ### heaps, exactly -/
theorem put_put (h : Heap) (i : Nat) (a b : Option AObj) : (h.put i a).put i b = h.put i b :=
  Heap.ext (fun j => by
    by_cases hj : j = i
    · subst hj; rw [put_get_self, put_get_self]
    · rw [put_get_ne hj, put_get_ne hj, put_get_ne hj]) rfl rfl rfl
theorem newO_put (h : Heap) (o p : AObj) : (h.newO o).put h.next (some p) = h.newO p :=
  Heap.ext (fun j => by
    by_cases hj : j = h.next
    · subst hj; rw [put_get_self]; exact (if_pos rfl).symm
    · rw [put_get_ne hj]; exact (if_neg hj).trans (if_neg hj).symm) rfl rfl rfl
theorem hput_hput {h : Heap} {i : Nat} {c : List AV} {e : Nat} {g m : Bool} (hg : h.get i = some (.cells c e g m)) (o : Nat) (a b : List AV) (hl : o + a.length + b.length ≤ c.length) : hput (hput h i o a) i (o + a.length) b = hput h i o (a ++ b) := by
  rw [hput_eq (hput_get hg), hput_eq hg, hput_eq hg, put_put]
  have h1 : (c.take o).length = o := by rw [List.length_take]; omega
  have e1 : (c.take o ++ (a ++ c.drop (o + a.length))).take (o + a.length) = c.take o ++ a := by
    rw [List.take_append, h1, List.take_of_length_le (by omega), show o + a.length - o = a.length by omega, List.take_append, List.take_length, Nat.sub_self, List.take_zero, List.append_nil]
  have e2 : (c.take o ++ (a ++ c.drop (o + a.length))).drop (o + a.length + b.length) = c.drop (o + (a ++ b).length) := by
    rw [List.drop_append, h1, List.drop_of_length_le (by omega), List.nil_append, show o + a.length + b.length - o = a.length + b.length by omega, List.drop_append, List.drop_of_length_le (by omega), List.nil_append, List.drop_drop, List.length_append]
    congr 1; omega
  rw [e1, e2, List.append_assoc, List.append_assoc]
theorem hput_nil {h : Heap} {i o : Nat} {c : List AV} {e : Nat} {g m : Bool} (hg : h.get i = some (.cells c e g m)) : hput h i o [] = h := by
  rw [hput_eq hg, List.nil_append, List.length_nil, Nat.add_zero, List.take_append_drop]
  exact Heap.ext (fun j => by
    by_cases hj : j = i
    · subst hj; rw [put_get_self, hg]
    · rw [put_get_ne hj]) rfl rfl rfl
/-! ### so many bytes, one by one -/
noncomputable def tabB (f : Nat → Nat) (n : Nat) : Nat → List AV := Nat.rec (motive := fun _ => Nat → List AV) (fun _ => []) (fun _ ih i => .int .u8 (.ofNat (f i)) :: ih (i + 1)) n
noncomputable def tabN (f : Nat → Nat) (n : Nat) : Nat → List Nat := Nat.rec (motive := fun _ => Nat → List Nat) (fun _ => []) (fun _ ih i => f i :: ih (i + 1)) n
theorem tabN_eq (f : Nat → Nat) : ∀ (n i : Nat), tabN f n i = (List.range' i n).map f
  | 0, _ => rfl
  | n + 1, i => by
    show f i :: tabN f n (i + 1) = _
    rw [tabN_eq f n (i + 1), List.range'_succ, List.map_cons]
theorem tabB_of (f : Nat → Nat) : ∀ (n i : Nat), tabB f n i = ofBytes (tabN f n i)
  | 0, _ => rfl
  | n + 1, i => by
    show AV.int .u8 (.ofNat (f i)) :: tabB f n (i + 1) = ofBytes (f i :: tabN f n (i + 1))
    rw [tabB_of f n (i + 1), ofBytes_eq, ofBytes_eq, List.map_cons]
theorem tabN_length (f : Nat → Nat) (n i : Nat) : (tabN f n i).length = n := by rw [tabN_eq, List.length_map, List.length_range']
theorem tabN_get (f : Nat → Nat) (n i j : Nat) (hj : j < n) : (tabN f n i)[j]? = some (f (i + j)) := by
  rw [tabN_eq, List.getElem?_map, List.getElem?_range' hj]; simp
theorem tabN_list (l : List Nat) : tabN (fun i => l.getD i 0) l.length 0 = l := by
  refine List.ext_getElem? fun j => ?_
  by_cases hj : j < l.length
  · rw [tabN_get _ _ _ _ hj, Nat.zero_add, List.getD_eq_getElem?_getD, List.getElem?_eq_getElem hj]; rfl
  · rw [List.getElem?_eq_none (by rw [tabN_length]; omega), List.getElem?_eq_none (by omega)]
theorem tabN_congr {f g : Nat → Nat} {n i : Nat} (h : ∀ j, i ≤ j → j < i + n → f j = g j) : tabN f n i = tabN g n i := by
  rw [tabN_eq, tabN_eq]
  refine List.map_congr_left fun x hx => ?_
  rw [List.mem_range'_1] at hx
  exact h x hx.1 hx.2
end Go.X
