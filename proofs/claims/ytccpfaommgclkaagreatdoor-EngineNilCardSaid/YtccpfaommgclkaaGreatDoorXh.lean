/-
  PROVED: calls that have been run, in heaps without an end, and a law over one list of its own name. Conditions: those of the entries.
-/
import Derived.Test.YtccpfaommgclkaaGreatDoorXg
import Derived.KernelRfl
set_option linter.unusedVariables false
set_option linter.unusedSimpArgs false
namespace Go.X
open Go Go.RowKit
def putH (l : List (Nat × AObj)) (h : Heap) : Heap := match l with | [] => h | x :: r => putH r (h.put x.1 (some x.2))
def newH (l : List AObj) (h : Heap) : Heap := match l with | [] => h | o :: r => newH r (h.newO o)
def entHeap (e : Ent) (h : Heap) : Heap := newH e.new (putH e.wr h)
theorem putH_inf : ∀ (l : List (Nat × AObj)) (h : Heap), (putH l h).inf = h.inf
  | [], _ => rfl
  | x :: l, h => (putH_inf l (h.put x.1 (some x.2))).trans rfl
theorem newH_inf : ∀ (l : List AObj) (h : Heap), (newH l h).inf = h.inf
  | [], _ => rfl
  | o :: l, h => (newH_inf l (h.newO o)).trans rfl
theorem entHeap_inf (e : Ent) (h : Heap) : (entHeap e h).inf = h.inf := (newH_inf _ _).trans (putH_inf _ _)
section
variable {P : Program} {W0 : World} {p : Post} {m : FM}
theorem putWr_of : ∀ (l : List (Nat × AObj)) (h : Heap), (∀ x, x ∈ l → x.1 < h.next) → m.sat p (putH l h) → (putWr l m).sat p h
  | [], _, _, hs => hs
  | x :: l, h, hl, hs => ⟨hl x List.mem_cons_self, putWr_of l (h.put x.1 (some x.2)) (fun y hy => hl y (List.mem_cons_of_mem _ hy)) hs⟩
theorem newAll_of : ∀ (l : List AObj) (h : Heap), h.inf = true → m.sat p (newH l h) → (newAll l m).sat p h
  | [], _, _, hs => hs
  | o :: l, h, hi, hs => ⟨.inl hi, newAll_of l (h.newO o) hi hs⟩
noncomputable def whenC (p : Prop) (a b : FM) : FM := @ite FM p (Classical.propDecidable p) a b
theorem whenC_pos {p : Prop} {a b : FM} (h : p) : whenC p a b = a := if_pos h
theorem whenC_neg {p : Prop} {a b : FM} (h : ¬p) : whenC p a b = b := if_neg h
noncomputable def rdI (l : List (Nat × AObj)) (m : FM) : FM := match l with
  | [] => m
  | x :: r => .get x.1 fun o => whenC (o = x.2) (rdI r m) (.fail 224)
noncomputable def replayI1 (tab : List Ent) (a : Nat) (args : List AV) (k : KV) : FM := match tab with
  | [] => .fail 225
  | e :: t => whenC (e.next = a ∧ e.args = args) (whenC (a + e.new.length ≤ 65536) (rdI e.rd (putWr e.wr (newAll e.new (k e.v)))) (.fail 226)) (replayI1 t a args k)
noncomputable def replayI (tab : List Ent) (args : List AV) (k : KV) (_ : Chain → FM) : FM := .here fun a => replayI1 tab a args k
def rdL (l : List (Nat × AObj)) (h : Heap) : List (Option AObj) := match l with | [] => [] | x :: r => h.get x.1 :: rdL r h
def rdR (l : List (Nat × AObj)) : List (Option AObj) := match l with | [] => [] | x :: r => some x.2 :: rdR r
def zRep (tab : List Ent) (args : List ZV) (K : ZK) (h : Heap) : Prop := match tab with
  | [] => False
  | e :: t => (e.next = h.next ∧ e.args = avs args ∧ rdL e.rd h = rdR e.rd ∧ keysLt e.wr h.next = true ∧ h.next + e.new.length ≤ 65536 ∧ K (zOf e.v) (entHeap e h)) ∨ (¬ (e.next = h.next ∧ e.args = avs args) ∧ zRep t args K h)
theorem rdI_of {h : Heap} : ∀ (l : List (Nat × AObj)), rdL l h = rdR l → m.sat p h → (rdI l m).sat p h
  | [], _, hs => hs
  | x :: l, hr, hs => by
    have hr1 : h.get x.1 :: rdL l h = some x.2 :: rdR l := hr
    injection hr1 with h1 h2
    refine ⟨x.2, h1, ?_⟩
    show FM.sat (whenC (x.2 = x.2) (rdI l m) (.fail 224)) p h
    rw [whenC_pos rfl]
    exact rdI_of l h2 hs
theorem rdI_sat {h : Heap} : ∀ (l : List (Nat × AObj)), (rdI l m).sat p h → (∀ x, x ∈ l → h.get x.1 = some x.2) ∧ m.sat p h
  | [], hs => ⟨fun _ hx => absurd hx List.not_mem_nil, hs⟩
  | x :: l, hs => by
    obtain ⟨o, hg, hs1⟩ := hs
    have hs2 : FM.sat (whenC (o = x.2) (rdI l m) (.fail 224)) p h := hs1
    by_cases e : o = x.2
    · rw [whenC_pos e] at hs2
      obtain ⟨h1, h2⟩ := rdI_sat l hs2
      refine ⟨fun y hy => ?_, h2⟩
      rcases List.mem_cons.1 hy with hy | hy
      · rw [hy, hg, e]
      · exact h1 y hy
    · rw [whenC_neg e] at hs2; exact False.elim hs2
theorem zRep_sound {args : List ZV} {K : ZK} {h : Heap} (hi : h.inf = true) : ∀ (tab : List Ent), zRep tab args K h → ∀ (k : KV), (∀ v h', h'.inf = true → K v h' → (k v.av).sat p h') → (replayI1 tab h.next (avs args) k).sat p h
  | [], hz, _, _ => False.elim hz
  | e :: t, hz, k, hk => by
    show FM.sat (whenC (e.next = h.next ∧ e.args = avs args) (whenC (h.next + e.new.length ≤ 65536) (rdI e.rd (putWr e.wr (newAll e.new (k e.v)))) (.fail 226)) (replayI1 t h.next (avs args) k)) p h
    rcases hz with ⟨h1, h2, h3, h4, h5, h6⟩ | ⟨h1, h2⟩
    · rw [whenC_pos ⟨h1, h2⟩, whenC_pos h5]
      refine rdI_of _ h3 (putWr_of _ _ (keysLt_iff h4) (newAll_of _ _ (by rw [putH_inf]; exact hi) ?_))
      have := hk _ _ (by rw [entHeap_inf]; exact hi) h6
      rw [zOf_av] at this
      exact this
    · rw [whenC_neg h1]
      exact zRep_sound hi t h2 k hk
def Heap.toI (l : Nat) (g : Heap) : Heap := ⟨g.t, g.next, l, true⟩
def Heap.toF (g : Heap) : Heap := ⟨g.t, g.next, 65536, false⟩
theorem putWr_fin {m' : FM} {p' : Post} {n : Nat} : ∀ (l : List (Nat × AObj)) (g : Heap), (∀ g', m.sat p (Heap.toI n g') → g'.next = g.next → g'.lim = g.lim → g'.inf = g.inf → m'.sat p' g') → (putWr l m).sat p (Heap.toI n g) → (putWr l m').sat p' g
  | [], g, hm, hs => hm g hs rfl rfl rfl
  | x :: l, g, hm, hs => ⟨hs.1, putWr_fin l (g.put x.1 (some x.2)) (fun g' a b c d => hm g' a b c d) hs.2⟩
theorem newAll_fin {m' : FM} {p' : Post} {n : Nat} (hm : ∀ g', m.sat p (Heap.toI n g') → m'.sat p' g') : ∀ (l : List AObj) (g : Heap), g.next + l.length ≤ g.lim → (newAll l m).sat p (Heap.toI n g) → (newAll l m').sat p' g
  | [], g, _, hs => hm g hs
  | o :: l, g, hl, hs => by
    simp only [List.length_cons] at hl
    refine ⟨.inr (by omega), ?_⟩
    refine newAll_fin hm l (g.newO o) ?_ hs.2
    show g.next + 1 + l.length ≤ g.lim
    omega
theorem Rel.toF {E : Env} {h : Heap} {w : World} (r : Rel P W0 E h w) (hi : h.inf = true) (hn : h.next ≤ 65536) : Rel P W0 E h.toF w := by
  refine ⟨r.obj, r.inj, fun i h1 _ => r.free i h1 (.inl hi), r.bound, r.below, r.old, r.glob, .inr ⟨Nat.le_refl _, fun i ao hg => ?_⟩, .inr hn⟩
  obtain ⟨b, o, hb, _⟩ := r.obj i ao hg
  rcases Nat.lt_or_ge i h.next with hlt | hge
  · exact Nat.lt_of_lt_of_le hlt hn
  · rw [r.free i hge (.inl hi)] at hb; cases hb
theorem Rel.ofF {E E' : Env} {h h' : Heap} {w w' : World} (r0 : Rel P W0 E h w) (hi : h.inf = true) (hn : h.next ≤ 65536) (s : Stp E h.toF E' h') (r : Rel P W0 E' h' w') : Stp E h E' (h'.toI h.lim) ∧ Rel P W0 E' (h'.toI h.lim) w' := by
  have hl : h'.lim = 65536 ∧ h'.inf = false := by
    have := s.lim
    simp only [Prod.mk.injEq] at this
    exact this
  refine ⟨⟨s.le, fun i b hb => (s.new i b hb).imp id fun ⟨a, _⟩ => ⟨a, .inl hi⟩, by show (h.lim, true) = _; rw [hi], s.next⟩, ⟨r.obj, r.inj, fun i h1 _ => ?_, r.bound, r.below, r.old, r.glob, .inl rfl, .inl rfl⟩⟩
  have h1' : h'.next ≤ i := h1
  rcases Nat.lt_or_ge i 65536 with hlt | hge
  · exact r.free i h1' (.inr (by rw [hl.1]; exact hlt))
  · cases hb : E'.blk i with
    | none => rfl
    | some b =>
      rcases s.new i b hb with h2 | ⟨_, h2⟩
      · rw [r0.free i (by omega) (.inl hi)] at h2; cases h2
      · rcases h2 with h2 | h2
        · cases h2
        · exact absurd h2 (Nat.not_lt_of_le hge)
theorem replayI_sound {H : Hints} {sums0 : Sums} {lf n : Nat} {f : FuncId} (hsum : SumsSound P W0 sums0) (hW : 0 < W0.heap.size ∨ ∀ f, H.join f ≤ 1) (hmo : P.follows .mixedOrders = true)
    (args : List AV) (k : KV) (kp : Chain → FM) (E : Env) (h : Heap) (w : World) (vs : Array Value) (hb : bodied P f = true) (r : Rel P W0 E h w) (hv : VRs E args vs.toList) :
    ∀ (tab : List Ent), (∀ e, e ∈ tab → entOk P H sums0 lf n f e = true) → (replayI1 tab h.next args k).sat p h → Calls P f vs w (RetPost P W0 E h k kp p)
  | [], _, hs => False.elim hs
  | e :: t, hent, hs => by
    have hs1 : FM.sat (whenC (e.next = h.next ∧ e.args = args) (whenC (h.next + e.new.length ≤ 65536) (rdI e.rd (putWr e.wr (newAll e.new (k e.v)))) (.fail 226)) (replayI1 t h.next args k)) p h := hs
    by_cases hc : e.next = h.next ∧ e.args = args
    · rw [whenC_pos hc] at hs1
      by_cases hro : h.next + e.new.length ≤ 65536
      · rw [whenC_pos hro] at hs1
        obtain ⟨hrd, hs2⟩ := rdI_sat _ hs1
        have hok := hent e List.mem_cons_self
        cases hinf : h.inf with
        | false => exact ent_sound hok hsum hW hmo args k kp p E h w vs hb hinf hc.1 hc.2 hrd hs2 r hv
        | true =>
          have hh : h = Heap.toI h.lim h.toF := Heap.ext (fun _ => rfl) rfl rfl hinf
          refine Calls.mono (ent_sound hok hsum hW hmo args (fun v => .ret (.val v)) (fun _ => .fail 0) (fun r g => ∃ v, r = .val v ∧ (k v).sat p (Heap.toI h.lim g)) E h.toF w vs hb rfl hc.1 hc.2 hrd ?_ (r.toF hinf (by omega)) hv) fun en w' he => ?_
          · rw [hh] at hs2
            refine putWr_fin _ _ (fun g' hg e1 e2 e3 => newAll_fin (m := k e.v) (m' := .ret (.val e.v)) (p := p) (p' := fun r g => ∃ v, r = .val v ∧ (k v).sat p (Heap.toI h.lim g)) (n := h.lim) (fun g' hg => (show ∃ v, Res.val e.v = .val v ∧ (k v).sat p (Heap.toI h.lim g') from ⟨_, rfl, hg⟩)) _ _ ?_ hg) hs2
            rw [e1, e2]; exact hro
          · cases en with
            | returned v =>
              obtain ⟨E', h', av, s, r', hv', v2, e3, hk⟩ := he
              cases e3
              obtain ⟨a, b⟩ := r.ofF hinf (by omega) s r'
              exact ⟨E', _, _, a, b, hv', hk⟩
            | panicked c => obtain ⟨_, _, _, _, _, _, hf⟩ := he; exact hf.elim
            | outgrown => exact he.elim
      · rw [whenC_neg hro] at hs1; exact False.elim hs1
    · rw [whenC_neg hc] at hs1
      exact replayI_sound hsum hW hmo args k kp E h w vs hb r hv t (fun e he => hent e (List.mem_cons_of_mem _ he)) hs1
noncomputable def addX (g : FuncId) (tab : List Ent) (sums : Sums) : Sums := fun f => match Nat.beq f g with | true => some (replayI tab) | false => sums f
def addZ (g : FuncId) (tab : List Ent) (S : ZSums) : ZSums := fun f => match Nat.beq f g with | true => some (zRep tab) | false => S f
theorem SumsSound.addI {H : Hints} {sums sums0 : Sums} (hs : SumsSound P W0 sums) (hs0 : SumsSound P W0 sums0) {lf n : Nat} {g : FuncId} {tab : List Ent} (hW : 0 < W0.heap.size ∨ ∀ f, H.join f ≤ 1) (hmo : P.follows .mixedOrders = true) (hent : ∀ e, e ∈ tab → entOk P H sums0 lf n g e = true) :
    SumsSound P W0 (addX g tab sums) := by
  intro f s hf args k kp p E h w vs hb hsat r hv
  have hf1 : (match Nat.beq f g with | true => some (replayI tab) | false => sums f) = some s := hf
  cases hfg : Nat.beq f g with
  | false =>
    rw [hfg] at hf1
    exact hs f s hf1 args k kp p E h w vs hb hsat r hv
  | true =>
    rw [hfg] at hf1
    cases hf1
    have e := beq_iff.1 hfg
    subst e
    exact replayI_sound hs0 hW hmo args k kp E h w vs hb r hv tab hent hsat
theorem sumFit_addI {S : ZSums} {sums : Sums} (hs : SumFit S sums) (g : FuncId) (tab : List Ent) : SumFit (addZ g tab S) (addX g tab sums) := by
  constructor
  · intro f hf
    have hf1 : (match Nat.beq f g with | true => some (zRep tab) | false => S f) = none := hf
    show (match Nat.beq f g with | true => some (replayI tab) | false => sums f) = none
    cases hfg : Nat.beq f g with
    | false => rw [hfg] at hf1; exact hs.none f hf1
    | true => rw [hfg] at hf1; cases hf1
  · intro f s hf
    have hf1 : (match Nat.beq f g with | true => some (zRep tab) | false => S f) = some s := hf
    show ∃ x, (match Nat.beq f g with | true => some (replayI tab) | false => sums f) = some x ∧ _
    cases hfg : Nat.beq f g with
    | false => rw [hfg] at hf1; exact hs.some f s hf1
    | true =>
      rw [hfg] at hf1
      cases hf1
      exact ⟨_, rfl, fun args K h hi hz kp k p hp => zRep_sound hi tab hz k hp⟩
end
noncomputable def startI (G g : Nat) (cs : List AV) : Heap := ⟨(startT G g cs).get, G, 0, true⟩
section
variable {P : Program} {W : World} {G g : Nat} {cs : List AV}
end
end Go.X
namespace Go.X
open Go Go.RowKit
def startEb (G : Nat) (bs : List Nat) : Env := ⟨fun i => if i < G then some i else bs[i - G]?, fun _ => 0, fun _ => 0⟩
noncomputable def startJ (G g : Nat) (cs : List AV) (m : Nat) : Heap := ⟨(startT G g cs).get, G + m, 0, true⟩
section
variable {P : Program} {W : World} {G g : Nat} {cs : List AV} {bs : List Nat}
end
end Go.X
namespace Go.X
open Go Go.RowKit
noncomputable def isF (te : TypeId) (args : List AV) (k : KV) : FM := match args with
  | [.iface t (.int q n), .iface t' (.int q' m)] => whenC (t = te ∧ t' = te ∧ q = .i64 ∧ q' = .i64 ∧ n = m) (k (.bool true)) (.fail 171)
  | _ => .fail 171
noncomputable def isX (f : FuncId) (te : TypeId) (sums : Sums) : Sums := fun g => match Nat.beq g f with | true => some (fun args k _ => isF te args k) | false => sums g
def isZ (f : FuncId) (te : TypeId) (S : ZSums) : ZSums := fun g => match Nat.beq g f with | true => some (fun args K h => ∃ n : Int, avs args = [AV.iface te (.int .i64 n), AV.iface te (.int .i64 n)] ∧ K (.bool true) h) | false => S g
theorem is_fit {S : ZSums} {sums : Sums} (hs : SumFit S sums) (f : FuncId) (te : TypeId) : SumFit (isZ f te S) (isX f te sums) := by
  constructor
  · intro g hg
    unfold isZ at hg; unfold isX
    cases hb : Nat.beq g f with
    | true => rw [hb] at hg; cases hg
    | false => rw [hb] at hg; exact hs.none g hg
  · intro g s hg
    unfold isZ at hg; unfold isX
    cases hb : Nat.beq g f with
    | false => rw [hb] at hg; exact hs.some g s hg
    | true =>
      rw [hb] at hg
      cases hg
      refine ⟨_, rfl, ?_⟩
      rintro args K h hi ⟨n, e, hk⟩ kp k p hp
      have := hp _ h hi hk
      rw [av_bool] at this
      show (isF te (avs args) k).sat p h
      rw [e]
      show FM.sat (whenC (te = te ∧ te = te ∧ IntKind.i64 = .i64 ∧ IntKind.i64 = .i64 ∧ n = n) (k (.bool true)) (.fail 171)) p h
      rw [whenC_pos ⟨rfl, rfl, rfl, rfl, rfl⟩]
      exact this
theorem is_sound {P : Program} {W0 : World} {sums : Sums} (hs : SumsSound P W0 sums) {f : FuncId} {te : TypeId} (hc : ∀ (n : Int) w, Calls P f #[.iface te (.int .i64 n), .iface te (.int .i64 n)] w fun e w' => e = .returned (.bool true) ∧ w' = w) : SumsSound P W0 (isX f te sums) := by
  intro g s hg args k kp p E h w vs hb hsat r hv
  unfold isX at hg
  cases hbq : Nat.beq g f with
  | false => rw [hbq] at hg; exact hs g s hg args k kp p E h w vs hb hsat r hv
  | true =>
    rw [hbq] at hg
    have := Nat.eq_of_beq_eq_true hbq
    subst this
    cases hg
    have hs2 : (isF te args k).sat p h := hsat
    unfold isF at hs2
    split at hs2
    · rename_i t q n t' q' m
      by_cases hcond : t = te ∧ t' = te ∧ q = .i64 ∧ q' = .i64 ∧ n = m
      · rw [whenC_pos hcond] at hs2
        obtain ⟨e1, e2, e3, e4, e5⟩ := hcond
        subst e1; subst e2; subst e3; subst e4; subst e5
        have e : vs = #[.iface t' (.int .i64 n), .iface t' (.int .i64 n)] := by
          obtain ⟨l⟩ := vs
          cases hv with
          | cons _ v1 _ l1 h1 t1 =>
            cases t1 with
            | cons _ v2 _ l2 h2 t2 =>
              cases t2
              cases h1 with
              | iface _ _ u1 h1 =>
                cases h2 with
                | iface _ _ u2 h2 => cases h1; cases h2; rfl
        subst e
        refine Calls.mono (hc n w) fun en w' ⟨e1, e2⟩ => ?_
        subst e1; subst e2
        exact ⟨E, h, .bool true, .refl _ _, r, .bool true, hs2⟩
      · rw [whenC_neg hcond] at hs2; exact hs2.elim
    · exact hs2.elim
end Go.X
namespace Go.X
abbrev nowhere (_ : Nat) : Prop := False
theorem SL.n_nil {s : SL} (e : s.nil = true) : s.n = 0 := by unfold SL.n; rw [e]
theorem SL.n_of {s : SL} (e : s.nil = false) : s.n = s.len := by unfold SL.n; rw [e]
structure Seg (h : Heap) (s : SL) (sz : Nat) (cs : List AV) : Prop where
  len : cs.length = s.n * sz
  lt : s.nil = false → s.i < h.next
  src : s.nil = false → ∃ c, cellsAt h s.i = some c ∧ (c.drop s.o).take (s.len * sz) = cs ∧ s.len * sz ≤ (c.drop s.o).length
theorem Seg.fr {S : Nat → Prop} {h h' : Heap} {s : SL} {sz : Nat} {cs : List AV} (x : Seg h s sz cs) (f : Fram S h h') (hs : s.nil = false → ¬ S s.i) : Seg h' s sz cs :=
  ⟨x.len, fun e => Nat.lt_of_lt_of_le (x.lt e) f.next, fun e => by rw [cellsAt_eq (f.same _ (x.lt e) (hs e))]; exact x.src e⟩
theorem Seg.at' {h : Heap} {s : SL} {sz : Nat} {cs : List AV} (x : Seg h s sz cs) (e : s.nil = false) {q : Nat} {v : AV} (hq : cs[q]? = some v) : cellAt h s.i (s.o + q) = some v := by
  obtain ⟨c, hc, h1, h2⟩ := x.src e
  unfold cellAt; rw [hc]
  show c[s.o + q]? = _
  have hl : q < s.len * sz := by
    have := (List.getElem?_eq_some_iff.1 hq).1
    rw [x.len, SL.n_of e] at this; exact this
  rw [← h1, List.getElem?_take_of_lt hl, List.getElem?_drop] at hq
  exact hq
theorem Seg.nil (h : Heap) (sz : Nat) (ext : Bool) : Seg h ⟨true, 0, 0, 0, 0, ext⟩ sz [] := ⟨by simp [SL.n], fun e => (by cases e), fun e => (by cases e)⟩
theorem Seg.own {h : Heap} {i n cap : Nat} {ext : Bool} {cs more : List AV} {sz e : Nat} {g m : Bool} (hl : cs.length = n * sz) (hi : i < h.next) (hg : h.get i = some (.cells (cs ++ more) e g m)) : Seg h ⟨false, i, 0, n, cap, ext⟩ sz cs :=
  ⟨hl, fun _ => hi, fun _ => ⟨_, cellsAt_of hg, by rw [List.drop_zero]; show List.take (n * sz) _ = _; rw [← hl, List.take_left], by rw [List.drop_zero, List.length_append]; show n * sz ≤ _; omega⟩⟩
theorem Grown.seg {h0 h : Heap} {s : SL} {sz n : Nat} {cs : List AV} (g : Grown h0 h s sz n cs) : Seg h s sz cs := by
  obtain ⟨hl, g⟩ := g
  rcases g with ⟨rfl, rfl⟩ | ⟨h1, h2, h3, h4, h5, h6, h7, h8⟩
  · have : cs = [] := List.eq_nil_of_length_eq_zero (by rw [hl]; simp)
    subst this
    exact Seg.nil _ _ _
  · obtain ⟨nil, i, o, len, cap, ext⟩ := s
    simp only at h1 h2 h3 h4 h5 h6 h7 h8
    subst h1; subst h2; subst h3
    exact Seg.own (more := []) hl h7 (by rw [List.append_nil]; exact h8)
theorem Grown.fr {h0 h h' : Heap} {s : SL} {sz n : Nat} {cs : List AV} (g : Grown h0 h s sz n cs) {S : Nat → Prop} (f : Fram S h h') (hs : s.nil = false → ¬ S s.i) : Grown h0 h' s sz n cs := by
  refine ⟨g.1, g.2.imp id fun ⟨h1, h2, h3, h4, h5, h6, h7, h8⟩ => ⟨h1, h2, h3, h4, h5, h6, Nat.lt_of_lt_of_le h7 f.next, (f.same _ h7 (hs h1)).trans h8⟩⟩
structure Byts (h : Heap) (s : SL) (k : List Nat) : Prop where
  seg : Seg h s 1 (ofBytes k)
  byte : ∀ x, x ∈ k → x < 256
theorem ofBytes_length (l : List Nat) : (ofBytes l).length = l.length := by rw [ofBytes_eq, List.length_map]
theorem Byts.len {h : Heap} {s : SL} {k : List Nat} (x : Byts h s k) : s.n = k.length := by
  have := x.seg.len
  rw [ofBytes_length] at this; omega
theorem Byts.fr {h h' : Heap} {s : SL} {k : List Nat} {S : Nat → Prop} (x : Byts h s k) (f : Fram S h h') (hs : s.nil = false → ¬ S s.i) : Byts h' s k := ⟨x.seg.fr f hs, x.byte⟩
theorem Byts.nil (h : Heap) (ext : Bool) : Byts h ⟨true, 0, 0, 0, 0, ext⟩ [] := ⟨Seg.nil h 1 ext, fun x hx => (by cases hx)⟩
theorem Byts.at' {h : Heap} {s : SL} {k : List Nat} (x : Byts h s k) (e : s.nil = false) {j b : Nat} (hj : k[j]? = some b) : cellAt h s.i (s.o + j) = some (.int .u8 (.ofNat b)) :=
  x.seg.at' e (by rw [ofBytes_eq, List.getElem?_map, hj]; rfl)
def AllOk {α : Type} (h : Heap) (Q : Heap → α → Prop) (l : List α) : Prop := ∀ x, x ∈ l → Q h x
structure Rws {α : Type} (sz : Nat) (row : α → List AV) (Q : Heap → α → Prop) (h : Heap) (s : SL) (l : List α) : Prop where
  seg : Seg h s sz (l.flatMap row)
  rl : ∀ x, x ∈ l → (row x).length = sz
  ok : ∀ x, x ∈ l → Q h x
section
variable {α : Type} {sz : Nat} {row : α → List AV} {Q : Heap → α → Prop} {h h' : Heap} {s : SL} {l : List α}
theorem flat_length (hr : ∀ x, x ∈ l → (row x).length = sz) : (l.flatMap row).length = l.length * sz := by
  induction l with
  | nil => simp
  | cons x l ih => rw [List.flatMap_cons, List.length_append, hr x List.mem_cons_self, ih fun y hy => hr y (List.mem_cons_of_mem _ hy), List.length_cons, Nat.add_mul]; omega
theorem flat_at (hr : ∀ x, x ∈ l → (row x).length = sz) {j : Nat} {x : α} (hj : l[j]? = some x) {q : Nat} (hq : q < sz) : (l.flatMap row)[j * sz + q]? = (row x)[q]? := by
  induction l generalizing j with
  | nil => cases hj
  | cons y l ih =>
    have hy := hr y List.mem_cons_self
    rw [List.flatMap_cons]
    cases j with
    | zero =>
      cases hj
      rw [Nat.zero_mul, Nat.zero_add, List.getElem?_append_left (by omega)]
    | succ j =>
      rw [List.getElem?_append_right (by rw [hy, Nat.add_mul]; omega), hy, show (j + 1) * sz + q - sz = j * sz + q by rw [Nat.add_mul]; omega]
      exact ih (fun z hz => hr z (List.mem_cons_of_mem _ hz)) (by simpa using hj)
theorem Rws.len (hsz : 0 < sz) (x : Rws sz row Q h s l) : s.n = l.length := by
  have := x.seg.len
  rw [flat_length x.rl] at this
  exact (Nat.eq_of_mul_eq_mul_right hsz this).symm
theorem Rws.at' (x : Rws sz row Q h s l) (e : s.nil = false) {j : Nat} {y : α} (hj : l[j]? = some y) {q : Nat} (hq : q < sz) {v : AV} (hv : (row y)[q]? = some v) : cellAt h s.i (s.o + j * sz + q) = some v := by
  rw [Nat.add_assoc]
  exact x.seg.at' e (by rw [flat_at x.rl hj hq]; exact hv)
theorem Rws.fr {S : Nat → Prop} (x : Rws sz row Q h s l) (f : Fram S h h') (hs : s.nil = false → ¬ S s.i) (hq : ∀ y, y ∈ l → Q h y → Q h' y) : Rws sz row Q h' s l :=
  ⟨x.seg.fr f hs, x.rl, fun y hy => hq y hy (x.ok y hy)⟩
theorem Rws.nil (h : Heap) (ext : Bool) : Rws sz row Q h ⟨true, 0, 0, 0, 0, ext⟩ [] := ⟨Seg.nil _ _ _, fun _ hx => (by cases hx), fun _ hx => (by cases hx)⟩
end
structure Var (h : Heap) (i : Nat) (cs : List AV) : Prop where
  lt : i < h.next
  get : h.get i = some (.cells cs 0 false false)
section
variable {h : Heap} {i : Nat} {cs : List AV}
theorem Var.new (h : Heap) (cs : List AV) : Var (h.newO (.cells cs 0 false false)) h.next cs := ⟨Nat.lt_succ_self _, newO_get_self _ _⟩
theorem Var.fr {S : Nat → Prop} {h' : Heap} (x : Var h i cs) (f : Fram S h h') (hs : ¬ S i) : Var h' i cs := ⟨Nat.lt_of_lt_of_le x.lt f.next, (f.same _ x.lt hs).trans x.get⟩
theorem Var.cell (x : Var h i cs) (o : Nat) : cellAt h i o = cs[o]? := cellAt_of x.get
theorem Var.ldL (x : Var h i cs) {o : Nat} (s : SL) {K : SL → Prop} (e : cs[o]? = some s.av) (k : K s) : ZLdL h i o K := ⟨s, (x.cell o).trans e, k⟩
theorem Var.ldI (x : Var h i cs) {o : Nat} {q : IntKind} (n : Int) {K : Int → Prop} (e : cs[o]? = some (.int q n)) (k : K n) : ZLdI h i o q K := ⟨n, (x.cell o).trans e, k⟩
theorem Var.zput (x : Var h i cs) {o n : Nat} {A : Prop} (hn : o + n ≤ cs.length) (k : A) : ZPut h i o n A := ⟨⟨x.lt, cs, 0, false, false, x.get, hn⟩, k⟩
theorem Var.put (x : Var h i cs) (o : Nat) (vs : List AV) : Var (hput h i o vs) i (cs.take o ++ (vs ++ cs.drop (o + vs.length))) := by
  refine ⟨?_, hput_get x.get⟩
  unfold hput; rw [x.get]; exact x.lt
theorem Var.put_fr (x : Var h i cs) (o : Nat) (vs : List AV) : Fram (fun j => j = i) h (hput h i o vs) := Fram.hput h o vs fun _ => rfl
end
theorem Fram.back {S T : Nat → Prop} {h0 a b : Heap} (x : Fram T h0 a) (y : Fram S a b) (hs : ∀ i, i < h0.next → S i → T i) : Fram T h0 b :=
  ⟨Nat.le_trans x.next y.next, fun i hi ht => (y.same i (Nat.lt_of_lt_of_le hi x.next) fun h => ht (hs i hi h)).trans (x.same i hi ht)⟩
structure Own (h0 h : Heap) (s : SL) (k : List Nat) : Prop where
  byts : Byts h s k
  own : s.nil = false → h0.next ≤ s.i ∧ s.o = 0 ∧ ∃ e g, h.get s.i = some (.cells (ofBytes k) e g false)
theorem Own.fr {h0 h h' : Heap} {s : SL} {k : List Nat} {S : Nat → Prop} (x : Own h0 h s k) (f : Fram S h h') (hs : s.nil = false → ¬ S s.i) : Own h0 h' s k :=
  ⟨x.byts.fr f hs, fun e => by
    obtain ⟨h1, h2, a, b, h3⟩ := x.own e
    exact ⟨h1, h2, a, b, (f.same _ (x.byts.seg.lt e) (hs e)).trans h3⟩⟩
theorem Own.of {h0 h1 h : Heap} {s : SL} {k : List Nat} (x : Own h1 h s k) (hn : h0.next ≤ h1.next) : Own h0 h s k :=
  ⟨x.byts, fun e => by
    obtain ⟨h1, h2, h3⟩ := x.own e
    exact ⟨Nat.le_trans hn h1, h2, h3⟩⟩
end Go.X
namespace Go.X
open Go Go.RowKit
noncomputable def allIs (v : AV) (o : Out) : Bool := Out.rec (motive := fun _ => Bool) (fun _ => false) (fun l _ => List.rec (motive := fun _ => Bool) true (fun x _ ih => cnd (eqRes x.1 (.val v)) ih false) l) o
theorem allIs_spec {v : AV} {o : Out} (h : allIs v o = true) : ∃ l g, o = .ok l g ∧ ∀ x, x ∈ l → x.1 = .val v := by
  cases o with
  | err n => cases h
  | ok l g =>
    refine ⟨l, g, rfl, ?_⟩
    have key : ∀ l : List (Res × THeap), (List.rec (motive := fun _ => Bool) true (fun x _ ih => cnd (eqRes x.1 (.val v)) ih false) l : Bool) = true → ∀ x, x ∈ l → x.1 = .val v := by
      intro l
      induction l with
      | nil => exact fun _ x hx => absurd hx List.not_mem_nil
      | cons a t ih =>
        intro h x hx
        have h2 : cnd (eqRes a.1 (.val v)) (List.rec (motive := fun _ => Bool) true (fun x _ ih => cnd (eqRes x.1 (.val v)) ih false) t) false = true := h
        rw [cnd_and] at h2
        rcases List.mem_cons.1 hx with e | e
        · rw [e]; exact eqRes_eq h2.1
        · exact ih h2.2 x e
    exact key l h
theorem VRs_ints_inv {E : Env} {q : IntKind} : ∀ (zs : List Int) (l : List Value), VRs E (zs.map fun z => AV.int q z) l → l = zs.map fun z => Value.int q z
  | [], l, h => by cases h; rfl
  | z :: zs, l, h => by
    cases h with
    | cons _ v _ m h1 h2 => cases h1; rw [VRs_ints_inv zs m h2]; rfl
section
variable {P : Program} {W W0 : World} {G : Nat}
theorem closed_is {H : Hints} {sums : Sums} {lf n : Nat} {f : FuncId} {v : AV} (hmo : P.follows .mixedOrders = true) (hG : P.globals.size = G) (hsz : G ≤ W.heap.size) (ht : G ≤ top) (hb : bodied P f = true)
    (hsum : SumsSound P W sums) (hW : 0 < W.heap.size ∨ ∀ f, H.join f ≤ 1) (hrun : allIs v ((xCall P H sums lf n f []).run 0 (startH G) Log.nil) = true) :
    Calls P f #[] W fun e W' => ∃ u E, e = .returned u ∧ VR E v u ∧ Below W.heap.size W W' := by
  obtain ⟨l, g, e, hl⟩ := allIs_spec hrun
  have hs := run_sat _ _ _ _ _ _ (fun r _ => r = .val v) e (start_WF ht) (Nat.zero_le _) hl
  refine Calls.mono (xCall_sound hsum hW hmo hb hs (start_rel hG hsz ht) (vs := #[]) .nil) fun e w' ⟨v, E', h', av, e1, s, r, hv, hp⟩ => ?_
  subst e1
  cases hp
  exact ⟨_, _, rfl, hv, r.below⟩
noncomputable def rowV (q : IntKind) (zs : List Int) : AV := .agg (zs.map fun z => AV.int q z)
def constZ (f : FuncId) (v : AV) : ZSums := fun g => match Nat.beq g f with | true => some (fun args K h => args = [] ∧ K (.any v) h) | false => none
def constX (f : FuncId) (v : AV) : Sums := fun g => match Nat.beq g f with | true => some (fun args k _ => match args with | [] => k v | _ => .fail 172) | false => none
theorem const_fit (f : FuncId) (v : AV) : SumFit (constZ f v) (constX f v) := by
  constructor
  · intro g hg
    unfold constZ at hg; unfold constX
    cases hb : Nat.beq g f with
    | true => rw [hb] at hg; cases hg
    | false => rfl
  · intro g s hg
    unfold constZ at hg; unfold constX
    cases hb : Nat.beq g f with
    | false => rw [hb] at hg; cases hg
    | true =>
      rw [hb] at hg
      cases hg
      refine ⟨_, rfl, ?_⟩
      rintro args K h hi ⟨rfl, hk⟩ kp k p hp
      have := hp _ h hi hk
      rwa [av_any] at this
theorem const_sound {f : FuncId} {q : IntKind} {zs : List Int} (hc : ∀ w, Below W0.heap.size W0 w → Calls P f #[] w fun e w' => e = .returned (.agg (zs.map fun z => Value.int q z).toArray) ∧ Below w.heap.size w w') : SumsSound P W0 (constX f (rowV q zs)) := by
  intro g s hg args k kp p E h w vs hb hs r hv
  unfold constX at hg
  cases hbq : Nat.beq g f with
  | false => rw [hbq] at hg; cases hg
  | true =>
    rw [hbq] at hg
    have := Nat.eq_of_beq_eq_true hbq
    subst this
    cases hg
    cases args with
    | cons => exact hs.elim
    | nil =>
      have e : vs = #[] := by
        obtain ⟨l⟩ := vs
        cases hv; rfl
      subst e
      refine Calls.mono (hc w r.below) fun e w' ⟨e1, hb'⟩ => ?_
      subst e1
      exact ⟨E, h, rowV q zs, .refl _ _, r.garbage hb', .agg _ _ (VRs_ints q zs), hs⟩
theorem law_int {S : ZSums} {sums : Sums} (hsum : SumsSound P W sums) (hS : SumFit S sums) (hmo : P.follows .mixedOrders = true) (hG : P.globals.size ≤ W.heap.size) {lf n : Nat} {f : FuncId} (hb : bodied P f = true) {q : IntKind} {z : Int}
    {args : List ZV} {vs : Array Value} (hv : VRs (absE W.heap.size) (avs args) vs.toList) (hz : zCall P S lf n f args (fun v _ => v.av = .int q z) (absH W)) :
    Calls P f vs W fun e W' => e = .returned (.int q z) ∧ Below W.heap.size W W' := by
  have hs : (xCall P noHints sums lf n f (avs args)).sat (fun r _ => r = .val (.int q z)) (absH W) :=
    (zCall_sound hS (lf := lf) n).call f args _ (absH W) (bodied_lt hb) rfl hz (fun _ => .fail 163) (fun v => .ret (.val v)) (fun r _ => r = .val (.int q z)) fun v h' _ hv => by
      show Res.val v.av = _
      rw [hv]
  refine Calls.mono (xCall_sound hsum (.inr fun f => Nat.zero_le _) hmo hb hs (abs_rel hG) hv) fun e w' ⟨v, E', h', av, e1, s, r, hv, hp⟩ => ?_
  subst e1
  cases hp
  cases hv
  exact ⟨rfl, r.below⟩
noncomputable def okSl (b : AV) (m : FM) : FM := b.onSlice m m (fun _ _ len cap _ => cnd (Nat.ble len cap) (cnd (Nat.ble len 1048576) m (.fail 173)) (.fail 173)) (.fail 173)
noncomputable def byteF (F : Nat → List Nat → (Nat → FM) → FM) (args : List AV) (k : KV) : FM :=
  just2 args fun a b => a.onInt (fun q n => kEq q .u64 (Int.rec (motive := fun _ => FM) (fun m => cnd (ltb m 18446744073709551616) (okSl b (bytesOfK b fun l => F m l fun r => k (.int .u64 (.ofNat r)))) (.fail 173)) (fun _ => .fail 173) n)) (.fail 173)
noncomputable def byteX (f : FuncId) (F : Nat → List Nat → (Nat → FM) → FM) (S : Sums) : Sums := fun g => cnd (Nat.beq g f) (some fun args k _ => byteF F args k) (S g)
theorem bytes_abs {E : Env} {h : Heap} {w : World} {p : Post} (r : Rel P W0 E h w) {a : AV} {v : Value} (ha : VR E a v) {kk : List Nat → FM} (hs : (okSl a (bytesOfK a kk)).sat p h) :
    ∃ (s : SL) (l : List Nat), VR (absE w.heap.size) s.av v ∧ Byts (absH w) s l ∧ l.length ≤ 1048576 ∧ (kk l).sat p h := by
  cases ha with
  | nils => exact ⟨⟨true, 0, 0, 0, 0, false⟩, [], .nils, Byts.nil _ _, by simp, hs⟩
  | emp a c => exact ⟨⟨true, 0, 0, 0, 0, true⟩, [], .emp _ _, Byts.nil _ _, by simp, hs⟩
  | slice i o len cap ext b x cc hi hx hcc =>
    subst hx
    have hs1 : (cnd (Nat.ble len cap) (cnd (Nat.ble len 1048576) (readCells i fun c => takeK len (dropL o c) fun l => bytesK l kk) (.fail 173)) (.fail 173)).sat p h := hs
    obtain ⟨_, hs1⟩ := cnd_sat hs1
    obtain ⟨hle, hs1⟩ := cnd_sat hs1
    have hle := ble_iff.1 hle
    obtain ⟨ao, hg, hs2⟩ := hs1
    obtain ⟨c, ho, hs3⟩ := onRead_sat hs2
    obtain ⟨hl, hs4⟩ := takeK_sat hs3
    rw [dropL_eq] at hl hs4
    obtain ⟨s, he, hb, hk⟩ := bytesK_sat _ _ hs4
    obtain ⟨vs, h1, h2, h3⟩ := (r.readAt hg ho hi).cells o len hl
    rw [he] at h2
    have h4 := map_ofBytes_inj h2
    have hbw := r.bound i b hi
    have hsl : s.length = len := by rw [← h1, h4]; simp
    refine ⟨⟨false, b, E.base i + o, len, cc, false⟩, s, .slice _ _ _ _ _ b _ cc (if_pos hbw) (by simp [absE]) (by simp [cnd]), ⟨⟨by rw [ofBytes_length, hsl]; show len = len * 1; omega, fun _ => hbw, fun _ => ?_⟩, hb⟩, by rw [hsl]; exact hle, hk⟩
    obtain ⟨cs, e, fr, pre, c1, rest, q1, q2, q3, q4⟩ := (r.readAt hg ho hi).ex
    refine ⟨cs.toList.map (absV w.heap.size), by unfold cellsAt; rw [absH_cells q1], ?_⟩
    have := take_drop_of (c := cs.toList.map (absV w.heap.size)) (l := ofBytes s) (o := E.base i + o) fun j u hu => by
      rw [ofBytes_eq, List.getElem?_map] at hu
      obtain ⟨y, hy, rfl⟩ := Option.map_eq_some_iff.1 hu
      have h5 := h3 j (.int .u8 (.ofNat y)) (by rw [h4, List.getElem?_map, hy]; rfl)
      rw [addr_add, cell_at q1] at h5
      rw [List.getElem?_map, Array.getElem?_toList, h5]; rfl
    rw [ofBytes_length, hsl] at this
    rw [Nat.mul_one]
    exact this
  | _ => exact False.elim hs
theorem byte_sound {sums : Sums} (hs0 : SumsSound P W0 sums) {f : FuncId} {F : Nat → List Nat → (Nat → FM) → FM} {fn : Nat → List Nat → Nat} (hF : ∀ a l k, F a l k = k (fn a l))
    (hc : ∀ w (a : Nat) (v : Value) (s : SL) (l : List Nat), Below W0.heap.size W0 w → a < 18446744073709551616 → VR (absE w.heap.size) s.av v → Byts (absH w) s l → l.length ≤ 1048576 →
      Calls P f #[.int .u64 (.ofNat a), v] w fun e w' => e = .returned (.int .u64 (.ofNat (fn a l))) ∧ Below w.heap.size w w') : SumsSound P W0 (byteX f F sums) := by
  intro g s hg args k kp p E h w vs hb hsat r hv
  have hg1 : cnd (Nat.beq g f) (some fun args k _ => byteF F args k) (sums g) = some s := hg
  cases hbq : Nat.beq g f with
  | false => rw [hbq, cnd_false] at hg1; exact hs0 g s hg1 args k kp p E h w vs hb hsat r hv
  | true =>
    rw [hbq, cnd_true] at hg1
    have := Nat.eq_of_beq_eq_true hbq
    subst this
    cases hg1
    obtain ⟨a, b, u, v, e, hu, hv2, hs1⟩ := just2_sat hv (show (byteF F args k).sat p h from hsat)
    cases hu with
    | int q n =>
      obtain ⟨hq, hs2⟩ := kEq_sat (m := Int.rec (motive := fun _ => FM) (fun m => cnd (ltb m 18446744073709551616) (okSl b (bytesOfK b fun l => F m l fun r => k (.int .u64 (.ofNat r)))) (.fail 173)) (fun _ => .fail 173) n) hs1
      subst hq
      cases n with
      | negSucc m => exact False.elim hs2
      | ofNat m =>
        obtain ⟨hm, hs3⟩ := cnd_sat (show (cnd (ltb m 18446744073709551616) (okSl b (bytesOfK b fun l => F m l fun r => k (.int .u64 (.ofNat r)))) (.fail 173)).sat p h from hs2)
        obtain ⟨s, l, h1, h2, h3, h4⟩ := bytes_abs r hv2 hs3
        rw [hF] at h4
        rw [toArr e]
        refine Calls.mono (hc w m v s l r.below (ltb_iff.1 hm) h1 h2 h3) fun e w' ⟨e1, hb'⟩ => ?_
        subst e1
        exact ⟨E, h, _, .refl _ _, r.garbage hb', .int _ _, h4⟩
    | _ => exact False.elim hs1
end
end Go.X
namespace Go.X
theorem cndP_f {b : Bool} {A B : Prop} (h : b = false) (k : B) : @cnd Prop b A B := by subst h; exact k
theorem cndP_t {b : Bool} {A B : Prop} (h : b = true) (k : A) : @cnd Prop b A B := by subst h; exact k
theorem nay {b : Bool} {A B : Prop} (k : B) (h : b = false := by kernel_rfl) : @cnd Prop b A B := cndP_f h k
theorem yea {b : Bool} {A B : Prop} (k : A) (h : b = true := by kernel_rfl) : @cnd Prop b A B := cndP_t h k
theorem zRep_at {args : List ZV} {K : ZK} {h : Heap} {e : Ent} (hk : (e.next, e.args, rdL e.rd h, keysLt e.wr h.next, Nat.ble (h.next + e.new.length) 65536) = (h.next, avs args, rdR e.rd, true, true)) (k : K (zOf e.v) (entHeap e h)) :
    ∀ (i : Nat) (tab : List Ent), tab[i]? = some e → (tab.take i).all (fun x => !Nat.beq x.next h.next) = true → zRep tab args K h
  | 0, x :: tab, he, _ => by
    cases he
    simp only [Prod.mk.injEq] at hk
    exact Or.inl ⟨hk.1, hk.2.1, hk.2.2.1, hk.2.2.2.1, Nat.le_of_ble_eq_true hk.2.2.2.2, k⟩
  | i + 1, x :: tab, he, hm => by
    rw [List.take_succ_cons, List.all_cons, Bool.and_eq_true, Bool.not_eq_true'] at hm
    exact Or.inr ⟨fun hh => absurd hm.1 (by rw [hh.1, beq_iff.2 rfl]; decide), zRep_at hk k i tab he hm.2⟩
theorem hit {P : Program} {S : ZSums} {lf n : Nat} {f : FuncId} {args : List ZV} {K : ZK} {h : Heap} (i : Nat) (e : Ent) (tab : List Ent) (hS : S f = some (zRep tab))
    (hk : (ltb f P.funcs.size, tab[i]?, (tab.take i).all (fun x => !Nat.beq x.next h.next), e.next, e.args, rdL e.rd h, keysLt e.wr h.next, Nat.ble (h.next + e.new.length) 65536) = (true, some e, true, h.next, avs args, rdR e.rd, true, true)) (k : K (zOf e.v) (entHeap e h)) : zCall P S lf (n + 1) f args K h := by
  simp only [Prod.mk.injEq] at hk
  exact zCall_sum hk.1 hS (zRep_at (by simp only [Prod.mk.injEq]; exact hk.2.2.2) k i tab hk.2.1 hk.2.2.1)
theorem Var.put_all {h : Heap} {i : Nat} {cs vs : List AV} (x : Var h i cs) (e : vs.length = cs.length) : Var (hput h i 0 vs) i vs := by
  have := x.put 0 vs
  rwa [List.take_zero, List.nil_append, Nat.zero_add, e, List.drop_length, List.append_nil] at this
end Go.X
namespace Go.X
open Go Go.RowKit
noncomputable def roO (o : Option (List AV)) : Option AObj := Option.rec (motive := fun _ => Option AObj) none (fun c => some (.ro c)) o
noncomputable def startK (G g : Nat) (cs : List AV) (o : Option (List AV)) : Heap := ⟨fun i => cnd (Nat.beq i G) (roO o) ((startT G g cs).get i), G + 1, 0, true⟩
def startEk (G b off : Nat) : Env := ⟨fun i => if i < G then some i else if i = G then some b else none, fun i => if i = G then off else 0, fun _ => 0⟩
section
variable {P : Program} {W : World} {G g : Nat} {cs : List AV} {b off : Nat} {o : Option (List AV)}
theorem startEk_le : (startE G).Le (startEk G b off) :=
  ⟨fun i b h => by
    unfold startE at h; unfold startEk
    simp only at h ⊢
    by_cases hi : i < G
    · rw [if_pos hi] at h ⊢; exact h
    · rw [if_neg hi] at h; exact absurd h (by simp), fun i b h => by
    unfold startE at h; unfold startEk startE
    simp only at h ⊢
    by_cases hi : i < G
    · rw [if_neg (by omega)]
    · rw [if_neg hi] at h; exact absurd h (by simp), fun _ _ _ => rfl⟩
structure KOk (W : World) (G g b off : Nat) (o : Option (List AV)) : Prop where
  lt : b < W.heap.size
  ne : ∀ c, o = some c → b ≠ g
  ob : ∀ c, o = some c → ∃ arr t fr pre c1 rest, W.heap[b]? = some (.cells arr t fr) ∧ arr.toList = pre ++ (c1 ++ rest) ∧ pre.length = off ∧ VRs (startEk G b off) c c1
theorem startK_rel (hG : P.globals.size = G) (hg : g < G) (hsz : G ≤ W.heap.size) (ht : G ≤ top) (ko : KOk W G g b off o) {arr : Array Value} {t : TypeId} {fr : Nat × Nat} (hw : W.heap[g]? = some (.cells arr t fr)) (hv : VRs (startE G) cs arr.toList) : Rel P W (startEk G b off) (startK G g cs o) W := by
  have hget : ∀ {i ao}, (startK G g cs o).get i = some ao → (i = G ∧ ∃ c, o = some c ∧ ao = .ro c) ∨ (i = g ∧ ao = .ro cs) := by
    intro i ao h
    have h : cnd (Nat.beq i G) (roO o) ((startT G g cs).get i) = some ao := h
    cases hb : Nat.beq i G with
    | true =>
      rw [hb] at h
      refine .inl ⟨Nat.eq_of_beq_eq_true hb, ?_⟩
      cases o with
      | none => cases h
      | some c => exact ⟨c, rfl, (Option.some.inj h).symm⟩
    | false =>
      rw [hb] at h
      have h : (startT G g cs).get i = some ao := h
      rw [startT_get (Nat.lt_of_lt_of_le hg ht)] at h
      by_cases e : i = g
      · rw [if_pos e] at h; cases h; exact .inr ⟨e, rfl⟩
      · rw [if_neg e] at h; cases h
  have blkG : (startEk G b off).blk G = some b := by
    show (if G < G then some G else if G = G then some b else none) = some b
    rw [if_neg (Nat.lt_irrefl G), if_pos rfl]
  have blkg : (startEk G b off).blk g = some g := by
    show (if g < G then some g else if g = G then some b else none) = some g
    rw [if_pos hg]
  refine ⟨fun i ao hi => ?_, fun i j x y b' hi hj _ _ h1 h2 => ?_, fun i h1 _ => ?_, fun i b' hb => ?_, Below.refl _ _, fun i ao b' hi _ _ => ?_, fun i hi => ⟨if_pos (by omega), if_neg (by omega)⟩, .inl rfl, .inl rfl⟩
  · rcases hget hi with ⟨e1, c, e2, e3⟩ | ⟨e1, e2⟩
    · subst e1; subst e3
      obtain ⟨arr, t, fr, pre, c1, rest, h1, h2, h3, h4⟩ := ko.ob c e2
      exact ⟨b, _, blkG, h1, .ro _ _ _ _ pre c1 rest h2 (h3.trans (if_pos rfl).symm) h4⟩
    · subst e1; subst e2
      exact ⟨i, _, blkg, hw, .ro _ _ _ _ [] arr.toList [] (by simp) (show 0 = if i = G then off else 0 by rw [if_neg (by omega)]) (hv.mono startEk_le)⟩
  · rcases hget hi with ⟨e1, c, e2, e3⟩ | ⟨e1, e2⟩ <;> rcases hget hj with ⟨e4, c', e5, e6⟩ | ⟨e4, e5⟩
    · rw [e1, e4]
    · subst e1; subst e4
      rw [blkG] at h1; rw [blkg] at h2
      cases h1; cases h2
      exact absurd rfl (ko.ne c e2)
    · subst e1; subst e4
      rw [blkG] at h2; rw [blkg] at h1
      cases h1; cases h2
      exact absurd rfl (ko.ne c' e5)
    · rw [e1, e4]
  · have h1' : G + 1 ≤ i := h1
    show (if i < G then some i else if i = G then some b else none) = none
    rw [if_neg (by omega), if_neg (by omega)]
  · have hb : (if i < G then some i else if i = G then some b else none) = some b' := hb
    split at hb
    · cases hb; omega
    · split at hb
      · cases hb; exact ko.lt
      · cases hb
  · rcases hget hi with ⟨_, c, _, e3⟩ | ⟨_, e2⟩
    · exact .inr ⟨c, e3⟩
    · exact .inr ⟨cs, e2⟩
theorem lawK_true {S : ZSums} {sums : Sums} (hsum : SumsSound P W sums) (hS : SumFit S sums) (hmo : P.follows .mixedOrders = true) (hG : P.globals.size = G) (hg : g < G) (hsz : G ≤ W.heap.size) (ht : G ≤ top)
    {name : String} {k : IntKind} {zs : List Int} (hgl : P.globalNamed name = some g) (htab : Lib.TabIs P W name k zs) (hcs : cs = zs.map fun z => AV.int k z) {lf n : Nat} {f : FuncId} (hb : bodied P f = true)
    {args : List ZV} {vs : Array Value} (ko : KOk W G g b off o) (hv : VRs (startEk G b off) (avs args) vs.toList) (hz : zCall P S lf n f args (fun v _ => v.av = .bool true) (startK G g cs o)) :
    Calls P f vs W fun e W' => e = .returned (.bool true) ∧ Below W.heap.size W W' := by
  have hs : (xCall P noHints sums lf n f (avs args)).sat (fun r _ => r = .val (.bool true)) (startK G g cs o) :=
    (zCall_sound hS (lf := lf) n).call f args _ (startK G g cs o) (bodied_lt hb) rfl hz (fun _ => .fail 163) (fun v => .ret (.val v)) (fun r _ => r = .val (.bool true)) fun v h' _ hv => by
      show Res.val v.av = _
      rw [hv]
  have hrow : ∃ t fr, W.heap[g]? = some (.cells (zs.map fun z => Value.int k z).toArray t fr) := by
    unfold Lib.TabIs World.var? at htab
    rw [hgl, Option.bind_some] at htab
    split at htab
    · rename_i cs t fr hw
      exact ⟨t, fr, by rw [hw, Option.some.inj htab]⟩
    · cases htab
  obtain ⟨t, fr, hw⟩ := hrow
  have r := startK_rel (cs := cs) hG hg hsz ht ko hw (by rw [hcs]; exact VRs_ints k zs)
  refine Calls.mono (xCall_sound hsum (.inr fun _ => Nat.zero_le _) hmo hb hs r (vs := vs) hv) fun e w' ⟨v, E', h', av, e1, s, r, hv, hp⟩ => ?_
  subst e1
  cases hp
  cases hv
  exact ⟨rfl, r.below⟩
end
noncomputable def canB (h : Heap) (i n : Nat) : Bool := match h.get i with
  | some (.cells c _ _ _) => cnd (ltb i h.next) (Nat.ble n c.length) false
  | _ => false
theorem canPut_of {h : Heap} {i n : Nat} (e : canB h i n = true) : canPut h i n := by
  unfold canB at e
  split at e
  · rename_i c a g m hc
    cases hl : ltb i h.next with
    | true => rw [hl] at e; exact ⟨ltb_iff.1 hl, c, a, g, m, hc, Nat.le_of_ble_eq_true e⟩
    | false => rw [hl] at e; cases e
  · cases e
theorem zPut_b {h : Heap} {i o n : Nat} {A : Prop} (e : canB h i (o + n) = true) (k : A) : ZPut h i o n A := ⟨canPut_of e, k⟩
theorem app_new_ints {P : Program} {h : Heap} {s : SL} {l : List Int} {e : Nat} {Q : Heap → SL → Prop} (hb : Ints h s l) (hl : l ≠ []) (hr : roomB P e l.length = true)
    (hk : Q ((h.newO (.cells [] 1 false false)).newO (.cells (l.map (AV.int .i64)) 1 true false)) ⟨false, h.next + 1, 0, l.length, l.length, true⟩) :
    ZApp P (h.newO (.cells [] 1 false false)) ⟨false, h.next, 0, 0, 0, false⟩ e 1 s.n (l.map (AV.int .i64)) (Q (happ (h.newO (.cells [] 1 false false)) ⟨false, h.next, 0, 0, 0, false⟩ 1 s.n (l.map (AV.int .i64))) (SL.app ⟨false, h.next, 0, 0, 0, false⟩ (h.newO (.cells [] 1 false false)).next s.n)) := by
  rw [hb.len]
  refine ⟨⟨fun _ => Nat.le_refl _, fun _ e => (by cases e), fun h1 _ h2 => ?_, fun _ _ => ?_, fun _ _ _ h => (by cases h), fun _ _ _ _ => ⟨[], cellsAt_of (newO_get_self _ _), by simp⟩⟩, allPlain_ints l, ?_⟩
  · exact absurd h2 (by show ¬ 0 + l.length ≤ 0; omega)
  · show roomB P e (0 + l.length) = true
    rw [Nat.zero_add]; exact hr
  cases l with
  | nil => exact absurd rfl hl
  | cons x k =>
    have e1 : happ (h.newO (.cells [] 1 false false)) ⟨false, h.next, 0, 0, 0, false⟩ 1 (x :: k).length ((x :: k).map (AV.int .i64)) = (h.newO (.cells [] 1 false false)).newO (.cells ((x :: k).map (AV.int .i64)) 1 true false) := by
      unfold happ
      rw [show Nat.beq (x :: k).length 0 = false from rfl]
      simp only
      rw [show Nat.ble (0 + (x :: k).length) 0 = false by rw [Nat.zero_add]; rfl, newO_get_self]
      rfl
    have e2 : SL.app ⟨false, h.next, 0, 0, 0, false⟩ (h.newO (.cells [] 1 false false)).next (x :: k).length = ⟨false, h.next + 1, 0, (x :: k).length, (x :: k).length, true⟩ := by
      unfold SL.app
      rw [show Nat.beq (x :: k).length 0 = false from rfl]
      simp only
      rw [show Nat.ble (0 + (x :: k).length) 0 = false by rw [Nat.zero_add]; rfl, Nat.zero_add]
      rfl
    rw [e1, e2]
    exact hk
theorem app_new_none {P : Program} {h : Heap} {s : SL} {e : Nat} {Q : Heap → SL → Prop} (h0 : s.n = 0)
    (hk : Q (h.newO (.cells [] 1 false false)) ⟨false, h.next, 0, 0, 0, false⟩) :
    ZApp P (h.newO (.cells [] 1 false false)) ⟨false, h.next, 0, 0, 0, false⟩ e 1 s.n [] (Q (happ (h.newO (.cells [] 1 false false)) ⟨false, h.next, 0, 0, 0, false⟩ 1 s.n []) (SL.app ⟨false, h.next, 0, 0, 0, false⟩ (h.newO (.cells [] 1 false false)).next s.n)) := by
  rw [h0]
  exact ⟨⟨fun _ => Nat.le_refl _, fun h => absurd rfl h, fun h => absurd rfl h, fun h => absurd rfl h, fun h => absurd rfl h, fun h => absurd rfl h⟩, rfl, hk⟩
end Go.X
