/-
  PROVED: what the functions of package diff do (contracts over heaps). Condition: each contract's own.
-/
import Derived.Test.YtppjfhdhgofeiaaPd
set_option linter.unusedSectionVars false
open List renaming mem_cons_of_mem -> zA0, mem_cons_self -> zB0, length_append -> zC0, mem_of_getElem? -> zD0, getElem?_eq_getElem -> zE0, mem_append_left -> zH0, length_map -> zJ0, length_cons -> zK0, mem_cons -> zL0, not_mem_nil -> zM0, pairwise_append -> zQ0, pairwise_cons -> zR0, append_nil -> zS0, flatMap_append -> zT0, flatMap_cons -> zU0, getElem?_map -> zV0
open Nat renaming lt_of_lt_of_le -> zF0, ble_eq_true_of_le -> zG0, le_refl -> zN0, lt_succ_self -> zO0, le_trans -> zP0, zero_le -> zY0
noncomputable section
set_option linter.unusedVariables false
set_option linter.unusedSimpArgs false
namespace Go.X
def orZ (A B : QW) : QW := fun g => match A g with | some s => some s | none => B g
def orX (A B : Sums) : Sums := fun g => match A g with | some s => some s | none => B g
theorem SumFit.or {A B : QW} {A' B' : Sums} (a : SumFit A A') (b : SumFit B B') : SumFit (orZ A B) (orX A' B') := by
  constructor
  · intro g hg
    unfold orZ at hg; unfold orX
    cases h : A g with
    | some s => rw [h] at hg; cases hg
    | none => rw [h] at hg; rw [a.none g h]; exact b.none g hg
  · intro g s hg
    unfold orZ at hg; unfold orX
    cases h : A g with
    | some s' =>
      rw [h] at hg
      cases hg
      obtain ⟨x, hx, hk⟩ := a.some g _ h
      exact ⟨x, by rw [hx], hk⟩
    | none => rw [h] at hg; rw [a.none g h]; exact b.some g s hg
theorem qk.or {P : Program} {W0 : World} {A B : Sums} (a : qk P W0 A) (b : qk P W0 B) : qk P W0 (orX A B) := by
  intro g s hg
  unfold orX at hg
  cases h : A g with
  | some s' => rw [h] at hg; cases hg; exact a g _ h
  | none => rw [h] at hg; exact b g s hg
end Go.X
namespace DfN
open Go Go.X Go.X.Df Go.Proofs
set_option maxRecDepth 100000
class GoodS (S : QW) : Prop where
  none : ∀ f, f ≠ 7 -> f ≠ 45 -> f ≠ 38 -> f ≠ 12 -> f ≠ 19 -> f ≠ 20 -> S f = none
  clone : ∀ {lf n : Nat} {h : Q0} {K : ZK} {s : SL} {k : Ky}, qz h s k -> k.length <= 4294967296 -> (∀ h' s', Q5 Qa h h' -> qy h h' s' k -> K (.sl s') h') -> Qq Try.prog S lf (n + 1) 38 [.sl s] K h
theorem hSD {S : QW} [g : GoodS S] {f : Nat} (h1 : f ≠ 7) (h2 : f ≠ 45) (h3 : f ≠ 38 := by decide) (h4 : f ≠ 12 := by decide) (h5 : f ≠ 19 := by decide) (h6 : f ≠ 20 := by decide) : S f = none := g.none f h1 h2 h3 h4 h5 h6
theorem qWi {k : Nat} (h : k <= 4294967296) : jy Try.prog 5 k = true := by
  have e0 : qJ4 Try.prog 5 = some 1 := by kernel_rfl
  unfold jy; rw [e0]
  show cnd (Nat.ble (Nat.mul k 1) jX) (Nat.ble k jX) false = true
  have e1 : Nat.ble (Nat.mul k 1) jX = true := zG0 (by show k * 1 <= 1099511627776; omega)
  have e2 : Nat.ble k jX = true := zG0 (by show k <= 1099511627776; omega)
  rw [e1, e2]; rfl
section
variable {S : QW} [GoodS S] {lf n : Nat} {h : Q0} {K : ZK}
theorem clone0_ok {S : QW} (hS : S 38 = none) {s : SL} {k : Ky} (hb : qz h s k) (hl : k.length <= 4294967296) (hk : ∀ h' s', Q5 Qa h h' -> Cln h h' s' k -> K (.sl s') h') :
    Qq Try.prog S lf (n + 1) 38 [.sl s] K h := by
  refine QJ hS (by kernel_rfl) ?_
  rw [clone_nf]
  cases hn : s.isNil with
  | true =>
    rw [qBi]
    have : k = [] := List.eq_nil_of_length_eq_zero (by rw [<- hb.len, SL.n_nil (SL.isNil_nil hn)])
    subst this
    exact hk _ _ (Q5.refl _ _) ⟨qz.nil _ _, fun e => (by cases e), fun _ => rfl⟩
  | false =>
    rw [qAz]
    exact (hb.seg.fr (Q5.newO Qa h _) fun _ => id).zsrc (qSx hb (qWi hl) (Q := fun h' s' => K (.sl s') h') fun h' s' f w _ => hk h' s' f w)
theorem qMm {s : SL} {k : Ky} (hb : qz h s k) (hl : k.length <= 4294967296) (hk : ∀ h' s', Q5 Qa h h' -> qy h h' s' k -> K (.sl s') h') :
    Qq Try.prog S lf (n + 1) 38 [.sl s] K h := GoodS.clone hb hl hk
theorem equal_ok {a b : SL} {x y : Ky} (ha : qz h a x) (hb : qz h b y) (k : K (.bool (decide (x = y))) h) : Qq Try.prog S lf (n + 1) 35 [.sl a, .sl b] K h := by
  refine QJ (hSD (by decide) (by decide)) (by kernel_rfl) ?_
  rw [equal_nf]
  exact ha.zbytes (hb.zbytes k)
def cmpK (x y : Ky) : Int := if Qm x y = true then -1 else if x = y then 0 else 1
theorem jAr {a b : SL} {x y : Ky} (ha : qz h a x) (hb : qz h b y) (k : K (.int .i64 (cmpK x y)) h) : Qq Try.prog S lf (n + 1) 50 [.sl a, .sl b] K h := by
  refine QJ (hSD (by decide) (by decide)) (by kernel_rfl) ?_
  rw [jAs]
  exact ha.zbytes (hb.zbytes (qFa.2 k))
structure CR where
  ks : SL
  os : SL
  ns : SL
  c : Ch
def CR.row (x : CR) : List AV := [x.ks.av, .bool x.c.had, .bool x.c.has, x.os.av, x.ns.av]
def CR.val (x : CR) : ZV := .agg [.sl x.ks, .bool x.c.had, .bool x.c.has, .sl x.os, .sl x.ns]
def SlLt (s t : SL) : Prop := s.nil = false -> t.nil = false -> s.i < t.i
theorem SlLt.nil (s : SL) : SlLt s QE := fun _ e => by cases e
theorem SlLt.nil' (s : SL) : SlLt QE s := fun e => by cases e
def CR.sls (x : CR) : List SL := [x.ks, x.os, x.ns]
def CR.Ord (x : CR) : Prop := SlLt x.ks x.os /\ SlLt x.ks x.ns /\ SlLt x.os x.ns
def CR.Ok (h0 h : Q0) (x : CR) : Prop := qy h0 h x.ks x.c.k /\ qy h0 h x.os x.c.old /\ qy h0 h x.ns x.c.new
theorem CR.Ok.fr {h0 h h' : Q0} {x : CR} {S : Nat -> Prop} (a : x.Ok h0 h) (f : Q5 S h h') (hs : ∀ i, S i -> h0.next <= i -> (x.ks.nil = false /\ i = x.ks.i) ∨ (x.os.nil = false /\ i = x.os.i) ∨ (x.ns.nil = false /\ i = x.ns.i) -> False) : x.Ok h0 h' :=
  ⟨a.1.fr f fun e hi => hs _ hi (a.1.own e).1 (.inl ⟨e, rfl⟩), a.2.1.fr f fun e hi => hs _ hi (a.2.1.own e).1 (.inr (.inl ⟨e, rfl⟩)), a.2.2.fr f fun e hi => hs _ hi (a.2.2.own e).1 (.inr (.inr ⟨e, rfl⟩))⟩
structure ER where
  ks : SL
  vs : SL
  e : Ky × Ky
def ER.row (x : ER) : List AV := [x.ks.av, x.vs.av]
def ER.Ok (h : Q0) (x : ER) : Prop := qz h x.ks x.e.1 /\ qz h x.vs x.e.2
theorem ER.Ok.fr {h h' : Q0} {x : ER} (a : x.Ok h) (f : Q5 Qa h h') : x.Ok h' := ⟨a.1.fr f fun _ => id, a.2.fr f fun _ => id⟩
abbrev j1 (h : Q0) (s : SL) (l : List ER) : Prop := Rws 2 ER.row (fun h x => ER.Ok h x) h s l
theorem j1.fr {h h' : Q0} {s : SL} {l : List ER} (a : j1 h s l) (f : Q5 Qa h h') : j1 h' s l := Rws.fr a f (fun _ => id) fun _ _ q => q.fr f
structure PE (h : Q0) (nil : Bool) (i o : Nat) (x : Option ER) : Prop where
  nil : nil = x.isNone
  some : ∀ y, x = some y -> i < h.next /\ cellAt h i o = some y.ks.av /\ cellAt h i (o + 1) = some y.vs.av /\ y.Ok h
theorem PE.fr {h h' : Q0} {nil : Bool} {i o : Nat} {x : Option ER} (a : PE h nil i o x) (f : Q5 Qa h h') : PE h' nil i o x :=
  ⟨a.nil, fun y hy => by
    obtain ⟨h1, h2, h3, h4⟩ := a.some y hy
    have e := f.same i h1 id
    exact ⟨zF0 h1 f.next, (qVk e).trans h2, (qVk e).trans h3, h4.fr f⟩⟩
theorem Var.put_all {h : Q0} {i : Nat} {cs vs : List AV} (x : Var h i cs) (e : vs.length = cs.length) : Var (hput h i 0 vs) i vs := by
  have := x.put 0 vs
  rwa [List.take_zero, List.nil_append, Nat.zero_add, e, List.drop_length, zS0] at this
def Small (e : Ky × Ky) : Prop := e.1.length <= 4294967296 /\ e.2.length <= 4294967296
def chg (k : Ky) (x y : Option ER) : Ch := ⟨k, x.isSome, y.isSome, (match x with | some a => a.e.2 | none => []), match y with | some b => b.e.2 | none => []⟩
theorem qMn {H : Q0} {c r : Nat} {x : CR} {rs : List AV} (vc : Var H c x.row) (vr : Var H r rs) (hr : rs.length = 5) (k : K x.val (hput H r 0 x.row)) :
    Q6 (false = false) (Qb H c 0 fun s_4 => js H c 1 fun b_1 => js H c 2 fun b_2 => Qb H c 3 fun s_5 => Qb H c 4 fun s_6 => Q6 (false = false) (jb H r 0 5 (Q6 (false = false)
      (Qb (hput H r 0 [SL.av s_4, AV.bool b_1, AV.bool b_2, SL.av s_5, SL.av s_6]) r 0 fun s_7 => js (hput H r 0 [SL.av s_4, AV.bool b_1, AV.bool b_2, SL.av s_5, SL.av s_6]) r 1 fun b_3 =>
      js (hput H r 0 [SL.av s_4, AV.bool b_1, AV.bool b_2, SL.av s_5, SL.av s_6]) r 2 fun b_4 => Qb (hput H r 0 [SL.av s_4, AV.bool b_1, AV.bool b_2, SL.av s_5, SL.av s_6]) r 3 fun s_8 =>
      Qb (hput H r 0 [SL.av s_4, AV.bool b_1, AV.bool b_2, SL.av s_5, SL.av s_6]) r 4 fun s_9 => K (ZV.agg [ZV.sl s_7, ZV.bool b_3, ZV.bool b_4, ZV.sl s_8, ZV.sl s_9]) (hput H r 0 [SL.av s_4, AV.bool b_1, AV.bool b_2, SL.av s_5, SL.av s_6]))))) := by
  have v2 : Var (hput H r 0 x.row) r x.row := Var.put_all vr (by rw [hr]; rfl)
  exact ⟨rfl, vc.ldL x.ks rfl (vc.ldB x.c.had rfl (vc.ldB x.c.has rfl (vc.ldL x.os rfl (vc.ldL x.ns rfl ⟨rfl, vr.zput (by omega) ⟨rfl, v2.ldL x.ks rfl (v2.ldB x.c.had rfl (v2.ldB x.c.has rfl (v2.ldL x.os rfl (v2.ldL x.ns rfl k))))⟩⟩))))⟩
theorem qKx {ks : SL} {k : Ky} {n1 n2 : Bool} {i1 o1 i2 o2 : Nat} {x y : Option ER} (hb : qz h ks k) (hl : k.length <= 4294967296) (hx : PE h n1 i1 o1 x) (hy : PE h n2 i2 o2 y)
    (sx : ∀ a, x = some a -> Small a.e) (sy : ∀ a, y = some a -> Small a.e) (hk : ∀ h' (c : CR), Q5 Qa h h' -> c.c = chg k x y -> c.Ok h h' -> c.Ord -> K c.val h') :
    Qq Try.prog S lf (n + 2) 51 [.sl ks, .pv n1 i1 o1, .pv n2 i2 o2] K h := by
  refine QJ (hSD (by decide) (by decide)) (by kernel_rfl) ?_
  rw [jAw]
  have f0 : Q5 Qa h (h.newO (.cells [AV.nils, AV.bool false, AV.bool false, AV.nils, AV.nils] 0 false false)) := Q5.newO _ _ _
  have vr0 := Var.new h [AV.nils, AV.bool false, AV.bool false, AV.nils, AV.nils]
  generalize hh0 : h.newO (.cells [AV.nils, AV.bool false, AV.bool false, AV.nils, AV.nils] 0 false false) = h0 at f0 vr0 ⊢
  have hn0 : h0.next = h.next + 1 := by rw [<- hh0]; rfl
  refine qMm (hb.fr f0 fun _ => id) hl fun h1 s1 f1 w1 => ?_
  rw [qDk]
  refine qe ⟨rfl, ?_⟩
  have vr1 := vr0.fr f1 id
  have hn1 := f1.next
  have vc2 := Var.new h1 [AV.nils, AV.bool false, AV.bool false, AV.nils, AV.nils]
  have f2 : Q5 Qa h1 (h1.newO (.cells [AV.nils, AV.bool false, AV.bool false, AV.nils, AV.nils] 0 false false)) := Q5.newO _ _ _
  refine vc2.zput (by simp) ?_
  have vc3 := Var.put_all vc2 (vs := [s1.av, AV.bool !n1, AV.bool !n2, AV.nils, AV.nils]) rfl
  have f3 := (Q5.hput (S := fun i => i = h1.next) (h1.newO (.cells [AV.nils, AV.bool false, AV.bool false, AV.nils, AV.nils] 0 false false)) (i := h1.next) 0 [s1.av, AV.bool !n1, AV.bool !n2, AV.nils, AV.nils] fun _ => rfl)
  have vr3 := (vr1.fr f2 id).fr f3 (by have := vr1.lt; intro e; omega)
  have w3 : qy h0 (hput (h1.newO (.cells [AV.nils, AV.bool false, AV.bool false, AV.nils, AV.nils] 0 false false)) h1.next 0 [s1.av, AV.bool !n1, AV.bool !n2, AV.nils, AV.nils]) s1 k :=
    (w1.fr f2 fun _ => id).fr f3 fun e => by have := w1.byts.seg.lt e; intro e; omega
  have ff3 : Q5 Qa h1 (hput (h1.newO (.cells [AV.nils, AV.bool false, AV.bool false, AV.nils, AV.nils] 0 false false)) h1.next 0 [s1.av, AV.bool !n1, AV.bool !n2, AV.nils, AV.nils]) :=
    Q5.back f2 f3 fun i hi e => by omega
  have hn3 : (hput (h1.newO (.cells [AV.nils, AV.bool false, AV.bool false, AV.nils, AV.nils] 0 false false)) h1.next 0 [s1.av, AV.bool !n1, AV.bool !n2, AV.nils, AV.nils]).next = h1.next + 1 := by rw [qg]; rfl
  generalize hput (h1.newO (.cells [AV.nils, AV.bool false, AV.bool false, AV.nils, AV.nils] 0 false false)) h1.next 0 [s1.av, AV.bool !n1, AV.bool !n2, AV.nils, AV.nils] = h3 at vc3 vr3 w3 ff3 hn3 ⊢
  clear f2 f3 vc2
  have F3 : Q5 Qa h h3 := (f0.trans f1).trans ff3
  have e1 := hx.nil
  have e2 := hy.nil
  have nilO : ∀ H : Q0, qy h H ⟨true, 0, 0, 0, 0, false⟩ [] := fun H => qy.nil _ _
  have done : ∀ (H : Q0) (cr : CR), Q5 Qa h H -> Var H h1.next cr.row -> (∃ rs, Var H h.next rs /\ rs.length = 5) -> cr.c = chg k x y -> cr.Ok h0 H -> cr.Ord -> ∃ rs, Var H h.next rs /\ rs.length = 5 /\ K cr.val (hput H h.next 0 cr.row) := by
    intro H cr F vc ⟨rs, vr, hl5⟩ hc hok hord
    refine ⟨rs, vr, hl5, hk _ cr (Q5.back F (vr.put_fr 0 cr.row) fun i hi e => by omega) hc ?_ hord⟩
    have : cr.Ok h0 (hput H h.next 0 cr.row) := hok.fr (vr.put_fr 0 cr.row) fun i e hi => by omega
    exact ⟨this.1.of (by omega), this.2.1.of (by omega), this.2.2.of (by omega)⟩
  cases x with
  | none =>
    have e1 : n1 = true := e1
    subst e1
    rw [Bool.not_true, qAz]
    cases y with
    | none =>
      have e2 : n2 = true := e2
      subst e2
      rw [Bool.not_true, qAz]
      obtain ⟨rs, vr, hl5, hK⟩ := done h3 ⟨s1, QE, QE, ⟨k, false, false, [], []⟩⟩ F3 vc3 ⟨_, vr3, rfl⟩ rfl ⟨w3, qy.nil _ _, qy.nil _ _⟩ ⟨.nil _, .nil _, .nil _⟩
      exact qMn (x := ⟨s1, QE, QE, ⟨k, false, false, [], []⟩⟩) vc3 vr hl5 hK
    | some b =>
      have e2 : n2 = false := e2
      subst e2
      rw [Bool.not_false, qBi]
      obtain ⟨q1, q2, q3, q4⟩ := (hy.fr F3).some b rfl
      refine ⟨rfl, rfl, rfl, Qh q3 (qMm q4.2 (sy b rfl).2 fun h4 s3 f4 w4 => ?_)⟩
      rw [qDk]
      have vc4 := vc3.fr f4 id
      refine qe ⟨rfl, rfl, vc4.zput (by simp) ?_⟩
      have vc5 := vc4.put 4 [s3.av]
      have f5 := vc4.put_fr 4 [s3.av]
      have hh := vr3.lt
      have g1 : ∀ e, s1.i ≠ h1.next := fun e => by have := w1.byts.seg.lt e; omega
      obtain ⟨rs, vr, hl5, hK⟩ := done (hput h4 h1.next 4 [s3.av]) ⟨s1, QE, s3, ⟨k, false, true, [], b.e.2⟩⟩ (Q5.back (F3.trans f4) f5 fun i hi e => by have := f0.next; omega) vc5 ⟨_, (vr3.fr f4 id).fr f5 (by have := vr1.lt; omega), rfl⟩ rfl
        ⟨(w3.fr f4 fun _ => id).fr f5 fun e => g1 e, qy.nil _ _, (w4.of (by omega)).fr f5 fun e => by have := (w4.own e).1; omega⟩ ⟨.nil _, fun (e : s1.nil = false) (e' : s3.nil = false) => show s1.i < s3.i by have := w1.byts.seg.lt e; have := (w4.own e').1; omega, .nil' _⟩
      exact qMn (x := ⟨s1, QE, s3, ⟨k, false, true, [], b.e.2⟩⟩) vc5 vr hl5 hK
  | some a =>
    have e1 : n1 = false := e1
    subst e1
    rw [Bool.not_false, qBi]
    obtain ⟨q1, q2, q3, q4⟩ := (hx.fr F3).some a rfl
    refine ⟨rfl, rfl, rfl, Qh q3 (qMm q4.2 (sx a rfl).2 fun h4 s3 f4 w4 => ?_)⟩
    rw [qDk]
    have vc4 := vc3.fr f4 id
    refine qe ⟨rfl, rfl, vc4.zput (by simp) ?_⟩
    have vc5 := vc4.put 3 [s3.av]
    have f5 := vc4.put_fr 3 [s3.av]
    have g1 : ∀ e, s1.i ≠ h1.next := fun e => by have := w1.byts.seg.lt e; omega
    have hn4 := f4.next
    have vr5 := (vr3.fr f4 id).fr f5 (by have := vr1.lt; omega)
    have F5 : Q5 Qa h (hput h4 h1.next 3 [s3.av]) := Q5.back (F3.trans f4) f5 fun i hi e => by have := f0.next; omega
    have w5 : qy h0 (hput h4 h1.next 3 [s3.av]) s1 k := (w3.fr f4 fun _ => id).fr f5 fun e => g1 e
    have w6 : qy h0 (hput h4 h1.next 3 [s3.av]) s3 a.e.2 := (w4.of (by omega)).fr f5 fun e => by have := (w4.own e).1; omega
    cases y with
    | none =>
      have e2 : n2 = true := e2
      subst e2
      rw [Bool.not_true, qAz]
      obtain ⟨rs, vr, hl5, hK⟩ := done (hput h4 h1.next 3 [s3.av]) ⟨s1, s3, QE, ⟨k, true, false, a.e.2, []⟩⟩ F5 vc5 ⟨_, vr5, rfl⟩ rfl ⟨w5, w6, qy.nil _ _⟩ ⟨fun (e : s1.nil = false) (e' : s3.nil = false) => show s1.i < s3.i by have := w1.byts.seg.lt e; have := (w4.own e').1; omega, .nil _, .nil _⟩
      exact qMn (x := ⟨s1, s3, QE, ⟨k, true, false, a.e.2, []⟩⟩) vc5 vr hl5 hK
    | some b =>
      have e2 : n2 = false := e2
      subst e2
      rw [Bool.not_false, qBi]
      obtain ⟨q1, q2, q3, q4⟩ := (hy.fr F5).some b rfl
      refine ⟨rfl, rfl, rfl, Qh q3 (qMm q4.2 (sy b rfl).2 fun h6 s5 f6 w7 => ?_)⟩
      rw [qDk]
      have vc6 := vc5.fr f6 id
      refine qe ⟨rfl, rfl, vc6.zput (by simp) ?_⟩
      have vc7 := vc6.put 4 [s5.av]
      have f7 := vc6.put_fr 4 [s5.av]
      have hn5 : (hput h4 h1.next 3 [s3.av]).next = h4.next := qg _ _ _ _
      have g3 : ∀ e, s3.i ≠ h1.next := fun e => by have := (w4.own e).1; omega
      obtain ⟨rs, vr, hl5, hK⟩ := done (hput h6 h1.next 4 [s5.av]) ⟨s1, s3, s5, ⟨k, true, true, a.e.2, b.e.2⟩⟩ (Q5.back (F5.trans f6) f7 fun i hi e => by have := f0.next; omega) vc7 ⟨_, (vr5.fr f6 id).fr f7 (by have := vr1.lt; omega), rfl⟩ rfl
        ⟨(w5.fr f6 fun _ => id).fr f7 fun e => g1 e, (w6.fr f6 fun _ => id).fr f7 fun e => g3 e, (w7.of (by omega)).fr f7 fun e => by have := (w7.own e).1; omega⟩ ⟨fun (e : s1.nil = false) (e' : s3.nil = false) => show s1.i < s3.i by have := w1.byts.seg.lt e; have := (w4.own e').1; omega, fun (e : s1.nil = false) (e' : s5.nil = false) => show s1.i < s5.i by have := w1.byts.seg.lt e; have := (w7.own e').1; omega, fun (e : s3.nil = false) (e' : s5.nil = false) => show s3.i < s5.i by have := w4.byts.seg.lt e; have := (w7.own e').1; omega⟩
      exact qMn (x := ⟨s1, s3, s5, ⟨k, true, true, a.e.2, b.e.2⟩⟩) vc7 vr hl5 hK
end
end DfN
namespace Go.X
def SlOk (s : SL) : Prop := s.nil = false -> s.len <= s.cap
theorem beq_of_eq {a b : Nat} (h : a = b) : Nat.beq a b = true := by subst h; exact Nat.beq_refl a
theorem qFl {a b : Nat} (h : a ≠ b) : Nat.beq a b = false := by
  cases hb : Nat.beq a b with
  | false => rfl
  | true => exact absurd (Nat.eq_of_beq_eq_true hb) h
theorem Rws.tail {α : Type} {sz : Nat} {row : α -> List AV} {Q : Q0 -> α -> Prop} {h : Q0} {s : SL} {x : α} {r : List α} (hsz : 0 < sz) (a : Rws sz row Q h s (x :: r)) (hs : SlOk s) :
    Rws sz row Q h (s.cut sz 1 s.n s.cap s.ext) r /\ SlOk (s.cut sz 1 s.n s.cap s.ext) := by
  have hn := a.nil_of hsz (j := 0) (by simp)
  have hl := a.len' hsz hn
  have hc := hs hn
  simp only [zK0] at hl
  have hrl : ∀ y, y ∈ r -> (row y).length = sz := fun y hy => a.rl y (zA0 _ hy)
  have hok : ∀ y, y ∈ r -> Q h y := fun y hy => a.ok y (zA0 _ hy)
  obtain ⟨c, hcs, h1, h2⟩ := a.seg.src hn
  have hlt := a.seg.lt hn
  have hrow : (row x).length = sz := a.rl x zB0
  have hflat : (r.flatMap row).length = r.length * sz := qEr hrl
  rw [zU0] at h1
  unfold SL.cut
  rw [hn, SL.n_of hn]
  cases hb : Nat.beq 1 s.cap with
  | true =>
    have hcap := Nat.eq_of_beq_eq_true hb
    have : r = [] := List.eq_nil_of_length_eq_zero (by omega)
    subst this
    cases s.ext with
    | true => exact ⟨Rws.nil _ _, fun e => (by cases e)⟩
    | false =>
      refine ⟨⟨⟨?_, fun _ => hlt, fun _ => ⟨c, hcs, ?_, ?_⟩⟩, hrl, hok⟩, fun _ => ?_⟩
      · show (0 : Nat) = (s.len - 1) * sz
        rw [show s.len - 1 = 0 by rw [hl]; rfl, Nat.zero_mul]
      · show (c.drop s.o).take ((s.len - 1) * sz) = []
        rw [show s.len - 1 = 0 by rw [hl]; rfl, Nat.zero_mul, List.take_zero]
      · show (s.len - 1) * sz <= _
        rw [show s.len - 1 = 0 by rw [hl]; rfl, Nat.zero_mul]; exact zY0 _
      · show s.len - 1 <= s.cap - 1
        omega
  | false =>
    have hlen : s.len * sz = sz + (s.len - 1) * sz := by
      rw [show s.len = (s.len - 1) + 1 by omega, Nat.add_mul, Nat.one_mul, Nat.add_sub_cancel]; omega
    simp only [Bool.false_and]
    refine ⟨⟨⟨?_, fun _ => hlt, fun _ => ⟨c, hcs, ?_, ?_⟩⟩, hrl, hok⟩, fun _ => ?_⟩
    · show _ = (s.len - 1) * sz
      rw [hflat]; congr 1; omega
    · show (c.drop (s.o + 1 * sz)).take ((s.len - 1) * sz) = _
      rw [Nat.one_mul, <- List.drop_drop]
      have e : ((c.drop s.o).take (s.len * sz)).drop sz = r.flatMap row := by
        rw [h1, List.drop_append_of_le_length (by omega), <- hrow, List.drop_length, List.nil_append]
      rw [hlen] at e
      rw [List.drop_take, Nat.add_sub_cancel_left] at e
      exact e
    · show (s.len - 1) * sz <= (c.drop (s.o + 1 * sz)).length
      rw [Nat.one_mul, <- List.drop_drop, List.length_drop]
      omega
    · show s.len - 1 <= s.cap - 1
      omega
end Go.X
namespace DfN
open Go Go.X Go.X.Df Go.Proofs
set_option maxRecDepth 100000
structure Side (h0 h : Q0) (v : Nat) (X : List ER) : Prop where
  le : h0.next <= v
  at' : ∃ rest n i o, Var h v [rest.av, (ZV.pv n i o).av] /\ PE h0 n i o X.head? /\ j1 h0 rest X.tail /\ SlOk rest
section
variable {S : QW} [GoodS S] {lf n : Nat} {h h0 : Q0} {K : ZK}
theorem qI0 {K : (Nat -> AV) -> Prop} (k : ∀ f, K f) : ZRT (ZV.tup []).av 0 K := ⟨fun _ => .junk, by simp [qVq], k _⟩
theorem on_ok {v : Nat} {s : SL} {p : AV} {X : List ER} (hv : Var h v [s.av, p]) (hle : h0.next <= v) (f0 : Q5 Qa h0 h) (hx : j1 h0 s X) (hs : SlOk s)
    (hk : ∀ h', Q5 (fun i => i = v) h h' -> Side h0 h' v X -> K (.tup []) h') : Qq Try.prog S lf (n + 1) 49 [.pv false v 0] K h := by
  refine QJ (hSD (by decide) (by decide)) (by kernel_rfl) ?_
  rw [on_nf]
  have v1 := hv.put 1 [AV.nilp]
  have f1 := hv.put_fr 1 [AV.nilp]
  have ln := hx.len (by decide)
  have en : (Int.ofNat s.n : Int) = s.n := rfl
  refine ⟨rfl, rfl, rfl, hv.zput (by simp) ⟨rfl, rfl, rfl, v1.ldL s rfl ?_⟩⟩
  rw [q9]
  refine ⟨fun e => ?_, fun e => ?_⟩
  · cases X with
    | nil => simp only [List.length_nil] at ln; omega
    | cons x r =>
      have hn := hx.nil_of (by decide) (j := 0) (by simp)
      have hl := hx.len' (by decide) hn
      have hc := hs hn
      simp only [zK0] at hl
      obtain ⟨t1, t2⟩ := hx.tail (by decide) hs
      refine ⟨rfl, rfl, rfl, v1.ldL s rfl ⟨hn, qTb.2 ⟨by omega, rfl, rfl, rfl, v1.ldL s rfl (qCd.2 ⟨⟨fun e => (by rw [hn] at e; cases e), fun _ => ⟨?_, ?_⟩⟩, rfl, rfl, rfl, v1.zput (by simp) ⟨rfl, rfl, rfl, ?_⟩⟩)⟩⟩⟩
      · rw [SL.n_of hn]; show 1 <= s.len; omega
      · rw [SL.n_of hn]; exact hc
      have v2 := v1.put 1 [AV.ptr s.i (s.o + 0 * 2)]
      have f2 := v1.put_fr 1 [AV.ptr s.i (s.o + 0 * 2)]
      refine v2.zput (by simp) ?_
      have v3 := v2.put 0 [(s.cut 2 1 s.n s.cap s.ext).av]
      have f3 := v2.put_fr 0 [(s.cut 2 1 s.n s.cap s.ext).av]
      refine hk _ ((f1.trans f2).trans f3) ⟨hle, s.cut 2 1 s.n s.cap s.ext, false, s.i, s.o + 0 * 2, ?_, ⟨rfl, fun y hy => ?_⟩, t1, t2⟩
      · rw [qC8]; exact v3
      · cases hy
        exact ⟨hx.seg.lt hn, hx.at' hn (j := 0) rfl (q := 0) (by decide) rfl, hx.at' hn (j := 0) rfl (q := 1) (by decide) rfl, hx.ok x zB0⟩
  · cases X with
    | cons x r => simp only [zK0] at ln; omega
    | nil => exact hk _ f1 ⟨hle, s, true, 0, 0, by rw [av_pvt]; exact v1, ⟨rfl, fun y hy => (by cases hy)⟩, hx, hs⟩
def sameC (c : Ch) : Bool := decide (c.had = c.has) && (!c.had || decide (c.old = c.new))
theorem sm_ok {x : CR} {h0 : Q0} (hx : x.Ok h0 h) (hk : ∀ h', Q5 Qa h h' -> K (.bool (sameC x.c)) h') : Qq Try.prog S lf (n + 2) 52 [x.val] K h := by
  obtain ⟨ks, os, ns, ⟨k, had, has, old, new⟩⟩ := x
  refine QJ (hSD (by decide) (by decide)) (by kernel_rfl) ?_
  show zAt Try.prog (Qq Try.prog S lf (n + 1)) lf 52 [] (j0 (QC Try.prog 52) [.agg [.sl ks, .bool had, .bool has, .sl os, .sl ns]]) (Q3 Try.prog 52 K) ⟨[], Q3 Try.prog 52 K⟩ h
  rw [sm_nf]
  have v := Var.new h [ks.av, .bool had, .bool has, os.av, ns.av]
  have f : Q5 Qa h (h.newO (.cells [ks.av, .bool had, .bool has, os.av, ns.av] 0 false false)) := Q5.newO _ _ _
  have hk := hk _ f
  refine ⟨rfl, rfl, v.ldB had rfl ⟨rfl, rfl, v.ldB has rfl ?_⟩⟩
  cases had with
  | false =>
    cases has with
    | false => exact ⟨rfl, rfl, v.ldB false rfl hk⟩
    | true => exact hk
  | true =>
    cases has with
    | false => exact hk
    | true =>
      refine ⟨rfl, rfl, v.ldB true rfl ⟨rfl, rfl, v.ldL os rfl ⟨rfl, rfl, v.ldL ns rfl (equal_ok (hx.2.1.byts.fr f fun _ => id) (hx.2.2.byts.fr f fun _ => id) ?_)⟩⟩⟩
      rw [qA1]
      exact qDf.2 hk
end
end DfN
namespace DfN
open Go Go.X Go.X.Df Go.Proofs
set_option maxRecDepth 100000
structure YI (L o : Nat) (r0 : qV) (gB h : Q0) (ys : List CR) : Prop where
  loop : h.get L = some (.loop r0)
  lt : L < h.next
  ne : L ≠ o
  below : L < gB.next /\ o < gB.next
  at' : ∃ s, Var h o [s.av] /\ Grown gB h s 5 ys.length (ys.flatMap CR.row) /\ (s.nil = false -> ys ≠ [])
  ok : ∀ y, y ∈ ys -> y.Ok gB h
  rise : (ys.flatMap CR.sls).Pairwise SlLt
theorem CR.row_len (x : CR) : x.row.length = 5 := rfl
section
variable {S : QW} [GoodS S] {lf n L o : Nat} {h gB : Q0} {K : ZK} {r0 : qV} {ys : List CR}
theorem YI.fr (y : YI L o r0 gB h ys) {S : Nat -> Prop} {h' : Q0} (f : Q5 S h h') (hs : ∀ i, S i -> i < gB.next /\ i ≠ L /\ i ≠ o) : YI L o r0 gB h' ys := by
  obtain ⟨s, v, g, gn⟩ := y.at'
  refine ⟨(f.same _ y.lt fun e => (hs _ e).2.1 rfl).trans y.loop, zF0 y.lt f.next, y.ne, y.below, ⟨s, v.fr f fun e => (hs _ e).2.2 rfl, ?_, gn⟩, fun z hz => (y.ok z hz).fr f fun i e hi => (by have := (hs _ e).1; omega), y.rise⟩
  refine g.fr f fun e1 e2 => ?_
  rcases g.2 with ⟨_, rfl⟩ | ⟨_, _, _, _, _, h6, _⟩
  · cases e1
  · have := (hs _ e2).1; omega
theorem row_ne {h0 : Q0} {s t : SL} {k : Ky} {m : Nat} (g : Grown gB h s 5 m (ys.flatMap CR.row)) (hy : ys ≠ []) (w : qy h0 h t k) (hs : s.nil = false) (ht : t.nil = false) : t.i ≠ s.i := by
  intro e
  obtain ⟨_, _, _, c, hg, _, _⟩ := w.own ht
  rcases g.2 with ⟨_, rfl⟩ | ⟨_, _, _, _, _, _, _, h8⟩
  · cases hs
  · rw [e, h8] at hg
    cases hg
theorem sls_lt {h0 : Q0} (ok : ∀ y, y ∈ ys -> y.Ok h0 h) : ∀ s, s ∈ ys.flatMap CR.sls -> s.nil = false -> s.i < h.next := fun s hs e => by
  obtain ⟨y, hy, hs⟩ := List.mem_flatMap.1 hs
  have w := ok y hy
  simp only [CR.sls, zL0, zM0, or_false] at hs
  rcases hs with rfl | rfl | rfl
  · exact w.1.byts.seg.lt e
  · exact w.2.1.byts.seg.lt e
  · exact w.2.2.byts.seg.lt e
theorem qYe {k : Nat} (h : k <= 8589934592) : jy Try.prog 54 k = true := by
  have e0 : qJ4 Try.prog 54 = some 80 := by kernel_rfl
  unfold jy; rw [e0]
  show cnd (Nat.ble (Nat.mul k 80) jX) (Nat.ble k jX) false = true
  have e1 : Nat.ble (Nat.mul k 80) jX = true := zG0 (by show k * 80 <= 1099511627776; omega)
  have e2 : Nat.ble k jX = true := zG0 (by show k <= 1099511627776; omega)
  rw [e1, e2]; rfl
theorem CR.Ok.fr' {h0 h h' : Q0} {x : CR} {S : Nat -> Prop} (a : x.Ok h0 h) (f : Q5 S h h') (hs : ∀ i, S i -> ∀ s k, qy h0 h s k -> s.nil = false -> i ≠ s.i) : x.Ok h0 h' :=
  a.fr f fun i e hi ho => by
    rcases ho with ⟨h1, h2⟩ | ⟨h1, h2⟩ | ⟨h1, h2⟩
    · exact hs i e _ _ a.1 h1 h2
    · exact hs i e _ _ a.2.1 h1 h2
    · exact hs i e _ _ a.2.2 h1 h2
def qs (t : TT) (d : Nat) : qV := ⟨.ready, .normal, 12, t, [16, 10], j9 Try.prog 12 [1, 1, 0, 1, 0, 0], j9 Try.prog 12 [1, 1, 0, 1, 0, 1], d⟩
theorem yield_ok {t : TT} {z : ZT} {dd : Nat} (y : YI L o (qs t dd) gB h ys) (ag : Agr t z) (hz : ZAt 16 [(5, .pv false o 0)] z) {x : CR} {hm : Q0} (hxm : x.Ok hm h) (hord : x.Ord) (hgm : gB.next <= hm.next) (hys : ∀ s, s ∈ ys.flatMap CR.sls -> s.nil = false -> s.i < hm.next) (hl : ys.length < 8589934592) (hgn : gB.next <= h.next)
    (hk : ∀ h', Q5 (fun i => i = L ∨ i = o ∨ gB.next <= i) h h' -> YI L o (qs t dd) gB h' (ys ++ [x]) -> K (.bool true) h') :
    Qq Try.prog S lf (n + 1) (93 + L) [x.val] K h := by
  have hx : x.Ok gB h := ⟨hxm.1.of hgm, hxm.2.1.of hgm, hxm.2.2.of hgm⟩
  have e93 : (93 + L : Nat) = rndId Try.prog L := by
    unfold rndId; rw [show Try.prog.funcs.size = 93 by kernel_rfl]
  rw [e93]
  obtain ⟨d, rfl⟩ := hz.tab
  refine zRound_at ⟨qs t dd, 16, [10], _, y.loop, rfl, by decide, ag, ?_⟩
  have e16 : QC Try.prog 12 = 16 := by kernel_rfl
  have hr := lists_r (Qq Try.prog S lf n) lf L K h o x.ks x.c.had x.c.has x.os x.ns d
  rw [e16] at hr
  refine hr.mpr ?_
  clear hr
  obtain ⟨s, vo, g, gn⟩ := y.at'
  obtain ⟨b1, b2⟩ := y.below
  have v1 := Var.new h [AV.nils, AV.bool false, AV.bool false, AV.nils, AV.nils]
  have f1 : Q5 Qa h (h.newO (.cells [AV.nils, AV.bool false, AV.bool false, AV.nils, AV.nils] 0 false false)) := Q5.newO _ _ _
  refine ⟨rfl, v1.zput (by simp) ?_⟩
  have v2 : Var (hput (h.newO (.cells [AV.nils, AV.bool false, AV.bool false, AV.nils, AV.nils] 0 false false)) h.next 0 x.row) h.next x.row := Var.put_all v1 rfl
  have f2 := Q5.back f1 (v1.put_fr 0 x.row) fun i hi e => by omega
  have hn2 : (hput (h.newO (.cells [AV.nils, AV.bool false, AV.bool false, AV.nils, AV.nils] 0 false false)) h.next 0 x.row).next = h.next + 1 := by rw [qg]; rfl
  show ZEnd (hput (h.newO (.cells [AV.nils, AV.bool false, AV.bool false, AV.nils, AV.nils] 0 false false)) h.next 0 x.row) L _
  generalize hput (h.newO (.cells [AV.nils, AV.bool false, AV.bool false, AV.nils, AV.nils] 0 false false)) h.next 0 x.row = h2 at v2 f2 hn2 ⊢
  clear f1 v1
  have g2 := g.fr f2 fun _ => id
  have vo2 := vo.fr f2 id
  have x2 : x.Ok gB h2 := hx.fr f2 fun _ e => e.elim
  have ys2 : ∀ y, y ∈ ys -> y.Ok gB h2 := fun q hq => (y.ok q hq).fr f2 fun _ e => e.elim
  have hL2 : L < h2.next := zF0 y.lt f2.next
  refine ⟨qs t dd, (f2.same _ y.lt id).trans y.loop, hL2, rfl, rfl, ?_⟩
  generalize hh3 : h2.put L _ = h3
  have f3 : Q5 (fun i => i = L) h2 h3 := by rw [<- hh3]; exact Q5.put h2 _ fun _ => rfl
  have hn3 : h3.next = h2.next := by rw [<- hh3]; rfl
  have l3 : h3.get L = some (.loop ⟨.busy, .normal, 12, t, [16, 10], j9 Try.prog 12 [1, 1, 0, 1, 0, 0], j9 Try.prog 12 [1, 1, 0, 1, 0, 1], dd⟩) := by rw [<- hh3]; exact qD1 _ _ _
  clear hh3
  have vo3 := vo2.fr f3 (Ne.symm y.ne)
  have hyl := y.lt
  have v3 := v2.fr f3 (by omega)
  have g3 := g2.fr f3 fun e1 e2 => by
    rcases g.2 with ⟨_, rfl⟩ | ⟨_, _, _, _, _, h6, _⟩
    · cases e1
    · omega
  have nb : ∀ {hh : Q0} (i : Nat), i < gB.next -> ∀ s k, qy gB hh s k -> s.nil = false -> i ≠ s.i := fun i hi s k w e => by have := (w.own e).1; omega
  have x3 : x.Ok gB h3 := x2.fr' f3 fun i e => nb i (by rw [e]; exact b1)
  have ys3 : ∀ y, y ∈ ys -> y.Ok gB h3 := fun q hq => (ys2 q hq).fr' f3 fun i e => nb i (by rw [e]; exact b1)
  refine vo3.ldL s rfl ⟨rfl, v3.ldL x.ks rfl (v3.ldB x.c.had rfl (v3.ldB x.c.has rfl (v3.ldL x.os rfl (v3.ldL x.ns rfl ?_))))⟩
  rw [show [x.ks.av, AV.bool x.c.had, AV.bool x.c.has, x.os.av, x.ns.av] = x.row from rfl]
  have f4 : Q5 Qa h3 (h3.newO (.cells x.row 5 false false)) := Q5.newO _ _ _
  have sg : Seg (h3.newO (.cells x.row 5 false false)) ⟨false, h3.next, 0, 1, 1, false⟩ 5 x.row := Seg.own (more := []) rfl (zO0 _) (by rw [zS0]; exact Ql _ _)
  refine sg.zsrc ?_
  have g4 := g3.fr f4 fun _ => id
  have vo4 := vo3.fr f4 id
  have x4 : x.Ok gB _ := x3.fr f4 fun _ e => e.elim
  have ys4 : ∀ y, y ∈ ys -> y.Ok gB _ := fun q hq => (ys3 q hq).fr f4 fun _ e => e.elim
  have l4 := (f4.same L (by omega) id).trans l3
  have hn4 : (h3.newO (.cells x.row 5 false false)).next = h3.next + 1 := rfl
  generalize hh4 : h3.newO (.cells x.row 5 false false) = h4 at f4 g4 vo4 x4 ys4 l4 hn4 ⊢
  have pl : QL x.row = true := qH.2 fun v hv => by
    simp only [CR.row, zL0, zM0, or_false] at hv
    rcases hv with rfl | rfl | rfl | rfl | rfl
    · exact jB _
    · rfl
    · rfl
    · exact jB _
    · exact jB _
  refine g4.append1 (by omega) (by decide) rfl pl (qYe (by omega)) fun g5 f5 hi5 => ?_
  generalize Qx h4 s 5 1 x.row = h5 at g5 f5 ⊢
  have hnl : s.nil = false -> s.i < gB.next -> False := fun e1 e2 => by
    rcases g.2 with ⟨_, rfl⟩ | ⟨_, _, _, _, _, h6, _⟩
    · cases e1
    · omega
  have vo5 := vo4.fr f5 fun ⟨e1, e2⟩ => hnl e1 (by omega)
  refine ⟨rfl, vo5.zput (by simp) ?_⟩
  generalize hs' : s.app _ 1 = s' at g5 hi5 ⊢
  have vo6 : Var (hput h5 o 0 [s'.av]) o [s'.av] := Var.put_all vo5 rfl
  have f6 := vo5.put_fr 0 [s'.av]
  have hn6 : (hput h5 o 0 [s'.av]).next = h5.next := qg _ _ _ _
  generalize hput h5 o 0 [s'.av] = h6 at vo6 f6 hn6 ⊢
  have hn5 := f5.next
  have l5 := (f5.same L (by omega) fun ⟨e1, e2⟩ => hnl e1 (by omega)).trans l4
  have l6 := (f6.same L (by omega) y.ne).trans l5
  refine ⟨_, l6, by omega, ?_⟩
  show K (.bool true) (h6.put L (some (.loop (qs t dd))))
  have f7 : Q5 (fun i => i = L) h6 (h6.put L (some (.loop (qs t dd)))) := Q5.put h6 _ fun _ => rfl
  have rowne : ∀ i, (s.nil = false /\ i = s.i) -> ∀ q k, qy gB h4 q k -> q.nil = false -> i ≠ q.i := fun i ⟨e1, e2⟩ q k w e => by
    rw [e2]
    exact (row_ne g4 (gn e1) w e1 e).symm
  have x5 : x.Ok gB h5 := x4.fr' f5 rowne
  have ys5 : ∀ y, y ∈ ys -> y.Ok gB h5 := fun q hq => (ys4 q hq).fr' f5 rowne
  have x7 : x.Ok gB _ := (x5.fr' f6 fun i e => nb i (by rw [e]; exact b2)).fr' f7 fun i e => nb i (by rw [e]; exact b1)
  have ys7 : ∀ y, y ∈ ys -> y.Ok gB _ := fun q hq => ((ys5 q hq).fr' f6 fun i e => nb i (by rw [e]; exact b2)).fr' f7 fun i e => nb i (by rw [e]; exact b1)
  have hsi' : s'.nil = false -> gB.next <= s'.i := fun e => by
    rcases g5.2 with ⟨_, rfl⟩ | ⟨_, _, _, _, _, h6', _⟩
    · cases e
    · exact h6'
  refine hk _ ?_ ⟨qD1 _ _ _, by show L < h6.next; omega, y.ne, y.below, ⟨s', vo6.fr f7 (Ne.symm y.ne), ?_, fun _ => by simp⟩, fun q hq => ?_, ?_⟩
  · refine ⟨?_, fun i hi ht => ?_⟩
    · show h.next <= h6.next
      omega
    · have ht1 : i ≠ L := fun e => ht (.inl e)
      have ht2 : i ≠ o := fun e => ht (.inr (.inl e))
      have ht3 : i < gB.next := Nat.lt_of_not_le fun e => ht (.inr (.inr e))
      rw [f7.same i (by omega) ht1, f6.same i (by omega) ht2, f5.same i (by omega) fun ⟨e1, e2⟩ => hnl e1 (by omega), f4.same i (by omega) id, f3.same i (by omega) ht1, f2.same i hi id]
  · rw [zC0, zT0]
    have : (List.flatMap CR.row [x]) = x.row := by simp
    rw [this]
    exact (g5.fr f6 fun e1 e2 => by have := hsi' e1; omega).fr f7 fun e1 e2 => by have := hsi' e1; omega
  · rcases List.mem_append.1 hq with h1 | h1
    · exact ys7 q h1
    · rw [List.mem_singleton.1 h1]; exact x7
  · rw [zT0, zQ0]
    refine ⟨y.rise, ?_, fun s hs t ht e1 e2 => ?_⟩
    · simp only [zU0, List.flatMap_nil, zS0, CR.sls, zR0, zL0, zM0, or_false, forall_eq_or_imp, forall_eq, List.Pairwise.nil, and_true, false_implies, implies_true]
      exact ⟨⟨hord.1, hord.2.1⟩, hord.2.2⟩
    · have h1 := hys s hs e1
      simp only [zU0, List.flatMap_nil, zS0, CR.sls, zL0, zM0, or_false] at ht
      rcases ht with rfl | rfl | rfl
      · have := (hxm.1.own e2).1; omega
      · have := (hxm.2.1.own e2).1; omega
      · have := (hxm.2.2.own e2).1; omega
end
end DfN
namespace DfN
open Go Go.X Go.X.Df Go.Proofs
set_option maxRecDepth 100000
structure Cx (g0 hb gB : Q0) (L o v6 v7 : Nat) : Prop where
  n67 : v6 ≠ v7
  n6L : v6 ≠ L
  n6o : v6 ≠ o
  n7L : v7 ≠ L
  n7o : v7 ≠ o
  b6 : v6 < gB.next
  b7 : v7 < gB.next
  gL : g0.next <= L
  go : g0.next <= o
  gg : g0.next <= gB.next
  h6 : hb.next <= v6
  h7 : hb.next <= v7
  hB : hb.next <= gB.next
structure St (g0 hb gB : Q0) (L o v6 v7 : Nat) (r0 : qV) (h : Q0) (X Z : List ER) (ys : List CR) : Prop where
  s6 : Side g0 h v6 X
  s7 : Side g0 h v7 Z
  yi : YI L o r0 gB h ys
  f0 : Q5 Qa g0 h
  gb : gB.next <= h.next
  fh : Q5 (fun i => i = L ∨ i = o) hb h
section
variable {S : QW} [GoodS S] {lf n L o v6 v7 : Nat} {h g0 hb gB : Q0} {K : ZK} {r0 : qV} {ys : List CR} {X Z : List ER}
theorem Side.fr {v : Nat} (s : Side g0 h v X) {S : Nat -> Prop} {h' : Q0} (f : Q5 S h h') (hs : ¬ S v) : Side g0 h' v X := by
  obtain ⟨rest, n, i, o, hv, h1, h2, h3⟩ := s.at'
  exact ⟨s.le, rest, n, i, o, hv.fr f hs, h1, h2, h3⟩
theorem Side.on {v : Nat} (s : Side g0 h v X) (f0 : Q5 Qa g0 h) (hk : ∀ h', Q5 (fun i => i = v) h h' -> Side g0 h' v X.tail -> K (.tup []) h') : Qq Try.prog S lf (n + 1) 49 [.pv false v 0] K h := by
  obtain ⟨rest, m, i, o, hv, h1, h2, h3⟩ := s.at'
  exact on_ok hv s.le f0 h2 h3 hk
theorem St.fr (s : St g0 hb gB L o v6 v7 r0 h X Z ys) (c : Cx g0 hb gB L o v6 v7) {h' : Q0} (f : Q5 Qa h h') : St g0 hb gB L o v6 v7 r0 h' X Z ys :=
  ⟨s.s6.fr f id, s.s7.fr f id, s.yi.fr f fun _ e => e.elim, s.f0.trans f, zP0 s.gb f.next, s.fh.trans (f.mono fun _ _ e => e.elim)⟩
theorem St.on6 (s : St g0 hb gB L o v6 v7 r0 h X Z ys) (c : Cx g0 hb gB L o v6 v7) (hk : ∀ h', St g0 hb gB L o v6 v7 r0 h' X.tail Z ys -> K (.tup []) h') : Qq Try.prog S lf (n + 1) 49 [.pv false v6 0] K h :=
  s.s6.on s.f0 fun h' f s6 => hk h' ⟨s6, s.s7.fr f (Ne.symm c.n67), s.yi.fr f fun i e => ⟨by rw [e]; exact c.b6, by rw [e]; exact c.n6L, by rw [e]; exact c.n6o⟩, s.f0.back f fun i hi e => by have := s.s6.le; omega, zP0 s.gb f.next, s.fh.back f fun i hi e => by have := c.h6; omega⟩
theorem St.on7 (s : St g0 hb gB L o v6 v7 r0 h X Z ys) (c : Cx g0 hb gB L o v6 v7) (hk : ∀ h', St g0 hb gB L o v6 v7 r0 h' X Z.tail ys -> K (.tup []) h') : Qq Try.prog S lf (n + 1) 49 [.pv false v7 0] K h :=
  s.s7.on s.f0 fun h' f s7 => hk h' ⟨s.s6.fr f c.n67, s7, s.yi.fr f fun i e => ⟨by rw [e]; exact c.b7, by rw [e]; exact c.n7L, by rw [e]; exact c.n7o⟩, s.f0.back f fun i hi e => by have := s.s7.le; omega, zP0 s.gb f.next, s.fh.back f fun i hi e => by have := c.h7; omega⟩
def nx (b : Bool) (X : List ER) : List ER := if b then X.tail else X
abbrev bsl (L v6 v7 : Nat) : List (Nat × ZV) := [(2, .fn (.yield L) [] []), (6, .pv false v6 0), (7, .pv false v7 0)]
theorem s2_ok {ord : Int} {z : ZT} {k X0 X1 : ZT -> Q0 -> Prop} {E : List (Nat × (ZT -> Q0 -> Prop))} (c : Cx g0 hb gB L o v6 v7) (hz : ZAt 122 [(2, .fn (.yield L) [] []), (6, .pv false v6 0), (7, .pv false v7 0), (8, .int .i64 ord)] z) (s : St g0 hb gB L o v6 v7 r0 h X Z ys)
    (hk : ∀ z h', ZAt 122 (bsl L v6 v7) z -> St g0 hb gB L o v6 v7 r0 h' (nx (decide (ord <= 0)) X) (nx (decide (0 <= ord)) Z) ys -> k z h') :
    zAt Try.prog (Qq Try.prog S lf (n + 1)) lf 43 [1, 1, 1, 0, 0, 1, 0, 1, 1, 1, 1, 1] z k ⟨(1, X1) :: (0, X0) :: E, Q3 Try.prog 43 K⟩ h := by
  refine Qr _ hz fun d => (both_s2 _ _ _ _ _ _ _ _ _ _ _ _ _).mpr ?_
  rw [q9]
  refine ⟨fun e1 => s.on6 c fun h1 s1 => qI0 fun _ => ?_, fun e1 => ?_⟩
  · rw [q9]
    refine ⟨fun e2 => s1.on7 c fun h2 s2 => qI0 fun _ => hk _ _ ⟨rfl, rfl, rfl, rfl, trivial⟩ ?_, fun e2 => hk _ _ ⟨rfl, rfl, rfl, rfl, trivial⟩ ?_⟩
    · rw [decide_eq_true e1, decide_eq_true e2]; exact s2
    · rw [decide_eq_true e1, decide_eq_false e2]; exact s1
  · rw [q9]
    refine ⟨fun e2 => s.on7 c fun h2 s2 => qI0 fun _ => hk _ _ ⟨rfl, rfl, rfl, rfl, trivial⟩ ?_, fun e2 => hk _ _ ⟨rfl, rfl, rfl, rfl, trivial⟩ ?_⟩
    · rw [decide_eq_false e1, decide_eq_true e2]; exact s2
    · rw [decide_eq_false e1, decide_eq_false e2]; exact s
def qRa (ys : List CR) (x : CR) : List CR := if sameC x.c then ys else ys ++ [x]
theorem s1_ok {t : TT} {zL : ZT} {dd : Nat} {ord : Int} {z : ZT} {k X0 X1 : ZT -> Q0 -> Prop} {E : List (Nat × (ZT -> Q0 -> Prop))} {x : CR} {v9 : Nat} (c : Cx g0 hb gB L o v6 v7) (ag : Agr t zL) (hzL : ZAt 16 [(5, .pv false o 0)] zL)
    (hz : ZAt 122 [(2, .fn (.yield L) [] []), (6, .pv false v6 0), (7, .pv false v7 0), (8, .int .i64 ord), (9, .pv false v9 0)] z) (s : St g0 hb gB L o v6 v7 (qs t dd) h X Z ys) (hv : Var h v9 x.row) (h9 : gB.next <= v9) {hm : Q0} (hx : x.Ok hm h) (hord : x.Ord) (hgm : gB.next <= hm.next) (hys : ∀ s, s ∈ ys.flatMap CR.sls -> s.nil = false -> s.i < hm.next)
    (hl : ys.length < 8589934592)
    (hk : ∀ z h', ZAt 122 (bsl L v6 v7) z -> St g0 hb gB L o v6 v7 (qs t dd) h' (nx (decide (ord <= 0)) X) (nx (decide (0 <= ord)) Z) (qRa ys x) -> k z h') :
    zAt Try.prog (Qq Try.prog S lf (n + 2)) lf 43 [1, 1, 1, 0, 0, 1, 0, 1, 1, 1, 1] z k ⟨(1, X1) :: (0, X0) :: E, Q3 Try.prog 43 K⟩ h := by
  refine Qr _ hz fun d => (both_s1 _ _ _ _ _ _ _ _ _ _ _ _ _ _).mpr ?_
  unfold qSs
  refine ⟨rfl, hv.ldL x.ks rfl (hv.ldB x.c.had rfl (hv.ldB x.c.has rfl (hv.ldL x.os rfl (hv.ldL x.ns rfl ?_))))⟩
  show Qq Try.prog S lf (n + 2) 52 [x.val] _ h
  refine sm_ok hx fun h1 f1 => ?_
  rw [qA1]
  refine qDf.2 ?_
  have s1 := s.fr c f1
  have hv1 := hv.fr f1 id
  have hx1 : x.Ok hm h1 := hx.fr f1 fun _ e => e.elim
  unfold qRa at hk
  cases hs : sameC x.c with
  | true =>
    rw [Bool.not_true, qAz]
    rw [hs, if_pos rfl] at hk
    exact s2_ok c ⟨rfl, rfl, rfl, rfl, rfl, trivial⟩ s1 hk
  | false =>
    rw [Bool.not_false, qBi]
    rw [hs, if_neg (by simp)] at hk
    refine ⟨rfl, hv1.ldL x.ks rfl (hv1.ldB x.c.had rfl (hv1.ldB x.c.has rfl (hv1.ldL x.os rfl (hv1.ldL x.ns rfl ?_))))⟩
    show Qq Try.prog S lf (n + 2) (93 + L) [x.val] _ h1
    refine yield_ok s1.yi ag hzL hx1 hord hgm hys hl s1.gb fun h2 f2 y2 => ?_
    rw [qA1]
    refine qDf.2 ?_
    show zAt Try.prog (Qq Try.prog S lf (n + 2)) lf 43 [1, 1, 1, 0, 0, 1, 0, 1, 1, 1, 1, 1] _ k _ h2
    have fr6 : ¬ (v6 = L ∨ v6 = o ∨ gB.next <= v6) := by
      rintro (e | e | e)
      · exact c.n6L e
      · exact c.n6o e
      · have := c.b6; omega
    have fr7 : ¬ (v7 = L ∨ v7 = o ∨ gB.next <= v7) := by
      rintro (e | e | e)
      · exact c.n7L e
      · exact c.n7o e
      · have := c.b7; omega
    refine s2_ok c ⟨rfl, rfl, rfl, rfl, rfl, trivial⟩ ⟨s1.s6.fr f2 fr6, s1.s7.fr f2 fr7, y2, s1.f0.back f2 fun i hi e => ?_, zP0 s1.gb f2.next, s1.fh.back f2 fun i hi e => ?_⟩ hk
    rotate_left
    · have := c.hB
      rcases e with e | e | e
      · exact .inl e
      · exact .inr e
      · omega
    have := c.gL; have := c.go; have := c.gg
    rcases e with e | e | e <;> omega
theorem zRA_cr {x : CR} {Q : SL -> Bool -> Bool -> SL -> SL -> Prop} (k : Q x.ks x.c.had x.c.has x.os x.ns) :
    ZRA x.val.av 5 fun f => ZRL (f 0) fun s2 => ZRB (f 1) fun b1 => ZRB (f 2) fun b2 => ZRL (f 3) fun s3 => ZRL (f 4) fun s4 => Q s2 b1 b2 s3 s4 :=
  ⟨fun i => match i with | 0 => x.ks.av | 1 => .bool x.c.had | 2 => .bool x.c.has | 3 => x.os.av | _ => x.ns.av, by simp [CR.val, qVq], qe (qDf.2 (qDf.2 (qe (qe k))))⟩
theorem Side.ld {v : Nat} (s : Side g0 h v X) (f0 : Q5 Qa g0 h) {Q : Bool -> Nat -> Nat -> Prop} (hk : ∀ n i o, PE h n i o X.head? -> Q n i o) : ZLdP h v 1 Q := by
  obtain ⟨rest, n, i, o, hv, h1, _, _⟩ := s.at'
  exact hv.ldP n i o rfl (hk n i o (h1.fr f0))
def xo (ord : Int) (X : List ER) : Option ER := if ord <= 0 then X.head? else none
def yo (ord : Int) (Z : List ER) : Option ER := if 0 <= ord then Z.head? else none
def keyO (x y : Option ER) : Ky := match x with | some a => a.e.1 | none => match y with | some b => b.e.1 | none => []
theorem s0_ok {t : TT} {zL : ZT} {dd : Nat} {ord : Int} {z : ZT} {k X0 X1 : ZT -> Q0 -> Prop} {E : List (Nat × (ZT -> Q0 -> Prop))} (c : Cx g0 hb gB L o v6 v7) (ag : Agr t zL) (hzL : ZAt 16 [(5, .pv false o 0)] zL)
    (hz : ZAt 122 [(2, .fn (.yield L) [] []), (6, .pv false v6 0), (7, .pv false v7 0), (8, .int .i64 ord)] z) (s : St g0 hb gB L o v6 v7 (qs t dd) h X Z ys)
    (hX : ord <= 0 -> X ≠ []) (hZ : 0 <= ord -> Z ≠ []) (sX : ∀ a, a ∈ X -> Small a.e) (sZ : ∀ a, a ∈ Z -> Small a.e) (hl : ys.length < 8589934592)
    (hk : ∀ z h' x, ZAt 122 (bsl L v6 v7) z -> x.c = chg (keyO (xo ord X) (yo ord Z)) (xo ord X) (yo ord Z) -> St g0 hb gB L o v6 v7 (qs t dd) h' (nx (decide (ord <= 0)) X) (nx (decide (0 <= ord)) Z) (qRa ys x) -> k z h') :
    zAt Try.prog (Qq Try.prog S lf (n + 2)) lf 43 [1, 1, 1, 0, 0, 1, 0, 1, 1] z k ⟨(1, X1) :: (0, X0) :: E, Q3 Try.prog 43 K⟩ h := by
  refine Qr _ hz fun d => (both_s0 _ _ _ _ _ _ _ _ _ _ _ _ _).mpr ?_
  unfold qSt
  have f1 : Q5 Qa h (h.newO (.cells [AV.nils, AV.bool false, AV.bool false, AV.nils, AV.nils] 0 false false)) := Q5.newO _ _ _
  have v1 := Var.new h [AV.nils, AV.bool false, AV.bool false, AV.nils, AV.nils]
  have s1 := s.fr c f1
  have hn1 : (h.newO (.cells [AV.nils, AV.bool false, AV.bool false, AV.nils, AV.nils] 0 false false)).next = h.next + 1 := rfl
  generalize h.newO (.cells [AV.nils, AV.bool false, AV.bool false, AV.nils, AV.nils] 0 false false) = h1 at f1 v1 s1 hn1 ⊢
  have smX : ∀ a, X.head? = some a -> Small a.e := fun a ha => sX a (List.mem_of_mem_head? ha)
  have smZ : ∀ a, Z.head? = some a -> Small a.e := fun a ha => sZ a (List.mem_of_mem_head? ha)
  -- behind the change
  have done : ∀ (h2 : Q0) (x : CR) (z : ZT), Q5 Qa h1 h2 -> x.c = chg (keyO (xo ord X) (yo ord Z)) (xo ord X) (yo ord Z) -> x.Ok h1 h2 -> x.Ord -> ZAt 122 [(2, .fn (.yield L) [] []), (6, .pv false v6 0), (7, .pv false v7 0), (8, .int .i64 ord), (9, .pv false h.next 0)] z ->
      jb h2 h.next 0 5 (zAt Try.prog (Qq Try.prog S lf (n + 2)) lf 43 [1, 1, 1, 0, 0, 1, 0, 1, 1, 1, 1] z k ⟨(1, X1) :: (0, X0) :: E, Q3 Try.prog 43 K⟩ (hput h2 h.next 0 x.row)) := by
    intro h2 x z f2 hc hx hord hz
    have v2 := v1.fr f2 id
    have f3 := v2.put_fr 0 x.row
    have v3 : Var (hput h2 h.next 0 x.row) h.next x.row := Var.put_all v2 rfl
    have F : Q5 Qa h (hput h2 h.next 0 x.row) := Q5.back (f1.trans f2) f3 fun i hi e => by omega
    have hg := s.gb
    have x3 : x.Ok h1 (hput h2 h.next 0 x.row) := hx.fr f3 fun i e hi => by omega
    exact v2.zput (by simp) (s1_ok c ag hzL hz (s.fr c F) v3 hg x3 hord (by omega) (sls_lt s1.yi.ok) hl fun z h' hz s' => hk z h' x hz hc s')
  rw [q9]
  refine ⟨fun e => ?_, fun e => ?_⟩
  · -- the one's key comes first
    cases X with
    | nil => exact absurd rfl (hX (by omega))
    | cons a X =>
      refine ⟨rfl, rfl, rfl, s1.s6.ld s1.f0 fun n1 i1 o1 p1 => ?_⟩
      obtain ⟨q1, q2, q3, q4⟩ := p1.some a rfl
      refine ⟨p1.nil, rfl, rfl, Qh q2 ⟨rfl, rfl, rfl, s1.s6.ld s1.f0 fun n2 i2 o2 p2 => ?_⟩⟩
      refine qKx q4.1 (smX a rfl).1 p2 (y := none) ⟨rfl, fun y hy => (by cases hy)⟩ smX (fun y hy => (by cases hy)) fun h2 x f2 hc hx hord => ?_
      refine zRA_cr ⟨rfl, ?_⟩
      refine done h2 x _ f2 ?_ hx hord ⟨rfl, rfl, rfl, rfl, rfl, rfl, trivial⟩
      rw [hc, show xo ord (a :: X) = some a by unfold xo; rw [if_pos (by omega)]; rfl, show yo ord Z = none by unfold yo; rw [if_neg (by omega)]]
      rfl
  · rw [q9]
    refine ⟨fun e2 => ?_, fun e2 => ?_⟩
    · cases Z with
      | nil => exact absurd rfl (hZ (by omega))
      | cons b Z =>
        refine ⟨rfl, rfl, rfl, s1.s7.ld s1.f0 fun n1 i1 o1 p1 => ?_⟩
        obtain ⟨q1, q2, q3, q4⟩ := p1.some b rfl
        refine ⟨p1.nil, rfl, rfl, Qh q2 ⟨rfl, rfl, rfl, s1.s7.ld s1.f0 fun n2 i2 o2 p2 => ?_⟩⟩
        refine qKx q4.1 (smZ b rfl).1 (x := none) ⟨rfl, fun y hy => (by cases hy)⟩ p2 (fun y hy => (by cases hy)) smZ fun h2 x f2 hc hx hord => ?_
        refine zRA_cr ⟨rfl, ?_⟩
        refine done h2 x _ f2 ?_ hx hord ⟨rfl, rfl, rfl, rfl, rfl, rfl, trivial⟩
        rw [hc, show xo ord X = none by unfold xo; rw [if_neg (by omega)], show yo ord (b :: Z) = some b by unfold yo; rw [if_pos (by omega)]; rfl]
        rfl
    · cases X with
      | nil => exact absurd rfl (hX (by omega))
      | cons a X =>
        refine ⟨rfl, rfl, rfl, s1.s6.ld s1.f0 fun n1 i1 o1 p1 => ?_⟩
        obtain ⟨q1, q2, q3, q4⟩ := p1.some a rfl
        refine ⟨p1.nil, rfl, rfl, Qh q2 ⟨rfl, rfl, rfl, s1.s6.ld s1.f0 fun n2 i2 o2 p2 => ⟨rfl, rfl, rfl, s1.s7.ld s1.f0 fun n3 i3 o3 p3 => ?_⟩⟩⟩
        refine qKx q4.1 (smX a rfl).1 p2 p3 smX smZ fun h2 x f2 hc hx hord => ?_
        refine zRA_cr ⟨rfl, ?_⟩
        refine done h2 x _ f2 ?_ hx hord ⟨rfl, rfl, rfl, rfl, rfl, rfl, trivial⟩
        rw [hc, show xo ord (a :: X) = some a by unfold xo; rw [if_pos (by omega)]; rfl, show yo ord Z = Z.head? by unfold yo; rw [if_pos (by omega)]]
        rfl
def ordO (X Z : List ER) : Int := match X, Z with
  | [], _ => 1
  | _ :: _, [] => -1
  | a :: _, b :: _ => cmpK a.e.1 b.e.1
def ents (X : List ER) : List (Ky × Ky) := X.map ER.e
theorem qRc (X Z : List ER) (h : ¬ (X = [] /\ Z = [])) : (ordO X Z <= 0 -> X ≠ []) /\ (0 <= ordO X Z -> Z ≠ []) /\
    (if sameC (chg (keyO (xo (ordO X Z) X) (yo (ordO X Z) Z)) (xo (ordO X Z) X) (yo (ordO X Z) Z)) then [] else [chg (keyO (xo (ordO X Z) X) (yo (ordO X Z) Z)) (xo (ordO X Z) X) (yo (ordO X Z) Z)]) ++
      diff (ents (nx (decide (ordO X Z <= 0)) X)) (ents (nx (decide (0 <= ordO X Z)) Z)) = diff (ents X) (ents Z) /\
    (nx (decide (ordO X Z <= 0)) X).length + (nx (decide (0 <= ordO X Z)) Z).length < X.length + Z.length := by
  cases X with
  | nil => cases Z with
    | nil => exact absurd ⟨rfl, rfl⟩ h
    | cons b Z =>
      have e : ordO [] (b :: Z) = 1 := rfl
      rw [e]
      refine ⟨fun h => by omega, fun _ => by simp, ?_, by simp [nx]⟩
      show _ = diff [] (b.e :: ents Z)
      rw [diff]
      rfl
  | cons a X => cases Z with
    | nil =>
      have e : ordO (a :: X) [] = -1 := rfl
      rw [e]
      refine ⟨fun h => by simp, fun h => by omega, ?_, by simp [nx]⟩
      show _ = diff (a.e :: ents X) []
      rw [diff]
      rfl
    | cons b Z =>
      refine ⟨fun _ => by simp, fun _ => by simp, ?_⟩
      have e : ordO (a :: X) (b :: Z) = cmpK a.e.1 b.e.1 := rfl
      rw [e]
      show _ = diff (a.e :: ents X) (b.e :: ents Z) /\ _
      rw [diff]
      unfold cmpK
      by_cases h1 : Qm a.e.1 b.e.1 = true
      · rw [if_pos h1, if_pos h1]
        exact ⟨rfl, by simp [nx]⟩
      · rw [if_neg h1, if_neg h1]
        by_cases h2 : a.e.1 = b.e.1
        · rw [if_pos h2, if_pos h2]
          refine ⟨?_, by simp [nx]; omega⟩
          show (if (true && (!true || decide (a.e.2 = b.e.2))) then [] else [_]) ++ diff (ents X) (ents Z) = _
          by_cases h3 : a.e.2 = b.e.2
          · rw [if_pos h3, decide_eq_true h3]; rfl
          · rw [if_neg h3, decide_eq_false h3]; rfl
        · rw [if_neg h2, if_neg h2]
          exact ⟨rfl, by simp [nx]⟩
theorem l_ok {t : TT} {zL : ZT} {dd : Nat} {z : ZT} {k X0 : ZT -> Q0 -> Prop} {E : List (Nat × (ZT -> Q0 -> Prop))} (c : Cx g0 hb gB L o v6 v7) (ag : Agr t zL) (hzL : ZAt 16 [(5, .pv false o 0)] zL)
    (hz : ZAt 122 (bsl L v6 v7) z) (s : St g0 hb gB L o v6 v7 (qs t dd) h X Z ys) (sX : ∀ a, a ∈ X -> Small a.e) (sZ : ∀ a, a ∈ Z -> Small a.e) (hl : ys.length < 8589934592)
    (h0 : X = [] -> Z = [] -> ∀ z, X0 z h)
    (hk : ¬ (X = [] /\ Z = []) -> ∀ z h' x, ZAt 122 (bsl L v6 v7) z -> x.c = chg (keyO (xo (ordO X Z) X) (yo (ordO X Z) Z)) (xo (ordO X Z) X) (yo (ordO X Z) Z) ->
      St g0 hb gB L o v6 v7 (qs t dd) h' (nx (decide (ordO X Z <= 0)) X) (nx (decide (0 <= ordO X Z)) Z) (qRa ys x) -> k z h') :
    zAt Try.prog (Qq Try.prog S lf (n + 2)) lf 43 [1, 1, 1, 0, 0] z k ⟨(0, X0) :: E, Q3 Try.prog 43 K⟩ h := by
  refine Qr _ hz fun d => (qXl _ _ _ _ _ _ _ _ _ _ _).mpr ?_
  unfold qHd
  have go : ¬ (X = [] /\ Z = []) -> ∀ z, ZAt 122 [(2, .fn (.yield L) [] []), (6, .pv false v6 0), (7, .pv false v7 0), (8, .int .i64 (ordO X Z))] z ->
      zAt Try.prog (Qq Try.prog S lf (n + 2)) lf 43 [1, 1, 1, 0, 0, 1, 0, 1, 1] z k ⟨(1, k) :: (0, X0) :: E, Q3 Try.prog 43 K⟩ h := fun hne z hz =>
    s0_ok c ag hzL hz s (qRc X Z hne).1 (qRc X Z hne).2.1 sX sZ hl (hk hne)
  refine ⟨rfl, rfl, rfl, s.s6.ld s.f0 fun n1 i1 o1 p1 => ?_⟩
  rw [p1.nil]
  cases X with
  | nil =>
    rw [show (List.head? ([] : List ER)).isNone = true from rfl, Bool.not_true, qAz]
    refine ⟨rfl, rfl, rfl, s.s7.ld s.f0 fun n2 i2 o2 p2 => ?_⟩
    rw [p2.nil, qHv]
    cases Z with
    | nil =>
      rw [show (List.head? ([] : List ER)).isNone = true from rfl, Bool.not_true, qAz]
      exact h0 rfl rfl _
    | cons b Z =>
      rw [show (List.head? (b :: Z)).isNone = false from rfl, Bool.not_false, qBi]
      refine ⟨rfl, rfl, rfl, s.s6.ld s.f0 fun n3 i3 o3 p3 => ?_⟩
      rw [p3.nil, show (List.head? ([] : List ER)).isNone = true from rfl, qBi]
      exact go (by simp) _ ⟨rfl, rfl, rfl, rfl, rfl, trivial⟩
  | cons a X =>
    rw [show (List.head? (a :: X)).isNone = false from rfl, Bool.not_false, qBi]
    refine ⟨rfl, rfl, rfl, s.s6.ld s.f0 fun n2 i2 o2 p2 => ?_⟩
    rw [p2.nil, show (List.head? (a :: X)).isNone = false from rfl, qAz]
    refine ⟨rfl, rfl, rfl, s.s7.ld s.f0 fun n3 i3 o3 p3 => ?_⟩
    rw [p3.nil]
    cases Z with
    | nil =>
      rw [show (List.head? ([] : List ER)).isNone = true from rfl, qBi]
      exact go (by simp) _ ⟨rfl, rfl, rfl, rfl, rfl, trivial⟩
    | cons b Z =>
      rw [show (List.head? (b :: Z)).isNone = false from rfl, qAz]
      refine ⟨rfl, rfl, rfl, s.s6.ld s.f0 fun n4 i4 o4 p4 => ?_⟩
      obtain ⟨q1, q2, q3, q4⟩ := p4.some a rfl
      refine ⟨p4.nil, rfl, rfl, Qh q2 ⟨rfl, rfl, rfl, s.s7.ld s.f0 fun n5 i5 o5 p5 => ?_⟩⟩
      obtain ⟨r1, r2, r3, r4⟩ := p5.some b rfl
      refine ⟨p5.nil, rfl, rfl, Qh r2 (jAr q4.1 r4.1 ?_)⟩
      rw [qA0]
      refine qFa.2 ?_
      exact go (by simp) _ ⟨rfl, rfl, rfl, rfl, rfl, trivial⟩
end
end DfN
namespace DfN
open Go Go.X Go.X.Df Go.Proofs
set_option maxRecDepth 100000
section
variable {S : QW} [GoodS S] {lf n L o : Nat} {h g0 : Q0} {K : ZK} {X Z : List ER}
theorem fin43 (K : ZK) (z : ZT) (h : Q0) : Q3 Try.prog 43 K z h = K (.tup []) h := by kernel_rfl
theorem tellC_len (ys : List CR) (x : CR) : (qRa ys x).length <= ys.length + 1 := by
  unfold qRa
  split
  · omega
  · simp
theorem tellC_map (ys : List CR) (x : CR) : (qRa ys x).map CR.c = ys.map CR.c ++ (if sameC x.c then [] else [x.c]) := by
  unfold qRa
  split <;> simp
theorem both_ok {t : TT} {zL : ZT} {dd : Nat} {a b : SL} (ag : Agr t zL) (hzL : ZAt 16 [(5, .pv false o 0)] zL) (hloop : h.get L = some (.loop (qs t dd))) (hL : L < h.next) (ho : Var h o [QE.av]) (hLo : L ≠ o) (gL : g0.next <= L) (go : g0.next <= o) (f0 : Q5 Qa g0 h)
    (ha : j1 g0 a X) (hb : j1 g0 b Z) (oa : SlOk a) (ob : SlOk b) (sX : ∀ x, x ∈ X -> Small x.e) (sZ : ∀ x, x ∈ Z -> Small x.e) (hlen : X.length + Z.length < 8589934592) (hlf : X.length + Z.length < lf)
    (hk : ∀ h' gB ys, h.next <= gB.next -> gB.next <= h'.next -> YI L o (qs t dd) gB h' ys -> ys.map CR.c = diff (ents X) (ents Z) -> Q5 (fun i => i = L ∨ i = o) h h' -> Q5 Qa g0 h' -> K (.tup []) h') :
    Qq Try.prog S lf (n + 3) 43 [.sl a, .sl b, .fn (.yield L) [] []] K h := by
  refine QJ (hSD (by decide) (by decide)) (by kernel_rfl) ?_
  rw [both_nf]
  have f1 : Q5 Qa h (h.newO (.cells [a.av, AV.nilp] 0 false false)) := Q5.newO _ _ _
  have v1 := Var.new h [a.av, AV.nilp]
  have f2 : Q5 Qa (h.newO (.cells [a.av, AV.nilp] 0 false false)) ((h.newO (.cells [a.av, AV.nilp] 0 false false)).newO (.cells [b.av, AV.nilp] 0 false false)) := Q5.newO _ _ _
  have v2 := Var.new (h.newO (.cells [a.av, AV.nilp] 0 false false)) [b.av, AV.nilp]
  have e2 : (h.newO (.cells [a.av, AV.nilp] 0 false false)).next = h.next + 1 := rfl
  have e3 : ((h.newO (.cells [a.av, AV.nilp] 0 false false)).newO (.cells [b.av, AV.nilp] 0 false false)).next = h.next + 2 := rfl
  have v1' := v1.fr f2 id
  have f12 := f1.trans f2
  rw [e2] at v2 ⊢
  generalize (h.newO (.cells [a.av, AV.nilp] 0 false false)).newO (.cells [b.av, AV.nilp] 0 false false) = gB at v2 v1' f12 e3 ⊢
  clear v1 f1 f2
  have hol := ho.lt
  have hg := f0.next
  have F0 := f0.trans f12
  have y0 : YI L o (qs t dd) gB gB [] := ⟨(f12.same _ hL id).trans hloop, by omega, hLo, ⟨by omega, by omega⟩, ⟨QE, ho.fr f12 id, Grown.start _ _ _, fun e => (by cases e)⟩, fun y hy => (by cases hy), List.Pairwise.nil⟩
  have c : Cx g0 h gB L o h.next (h.next + 1) := ⟨by omega, by omega, by omega, by omega, by omega, by omega, by omega, gL, go, by omega, zN0 _, by omega, by omega⟩
  refine on_ok v1' (by omega) F0 ha oa fun h3 f3 s3 => qI0 fun _ => ?_
  have v3 := v2.fr f3 (by omega)
  have F3 : Q5 Qa g0 h3 := F0.back f3 fun i hi e => by omega
  refine on_ok v3 (by omega) F3 hb ob fun h4 f4 s4 => qI0 fun _ => ?_
  have F4 : Q5 Qa g0 h4 := F3.back f4 fun i hi e => by omega
  have y4 : YI L o (qs t dd) gB h4 [] := (y0.fr f3 fun i e => ⟨by omega, by omega, by omega⟩).fr f4 fun i e => ⟨by omega, by omega, by omega⟩
  have hn3 := f3.next
  have hn4 := f4.next
  have FH : Q5 (fun i => i = L ∨ i = o) h h4 := ((f12.mono fun _ _ e => e.elim).back f3 fun i hi e => by omega).back f4 fun i hi e => by omega
  have st : St g0 h gB L o h.next (h.next + 1) (qs t dd) h4 X Z [] := ⟨s3.fr f4 (by omega), s4, y4, F4, by omega, FH⟩
  refine Qy.inv (fun q z h' => ∃ X' Z' ys, ZAt 122 (bsl L h.next (h.next + 1)) z /\ St g0 h gB L o h.next (h.next + 1) (qs t dd) h' X' Z' ys /\ X'.length + Z'.length = q /\ ys.map CR.c ++ diff (ents X') (ents Z') = diff (ents X) (ents Z) /\ ys.length + q <= X.length + Z.length /\
      (∀ x, x ∈ X' -> Small x.e) /\ ∀ x, x ∈ Z' -> Small x.e) (n := X.length + Z.length) hlf ⟨X, Z, [], ⟨rfl, rfl, rfl, rfl, trivial⟩, st, rfl, rfl, by simp, sX, sZ⟩ ?_
  rintro q z h' kk hq ⟨X', Z', ys, hz, s, hl, hd, hm, sX', sZ'⟩ ih
  refine l_ok c ag hzL hz s sX' sZ' (by omega) (fun e1 e2 z => ?_) fun hne z h2 x hz hc s2 => ?_
  · subst e1; subst e2
    rw [fin43]
    refine hk _ gB ys (by omega) s.gb s.yi ?_ s.fh s.f0
    have : diff (ents []) (ents []) = [] := by show diff [] [] = []; rw [diff]
    rw [this, zS0] at hd
    exact hd
  · obtain ⟨_, _, h3', h4'⟩ := qRc X' Z' hne
    have ht := tellC_len ys x
    refine ih _ z h2 (by omega) ⟨_, _, qRa ys x, hz, s2, rfl, ?_, by omega, fun y hy => sX' y ?_, fun y hy => sZ' y ?_⟩
    · rw [tellC_map, hc, List.append_assoc, h3', hd]
    · unfold nx at hy; split at hy
      · exact List.mem_of_mem_tail hy
      · exact hy
    · unfold nx at hy; split at hy
      · exact List.mem_of_mem_tail hy
      · exact hy
theorem gen_ok {t : TT} {zL : ZT} {dd p q : Nat} {a b : SL} (ag : Agr t zL) (hzL : ZAt 16 [(5, .pv false o 0)] zL) (hloop : h.get L = some (.loop (qs t dd))) (hL : L < h.next) (ho : Var h o [QE.av]) (hLo : L ≠ o) (gL : g0.next <= L) (go : g0.next <= o) (f0 : Q5 Qa g0 h)
    (vp : Var h p [a.av]) (vq : Var h q [b.av])
    (ha : j1 g0 a X) (hb : j1 g0 b Z) (oa : SlOk a) (ob : SlOk b) (sX : ∀ x, x ∈ X -> Small x.e) (sZ : ∀ x, x ∈ Z -> Small x.e) (hlen : X.length + Z.length < 8589934592) (hlf : X.length + Z.length < lf)
    (hk : ∀ h' gB ys, h.next <= gB.next -> gB.next <= h'.next -> YI L o (qs t dd) gB h' ys -> ys.map CR.c = diff (ents X) (ents Z) -> Q5 (fun i => i = L ∨ i = o) h h' -> Q5 Qa g0 h' -> K (.tup []) h') :
    Qq Try.prog S lf (n + 4) 42 [.fn (.yield L) [] [], .pv false p 0, .pv false q 0] K h := by
  refine QJ (hSD (by decide) (by decide)) (by kernel_rfl) ?_
  rw [gen_nf]
  refine ⟨rfl, vp.ldL a rfl ⟨rfl, vq.ldL b rfl ?_⟩⟩
  exact both_ok ag hzL hloop hL ho hLo gL go f0 ha hb oa ob sX sZ hlen hlf fun h' gB ys h1 h2 h3 h4 h5 h6 => qI0 fun _ => hk h' gB ys h1 h2 h3 h4 h5 h6
theorem zAtR_of {P : Program} {C : QX} {lf : Nat} {f : FuncId} {p : List Nat} {n : Nat} (l : List (Nat × ZV)) {D : List QT} {z : ZT} {k : List QT -> ZT -> Q0 -> Prop} {E : List QT -> KZ} {h : Q0} (hz : ZAt n l z) (hk : ∀ d, zAtR P C lf f p D (zt n (ov l d)) k E h) : zAtR P C lf f p D z k E h := by
  obtain ⟨d, rfl⟩ := hz.tab
  exact hk d
theorem jA0 {a b : SL} (k : K (.fn (.plain (.func 42)) [] [.pv false h.next 0, .pv false (h.next + 1) 0]) ((h.newO (.cells [a.av] 0 false false)).newO (.cells [b.av] 0 false false))) : Qq Try.prog S lf (n + 1) 28 [.sl a, .sl b] K h := by
  refine QJ (hSD (by decide) (by decide)) (by kernel_rfl) ?_
  rw [jA1]
  exact k
theorem lists_ok {a b : SL} (h12 : S 12 = none) (ha : j1 h a X) (hb : j1 h b Z) (oa : SlOk a) (ob : SlOk b) (sX : ∀ x, x ∈ X -> Small x.e) (sZ : ∀ x, x ∈ Z -> Small x.e) (hlen : X.length + Z.length < 8589934592) (hlf : X.length + Z.length < lf)
    (hk : ∀ h' s (ys : List CR) gB, Q5 Qa h h' -> h.next <= gB.next -> Grown gB h' s 5 ys.length (ys.flatMap CR.row) -> (∀ y, y ∈ ys -> y.Ok gB h') -> (ys.flatMap CR.sls).Pairwise SlLt -> ys.map CR.c = diff (ents X) (ents Z) -> K (.sl s) h') :
    Qq Try.prog S lf (n + 5) 12 [.sl a, .sl b] K h := by
  refine zCallR_at h12 (by kernel_rfl) ?_
  rw [lists_nf]
  have f1 : Q5 Qa h (h.newO (.cells [AV.nils] 0 false false)) := Q5.newO _ _ _
  have v1 := Var.new h [AV.nils]
  have hn1 : (h.newO (.cells [AV.nils] 0 false false)).next = h.next + 1 := rfl
  generalize h.newO (.cells [AV.nils] 0 false false) = h1 at f1 v1 hn1 ⊢
  refine jA0 ?_
  have f2 : Q5 Qa h1 (h1.newO (.cells [a.av] 0 false false)) := Q5.newO _ _ _
  have f3 : Q5 Qa (h1.newO (.cells [a.av] 0 false false)) ((h1.newO (.cells [a.av] 0 false false)).newO (.cells [b.av] 0 false false)) := Q5.newO _ _ _
  have vp := (Var.new h1 [a.av]).fr f3 id
  have vq := Var.new (h1.newO (.cells [a.av] 0 false false)) [b.av]
  have hn3 : ((h1.newO (.cells [a.av] 0 false false)).newO (.cells [b.av] 0 false false)).next = h1.next + 2 := rfl
  have hq : (h1.newO (.cells [a.av] 0 false false)).next = h1.next + 1 := rfl
  have f23 := f2.trans f3
  rw [hq] at vq
  generalize (h1.newO (.cells [a.av] 0 false false)).newO (.cells [b.av] 0 false false) = h3 at f23 vp vq hn3 ⊢
  refine ⟨42, [], [.ptr h1.next 0, .ptr (h1.next + 1) 0], by simp, by kernel_rfl, fun t ag => ?_⟩
  show Qq Try.prog S lf (n + 4) 42 [ZV.fn (AFn.yield (h3.next + 1)) [] [], .pv false h1.next 0, .pv false (h1.next + 1) 0] _ _
  have f4 : Q5 Qa h3 (h3.newO (.deferred (some []))) := Q5.newO _ _ _
  have hn4 : (h3.newO (.deferred (some []))).next = h3.next + 1 := rfl
  have d4 : (h3.newO (.deferred (some []))).get h3.next = some (.deferred (some [])) := Ql _ _
  generalize h3.newO (.deferred (some [])) = h4 at f4 hn4 d4 ⊢
  show Qq Try.prog S lf (n + 4) 42 _ _ (h4.newO (.loop (qs t h3.next)))
  have f5 : Q5 Qa h4 (h4.newO (.loop (qs t h3.next))) := Q5.newO _ _ _
  have l5 : (h4.newO (.loop (qs t h3.next))).get (h3.next + 1) = some (.loop (qs t h3.next)) := by rw [<- hn4]; exact Ql _ _
  have hn5 : (h4.newO (.loop (qs t h3.next))).next = h4.next + 1 := rfl
  generalize h4.newO (.loop (qs t h3.next)) = h5 at f5 l5 hn5 ⊢
  have f35 := f4.trans f5
  have F5 := (f1.trans f23).trans f35
  refine gen_ok (g0 := h) (o := h.next) ag ⟨rfl, rfl, trivial⟩ l5 (by omega) (((v1.fr f23 id).fr f35 id)) (by omega) (by omega) (zN0 _) F5 (vp.fr f35 id) (vq.fr f35 id) ha hb oa ob sX sZ hlen hlf fun h6 gB ys g1 g2 y hd fL F6 => ?_
  have e6 := fL.next
  refine ⟨qs t h3.next, y.loop, y.lt, .inl rfl, ?_⟩
  show zAtR Try.prog (Qq Try.prog S lf (n + 4)) lf 12 [1, 1, 1] [⟨.yield h3.next, []⟩] _ (qGk Try.prog 12 K) (fun D => ⟨[], qGk Try.prog 12 K D⟩) (h6.put (h3.next + 1) (some .tomb))
  refine zAtR_of (n := 16) [(5, .pv false h.next 0)] ⟨rfl, rfl, trivial⟩ fun d => (jAf _ _ _ _ _ _ _).mpr ?_
  have f7 : Q5 (fun i => i = h3.next + 1) h6 (h6.put (h3.next + 1) (some .tomb)) := Q5.put h6 _ fun _ => rfl
  have hn7 : (h6.put (h3.next + 1) (some .tomb)).next = h6.next := rfl
  obtain ⟨s, vs, g, _⟩ := y.at'
  generalize h6.put (h3.next + 1) (some .tomb) = h7 at f7 hn7 ⊢
  have vs7 := vs.fr f7 (by omega)
  refine ⟨rfl, vs7.ldL s rfl ⟨?_, by show h3.next + 1 <= h7.next; omega, ?_⟩⟩
  · rw [f7.same _ (by omega) (by omega), fL.same _ (by omega) (by omega), f5.same _ (by omega) id]; exact d4
  · have f8 : Q5 (fun i => i = h3.next) h7 (h7.put h3.next (some .tomb)) := Q5.put h7 _ fun _ => rfl
    generalize h7.put h3.next (some .tomb) = h8 at f8 ⊢
    refine hk h8 s ys gB ((F6.back f7 fun i hi e => by omega).back f8 fun i hi e => by omega) (by omega) ?_ (fun z hz => ?_) y.rise hd
    · have hsi : s.nil = false -> gB.next <= s.i := fun e => by
        rcases g.2 with ⟨_, rfl⟩ | ⟨_, _, _, _, _, h6', _⟩
        · cases e
        · exact h6'
      exact (g.fr f7 fun e1 e2 => by have := hsi e1; omega).fr f8 fun e1 e2 => by have := hsi e1; omega
    · exact ((y.ok z hz).fr f7 fun i e hi => by omega).fr f8 fun i e hi => by omega
end
end DfN
namespace DfN
open Go Go.X Go.X.Df Go.Proofs
set_option maxRecDepth 100000
section
variable {S : QW} [GoodS S] {lf n : Nat} {h : Q0} {K : ZK} {X Y : List ER}
theorem ER.row_len (x : ER) : x.row.length = 2 := rfl
theorem room51 {k : Nat} (h : k <= 8589934592) : jy Try.prog 51 k = true := by
  have e0 : qJ4 Try.prog 51 = some 48 := by kernel_rfl
  unfold jy; rw [e0]
  show cnd (Nat.ble (Nat.mul k 48) jX) (Nat.ble k jX) false = true
  have e1 : Nat.ble (Nat.mul k 48) jX = true := zG0 (by show k * 48 <= 1099511627776; omega)
  have e2 : Nat.ble k jX = true := zG0 (by show k <= 1099511627776; omega)
  rw [e1, e2]; rfl
theorem j1.key {s : SL} (a : j1 h s X) (hn : s.nil = false) {j : Nat} {x : ER} (hj : X[j]? = some x) : cellAt h s.i (s.o + j * 2) = some x.ks.av := a.at' hn hj (q := 0) (by decide) rfl
theorem j1.val {s : SL} (a : j1 h s X) (hn : s.nil = false) {j : Nat} {x : ER} (hj : X[j]? = some x) : cellAt h s.i (s.o + j * 2 + 1) = some x.vs.av := a.at' hn hj (q := 1) (by decide) rfl
theorem same_ok {a b : SL} (ha : j1 h a X) (hb : j1 h b Y) (hlen : X.length < 8589934592) (hlf : X.length < lf) (k : K (.bool (decide (ents X = ents Y))) h) :
    Qq Try.prog S lf (n + 1) 23 [.sl a, .sl b] K h := by
  refine QJ (hSD (by decide) (by decide)) (by kernel_rfl) ?_
  rw [same_nf]
  have la := ha.len (by decide)
  have lb := hb.len (by decide)
  have ea : (Int.ofNat a.n : Int) = a.n := rfl
  have eb : (Int.ofNat b.n : Int) = b.n := rfl
  by_cases hab : a.n = b.n
  · rw [decide_eq_true (show (Int.ofNat a.n : Int) = Int.ofNat b.n by rw [hab]), Bool.not_true, qAz]
    refine Qy.inv (fun q z h' => ∃ j : Nat, ZAt 45 [(0, .sl a), (1, .sl b), (5, .int .i64 (j : Int))] z /\ h' = h /\ j + q = X.length /\ ∀ i, i < j -> (ents X)[i]? = (ents Y)[i]?) (n := X.length) hlf ⟨0, ⟨rfl, rfl, rfl, rfl, trivial⟩, rfl, by omega, fun i hi => absurd hi (Nat.not_lt_zero _)⟩ ?_
    rintro q z h' kk hq ⟨j, hz, rfl, hj, heq⟩ ih
    refine Qr _ hz fun d => (qTy _ _ _ _ _ _ _ _ _ _ _).mpr ?_
    rw [q9]
    refine ⟨fun e => ?_, fun e => ?_⟩
    · have hjx : j < X.length := by omega
      have hjy : j < Y.length := by omega
      have na := ha.nil_of (by decide) hjx
      have nb := hb.nil_of (by decide) hjy
      have a1 := ha.len' (by decide) na
      have b1 := hb.len' (by decide) nb
      obtain ⟨x, hx⟩ : ∃ x, X[j]? = some x := ⟨_, zE0 hjx⟩
      obtain ⟨y, hy⟩ : ∃ y, Y[j]? = some y := ⟨_, zE0 hjy⟩
      obtain ⟨xk, xv⟩ := ha.ok x (zD0 hx)
      obtain ⟨yk, yv⟩ := hb.ok y (zD0 hy)
      have fin : x.e ≠ y.e -> K (.bool false) h' := fun hne => by
        rw [decide_eq_false fun e0 : ents X = ents Y => ?_] at k
        · exact k
        · have := congrArg (·[j]?) e0
          simp only [ents, zV0, hx, hy, Option.map_some, Option.some.injEq] at this
          exact hne this
      refine ⟨na, qAe.2 ⟨by omega, rfl, rfl, Qh (ha.key na hx) (xk.zbytes ⟨nb, qAe.2 ⟨by omega, rfl, rfl, Qh (hb.key nb hy) (yk.zbytes ?_)⟩⟩)⟩⟩
      by_cases hk : x.e.1 = y.e.1
      · rw [decide_eq_true hk, Bool.not_true, qAz]
        refine ⟨na, qAe.2 ⟨by omega, rfl, rfl, Qh (ha.val na hx) (xv.zbytes ⟨nb, qAe.2 ⟨by omega, rfl, rfl, Qh (hb.val nb hy) (yv.zbytes ?_)⟩⟩)⟩⟩
        rw [qHv]
        by_cases hv : x.e.2 = y.e.2
        · rw [decide_eq_true hv, Bool.not_true, qAz]
          refine qAy.2 ?_
          rw [QD (e := (j : Int) + 1) (by omega) (by omega)]
          refine ih (q - 1) _ _ (by omega) ⟨j + 1, ⟨rfl, rfl, rfl, rfl, trivial⟩, rfl, by omega, fun i hi => ?_⟩
          by_cases hij : i = j
          · subst hij
            simp only [ents, zV0, hx, hy, Option.map_some, Option.some.injEq]
            exact Prod.ext hk hv
          · exact heq i (by omega)
        · rw [decide_eq_false hv, Bool.not_false, qBi]
          exact fin fun e0 => hv (by rw [e0])
      · rw [decide_eq_false hk, Bool.not_false, qBi]
        exact fin fun e0 => hk (by rw [e0])
    · refine Qr (n := 45) [] ⟨rfl, trivial⟩ fun d' => (same_a111 _ _ _ _ _).mpr ?_
      rw [decide_eq_true (List.ext_getElem? fun i => ?_)] at k
      · exact k
      · by_cases hi : i < j
        · exact heq i hi
        · rw [List.getElem?_eq_none (by simp [ents]; omega), List.getElem?_eq_none (by simp [ents]; omega)]
  · rw [decide_eq_false (show ¬ (Int.ofNat a.n : Int) = Int.ofNat b.n by omega), Bool.not_false, qBi]
    rw [decide_eq_false fun e0 : ents X = ents Y => ?_] at k
    · exact k
    · have := congrArg List.length e0
      simp only [ents, zJ0] at this
      omega
def j5 (last : Option Ky) : List ER -> List ER
  | [] => []
  | x :: l => match last with
    | none => x :: j5 (some x.e.1) l
    | some k => if Qm k x.e.1 = true then x :: j5 (some x.e.1) l else j5 (some k) l
theorem qY : ∀ (l : List ER) (last : Option Ky), (j5 last l).Sublist l
  | [], _ => .slnil
  | x :: l, none => (qY l _).cons_cons x
  | x :: l, some k => by
    show (if Qm k x.e.1 = true then x :: j5 (some x.e.1) l else j5 (some k) l).Sublist _
    split
    · exact (qY l _).cons_cons x
    · exact (qY l _).cons x
theorem ER.plain (x : ER) : QL x.row = true := qH.2 fun v hv => by
  simp only [ER.row, zL0, zM0, or_false] at hv
  rcases hv with rfl | rfl <;> exact jB _
theorem qYg {a : SL} (ha : j1 h a X) (hlen : X.length < 8589934592) (hlf : X.length < lf)
    (hk : ∀ h' s, Q5 Qa h h' -> j1 h' s (j5 none X) -> SlOk s -> K (.sl s) h') : Qq Try.prog S lf (n + 1) 10 [.sl a] K h := by
  refine QJ (hSD (by decide) (by decide)) (by kernel_rfl) ?_
  rw [risen_nf]
  have la := ha.len (by decide)
  have ea : (Int.ofNat a.n : Int) = a.n := rfl
  refine Qy.inv (fun q z h' => ∃ (j : Nat) (s : SL) (R : List ER), ZAt 39 [(0, .sl a), (3, .sl s), (4, .int .i64 (j : Int))] z /\ Q5 Qa h h' /\ Grown h h' s 2 R.length (R.flatMap ER.row) /\ j + q = X.length /\ R.length <= j /\ R ++ j5 (R.getLast?.map fun x => x.e.1) (X.drop j) = j5 none X) (n := X.length) hlf
    ⟨0, QE, [], ⟨rfl, rfl, rfl, rfl, trivial⟩, Q5.refl _ _, Grown.start _ _ _, by omega, zY0 _, rfl⟩ ?_
  rintro q z h' kk hq ⟨j, s, R, hz, f, g, hj, hR, heq⟩ ih
  refine Qr _ hz fun d => (qRj _ _ _ _ _ _ _ _ _ _ _).mpr ?_
  have gn := g.n_eq
  have es : (Int.ofNat s.n : Int) = s.n := rfl
  have hfn := f.next
  rw [q9]
  refine ⟨fun e => ?_, fun e => ?_⟩
  · have hjx : j < X.length := by omega
    have na := ha.nil_of (by decide) hjx
    have a1 := ha.len' (by decide) na
    obtain ⟨x, hx⟩ : ∃ x, X[j]? = some x := ⟨_, zE0 hjx⟩
    have ha' := ha.fr f
    obtain ⟨xk, xv⟩ := ha'.ok x (zD0 hx)
    have hdrop : X.drop j = x :: X.drop (j + 1) := by
      rw [List.drop_eq_getElem_cons hjx]
      congr 1
      exact (List.getElem?_eq_some_iff.1 hx).2
    rw [hdrop] at heq
    have go : R ++ [x] ++ j5 ((R ++ [x]).getLast?.map fun x => x.e.1) (X.drop (j + 1)) = j5 none X -> ∀ h2 s2 z2, Q5 Qa h h2 -> Grown h h2 s2 2 (R.length + 1) (R.flatMap ER.row ++ x.row) -> ZAt 39 [(0, .sl a), (3, .sl s2), (4, .int .i64 ((j : Int) + 1))] z2 -> kk z2 h2 := by
      intro h1 h2 s2 z2 f2 g2 hz2
      refine ih (q - 1) _ _ (by omega) ⟨j + 1, s2, R ++ [x], hz2, f2, ?_, by omega, by simp; omega, h1⟩
      rw [zC0, zT0]
      have : List.flatMap ER.row [x] = x.row := by simp
      rw [this]; exact g2
    have f4 : Q5 Qa h' (h'.newO (.cells x.row 2 false false)) := Q5.newO _ _ _
    have sg : Seg (h'.newO (.cells x.row 2 false false)) ⟨false, h'.next, 0, 1, 1, false⟩ 2 x.row := Seg.own (more := []) rfl (zO0 _) (by rw [zS0]; exact Ql _ _)
    have hn4 : (h'.newO (.cells x.row 2 false false)).next = h'.next + 1 := rfl
    have hw : IntKind.i64.wrap ((j : Int) + 1) = (j : Int) + 1 := QD (by omega) (by omega)
    have hsi : s.nil = false -> h.next <= s.i := fun e1 => by
      rcases g.2 with ⟨_, rfl⟩ | ⟨_, _, _, _, _, h6, _⟩
      · cases e1
      · exact h6
    rw [q9]
    refine ⟨fun e0 => ?_, fun e0 => ?_⟩
    · have hR0 : R = [] := List.eq_nil_of_length_eq_zero (by omega)
      subst hR0
      refine ⟨na, qAe.2 ⟨by omega, rfl, Qh (ha'.key na hx) (Qh (ha'.val na hx) (sg.zsrc ?_))⟩⟩
      refine (g.fr f4 fun _ => id).append1 (by omega) (by decide) rfl x.plain (room51 (by omega)) fun g5 f5 _ => qAy.2 ?_
      rw [hw]
      exact go heq _ _ _ ((f.trans f4).back f5 fun i hi ⟨e1, e2⟩ => by have := hsi e1; omega) g5 ⟨rfl, rfl, rfl, rfl, trivial⟩
    · obtain ⟨y, hy⟩ : ∃ y, R.getLast? = some y := by
        cases R with
        | nil => simp only [List.length_nil] at gn; omega
        | cons a R => exact ⟨_, List.getLast?_eq_some_getLast (by simp)⟩
      rw [hy, Option.map_some] at heq
      have hym : y ∈ R := List.mem_of_getLast? hy
      have hRpos : 0 < R.length := List.length_pos_of_mem hym
      have hyj : R[R.length - 1]? = some y := by rw [<- List.getLast?_eq_getElem?]; exact hy
      have hyX : y ∈ X := (qY X none).subset (by rw [<- heq]; exact zH0 _ hym)
      have rw' : j1 h' s R := g.rws (fun x _ => rfl) fun x hx => ha'.ok x ((qY X none).subset (by rw [<- heq]; exact zH0 _ hx))
      have ns := rw'.nil_of (by decide) (j := R.length - 1) (by omega)
      have ls := rw'.len' (by decide) ns
      have hw1 : IntKind.i64.wrap (Int.ofNat s.n - 1) = ((R.length - 1 : Nat) : Int) := by rw [QD (by omega) (by omega)]; omega
      refine ⟨na, qAe.2 ⟨by omega, rfl, rfl, Qh (ha'.key na hx) (xk.zbytes (qAy.2 ?_))⟩⟩
      rw [hw1]
      refine ⟨ns, qAe.2 ⟨by omega, rfl, rfl, Qh (rw'.key ns hyj) ((rw'.ok y hym).1.zbytes ?_)⟩⟩
      rw [qHv]
      have hr : j5 (some y.e.1) (x :: X.drop (j + 1)) = if Qm y.e.1 x.e.1 = true then x :: j5 (some x.e.1) (X.drop (j + 1)) else j5 (some y.e.1) (X.drop (j + 1)) := rfl
      rw [hr] at heq
      cases hb : Qm y.e.1 x.e.1 with
      | true =>
        rw [hb, if_pos rfl] at heq
        rw [qBi]
        refine ⟨na, qAe.2 ⟨by omega, rfl, Qh (ha'.key na hx) (Qh (ha'.val na hx) (sg.zsrc ?_))⟩⟩
        refine (g.fr f4 fun _ => id).append1 (by omega) (by decide) rfl x.plain (room51 (by omega)) fun g5 f5 _ => qAy.2 ?_
        rw [hw]
        refine go ?_ _ _ _ ((f.trans f4).back f5 fun i hi ⟨e1, e2⟩ => by have := hsi e1; omega) g5 ⟨rfl, rfl, rfl, rfl, trivial⟩
        rw [List.getLast?_concat, Option.map_some, List.append_assoc]
        exact heq
      | false =>
        rw [hb, if_neg (by simp)] at heq
        rw [qAz]
        refine qAy.2 ?_
        rw [hw]
        refine ih (q - 1) _ _ (by omega) ⟨j + 1, s, R, ⟨rfl, rfl, rfl, rfl, trivial⟩, f, g, by omega, by omega, ?_⟩
        rw [hy, Option.map_some]; exact heq
  · refine Qr (n := 39) [(3, .sl s)] ⟨rfl, rfl, trivial⟩ fun d' => (qZ1 _ _ _ _ _ _).mpr ?_
    have : X.drop j = [] := List.drop_of_length_le (by omega)
    rw [this, show j5 (R.getLast?.map fun x => x.e.1) [] = [] from rfl, zS0] at heq
    subst heq
    have hsub : ∀ x, x ∈ j5 none X -> x ∈ X := fun x hx => (qY X none).subset hx
    refine hk _ s f (g.rws (fun x _ => rfl) fun x hx => (ha.fr f).ok x (hsub x hx)) fun e1 => ?_
    rcases g.2 with ⟨_, rfl⟩ | ⟨_, _, h3, h4, _⟩
    · cases e1
    · omega
end
end DfN
namespace DfN
open Go Go.X Go.X.Df Go.Proofs
set_option maxRecDepth 100000
section
variable {S : QW} [GoodS S] {lf n : Nat} {h : Q0} {K : ZK} {X Y : List ER}
def Wide (e : Ky × Ky) : Prop := e.1.length <= 281474976710656 /\ e.2.length <= 281474976710656
def Fine (X : List ER) : Prop := X.length <= 2147483647 /\ ∀ x, x ∈ X -> x.e.1.length <= 2147483647 /\ x.e.2.length <= 2147483647
theorem qTn {a : SL} (ha : j1 h a X) (hb : ∀ x, x ∈ X -> Wide x.e) (hlen : X.length <= 281474976710656) (hlf : X.length + 1 < lf)
    (hk : ∀ w : Int, 0 <= w -> w <= 1125899906842624 -> (w <= 2147483647 -> Fine X) -> K (.int .i64 w) h) : Qq Try.prog S lf (n + 1) 9 [.sl a, .sl QE] K h := by
  refine QJ (hSD (by decide) (by decide)) (by kernel_rfl) ?_
  rw [weight_nf]
  have la := ha.len (by decide)
  have ea : (Int.ofNat a.n : Int) = a.n := rfl
  -- behind the first loop
  have behind : ∀ (w : Int) (z : ZT), ZAt 68 [(1, .sl QE), (5, .int .i64 w)] z -> 0 <= w -> w <= 1125899906842624 -> (w <= 2147483647 -> Fine X) ->
      zAt Try.prog (Qq Try.prog S lf n) lf 9 [1, 1, 1] z (Q3 Try.prog 9 K) ⟨[], Q3 Try.prog 9 K⟩ h := by
    intro w z hz h1 h2 h3
    refine Qr _ hz fun d => (qWa _ _ _ _ _ _ _).mpr ?_
    refine Qy.inv (fun q z h' => ZAt 68 [(1, .sl QE), (5, .int .i64 w), (7, .int .i64 0)] z /\ h' = h) (n := 0) (by omega) ⟨⟨rfl, rfl, rfl, rfl, trivial⟩, rfl⟩ ?_
    rintro q z h' kk hq ⟨hz, rfl⟩ ih
    refine Qr _ hz fun d => (qM5 _ _ _ _ _ _ _ _ _ _ _).mpr ?_
    rw [decide_eq_false (show ¬ (0 : Int) < Int.ofNat QE.n by decide), qAz]
    exact Qr (n := 68) [(5, .int .i64 w)] ⟨rfl, rfl, trivial⟩ fun d' => (qTo _ _ _ _ _ _).mpr (hk w h1 h2 h3)
  refine Qy.inv (fun q z h' => ∃ (j : Nat) (w : Int), ZAt 68 [(0, .sl a), (1, .sl QE), (5, .int .i64 w), (6, .int .i64 (j : Int))] z /\ h' = h /\ j + q = X.length /\ 0 <= w /\ w <= 1125899906842624 /\ (w <= 2147483647 -> (j : Int) <= w /\ ∀ i x, i < j -> X[i]? = some x -> (x.e.1.length : Int) <= w /\ (x.e.2.length : Int) <= w)) (n := X.length) (by omega)
    ⟨0, 0, ⟨rfl, rfl, rfl, rfl, rfl, trivial⟩, rfl, by omega, by omega, by omega, fun _ => ⟨by omega, fun i x hi => absurd hi (Nat.not_lt_zero _)⟩⟩ ?_
  rintro q z h' kk hq ⟨j, w, hz, rfl, hj, w0, w1, hw⟩ ih
  refine Qr _ hz fun d => (qOx _ _ _ _ _ _ _ _ _ _ _ _).mpr ?_
  rw [q9]
  refine ⟨fun e => ?_, fun e => ?_⟩
  · rw [cnd_t, q9]
    refine ⟨fun e2 => ?_, fun e2 => behind w _ ⟨rfl, rfl, rfl, trivial⟩ w0 w1 fun e3 => absurd e3 e2⟩
    obtain ⟨hw1, hw2⟩ := hw e2
    have hjx : j < X.length := by omega
    have na := ha.nil_of (by decide) hjx
    have a1 := ha.len' (by decide) na
    obtain ⟨x, hx⟩ : ∃ x, X[j]? = some x := ⟨_, zE0 hjx⟩
    obtain ⟨xk, xv⟩ := ha.ok x (zD0 hx)
    obtain ⟨b1, b2⟩ := hb x (zD0 hx)
    have l1 := xk.len
    have l2 := xv.len
    have e1 : (Int.ofNat x.ks.n : Int) = x.ks.n := rfl
    have e3 : (Int.ofNat x.vs.n : Int) = x.vs.n := rfl
    refine qAy.2 ?_
    rw [QD (e := w + 1) (by omega) (by omega)]
    refine ⟨na, qAe.2 ⟨by omega, rfl, rfl, Qh (ha.key na hx) (qAy.2 ?_)⟩⟩
    rw [QD (e := w + 1 + Int.ofNat x.ks.n) (by omega) (by omega)]
    refine ⟨na, qAe.2 ⟨by omega, rfl, rfl, Qh (ha.val na hx) (qAy.2 ?_)⟩⟩
    rw [QD (e := w + 1 + Int.ofNat x.ks.n + Int.ofNat x.vs.n) (by omega) (by omega)]
    refine qAy.2 ?_
    rw [QD (e := (j : Int) + 1) (by omega) (by omega)]
    refine ih (q - 1) _ _ (by omega) ⟨j + 1, w + 1 + Int.ofNat x.ks.n + Int.ofNat x.vs.n, ⟨rfl, rfl, rfl, rfl, rfl, trivial⟩, rfl, by omega, by omega, by omega, fun h5 => ⟨by omega, fun i y hi hy => ?_⟩⟩
    by_cases hij : i = j
    · subst hij
      rw [hx] at hy
      cases hy
      omega
    · obtain ⟨q1, q2⟩ := hw2 i y (by omega) hy
      omega
  · refine behind w _ ⟨rfl, rfl, rfl, trivial⟩ w0 w1 fun e3 => ?_
    obtain ⟨hw1, hw2⟩ := hw e3
    refine ⟨by omega, fun x hx => ?_⟩
    obtain ⟨i, hi⟩ := List.mem_iff_getElem?.1 hx
    have := (List.getElem?_eq_some_iff.1 hi).1
    obtain ⟨q1, q2⟩ := hw2 i x (by omega) hi
    omega
end
end DfN
