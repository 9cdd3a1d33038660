/-
  PROVED: what is lent, stays, turns, the document's Lists, 'banyanlaw19.DiffLists' over heaps is true. Condition: its arguments read as slices of entries.
-/
import Derived.Test.YtppjfhdhgofeiaaPf
set_option maxRecDepth 100000
set_option linter.unusedSectionVars false
open List renaming mem_cons_of_mem -> zA0, mem_cons_self -> zB0, length_append -> zC0, mem_of_getElem? -> zD0, getElem?_eq_getElem -> zE0, mem_append_left -> zH0, length_map -> zJ0, length_cons -> zK0, mem_cons -> zL0, not_mem_nil -> zM0, append_nil -> zS0, flatMap_append -> zT0, flatMap_cons -> zU0, getElem?_map -> zV0, length_take -> zW0, length_replicate -> zX0, getElem?_append_right -> zB1
open Nat renaming lt_of_lt_of_le -> zF0, le_refl -> zN0, lt_succ_self -> zO0, le_trans -> zP0, zero_le -> zY0, mul_one -> zA1
noncomputable section
set_option linter.unusedVariables false
set_option linter.unusedSimpArgs false
namespace DfN
open Go Go.X Go.X.Df Go.Proofs
structure LR where
  ki : Nat
  vi : Nat
  k : Ky
  v : Ky
  vt : Ky
def LR.ks (x : LR) : SL := ⟨false, x.ki, 0, x.k.length, x.k.length + 2, true⟩
def LR.vs (x : LR) : SL := ⟨false, x.vi, 0, x.v.length, x.v.length + 2, true⟩
def LR.fk (x : LR) : SL := ⟨false, x.ki, 0, x.k.length + 2, x.k.length + 2, true⟩
def LR.fv (x : LR) : SL := ⟨false, x.vi, 0, x.v.length + 2, x.v.length + 2, true⟩
def LR.er (x : LR) : ER := ⟨x.ks, x.vs, (x.k, x.v)⟩
def LR.all (x : LR) : List SL := [x.fk, x.fv]
def LR.ids (x : LR) : List Nat := [x.ki, x.vi]
def LR.row (x : LR) : List AV := x.er.row
structure LR.Ok (h0 h : Q0) (x : LR) : Prop where
  kl : h0.next <= x.ki
  kn : x.ki < h.next
  kg : h.get x.ki = some (.cells (ofBytes (x.k ++ [167, 168])) 1 true false)
  vl : h0.next <= x.vi
  vn : x.vi < h.next
  vg : h.get x.vi = some (.cells (ofBytes (x.v ++ x.vt)) 1 true false)
  kb : ∀ b, b ∈ x.k -> b < 256
  vb : ∀ b, b ∈ x.v ++ x.vt -> b < 256
  vt : x.vt.length = 2
theorem LR.Ok.fr {h0 h h' : Q0} {x : LR} {T : Nat -> Prop} (a : x.Ok h0 h) (f : Q5 T h h') (h1 : ¬ T x.ki) (h2 : ¬ T x.vi) : x.Ok h0 h' :=
  ⟨a.kl, zF0 a.kn f.next, (f.same _ a.kn h1).trans a.kg, a.vl, zF0 a.vn f.next, (f.same _ a.vn h2).trans a.vg, a.kb, a.vb, a.vt⟩
theorem LR.Ok.er {h0 h : Q0} {x : LR} (a : x.Ok h0 h) : ER.Ok h x.er :=
  ⟨⟨Seg.own (more := ofBytes [167, 168]) (by rw [Qt, zA1]; rfl) a.kn (by rw [<- qDy]; exact a.kg), a.kb⟩,
   ⟨Seg.own (more := ofBytes x.vt) (by rw [Qt, zA1]; rfl) a.vn (by rw [<- qDy]; exact a.vg), fun b hb => a.vb b (zH0 _ hb)⟩⟩
def qSz (h0 h : Q0) (m : Nat) : Prop := h0.next <= m /\ m < h.next /\ h.get m = some (.cells (ofBytes [109, 97, 114, 107]) 1 false true)
theorem qSz.fr {h0 h h' : Q0} {m : Nat} {T : Nat -> Prop} (a : qSz h0 h m) (f : Q5 T h h') (hT : ¬ T m) : qSz h0 h' m := ⟨a.1, zF0 a.2.1 f.next, (f.same _ a.2.1 hT).trans a.2.2⟩
theorem qSz.byts {h0 h : Q0} {m : Nat} (a : qSz h0 h m) : qz h ⟨false, m, 0, 4, 4, false⟩ [109, 97, 114, 107] :=
  ⟨Seg.own (more := []) rfl a.2.1 (by rw [zS0]; exact a.2.2), by decide⟩
structure Lent (h0 h : Q0) (l c all : SL) (rs : List LR) : Prop where
  ls : ∃ i m, l = ⟨false, i, 0, rs.length + 1, rs.length + 1, false⟩ /\ h0.next <= i /\ i < h.next /\ h.get i = some (.cells (rs.flatMap LR.row ++ [.slice m 0 4 4 false, .nils]) 2 false false) /\ qSz h0 h m
  cs : ∃ i m, c = ⟨false, i, 0, 1, 1, false⟩ /\ h0.next <= i /\ i < h.next /\ h.get i = some (.cells [.slice m 0 4 4 false, .bool false, .bool false, .nils, .nils] 5 false false) /\ qSz h0 h m
  arr : Arr h0 h all (rs.flatMap LR.all)
  ok : ∀ r, r ∈ rs -> r.Ok h0 h
  asc : (rs.flatMap LR.ids).Pairwise (· < ·)
theorem Arr.low {h0 h : Q0} {s : SL} {l : List SL} (a : Arr h0 h s l) (e : s.nil = false) : h0.next <= s.i := by
  rcases a.2 with ⟨_, rfl⟩ | ⟨_, _, _, _, _, h6, _⟩
  · cases e
  · exact h6
theorem Lent.fr {h0 h h' : Q0} {l c all : SL} {rs : List LR} {T : Nat -> Prop} (a : Lent h0 h l c all rs) (f : Q5 T h h') (hT : ∀ i, h0.next <= i -> ¬ T i) : Lent h0 h' l c all rs := by
  obtain ⟨⟨i, m, e1, e2, e3, e4, e5⟩, ⟨i', m', d1, d2, d3, d4, d5⟩, ar, ok, asc⟩ := a
  exact ⟨⟨i, m, e1, e2, zF0 e3 f.next, (f.same _ e3 (hT _ e2)).trans e4, e5.fr f (hT _ e5.1)⟩,
    ⟨i', m', d1, d2, zF0 d3 f.next, (f.same _ d3 (hT _ d2)).trans d4, d5.fr f (hT _ d5.1)⟩,
    ar.fr f fun e => hT _ (Arr.low ar e), fun r hr => (ok r hr).fr f (hT _ (ok r hr).kl) (hT _ (ok r hr).vl), asc⟩
structure LI (h0 h : Q0) (v4 v5 il ic : Nat) (m : Nat) (all : SL) (rs : List LR) : Prop where
  v4v : Var h v4 [.nils, .nils, .nils]
  v5v : Var h v5 [(⟨false, il, 0, m + 1, m + 1, false⟩ : SL).av, (⟨false, ic, 0, 1, 1, false⟩ : SL).av, all.av]
  ln : il < h.next
  lb : h.get il = some (.cells (rs.flatMap LR.row ++ (List.replicate (m + 1 - rs.length) [AV.nils, .nils]).flatten) 2 false false)
  cn : ic < h.next
  cb : h.get ic = some (.cells [.nils, .bool false, .bool false, .nils, .nils] 5 false false)
  g4 : h0.next <= v4
  g5 : h0.next <= v5
  gl : h0.next <= il
  gc : h0.next <= ic
  arr : Arr h0 h all (rs.flatMap LR.all)
  ok : ∀ r, r ∈ rs -> r.Ok h0 h
  asc : (rs.flatMap LR.ids).Pairwise (· < ·)
  ne : v4 ≠ v5
  an : all.nil = false -> rs.flatMap LR.all ≠ []
theorem row_len (x : LR) : x.row.length = 2 := rfl
theorem qFx : ∀ l : List LR, (l.flatMap LR.row).length = l.length * 2
  | [] => rfl
  | x :: l => by rw [zU0, zC0, qFx l, zK0, row_len]; omega
theorem qXv : ∀ l : List LR, (l.flatMap LR.all).length = l.length * 2
  | [] => rfl
  | x :: l => by rw [zU0, zC0, qXv l, zK0]; show 2 + _ = _; omega
theorem qU7 (rs : List LR) (v : List AV) (hv : v.length = 2) (q : Nat) :
    (rs.flatMap LR.row ++ (List.replicate (q + 1) [AV.nils, .nils]).flatten).take (0 + rs.length * 2) ++ (v ++ (rs.flatMap LR.row ++ (List.replicate (q + 1) [AV.nils, .nils]).flatten).drop (0 + rs.length * 2 + v.length)) = rs.flatMap LR.row ++ v ++ (List.replicate q [AV.nils, .nils]).flatten := by
  have e : (rs.flatMap LR.row).length = 0 + rs.length * 2 := by rw [qFx]; omega
  rw [List.take_left' e, <- List.drop_drop, List.drop_left' e, List.replicate_succ, List.flatten_cons, hv]
  show _ ++ (v ++ ([AV.nils, .nils] ++ _).drop 2) = _
  rw [List.drop_left' (by rfl), List.append_assoc]
theorem Arr.ne2 {h0 h : Q0} {s : SL} {l : List SL} (a : Arr h0 h s l) (e : s.nil = false) {i : Nat} {cs : List AV} {sz : Nat} {mk : Bool} (hg : h.get i = some (.cells cs sz false mk)) : i ≠ s.i := by
  rcases a.2 with ⟨_, rfl⟩ | ⟨_, _, _, _, _, _, _, h8⟩
  · cases e
  · intro e'; rw [e', h8] at hg; cases hg
theorem Arr.ne_b {h0 h : Q0} {s : SL} {l : List SL} (a : Arr h0 h s l) (e : s.nil = false) {i : Nat} {k : Ky} {sz : Nat} {g mk : Bool} (hl : l ≠ []) (hg : h.get i = some (.cells (ofBytes k) sz g mk)) : i ≠ s.i := by
  intro e'
  exact qMo hg (e' ▸ (Arr.ab a hl e).1)
section
variable {S : QW} [GoodS S] {lf n : Nat} {h g0 h0 : Q0} {K : ZK} {X : List ER}
theorem jAg {z : ZT} {k X0 : ZT -> Q0 -> Prop} {E : List (Nat × (ZT -> Q0 -> Prop))} {a : SL} {v4 v5 il ic m : Nat} {all : SL} {rs : List LR} (L : LI h0 h v4 v5 il ic m all rs) (ha : j1 h a X) (hm : X.length = m) (hj : rs.length < m) (hm2 : m < 2147483648)
    (hsz : ∀ x, x ∈ X -> x.e.1.length <= 2147483647 /\ x.e.2.length <= 2147483647) (hn : h0.next <= h.next)
    (hz : ZAt 141 [(0, .sl a), (1, .sl QE), (4, .pv false v4 0), (5, .pv false v5 0), (6, .int .i64 (rs.length : Int))] z)
    (hk : ∀ h' z' all' r, LI h0 h' v4 v5 il ic m all' (rs ++ [r]) -> X[rs.length]?.map (fun x => x.e) = some (r.k, r.v) -> r.vt = [167, 168] -> Q5 (fun i => h0.next <= i) h h' -> ZAt 141 [(0, .sl a), (1, .sl QE), (4, .pv false v4 0), (5, .pv false v5 0), (6, .int .i64 ((rs.length + 1 : Nat) : Int))] z' -> k z' h') :
    zAt Try.prog (Qq Try.prog S lf (n + 1)) lf 11 [1, 1, 0, 1, 0, 0] z k ⟨(0, X0) :: E, Q3 Try.prog 11 K⟩ h := by
  refine Qr _ hz fun d => (qLp _ _ _ _ _ _ _ _ _ _ _ _ _).mpr ?_
  have la := ha.len (by decide)
  have na := ha.nil_of (by decide) (j := rs.length) (by omega)
  have a1 := ha.len' (by decide) na
  have ea : (Int.ofNat a.n : Int) = a.n := rfl
  obtain ⟨x, hx⟩ : ∃ x, X[rs.length]? = some x := ⟨_, zE0 (by omega)⟩
  have hmem := zD0 hx
  obtain ⟨xk, xv⟩ := ha.ok x hmem
  obtain ⟨s1, s2⟩ := hsz x hmem
  rw [decide_eq_true (by rw [ea, la, hm]; omega), qBi]
  refine ⟨na, qAe.2 ⟨by omega, rfl, rfl, Qh (ha.at' na hx (q := 0) (by decide) rfl) ?_⟩⟩
  refine qUq xk (by omega) fun h2 sk f2 mk2 => ?_
  refine qe ⟨na, qAe.2 ⟨by omega, rfl, rfl, Qh ((ha.fr f2).at' na hx (q := 1) (by decide) rfl) ?_⟩⟩
  refine qUq (xv.fr f2 fun _ => id) (by omega) fun h3 sv f3 mk3 => ?_
  obtain ⟨ki, rfl, kl, kn, kg⟩ := mk2.is
  obtain ⟨vi, rfl, vl, vn, vg⟩ := mk3.is
  have hn2 := f2.next
  have hn3 := f3.next
  have F3 : Q5 Qa h h3 := f2.trans f3
  refine qe ⟨rfl, rfl, (L.v5v.fr F3 id).ldL all rfl ?_⟩
  have f4 : Q5 Qa h3 (h3.newO (.cells [(⟨false, ki, 0, x.e.1.length + 2, x.e.1.length + 2, true⟩ : SL).av, (⟨false, vi, 0, x.e.2.length + 2, x.e.2.length + 2, true⟩ : SL).av] 1 false false)) := Q5.newO _ _ _
  have sg : Seg (h3.newO (.cells [(⟨false, ki, 0, x.e.1.length + 2, x.e.1.length + 2, true⟩ : SL).av, (⟨false, vi, 0, x.e.2.length + 2, x.e.2.length + 2, true⟩ : SL).av] 1 false false)) ⟨false, h3.next, 0, 2, 2, false⟩ 1 [(⟨false, ki, 0, x.e.1.length + 2, x.e.1.length + 2, true⟩ : SL).av, (⟨false, vi, 0, x.e.2.length + 2, x.e.2.length + 2, true⟩ : SL).av] := Seg.own (more := []) rfl (zO0 _) (by rw [zS0]; exact Ql _ _)
  refine sg.zsrc ?_
  have hn4 : (h3.newO (.cells [(⟨false, ki, 0, x.e.1.length + 2, x.e.1.length + 2, true⟩ : SL).av, (⟨false, vi, 0, x.e.2.length + 2, x.e.2.length + 2, true⟩ : SL).av] 1 false false)).next = h3.next + 1 := rfl
  generalize h3.newO (.cells [(⟨false, ki, 0, x.e.1.length + 2, x.e.1.length + 2, true⟩ : SL).av, (⟨false, vi, 0, x.e.2.length + 2, x.e.2.length + 2, true⟩ : SL).av] 1 false false) = H at f4 sg hn4 ⊢
  have F4 := F3.trans f4
  have A4 : Arr h0 H all (rs.flatMap LR.all) := L.arr.fr F4 fun _ => id
  have hr2 := qXv rs
  refine Grown.append1 A4 (by omega) (k := 2) (by decide) rfl (qH.2 fun v hv => ?_) (qYf (by omega)) fun g5 f5 hi5 => ?_
  · simp only [zL0, zM0, or_false] at hv
    rcases hv with rfl | rfl <;> exact jB _
  have A5 : Arr h0 (Qx H all 1 2 [(⟨false, ki, 0, x.e.1.length + 2, x.e.1.length + 2, true⟩ : SL).av, (⟨false, vi, 0, x.e.2.length + 2, x.e.2.length + 2, true⟩ : SL).av]) (all.app H.next 2) ((rs ++ [(⟨ki, vi, x.e.1, x.e.2, [167, 168]⟩ : LR)]).flatMap LR.all) := by
    rw [zT0]
    show Grown _ _ _ 1 (rs.flatMap LR.all ++ LR.all ⟨ki, vi, x.e.1, x.e.2, [167, 168]⟩).length _
    rw [zC0, List.map_append]; exact g5
  have hn5 : (all.app H.next 2).nil = false := by
    unfold SL.app
    rw [show Nat.beq 2 0 = false from rfl]
    simp only
    cases all.nil with
    | true => rfl
    | false => cases Nat.ble (all.len + 2) all.cap <;> rfl
  clear g5
  generalize all.app H.next 2 = all' at A5 hn5 hi5 ⊢
  generalize Qx H all 1 2 _ = H5 at A5 f5 ⊢
  have hnx5 := f5.next
  have NA : ∀ {i cs sz mk}, H.get i = some (.cells cs sz false mk) -> ¬ (all.nil = false /\ i = all.i) := fun hg ⟨e, e'⟩ => A4.ne2 e hg e'
  have NB : ∀ {i : Nat} {k : Ky} {sz g mk}, H.get i = some (.cells (ofBytes k) sz g mk) -> ¬ (all.nil = false /\ i = all.i) := fun hg ⟨e, e'⟩ => A4.ne_b e (L.an e) hg e'
  have V5 := (L.v5v.fr F4 id).fr f5 (NA (L.v5v.fr F4 id).get)
  have V4 := (L.v4v.fr F4 id).fr f5 (NA (L.v4v.fr F4 id).get)
  have l5 : H5.get il = _ := (f5.same _ (zF0 L.ln F4.next) (NA ((F4.same _ L.ln id).trans L.lb))).trans ((F4.same _ L.ln id).trans L.lb)
  have c5 : H5.get ic = _ := (f5.same _ (zF0 L.cn F4.next) (NA ((F4.same _ L.cn id).trans L.cb))).trans ((F4.same _ L.cn id).trans L.cb)
  have r5 : ∀ r, r ∈ rs -> r.Ok h0 H5 := fun r hr => by
    have q := (L.ok r hr).fr F4 id id
    exact q.fr f5 (NB q.kg) (NB q.vg)
  have R5 : LR.Ok h0 H5 ⟨ki, vi, x.e.1, x.e.2, [167, 168]⟩ := by
    have k3 : h3.get ki = _ := (f3.same _ kn id).trans kg
    have k4 : H.get ki = _ := (f4.same _ (by omega) id).trans k3
    have v4 : H.get vi = _ := (f4.same _ vn id).trans vg
    refine ⟨by show _ <= ki; omega, by show ki < _; omega, (f5.same _ (by omega) (NB k4)).trans k4, by show _ <= vi; omega, by show vi < _; omega, (f5.same _ (by omega) (NB v4)).trans v4, mk2.byte, fun b hb => ?_, rfl⟩
    rcases List.mem_append.1 hb with hb | hb
    · exact mk3.byte b hb
    · simp only [zL0, zM0, or_false] at hb
      rcases hb with rfl | rfl <;> decide
  refine ⟨rfl, rfl, V5.zput (by simp) ?_⟩
  have V6 := V5.put 2 [all'.av]
  have f6 := V5.put_fr 2 [all'.av]
  have hn6 : (hput H5 v5 2 [all'.av]).next = H5.next := qg _ _ _ _
  generalize hput H5 v5 2 [all'.av] = H6 at V6 f6 hn6 ⊢
  have V6' : Var H6 v5 [(⟨false, il, 0, m + 1, m + 1, false⟩ : SL).av, (⟨false, ic, 0, 1, 1, false⟩ : SL).av, all'.av] := V6
  have n5 : ∀ {i cs sz g mk}, H5.get i = some (.cells cs sz g mk) -> sz ≠ 0 -> i ≠ v5 := fun hg hz e => by
    rw [e, V5.get] at hg; cases hg; exact hz rfl
  have l6 : H6.get il = _ := (f6.same _ (by have := L.ln; have := F4.next; omega) (n5 l5 (by decide))).trans l5
  have c6 : H6.get ic = _ := (f6.same _ (by have := L.cn; have := F4.next; omega) (n5 c5 (by decide))).trans c5
  have A6 : Arr h0 H6 all' ((rs ++ [(⟨ki, vi, x.e.1, x.e.2, [167, 168]⟩ : LR)]).flatMap LR.all) := A5.fr f6 fun e e' => A5.ne2 e V5.get e'.symm
  have V46 := V4.fr f6 L.ne
  have r6 : ∀ r, r ∈ rs ++ [(⟨ki, vi, x.e.1, x.e.2, [167, 168]⟩ : LR)] -> r.Ok h0 H6 := fun r hr => by
    have q : r.Ok h0 H5 := by
      rcases List.mem_append.1 hr with hr | hr
      · exact r5 r hr
      · rw [List.mem_singleton.1 hr]; exact R5
    exact q.fr f6 (n5 q.kg (by decide)) (n5 q.vg (by decide))
  refine ⟨rfl, rfl, V6'.ldL _ rfl (qAy.2 ?_)⟩
  rw [show IntKind.i64.wrap (Int.ofNat (SL.n ⟨false, ki, 0, x.e.1.length + 2, x.e.1.length + 2, true⟩) - 2) = ((x.e.1.length : Nat) : Int) from by
    have : (Int.ofNat (SL.n ⟨false, ki, 0, x.e.1.length + 2, x.e.1.length + 2, true⟩) : Int) = ((x.e.1.length + 2 : Nat) : Int) := rfl
    rw [this, QD (by omega) (by omega)]; omega]
  refine qCd.2 ⟨⟨fun e => (by cases e), fun _ => ⟨zY0 _, Nat.le_add_right _ _⟩⟩, qAy.2 ?_⟩
  rw [show IntKind.i64.wrap (Int.ofNat (SL.n ⟨false, vi, 0, x.e.2.length + 2, x.e.2.length + 2, true⟩) - 2) = ((x.e.2.length : Nat) : Int) from by
    have : (Int.ofNat (SL.n ⟨false, vi, 0, x.e.2.length + 2, x.e.2.length + 2, true⟩) : Int) = ((x.e.2.length + 2 : Nat) : Int) := rfl
    rw [this, QD (by omega) (by omega)]; omega]
  refine qCd.2 ⟨⟨fun e => (by cases e), fun _ => ⟨zY0 _, Nat.le_add_right _ _⟩⟩, rfl, qAe.2 ⟨by show _ < m + 1; omega, rfl, ?_⟩⟩
  have hil : il < H6.next := by have := L.ln; have := F4.next; omega
  refine ⟨⟨hil, _, _, _, _, l6, ?_⟩, qAy.2 ?_⟩
  · rw [zC0, qFx, show m + 1 - rs.length = (m - rs.length) + 1 from by omega, List.replicate_succ, List.flatten_cons, zC0]
    show 0 + _ + 2 <= _ + (2 + _)
    omega
  rw [QD (e := (rs.length : Int) + 1) (by omega) (by omega)]
  have l7 := qEy (o := 0 + rs.length * 2) (vs := LR.row ⟨ki, vi, x.e.1, x.e.2, [167, 168]⟩) l6
  rw [show m + 1 - rs.length = (m - rs.length) + 1 from by omega, qU7 rs _ rfl] at l7
  have f7 : Q5 (fun j => j = il) H6 (hput H6 il (0 + rs.length * 2) (LR.row ⟨ki, vi, x.e.1, x.e.2, [167, 168]⟩)) := Q5.hput _ _ _ fun _ => rfl
  have hn7 : (hput H6 il (0 + rs.length * 2) (LR.row ⟨ki, vi, x.e.1, x.e.2, [167, 168]⟩)).next = H6.next := qg _ _ _ _
  refine hk _ _ all' ⟨ki, vi, x.e.1, x.e.2, [167, 168]⟩ ?_ (by rw [hx]; rfl) rfl ?_ ⟨rfl, rfl, rfl, rfl, rfl, rfl, trivial⟩
  · show LI h0 (hput H6 il (0 + rs.length * 2) (LR.row ⟨ki, vi, x.e.1, x.e.2, [167, 168]⟩)) v4 v5 il ic m all' (rs ++ [⟨ki, vi, x.e.1, x.e.2, [167, 168]⟩])
    generalize hput H6 il (0 + rs.length * 2) (LR.row ⟨ki, vi, x.e.1, x.e.2, [167, 168]⟩) = H7 at l7 f7 hn7 ⊢
    have n6 : ∀ {i cs sz g mk}, H6.get i = some (.cells cs sz g mk) -> sz ≠ 2 -> i ≠ il := fun hg hz e => by
      rw [e, l6] at hg; cases hg; exact hz rfl
    refine ⟨V46.fr f7 (n6 V46.get (by decide)), V6'.fr f7 (n6 V6'.get (by decide)), by omega, ?_, by have := L.cn; have := F4.next; omega, (f7.same _ (by have := L.cn; have := F4.next; omega) (n6 c6 (by decide))).trans c6, L.g4, L.g5, L.gl, L.gc,
      A6.fr f7 fun e e' => A6.ne2 e l6 e'.symm, fun r hr => (r6 r hr).fr f7 (n6 (r6 r hr).kg (by decide)) (n6 (r6 r hr).vg (by decide)), ?_, L.ne, fun _ => by rw [zT0]; simp [LR.all]⟩
    · rw [l7, zT0, zC0]
      have : m + 1 - (rs.length + [(⟨ki, vi, x.e.1, x.e.2, [167, 168]⟩ : LR)].length) = m - rs.length := by show m + 1 - (rs.length + 1) = _; omega
      rw [this]
      simp
    · rw [zT0]
      refine List.pairwise_append.2 ⟨L.asc, ?_, fun i hi j hj => ?_⟩
      · simp [LR.ids]; omega
      · obtain ⟨r, hr, hi⟩ := List.mem_flatMap.1 hi
        have q := L.ok r hr
        have q1 := q.kn
        have q2 := q.vn
        simp only [LR.ids, zU0, List.flatMap_nil, zS0, zL0, zM0, or_false] at hi hj
        omega
  · refine ((F4.mono fun _ _ e => e.elim).trans (f5.mono fun i _ e => ?_)).trans ((f6.mono fun i _ e => ?_).trans (f7.mono fun i _ e => ?_))
    · rw [e.2]; exact Arr.low A4 e.1
    · rw [e]; exact L.g5
    · rw [e]; exact L.gl
end
end DfN
namespace DfN
open Go Go.X Go.X.Df Go.Proofs
theorem qUr (h : Q0) (c : List AV) (e : Nat) (g m m' : Bool) : Q5 Qa h ((h.newO (.cells c e g m)).put h.next (some (.cells c e g m'))) /\ ((h.newO (.cells c e g m)).put h.next (some (.cells c e g m'))).get h.next = some (.cells c e g m') /\ ((h.newO (.cells c e g m)).put h.next (some (.cells c e g m'))).next = h.next + 1 :=
  ⟨(Q5.newO Qa h (.cells c e g m)).back (Q5.put (S := fun i => i = h.next) _ _ fun _ => rfl) fun i hi e => by omega, if_pos rfl, rfl⟩
section
variable {S : QW} [GoodS S] {lf n : Nat} {h g0 h0 : Q0} {K : ZK} {X : List ER}
theorem lend_fin {C : QX} {z : ZT} {a : SL} {v4 v5 il ic m : Nat} {all : SL} {rs : List LR} (L : LI h0 h v4 v5 il ic m all rs) (hm : rs.length = m) (la : a.n = m) (hn : h0.next <= h.next)
    (hz : ZAt 141 [(0, .sl a), (1, .sl QE), (4, .pv false v4 0), (5, .pv false v5 0)] z)
    (hk : ∀ h', Q5 (fun i => h0.next <= i) h h' -> Lent h0 h' ⟨false, il, 0, rs.length + 1, rs.length + 1, false⟩ ⟨false, ic, 0, 1, 1, false⟩ all rs -> K (.agg [.sl ⟨false, il, 0, rs.length + 1, rs.length + 1, false⟩, .sl ⟨false, ic, 0, 1, 1, false⟩, .sl all]) h') :
    zAt Try.prog C lf 11 [1, 1, 1, 1] z (Q3 Try.prog 11 K) ⟨[], Q3 Try.prog 11 K⟩ h := by
  refine Qr _ hz fun d => (jAh _ _ _ _ _ _ _ _ _).mpr ?_
  subst hm
  obtain ⟨f1, m1, n1⟩ := qUr h [.int .u8 109, .int .u8 97, .int .u8 114, .int .u8 107] 1 false false true
  refine ⟨rfl, rfl, L.v5v.ldL _ rfl ⟨_, _, _, _, rfl, Ql _ _, zO0 _, ?_⟩⟩
  have V5 := L.v5v.fr f1 id
  have V4 := L.v4v.fr f1 id
  have lb1 := (f1.same _ L.ln id).trans L.lb
  have cb1 := (f1.same _ L.cn id).trans L.cb
  have A1 : Arr h0 ((h.newO (.cells [.int .u8 109, .int .u8 97, .int .u8 114, .int .u8 107] 1 false false)).put h.next (some (.cells [.int .u8 109, .int .u8 97, .int .u8 114, .int .u8 107] 1 false true))) all (rs.flatMap LR.all) := L.arr.fr f1 fun _ => id
  have r1 : ∀ r, r ∈ rs -> r.Ok h0 ((h.newO (.cells [.int .u8 109, .int .u8 97, .int .u8 114, .int .u8 107] 1 false false)).put h.next (some (.cells [.int .u8 109, .int .u8 97, .int .u8 114, .int .u8 107] 1 false true))) := fun r hr => (L.ok r hr).fr f1 id id
  have M1 : qSz h0 ((h.newO (.cells [.int .u8 109, .int .u8 97, .int .u8 114, .int .u8 107] 1 false false)).put h.next (some (.cells [.int .u8 109, .int .u8 97, .int .u8 114, .int .u8 107] 1 false true))) h.next := ⟨hn, by rw [n1]; omega, m1⟩
  refine ⟨rfl, ?_⟩
  have ea : (Int.ofNat a.n : Int) = ((rs.length : Nat) : Int) := by rw [la]; rfl
  rw [ea]
  refine qAe.2 ⟨by show _ < rs.length + 1; omega, rfl, ?_⟩
  have ln1 : il < h.next + 1 := Nat.lt_succ_of_lt L.ln
  have cn1 : ic < h.next + 1 := Nat.lt_succ_of_lt L.cn
  rw [<- n1] at ln1 cn1
  dsimp only
  generalize (h.newO (.cells [.int .u8 109, .int .u8 97, .int .u8 114, .int .u8 107] 1 false false)).put h.next (some (.cells [.int .u8 109, .int .u8 97, .int .u8 114, .int .u8 107] 1 false true)) = H1 at f1 n1 m1 V5 V4 lb1 cb1 A1 r1 M1 ln1 cn1 ⊢
  generalize h.next = km at n1 m1 M1 ⊢
  refine ⟨⟨ln1, _, _, _, _, lb1, ?_⟩, ?_⟩
  · rw [zC0, qFx, show rs.length + 1 - rs.length = 0 + 1 from by omega]
    show 0 + _ + 2 <= _ + 2
    omega
  have lb2 := qEy (o := 0 + rs.length * 2) (vs := [AV.slice km 0 4 4 false, .nils]) lb1
  rw [show rs.length + 1 - rs.length = 0 + 1 from by omega, qU7 rs _ rfl, show (List.replicate 0 [AV.nils, AV.nils]).flatten = [] from rfl, zS0] at lb2
  have f2 : Q5 (fun j => j = il) H1 (hput H1 il (0 + rs.length * 2) [AV.slice km 0 4 4 false, .nils]) := Q5.hput _ _ _ fun _ => rfl
  have n2 : (hput H1 il (0 + rs.length * 2) [AV.slice km 0 4 4 false, .nils]).next = H1.next := qg _ _ _ _
  generalize hput H1 il (0 + rs.length * 2) [AV.slice km 0 4 4 false, .nils] = H2 at lb2 f2 n2 ⊢
  have ne1 : ∀ {i cs sz g mk}, H1.get i = some (.cells cs sz g mk) -> sz ≠ 2 -> i ≠ il := fun hg hz e => by
    rw [e, lb1] at hg; cases hg; exact hz rfl
  have V5' := V5.fr f2 (ne1 V5.get (by decide))
  have V4' := V4.fr f2 (ne1 V4.get (by decide))
  have cb2 := (f2.same _ cn1 (ne1 cb1 (by decide))).trans cb1
  have A2 : Arr h0 H2 all (rs.flatMap LR.all) := A1.fr f2 fun e e' => A1.ne2 e lb1 e'.symm
  have r2 : ∀ r, r ∈ rs -> r.Ok h0 H2 := fun r hr => (r1 r hr).fr f2 (ne1 (r1 r hr).kg (by decide)) (ne1 (r1 r hr).vg (by decide))
  have M2 := M1.fr f2 (ne1 M1.2.2 (by decide))
  obtain ⟨f3, m3, n3⟩ := qUr H2 [.int .u8 109, .int .u8 97, .int .u8 114, .int .u8 107] 1 false false true
  refine ⟨rfl, rfl, V5'.ldL _ rfl ⟨_, _, _, _, rfl, Ql _ _, zO0 _, rfl, ?_⟩⟩
  refine qAe.2 ⟨by show 0 < 1; omega, rfl, ?_⟩
  dsimp only
  have hH2 : h0.next <= H2.next := by have := f1.next; omega
  have V5b := V5'.fr f3 id
  have V4b := V4'.fr f3 id
  have ln3 : il < H2.next := by omega
  have cn3 : ic < H2.next := by omega
  have lb3 := (f3.same _ ln3 id).trans lb2
  have cb3 := (f3.same _ cn3 id).trans cb2
  have A3 : Arr h0 ((H2.newO (.cells [.int .u8 109, .int .u8 97, .int .u8 114, .int .u8 107] 1 false false)).put H2.next (some (.cells [.int .u8 109, .int .u8 97, .int .u8 114, .int .u8 107] 1 false true))) all (rs.flatMap LR.all) := A2.fr f3 fun _ => id
  have r3 : ∀ r, r ∈ rs -> r.Ok h0 ((H2.newO (.cells [.int .u8 109, .int .u8 97, .int .u8 114, .int .u8 107] 1 false false)).put H2.next (some (.cells [.int .u8 109, .int .u8 97, .int .u8 114, .int .u8 107] 1 false true))) := fun r hr => (r2 r hr).fr f3 id id
  have M3 := M2.fr f3 id
  have N3 : qSz h0 ((H2.newO (.cells [.int .u8 109, .int .u8 97, .int .u8 114, .int .u8 107] 1 false false)).put H2.next (some (.cells [.int .u8 109, .int .u8 97, .int .u8 114, .int .u8 107] 1 false true))) H2.next := ⟨hH2, by rw [n3]; omega, m3⟩
  generalize (H2.newO (.cells [.int .u8 109, .int .u8 97, .int .u8 114, .int .u8 107] 1 false false)).put H2.next (some (.cells [.int .u8 109, .int .u8 97, .int .u8 114, .int .u8 107] 1 false true)) = H3 at f3 n3 m3 V5b V4b lb3 cb3 A3 r3 M3 N3 ⊢
  rw [show QE.n = 0 from rfl]
  generalize hkm2 : H2.next = km2 at m3 N3 ⊢
  refine ⟨⟨by omega, _, _, _, _, cb3, by decide⟩, ?_⟩
  have cb4 := qEy (o := 0 + 0 * 5) (vs := [AV.slice km2 0 4 4 false, .bool false, .bool false, .nils, .nils]) cb3
  have f4 : Q5 (fun j => j = ic) H3 (hput H3 ic (0 + 0 * 5) [AV.slice km2 0 4 4 false, .bool false, .bool false, .nils, .nils]) := Q5.hput _ _ _ fun _ => rfl
  have n4 : (hput H3 ic (0 + 0 * 5) [AV.slice km2 0 4 4 false, .bool false, .bool false, .nils, .nils]).next = H3.next := qg _ _ _ _
  generalize hput H3 ic (0 + 0 * 5) [AV.slice km2 0 4 4 false, .bool false, .bool false, .nils, .nils] = H4 at cb4 f4 n4 ⊢
  have cb4 : H4.get ic = some (.cells [AV.slice km2 0 4 4 false, .bool false, .bool false, .nils, .nils] 5 false false) := cb4
  have ne4 : ∀ {i cs sz g mk}, H3.get i = some (.cells cs sz g mk) -> sz ≠ 5 -> i ≠ ic := fun hg hz e => by
    rw [e, cb3] at hg; cases hg; exact hz rfl
  have V54 := V5b.fr f4 (ne4 V5b.get (by decide))
  have V44 := V4b.fr f4 (ne4 V4b.get (by decide))
  have lb4 := (f4.same _ (by omega) (ne4 lb3 (by decide))).trans lb3
  have A4 : Arr h0 H4 all (rs.flatMap LR.all) := A3.fr f4 fun e e' => A3.ne2 e cb3 e'.symm
  have r4 : ∀ r, r ∈ rs -> r.Ok h0 H4 := fun r hr => (r3 r hr).fr f4 (ne4 (r3 r hr).kg (by decide)) (ne4 (r3 r hr).vg (by decide))
  have M4 := M3.fr f4 (ne4 M3.2.2 (by decide))
  have N4 := N3.fr f4 (ne4 N3.2.2 (by decide))
  refine ⟨rfl, V54.ldL _ rfl (V54.ldL _ rfl (V54.ldL _ rfl ⟨rfl, V44.zput (by simp) ⟨rfl, ?_⟩⟩))⟩
  have V5 := Var.put_all V44 (vs := [(⟨false, il, 0, rs.length + 1, rs.length + 1, false⟩ : SL).av, (⟨false, ic, 0, 1, 1, false⟩ : SL).av, all.av]) rfl
  have f5 := V44.put_fr 0 [(⟨false, il, 0, rs.length + 1, rs.length + 1, false⟩ : SL).av, (⟨false, ic, 0, 1, 1, false⟩ : SL).av, all.av]
  have n5 : (hput H4 v4 0 [(⟨false, il, 0, rs.length + 1, rs.length + 1, false⟩ : SL).av, (⟨false, ic, 0, 1, 1, false⟩ : SL).av, all.av]).next = H4.next := qg _ _ _ _
  generalize hput H4 v4 0 [(⟨false, il, 0, rs.length + 1, rs.length + 1, false⟩ : SL).av, (⟨false, ic, 0, 1, 1, false⟩ : SL).av, all.av] = H5 at V5 f5 n5 ⊢
  have ne5 : ∀ {i cs sz g mk}, H4.get i = some (.cells cs sz g mk) -> sz ≠ 0 -> i ≠ v4 := fun hg hz e => by
    rw [e, V44.get] at hg; cases hg; exact hz rfl
  have hfn := f1.next
  refine V5.ldL _ rfl (V5.ldL _ rfl (V5.ldL _ rfl (hk H5 ?_ ⟨⟨il, km, rfl, L.gl, by omega, (f5.same _ (by omega) (ne5 lb4 (by decide))).trans lb4, M4.fr f5 (ne5 M4.2.2 (by decide))⟩,
    ⟨ic, km2, rfl, L.gc, by omega, (f5.same _ (by omega) (ne5 cb4 (by decide))).trans cb4, N4.fr f5 (ne5 N4.2.2 (by decide))⟩,
    A4.fr f5 fun e e' => A4.ne2 e V44.get e'.symm, fun r hr => (r4 r hr).fr f5 (ne5 (r4 r hr).kg (by decide)) (ne5 (r4 r hr).vg (by decide)), L.asc⟩)))
  refine ((f1.mono fun _ _ e => e.elim).trans (f2.mono fun i _ e => ?_)).trans (((f3.mono fun _ _ e => e.elim).trans (f4.mono fun i _ e => ?_)).trans (f5.mono fun i _ e => ?_))
  · rw [e]; exact L.gl
  · rw [e]; exact L.gc
  · rw [e]; exact L.g4
theorem lend_go {z : ZT} {a : SL} {h1 : Q0} {v4 v5 il ic : Nat} (L : LI h h1 v4 v5 il ic X.length QE []) (f : Q5 Qa h h1) (ha : j1 h a X) (hm2 : X.length < 2147483648)
    (hsz : ∀ x, x ∈ X -> x.e.1.length <= 2147483647 /\ x.e.2.length <= 2147483647) (hlf : X.length < lf)
    (hz : ZAt 141 [(0, .sl a), (1, .sl QE), (4, .pv false v4 0), (5, .pv false v5 0), (6, .int .i64 0)] z)
    (hk : ∀ h' l c all rs, Q5 Qa h h' -> Lent h h' l c all rs -> rs.map (fun r => (r.k, r.v)) = ents X -> (∀ r, r ∈ rs -> r.vt = [167, 168]) -> K (.agg [.sl l, .sl c, .sl all]) h') :
    Qy lf (zAt Try.prog (Qq Try.prog S lf (n + 1)) lf 11 [1, 1, 0, 1, 0, 0]) z (KZ.mk ((0, fun z' h' => zAt Try.prog (Qq Try.prog S lf (n + 1)) lf 11 [1, 1, 1] z' (Q3 Try.prog 11 K) (KZ.mk [] (Q3 Try.prog 11 K)) h') :: KZ.env (KZ.mk [] (Q3 Try.prog 11 K))) (KZ.ret (KZ.mk [] (Q3 Try.prog 11 K)))) h1 := by
  have la := ha.len (by decide)
  have ea : (Int.ofNat a.n : Int) = a.n := rfl
  have hf := f.next
  refine Qy.inv (fun q z h' => ∃ (all : SL) (rs : List LR), ZAt 141 [(0, .sl a), (1, .sl QE), (4, .pv false v4 0), (5, .pv false v5 0), (6, .int .i64 (rs.length : Int))] z /\ Q5 (fun i => h.next <= i) h1 h' /\ LI h h' v4 v5 il ic X.length all rs /\ rs.length + q = X.length /\ rs.map (fun r => (r.k, r.v)) = (ents X).take rs.length /\ ∀ r, r ∈ rs -> r.vt = [167, 168]) (n := X.length) hlf
    ⟨QE, [], hz, Q5.refl _ _, L, Nat.zero_add _, rfl, fun r hr => (by cases hr)⟩ ?_
  rintro q z h' kk hq ⟨all, rs, hz, f2, L, hj, hr, hv⟩ ih
  have fn2 := f2.next
  have F : Q5 Qa h h' := f.behind f2
  by_cases hlt : rs.length < X.length
  · refine jAg L (ha.fr F) rfl hlt hm2 hsz (by omega) hz fun h3 z3 all3 r L3 e3 v3 f3 hz3 => ?_
    refine ih (q - 1) z3 h3 (by omega) ⟨all3, rs ++ [r], by rw [zC0]; exact hz3, f2.trans f3, L3, by rw [zC0]; show _ + 1 + _ = _; omega, ?_, fun r' hr' => ?_⟩
    · rw [List.map_append, hr, zC0]
      show _ = (ents X).take (rs.length + 1)
      rw [List.take_add_one, ents, zV0, e3]
      rfl
    · rcases List.mem_append.1 hr' with h' | h'
      · exact hv r' h'
      · rw [List.mem_singleton.1 h']; exact v3
  · refine Qr _ hz fun d => (qLp _ _ _ _ _ _ _ _ _ _ _ _ _).mpr ?_
    have hje : rs.length = X.length := by omega
    rw [decide_eq_false (by rw [ea, la]; omega), qAz]
    refine Qr (n := 141) [(0, .sl a), (1, .sl QE), (4, .pv false v4 0), (5, .pv false v5 0)] ⟨rfl, rfl, rfl, rfl, rfl, trivial⟩ fun d' => (lend_a111 _ _ _ _ _ _ _ _ _).mpr ?_
    refine Qy.inv (fun q z h2 => q = 0 /\ h2 = h' /\ ZAt 141 [(0, .sl a), (1, .sl QE), (4, .pv false v4 0), (5, .pv false v5 0), (9, .int .i64 0)] z) (n := 0) (by omega) ⟨rfl, rfl, rfl, rfl, rfl, rfl, rfl, rfl, trivial⟩ ?_
    rintro q3 z3 h3 k3 hq3 ⟨_, rfl, hz3⟩ _
    refine Qr _ hz3 fun d3 => (qSa _ _ _ _ _ _ _ _ _ _ _ _ _).mpr ?_
    rw [decide_eq_false (by decide), qAz]
    refine lend_fin L hje (by rw [la]) (by omega) ⟨rfl, rfl, rfl, rfl, rfl, trivial⟩ fun h4 f4 l4 => ?_
    refine hk h4 _ _ _ rs (F.behind f4) l4 ?_ hv
    rw [hr, hje]
    exact List.take_of_length_le (by rw [ents, zJ0]; exact zN0 _)
theorem zRoom_iff {P : Program} {e : TypeId} {m : Nat} {A : Prop} : ZRoom P e m A ↔ jy P e m = true /\ A := ⟨fun ⟨a, b⟩ => ⟨a, b⟩, fun ⟨a, b⟩ => ⟨a, b⟩⟩
end
end DfN
namespace DfN
open Go Go.X Go.X.Df Go.Proofs
section
variable {S : QW} [GoodS S] {lf n : Nat} {h g0 h0 : Q0} {K : ZK} {X : List ER}
theorem new4 (h : Q0) (o0 o1 o2 o3 : QB) : ((((h.newO o0).newO o1).newO o2).newO o3).get h.next = some o0 /\ ((((h.newO o0).newO o1).newO o2).newO o3).get (h.next + 1) = some o1 /\ ((((h.newO o0).newO o1).newO o2).newO o3).get (h.next + 2) = some o2 /\ ((((h.newO o0).newO o1).newO o2).newO o3).get (h.next + 3) = some o3 /\ Q5 Qa h ((((h.newO o0).newO o1).newO o2).newO o3) := by
  have n1 : (h.newO o0).next = h.next + 1 := rfl
  have n2 : ((h.newO o0).newO o1).next = h.next + 2 := rfl
  have n3 : (((h.newO o0).newO o1).newO o2).next = h.next + 3 := rfl
  refine ⟨?_, ?_, ?_, ?_, (((Q5.newO _ _ _).trans (Q5.newO _ _ _)).trans (Q5.newO _ _ _)).trans (Q5.newO _ _ _)⟩
  · rw [qm (by omega), qm (by omega), qm (by omega), Ql]
  · rw [qm (by omega), qm (by omega), <- n1, Ql]
  · rw [qm (by omega), <- n2, Ql]
  · rw [<- n3, Ql]
theorem qPr {H : Q0} {z : ZT} {a : SL} {v5 il ic : Nat} (f : Q5 Qa h H) (e4 : H.get h.next = some (.cells [.nils, .nils, .nils] 0 false false)) (e5 : H.get v5 = some (.cells [.nils, .nils, .nils] 0 false false))
    (el : H.get il = some (.cells (List.replicate (X.length + 1) [AV.nils, .nils]).flatten 2 false false)) (ec : H.get ic = some (.cells (List.replicate 1 [AV.nils, .bool false, .bool false, .nils, .nils]).flatten 5 false false))
    (hn : H.next = h.next + 4) (i5 : h.next < v5 /\ v5 < h.next + 4) (il' : h.next < il /\ il < h.next + 4) (ic' : h.next < ic /\ ic < h.next + 4)
    (ha : j1 h a X) (hm2 : X.length < 2147483648) (hsz : ∀ x, x ∈ X -> x.e.1.length <= 2147483647 /\ x.e.2.length <= 2147483647) (hlf : X.length < lf)
    (hz : ZAt 141 [(0, .sl a), (1, .sl QE), (4, .pv false h.next 0), (5, .pv false v5 0), (6, .int .i64 0)] z)
    (hk : ∀ h' l c all rs, Q5 Qa h h' -> Lent h h' l c all rs -> rs.map (fun r => (r.k, r.v)) = ents X -> (∀ r, r ∈ rs -> r.vt = [167, 168]) -> K (.agg [.sl l, .sl c, .sl all]) h') :
    jb H v5 0 3 (Qy lf (zAt Try.prog (Qq Try.prog S lf (n + 1)) lf 11 [1, 1, 0, 1, 0, 0]) z (KZ.mk ((0, fun z' h' => zAt Try.prog (Qq Try.prog S lf (n + 1)) lf 11 [1, 1, 1] z' (Q3 Try.prog 11 K) (KZ.mk [] (Q3 Try.prog 11 K)) h') :: KZ.env (KZ.mk [] (Q3 Try.prog 11 K))) (KZ.ret (KZ.mk [] (Q3 Try.prog 11 K))))
      (hput H v5 0 [.slice il 0 (X.length + 1) (X.length + 1) false, .slice ic 0 1 1 false, .nils])) := by
  have V5 : Var H v5 [.nils, .nils, .nils] := ⟨by omega, e5⟩
  have V4 : Var H h.next [.nils, .nils, .nils] := ⟨by omega, e4⟩
  refine V5.zput (by simp) ?_
  have V5' := Var.put_all V5 (vs := [.slice il 0 (X.length + 1) (X.length + 1) false, .slice ic 0 1 1 false, .nils]) rfl
  have f5 := V5.put_fr 0 [.slice il 0 (X.length + 1) (X.length + 1) false, .slice ic 0 1 1 false, .nils]
  have n5 : (hput H v5 0 [.slice il 0 (X.length + 1) (X.length + 1) false, .slice ic 0 1 1 false, .nils]).next = H.next := qg _ _ _ _
  generalize hput H v5 0 [.slice il 0 (X.length + 1) (X.length + 1) false, .slice ic 0 1 1 false, .nils] = H5 at V5' f5 n5 ⊢
  have nl : il ≠ v5 := fun e => by
    rw [e, e5] at el
    simp only [Option.some.injEq, QB.cells.injEq] at el
    exact absurd el.2.1 (by decide)
  have nc : ic ≠ v5 := fun e => by
    rw [e, e5] at ec
    simp only [Option.some.injEq, QB.cells.injEq] at ec
    exact absurd ec.2.1 (by decide)
  exact lend_go ⟨V4.fr f5 (by omega), V5', by omega, (f5.same _ (by omega) nl).trans el, by omega, (f5.same _ (by omega) nc).trans ec, zN0 _, by omega, by omega, by omega, Grown.start _ _ _, fun r hr => (by cases hr), List.Pairwise.nil, by omega, fun e => (by cases e)⟩
    (f.back f5 fun i hi e => by omega) ha hm2 hsz hlf hz hk
theorem lend_ok {a : SL} (ha : j1 h a X) (hm2 : X.length < 2147483648) (hsz : ∀ x, x ∈ X -> x.e.1.length <= 2147483647 /\ x.e.2.length <= 2147483647) (hlf : X.length < lf)
    (hk : ∀ h' l c all rs, Q5 Qa h h' -> Lent h h' l c all rs -> rs.map (fun r => (r.k, r.v)) = ents X -> (∀ r, r ∈ rs -> r.vt = [167, 168]) -> K (.agg [.sl l, .sl c, .sl all]) h') :
    Qq Try.prog S lf (n + 2) 11 [.sl a, .sl QE] K h := by
  refine QJ (hSD (by decide) (by decide)) (by kernel_rfl) ?_
  rw [lend_nf]
  have la := ha.len (by decide)
  have e0 : IntKind.i64.wrap (Int.ofNat (SL.n a) + 1) = ((X.length + 1 : Nat) : Int) := by
    have : (Int.ofNat (SL.n a) : Int) = ((X.length : Nat) : Int) := by rw [la]; rfl
    rw [this, QD (by omega) (by omega)]; rfl
  have e1 : IntKind.i64.wrap (Int.ofNat (SL.n QE) + 1) = ((1 : Nat) : Int) := by decide
  simp only [qAy, e0, e1, qCd, zAnd_iff, zRoom_iff, true_and, and_true, zN0, room51 (k := X.length + 1) (by omega), qYe (k := 1) (by decide)]
  refine ⟨⟨zN0 _, zN0 _, ?_⟩, ⟨zN0 _, zN0 _, ?_⟩, ⟨zN0 _, zN0 _, ?_⟩, ⟨zN0 _, zN0 _, ?_⟩, ⟨zN0 _, zN0 _, ?_⟩, ⟨zN0 _, zN0 _, ?_⟩⟩
  · obtain ⟨g0, g1, g2, g3, f⟩ := new4 h (.cells [AV.nils, .nils, .nils] 0 false false) (.cells (List.replicate (X.length + 1) [AV.nils, .nils]).flatten 2 false false) (.cells (List.replicate 1 [AV.nils, .bool false, .bool false, .nils, .nils]).flatten 5 false false) (.cells [AV.nils, .nils, .nils] 0 false false)
    exact qPr (v5 := h.next + 3) (il := h.next + 1) (ic := h.next + 2) f g0 g3 g1 g2 rfl (by omega) (by omega) (by omega) ha hm2 hsz hlf ⟨rfl, rfl, rfl, rfl, rfl, rfl, trivial⟩ hk
  · obtain ⟨g0, g1, g2, g3, f⟩ := new4 h (.cells [AV.nils, .nils, .nils] 0 false false) (.cells (List.replicate (X.length + 1) [AV.nils, .nils]).flatten 2 false false) (.cells [AV.nils, .nils, .nils] 0 false false) (.cells (List.replicate 1 [AV.nils, .bool false, .bool false, .nils, .nils]).flatten 5 false false)
    exact qPr (v5 := h.next + 2) (il := h.next + 1) (ic := h.next + 3) f g0 g2 g1 g3 rfl (by omega) (by omega) (by omega) ha hm2 hsz hlf ⟨rfl, rfl, rfl, rfl, rfl, rfl, trivial⟩ hk
  · obtain ⟨g0, g1, g2, g3, f⟩ := new4 h (.cells [AV.nils, .nils, .nils] 0 false false) (.cells (List.replicate 1 [AV.nils, .bool false, .bool false, .nils, .nils]).flatten 5 false false) (.cells (List.replicate (X.length + 1) [AV.nils, .nils]).flatten 2 false false) (.cells [AV.nils, .nils, .nils] 0 false false)
    exact qPr (v5 := h.next + 3) (il := h.next + 2) (ic := h.next + 1) f g0 g3 g2 g1 rfl (by omega) (by omega) (by omega) ha hm2 hsz hlf ⟨rfl, rfl, rfl, rfl, rfl, rfl, trivial⟩ hk
  · obtain ⟨g0, g1, g2, g3, f⟩ := new4 h (.cells [AV.nils, .nils, .nils] 0 false false) (.cells (List.replicate 1 [AV.nils, .bool false, .bool false, .nils, .nils]).flatten 5 false false) (.cells [AV.nils, .nils, .nils] 0 false false) (.cells (List.replicate (X.length + 1) [AV.nils, .nils]).flatten 2 false false)
    exact qPr (v5 := h.next + 2) (il := h.next + 3) (ic := h.next + 1) f g0 g2 g3 g1 rfl (by omega) (by omega) (by omega) ha hm2 hsz hlf ⟨rfl, rfl, rfl, rfl, rfl, rfl, trivial⟩ hk
  · obtain ⟨g0, g1, g2, g3, f⟩ := new4 h (.cells [AV.nils, .nils, .nils] 0 false false) (.cells [AV.nils, .nils, .nils] 0 false false) (.cells (List.replicate (X.length + 1) [AV.nils, .nils]).flatten 2 false false) (.cells (List.replicate 1 [AV.nils, .bool false, .bool false, .nils, .nils]).flatten 5 false false)
    exact qPr (v5 := h.next + 1) (il := h.next + 2) (ic := h.next + 3) f g0 g1 g2 g3 rfl (by omega) (by omega) (by omega) ha hm2 hsz hlf ⟨rfl, rfl, rfl, rfl, rfl, rfl, trivial⟩ hk
  · obtain ⟨g0, g1, g2, g3, f⟩ := new4 h (.cells [AV.nils, .nils, .nils] 0 false false) (.cells [AV.nils, .nils, .nils] 0 false false) (.cells (List.replicate 1 [AV.nils, .bool false, .bool false, .nils, .nils]).flatten 5 false false) (.cells (List.replicate (X.length + 1) [AV.nils, .nils]).flatten 2 false false)
    exact qPr (v5 := h.next + 1) (il := h.next + 3) (ic := h.next + 2) f g0 g1 g3 g2 rfl (by omega) (by omega) (by omega) ha hm2 hsz hlf ⟨rfl, rfl, rfl, rfl, rfl, rfl, trivial⟩ hk
end
end DfN
namespace DfN
open Go Go.X Go.X.Df Go.Proofs
theorem Lent.ents {h0 h : Q0} {l c all : SL} {rs : List LR} (a : Lent h0 h l c all rs) : l.nil = false /\ l.cap = rs.length + 1 /\ j1 h (l.cut 2 0 rs.length l.cap l.ext) (rs.map LR.er) /\ SlOk (l.cut 2 0 rs.length l.cap l.ext) := by
  obtain ⟨i, m, rfl, e2, e3, e4, e5⟩ := a.ls
  refine ⟨rfl, rfl, ⟨?_, fun _ hx => ?_, fun x hx => ?_⟩, fun _ => ?_⟩
  · have e : (rs.map LR.er).flatMap ER.row = rs.flatMap LR.row := by rw [List.flatMap_map]; rfl
    rw [e]
    exact Seg.own (i := i) (n := rs.length) (cap := rs.length + 1) (ext := false) (qFx rs) e3 e4
  · rfl
  · obtain ⟨r, hr, rfl⟩ := List.mem_map.1 hx
    exact (a.ok r hr).er
  · show rs.length <= rs.length + 1; omega
section
variable {S : QW} [GoodS S] {lf n : Nat} {h g0 h0 : Q0} {K : ZK} {X : List ER}
theorem LR.Ok.fk {h0 h : Q0} {x : LR} (a : x.Ok h0 h) : qz h x.fk (x.k ++ [167, 168]) :=
  ⟨Seg.own (more := []) (by rw [Qt, zA1, zC0]; rfl) a.kn (by rw [zS0]; exact a.kg), fun b hb => by
    rcases List.mem_append.1 hb with hb | hb
    · exact a.kb b hb
    · simp only [zL0, zM0, or_false] at hb
      rcases hb with rfl | rfl <;> decide⟩
theorem LR.Ok.fv {h0 h : Q0} {x : LR} (a : x.Ok h0 h) : qz h x.fv (x.v ++ x.vt) :=
  ⟨Seg.own (more := []) (by rw [Qt, zA1, zC0, a.vt]) a.vn (by rw [zS0]; exact a.vg), a.vb⟩
theorem all_at : ∀ (rs : List LR) (j : Nat) (r : LR), rs[j]? = some r -> (rs.flatMap LR.all)[2 * j]? = some r.fk /\ (rs.flatMap LR.all)[2 * j + 1]? = some r.fv
  | [], j, r, h => by simp at h
  | x :: l, 0, r, h => by
    simp only [List.getElem?_cons_zero, Option.some.injEq] at h
    subst h
    exact ⟨rfl, rfl⟩
  | x :: l, j + 1, r, h => by
    rw [List.getElem?_cons_succ] at h
    have := all_at l j r h
    rw [zU0]
    exact this
theorem qYc {l c all b : SL} {rs : List LR} (L : Lent h0 h l c all rs) (hb : j1 h b X) (hrs : rs.map (fun r => (r.k, r.v)) = ents X) (hv : ∀ r, r ∈ rs -> r.vt = [167, 168]) (hm2 : X.length < 2147483648) (hsz : ∀ x, x ∈ X -> x.e.1.length <= 2147483647 /\ x.e.2.length <= 2147483647) (hlf : X.length < lf)
    (hk : ∀ h', Q5 Qa h h' -> K (.bool true) h') :
    Qq Try.prog S lf (n + 2) 15 [.agg [.sl l, .sl c, .sl all], .sl b, .sl QE] K h := by
  refine QJ (hSD (by decide) (by decide)) (by kernel_rfl) ?_
  rw [stays_nf]
  have hlen : rs.length = X.length := by have := congrArg List.length hrs; simpa [DfN.ents] using this
  have lb := hb.len (by decide)
  have ecut := L.ents
  rw [hlen] at ecut
  obtain ⟨c1, c2, c3, c4⟩ := ecut
  have V := Var.new h [l.av, c.av, all.av]
  have f1 : Q5 Qa h (h.newO (.cells [l.av, c.av, all.av] 0 false false)) := Q5.newO _ _ _
  generalize h.newO (.cells [l.av, c.av, all.av] 0 false false) = H at V f1 ⊢
  generalize h.next = v3 at V ⊢
  have ef1 : Q5 (fun i => i < h0.next) h H := f1.mono fun _ _ e => e.elim
  have L1 := L.fr ef1 fun i hi e => by omega
  have hb1 := hb.fr f1
  have e1 : (Int.ofNat (SL.n b) : Int) = ((X.length : Nat) : Int) := by rw [lb]; rfl
  obtain ⟨ic, mc, rfl, g2, g3, g4, g5⟩ := L1.cs
  obtain ⟨il, ml, rfl, t2, t3, t4, t5⟩ := L1.ls
  rw [e1]
  refine ⟨rfl, rfl, V.ldL _ rfl (qCd.2 ⟨⟨fun e => (by cases e), fun _ => ⟨zY0 _, by show _ <= rs.length + 1; omega⟩⟩, same_ok (n := n) (c3.fr f1) hb1 (by rw [zJ0]; omega) (by rw [zJ0]; omega) ?_⟩)⟩
  have ee : DfN.ents (rs.map LR.er) = DfN.ents X := by rw [<- hrs, DfN.ents, List.map_map]; rfl
  rw [decide_eq_true ee]
  refine qDf.2 ⟨rfl, rfl, V.ldL _ rfl (qCd.2 ⟨⟨fun e => (by cases e), fun _ => ⟨zY0 _, zY0 _⟩⟩, ?_⟩)⟩
  refine qJ5 (n := n) (Y := []) (Z := []) ⟨Seg.own (n := 0) (cs := []) rfl g3 g4, fun _ hx => (by cases hx), fun _ hx => (by cases hx)⟩ (Rws.nil _ _) rfl (by decide) (by show 0 < lf; omega) ?_
  refine qDf.2 ?_
  rw [Bool.not_true, qAz, qHv, qAz]
  have hm : cellAt H il (0 + X.length * 2 + 0) = some (⟨false, ml, 0, 4, 4, false⟩ : SL).av := by
    rw [qHc t4, <- hlen, zB1 (by rw [qFx]; omega), qFx]
    have : 0 + rs.length * 2 + 0 - rs.length * 2 = 0 := by omega
    rw [this]; rfl
  refine ⟨rfl, rfl, V.ldL _ rfl ⟨rfl, qAe.2 ⟨by show _ < rs.length + 1; omega, rfl, rfl, Qh hm (t5.byts.zbytes ?_)⟩⟩⟩
  rw [decide_eq_true rfl, Bool.not_true, qHv, qAz]
  have hm2 : cellAt H ic (0 + 0 * 5 + 0) = some (⟨false, mc, 0, 4, 4, false⟩ : SL).av := qHc g4
  refine ⟨rfl, rfl, V.ldL _ rfl ⟨rfl, qAe.2 ⟨by show 0 < 1; omega, rfl, rfl, Qh hm2 (g5.byts.zbytes ?_)⟩⟩⟩
  rw [decide_eq_true rfl, Bool.not_true, qHv, qAz]
  refine Qy.inv (fun q z h' => ∃ j : Nat, ZAt 149 [(1, .sl b), (2, .sl QE), (3, .pv false v3 0), (9, .int .i64 ((2 * j : Nat) : Int)), (10, .int .i64 (j : Int))] z /\ h' = H /\ j + q = X.length) (n := X.length) hlf ⟨0, ⟨rfl, rfl, rfl, rfl, rfl, rfl, trivial⟩, rfl, by omega⟩ ?_
  rintro q z h' kk hq ⟨j, hz, rfl, hj⟩ ih
  refine Qr _ hz fun d => (qL2 _ _ _ _ _ _ _ _ _ _ _ _ _).mpr ?_
  rw [q9]
  refine ⟨fun e => ?_, fun e => ?_⟩
  · have hjx : j < X.length := by omega
    have na := hb1.nil_of (by decide) hjx
    have a2 := hb1.len' (by decide) na
    obtain ⟨x, hx⟩ : ∃ x, X[j]? = some x := ⟨_, zE0 hjx⟩
    obtain ⟨r, hr⟩ : ∃ r, rs[j]? = some r := ⟨_, zE0 (by omega)⟩
    have erx : (r.k, r.v) = x.e := by
      have := congrArg (fun l => l[j]?) hrs
      simp only [zV0, hr, hx, DfN.ents, Option.map_some, Option.some.injEq] at this
      exact this
    have hmem := zD0 hx
    obtain ⟨xk, xv⟩ := hb1.ok x hmem
    obtain ⟨s1, s2⟩ := hsz x hmem
    have ro := L1.ok r (zD0 hr)
    obtain ⟨y1, y2⟩ := all_at rs j r hr
    obtain ⟨p1, p2, p3⟩ := Arr.at' L1.arr y1
    obtain ⟨_, q2, q3⟩ := Arr.at' L1.arr y2
    refine ⟨rfl, rfl, V.ldL all rfl ⟨p1, qAe.2 ⟨p2, rfl, Qh p3 (ro.fk.zbytes ⟨na, qAe.2 ⟨by omega, rfl, rfl, Qh (hb1.at' na hx (q := 0) (by decide) rfl) (xk.zbytes ⟨by show x.e.1.length + 2 <= 1099511627776; omega, ?_⟩)⟩⟩)⟩⟩⟩
    rw [show r.k ++ [167, 168] = x.e.1 ++ [167, 168] from by rw [<- erx], decide_eq_true rfl, Bool.not_true, qAz]
    refine ⟨rfl, rfl, V.ldL all rfl (qAy.2 ?_)⟩
    rw [show IntKind.i64.wrap (((2 * j : Nat) : Int) + 1) = ((2 * j + 1 : Nat) : Int) from by rw [QD (by omega) (by omega)]; omega]
    refine ⟨p1, qAe.2 ⟨q2, rfl, Qh q3 (ro.fv.zbytes ⟨na, qAe.2 ⟨by omega, rfl, rfl, Qh (hb1.at' na hx (q := 1) (by decide) rfl) (xv.zbytes ⟨by show x.e.2.length + 2 <= 1099511627776; omega, ?_⟩)⟩⟩)⟩⟩
    rw [show r.v ++ r.vt = x.e.2 ++ [167, 168] from by rw [<- erx, hv r (zD0 hr)], decide_eq_true rfl, Bool.not_true, qHv, qAz]
    refine qAy.2 (qAy.2 ?_)
    rw [QD (e := (j : Int) + 1) (by omega) (by omega), show IntKind.i64.wrap (((2 * j : Nat) : Int) + 2) = ((2 * (j + 1) : Nat) : Int) from by rw [QD (by omega) (by omega)]; omega]
    exact ih (q - 1) _ _ (by omega) ⟨j + 1, ⟨rfl, rfl, rfl, rfl, rfl, rfl, trivial⟩, rfl, by omega⟩
  · refine Qr (n := 149) [(2, .sl QE), (3, .pv false v3 0), (9, .int .i64 ((2 * j : Nat) : Int))] ⟨rfl, rfl, rfl, rfl, trivial⟩ fun d' => (qRd _ _ _ _ _ _ _ _).mpr ?_
    refine Qy.inv (fun q z h2 => q = 0 /\ h2 = h' /\ ZAt 149 [(2, .sl QE), (3, .pv false v3 0), (9, .int .i64 ((2 * j : Nat) : Int)), (11, .int .i64 0)] z) (n := 0) (by omega) ⟨rfl, rfl, rfl, rfl, rfl, rfl, rfl, trivial⟩ ?_
    rintro q3 z3 h3 k3 hq3 ⟨_, rfl, hz3⟩ _
    refine Qr _ hz3 fun d3 => (qKd _ _ _ _ _ _ _ _ _ _ _ _).mpr ?_
    rw [decide_eq_false (by decide), qAz]
    exact Qr (n := 149) [] ⟨rfl, trivial⟩ fun d4 => (qOy _ _ _ _ _).mpr (hk _ f1)
end
end DfN
namespace DfN
open Go Go.X Go.X.Df Go.Proofs
def tw (b : Nat) : Nat := Nat.xor b 85
theorem tw_lt {b : Nat} (h : b < 256) : tw b < 256 := Nat.xor_lt_two_pow (n := 8) h (by decide)
def LR.tw (x : LR) : LR := { x with v := x.v.map DfN.tw, vt := x.vt.map DfN.tw }
theorem tw_row (x : LR) : x.tw.row = x.row := by simp [LR.row, LR.er, ER.row, LR.ks, LR.vs, LR.tw]
theorem tw_all (x : LR) : x.tw.all = x.all := by simp [LR.all, LR.fk, LR.fv, LR.tw]
theorem tw_rows (l : List LR) : (l.map LR.tw).flatMap LR.row = l.flatMap LR.row := by rw [List.flatMap_map]; congr 1; funext x; exact tw_row x
theorem tw_alls (l : List LR) : (l.map LR.tw).flatMap LR.all = l.flatMap LR.all := by rw [List.flatMap_map]; congr 1; funext x; exact tw_all x
theorem tw_ids (l : List LR) : (l.map LR.tw).flatMap LR.ids = l.flatMap LR.ids := by rw [List.flatMap_map]; rfl
theorem ids_ne {rs : List LR} (asc : (rs.flatMap LR.ids).Pairwise (· < ·)) {i j : Nat} {r s : LR} (hr : rs[i]? = some r) (hs : rs[j]? = some s) : r.ki ≠ s.vi /\ (i ≠ j -> r.vi ≠ s.vi) := by
  obtain ⟨p1, p2⟩ := List.pairwise_flatMap.1 asc
  have q := List.pairwise_iff_getElem.1 p2
  obtain ⟨hi, rfl⟩ := List.getElem?_eq_some_iff.1 hr
  obtain ⟨hj, rfl⟩ := List.getElem?_eq_some_iff.1 hs
  have own : ∀ x, x ∈ rs -> x.ki < x.vi := fun x hx => by
    have := p1 x hx
    simp [LR.ids] at this
    exact this
  rcases Nat.lt_trichotomy i j with h | h | h
  · have := q i j hi hj h
    simp [LR.ids] at this
    exact ⟨by omega, fun _ => by omega⟩
  · subst h
    have := own _ (List.getElem_mem hi)
    exact ⟨by omega, fun e => absurd rfl e⟩
  · have := q j i hj hi h
    simp [LR.ids] at this
    exact ⟨by omega, fun _ => by omega⟩
section
variable {S : QW} [GoodS S] {lf n : Nat} {h g0 h0 : Q0} {K : ZK} {X : List ER}
def twk (w : Ky) (k : Nat) : Ky := (w.take k).map tw ++ w.drop k
theorem twk_len (w : Ky) (k : Nat) : (twk w k).length = w.length := by
  unfold twk
  rw [zC0, zJ0, zW0, List.length_drop]; omega
theorem twk_all (w : Ky) : twk w w.length = w.map tw := by
  unfold twk
  rw [List.take_length, List.drop_length, zS0]
theorem twk_at {w : Ky} {k b : Nat} (h : w[k]? = some b) : (twk w k)[k]? = some b := by
  unfold twk
  have hk : k < w.length := (List.getElem?_eq_some_iff.1 h).1
  rw [zB1 (by rw [zJ0, zW0]; omega), zJ0, zW0, List.getElem?_drop]
  rw [show k + (k - min k w.length) = k from by omega]
  exact h
theorem twk_put {w : Ky} {k b : Nat} (h : w[k]? = some b) : (ofBytes (twk w k)).take (0 + k * 1) ++ ([AV.int .u8 (.ofNat (tw b))] ++ (ofBytes (twk w k)).drop (0 + k * 1 + [AV.int .u8 (.ofNat (tw b))].length)) = ofBytes (twk w (k + 1)) := by
  have hk : k < w.length := (List.getElem?_eq_some_iff.1 h).1
  have hb : w[k] = b := (List.getElem?_eq_some_iff.1 h).2
  have e0 : ((w.take k).map tw).length = k := by rw [zJ0, zW0]; omega
  have e1 : (twk w k).take k = (w.take k).map tw := by unfold twk; exact List.take_left' e0
  have e2 : (twk w k).drop (k + 1) = w.drop (k + 1) := by
    unfold twk
    rw [<- List.drop_drop, List.drop_left' e0, List.drop_drop]
  rw [show 0 + k * 1 = k from by omega, show k + [AV.int IntKind.u8 (.ofNat (tw b))].length = k + 1 from rfl, qi, <- List.map_take, <- List.map_drop, e1, e2, qi, twk, List.take_add_one, h]
  simp
theorem toU_u8 {b : Nat} (h : b < 256) : toU .u8 (.ofNat b) = b := by
  show b % 2 ^ (q7 .u8) = b
  rw [show q7 .u8 = 8 from by kernel_rfl]
  exact Nat.mod_eq_of_lt h
theorem u8_wrap {b : Nat} (h : b < 256) : IntKind.u8.wrap (Int.ofNat b) = (b : Int) := by
  unfold IntKind.wrap
  show (if (false && _) = true then _ else (Int.ofNat b) % (2 ^ 8 : Int)) = _
  rw [Bool.false_and, if_neg (by decide)]
  show ((b : Nat) : Int) % _ = _
  omega
theorem turn_in {z : ZT} {X0 X1 X2 : ZT -> Q0 -> Prop} {E : List (Nat × (ZT -> Q0 -> Prop))} {v3 j : Nat} {m : Int} {s : SL} {w : Ky} (hs : s.nil = false) (ho : s.o = 0) (hl : s.len = w.length) (hi : s.i < h.next) (hg : h.get s.i = some (.cells (ofBytes w) 1 true false)) (hw : ∀ b, b ∈ w -> b < 256) (hlf : w.length < lf) (hm : w.length < 8589934592)
    (hz : ZAt 67 [(1, .int .i64 m), (2, .int .i64 0), (3, .pv false v3 0), (6, .int .i64 (j : Int)), (7, .sl s), (8, .int .i64 0)] z)
    (hk : ∀ z' h', ZAt 67 [(1, .int .i64 m), (2, .int .i64 0), (3, .pv false v3 0), (6, .int .i64 (j : Int))] z' -> Q5 (fun i => i = s.i) h h' -> h'.get s.i = some (.cells (ofBytes (w.map tw)) 1 true false) -> X2 z' h') :
    Qy lf (zAt Try.prog (Qq Try.prog S lf (n + 1)) lf 16 [1, 0, 1, 0, 0, 1, 0, 0, 1, 1, 0, 0]) z (KZ.mk ((2, X2) :: (1, X1) :: (0, X0) :: E) (Q3 Try.prog 16 K)) h := by
  refine Qy.inv (fun q z h' => ∃ c : Nat, ZAt 67 [(1, .int .i64 m), (2, .int .i64 0), (3, .pv false v3 0), (6, .int .i64 (j : Int)), (7, .sl s), (8, .int .i64 (c : Int))] z /\ Q5 (fun i => i = s.i) h h' /\ h'.get s.i = some (.cells (ofBytes (twk w c)) 1 true false) /\ c + q = w.length) (n := w.length) hlf
    ⟨0, hz, Q5.refl _ _, hg, by omega⟩ ?_
  rintro q z h' kk hq ⟨c, hz, f, g, hc⟩ ih
  refine Qr _ hz fun d => (qI6 _ _ _ _ _ _ _ _ _ _ _ _ _ _ _ _).mpr ?_
  have ls : (Int.ofNat (SL.n s) : Int) = ((w.length : Nat) : Int) := by rw [SL.n_of hs, hl]; rfl
  rw [q9]
  refine ⟨fun e => ?_, fun e => ?_⟩
  · have hcw : c < w.length := by rw [ls] at e; omega
    obtain ⟨b, hb⟩ : ∃ b, w[c]? = some b := ⟨_, zE0 hcw⟩
    have hb256 := hw b (zD0 hb)
    have cell : cellAt h' s.i (s.o + c * 1) = some (.int .u8 (.ofNat b)) := by
      rw [qHc g, ho, qi, zV0, show 0 + c * 1 = c from by omega, twk_at hb]
      rfl
    refine ⟨hs, qAe.2 ⟨by omega, rfl, qL9.2 ⟨(.ofNat b), cell, qAy.2 ?_⟩⟩⟩
    rw [toU_u8 hb256, u8_wrap (b := Nat.xor b 85) (tw_lt hb256)]
    refine ⟨hs, qAe.2 ⟨by omega, rfl, ⟨⟨by have := f.next; omega, _, _, _, _, g, ?_⟩, qAy.2 ?_⟩⟩⟩
    · rw [Qt, twk_len, ho]; omega
    rw [QD (e := (c : Int) + 1) (by omega) (by omega)]
    have g2 := qEy (o := 0 + c * 1) (vs := [AV.int .u8 (.ofNat (tw b))]) g
    rw [twk_put hb] at g2
    rw [ho]
    exact ih (q - 1) _ _ (by omega) ⟨c + 1, ⟨rfl, rfl, rfl, rfl, rfl, rfl, rfl, trivial⟩, f.trans (Q5.hput _ _ _ fun _ => rfl), g2, by omega⟩
  · have hcw : c = w.length := by rw [ls] at e; omega
    subst hcw
    rw [twk_all] at g
    exact hk _ _ ⟨rfl, rfl, rfl, rfl, rfl, trivial⟩ f g
theorem fin16 (K : ZK) (z : ZT) (h : Q0) : Q3 Try.prog 16 K z h = K (.tup []) h := by kernel_rfl
theorem turn_ok {l c all : SL} {rs : List LR} (L : Lent h0 h l c all rs) (hn : h0.next <= h.next) (hm : rs.length < 2147483648) (hw : ∀ r, r ∈ rs -> r.v.length <= 2147483647) (hlf : 4294967296 < lf)
    (hk : ∀ h', Q5 (fun i => ∃ r, r ∈ rs /\ i = r.vi) h h' -> Lent h0 h' l c all (rs.map LR.tw) -> K (.tup []) h') :
    Qq Try.prog S lf (n + 2) 16 [.agg [.sl l, .sl c, .sl all], .int .i64 ((rs.length : Nat) : Int), .int .i64 0] K h := by
  refine QJ (hSD (by decide) (by decide)) (by kernel_rfl) ?_
  rw [turn_nf]
  have V := Var.new h [l.av, c.av, all.av]
  have f1 : Q5 Qa h (h.newO (.cells [l.av, c.av, all.av] 0 false false)) := Q5.newO _ _ _
  have hv3 : h.next = h.next := rfl
  generalize h.newO (.cells [l.av, c.av, all.av] 0 false false) = H at V f1 ⊢
  generalize e3 : h.next = v3 at V ⊢
  have L1 := L.fr (f1.mono (T := fun i => i < h0.next) fun _ _ e => e.elim) fun i hi e => by omega
  have vne : ∀ r, r ∈ rs -> v3 ≠ r.vi := fun r hr => by have := (L.ok r hr).vn; omega
  refine Qy.inv (fun q z h' => ∃ j : Nat, ZAt 67 [(1, .int .i64 ((rs.length : Nat) : Int)), (2, .int .i64 0), (3, .pv false v3 0), (6, .int .i64 (j : Int))] z /\ Q5 (fun i => ∃ r, r ∈ rs /\ i = r.vi) H h' /\
      (∀ i r, rs[i]? = some r -> h'.get r.vi = some (.cells (ofBytes (if i < j then (r.v ++ r.vt).map tw else r.v ++ r.vt)) 1 true false)) /\ j + q = rs.length) (n := rs.length) (by omega)
    ⟨0, ⟨rfl, rfl, rfl, rfl, rfl, trivial⟩, Q5.refl _ _, fun i r hr => by rw [if_neg (Nat.not_lt_zero _)]; exact (L1.ok r (zD0 hr)).vg, by omega⟩ ?_
  rintro q z h' kk hq ⟨j, hz, f, g, hj⟩ ih
  refine Qr _ hz fun d => (qWd _ _ _ _ _ _ _ _ _ _ _ _).mpr ?_
  have V' : Var h' v3 [l.av, c.av, all.av] := V.fr f fun ⟨r, hr, e⟩ => vne r hr e
  have A' : Arr h0 h' all (rs.flatMap LR.all) := L1.arr.fr f fun e ⟨r, hr, e'⟩ => Arr.ne_b L1.arr e (fun e0 => by
    have := qXv rs
    rw [e0] at this
    cases rs with
    | nil => cases hr
    | cons x l => simp at this) (L1.ok r hr).vg e'.symm
  rw [q9]
  refine ⟨fun e => ?_, fun e => ?_⟩
  · have hjx : j < rs.length := by omega
    obtain ⟨r, hr⟩ : ∃ r, rs[j]? = some r := ⟨_, zE0 hjx⟩
    have hmem := zD0 hr
    have ro := L1.ok r hmem
    obtain ⟨y1, y2⟩ := all_at rs j r hr
    obtain ⟨p1, q2, q3⟩ := Arr.at' A' y2
    refine ⟨rfl, rfl, V'.ldL all rfl (qAy.2 (qAy.2 ?_))⟩
    rw [show IntKind.i64.wrap (2 * (j : Int)) = ((2 * j : Nat) : Int) from by rw [QD (by omega) (by omega)]; omega, show IntKind.i64.wrap (((2 * j : Nat) : Int) + 1) = ((2 * j + 1 : Nat) : Int) from by rw [QD (by omega) (by omega)]; omega]
    refine ⟨p1, qAe.2 ⟨q2, rfl, Qh q3 ?_⟩⟩
    have gr := g j r hr
    rw [if_neg (Nat.lt_irrefl _)] at gr
    have hwl : (r.v ++ r.vt).length = r.v.length + 2 := by rw [zC0, ro.vt]
    have hw2 := hw r hmem
    refine turn_in (n := n) (s := r.fv) (w := r.v ++ r.vt) rfl rfl hwl.symm (by show r.vi < _; have := ro.vn; have := f.next; omega) gr ro.vb (by omega) (by omega) ⟨rfl, rfl, rfl, rfl, rfl, rfl, rfl, trivial⟩ fun z2 h2 hz2 f2 g2 => ?_
    refine Qr _ hz2 fun d2 => (qQ9 _ _ _ _ _ _ _ _ _ _ _ _).mpr (qAy.2 ?_)
    rw [QD (e := (j : Int) + 1) (by omega) (by omega)]
    refine ih (q - 1) _ _ (by omega) ⟨j + 1, ⟨rfl, rfl, rfl, rfl, rfl, trivial⟩, f.trans (f2.mono fun i _ e => ⟨r, hmem, e⟩), fun i r' hr' => ?_, by omega⟩
    by_cases hij : i = j
    · subst hij
      rw [hr] at hr'
      cases hr'
      rw [if_pos (zO0 _)]
      exact g2
    · have ne := (ids_ne L1.asc hr' hr).2 hij
      have q := (f2.same r'.vi (by have := (L1.ok r' (zD0 hr')).vn; have := f.next; omega) ne).trans (g i r' hr')
      by_cases h1 : i < j
      · rw [if_pos h1] at q
        rw [if_pos (by omega)]
        exact q
      · rw [if_neg h1] at q
        rw [if_neg (by omega)]
        exact q
  · have hje : j = rs.length := by omega
    subst hje
    refine Qr (n := 67) [(1, .int .i64 ((rs.length : Nat) : Int)), (2, .int .i64 0), (3, .pv false v3 0)] ⟨rfl, rfl, rfl, rfl, trivial⟩ fun d' => (turn_a11 _ _ _ _ _ _ _ _).mpr ?_
    refine Qy.inv (fun q z h2 => q = 0 /\ h2 = h' /\ ZAt 67 [(1, .int .i64 ((rs.length : Nat) : Int)), (2, .int .i64 0), (3, .pv false v3 0), (9, .int .i64 0)] z) (n := 0) (by omega) ⟨rfl, rfl, rfl, rfl, rfl, rfl, rfl, trivial⟩ ?_
    rintro q3 z3 h3 k3 hq3 ⟨_, rfl, hz3⟩ _
    refine Qr _ hz3 fun d3 => (qWc _ _ _ _ _ _ _ _ _ _ _ _).mpr ?_
    rw [decide_eq_false (by decide), qAz]
    show Q3 Try.prog 16 K _ _
    rw [fin16]
    refine hk h3 ((f1.mono fun _ _ e => e.elim).trans f) ?_
    obtain ⟨il, ml, e1, t2, t3, t4, t5⟩ := L1.ls
    obtain ⟨ic, mc, e2, g2, g3, g4, g5⟩ := L1.cs
    have nT : ∀ {i cs sz mk}, H.get i = some (.cells cs sz false mk) -> ¬ ∃ r, r ∈ rs /\ i = r.vi := fun hg ⟨r, hr, e⟩ => by
      have := (L1.ok r hr).vg
      rw [<- e, hg] at this
      cases this
    have fn := f.next
    refine ⟨⟨il, ml, by rw [zJ0]; exact e1, t2, by omega, ?_, t5.fr f (nT t5.2.2)⟩, ⟨ic, mc, e2, g2, by omega, (f.same _ g3 (nT g4)).trans g4, g5.fr f (nT g5.2.2)⟩, ?_, fun x hx => ?_, ?_⟩
    · rw [tw_rows]; exact (f.same _ t3 (nT t4)).trans t4
    · rw [tw_alls]; exact A'
    · obtain ⟨r, hr, rfl⟩ := List.mem_map.1 hx
      have ro := L1.ok r hr
      obtain ⟨i, hi⟩ := List.mem_iff_getElem?.1 hr
      have gg := g i r hi
      rw [if_pos (List.getElem?_eq_some_iff.1 hi).1] at gg
      refine ⟨ro.kl, by show r.ki < _; have := ro.kn; omega, (f.same _ ro.kn fun ⟨s, hs, e⟩ => ?_).trans ro.kg, ro.vl, by show r.vi < _; have := ro.vn; omega, ?_, ro.kb, fun b hb => ?_, by show (r.vt.map tw).length = 2; rw [zJ0, ro.vt]⟩
      · obtain ⟨i', hi'⟩ := List.mem_iff_getElem?.1 hs
        exact (ids_ne L1.asc hi hi').1 e
      · show h3.get r.vi = some (.cells (ofBytes (r.v.map tw ++ r.vt.map tw)) 1 true false)
        rw [<- List.map_append]; exact gg
      · have hb : b ∈ r.v.map tw ++ r.vt.map tw := hb
        rw [<- List.map_append] at hb
        obtain ⟨b0, h0, rfl⟩ := List.mem_map.1 hb
        exact tw_lt (ro.vb b0 h0)
    · rw [tw_ids]; exact L1.asc
end
end DfN
namespace DfN
open Go Go.X Go.X.Df Go.Proofs
theorem qY3 {x : Ky × Ky} {xs zs : List (Ky × Ky)} (h : zs = [] ∨ ∃ z r, zs = z :: r /\ Qm x.1 z.1 = true) : diff (x :: xs) zs = chD x :: diff xs zs := by
  rcases h with rfl | ⟨z, r, rfl, h⟩
  · rw [diff]
  · rw [diff, if_pos h]
theorem qY2 {z : Ky × Ky} {xs zs : List (Ky × Ky)} (h : xs = [] ∨ ∃ x r, xs = x :: r /\ Qm z.1 x.1 = true) : diff xs (z :: zs) = chI z :: diff xs zs := by
  rcases h with rfl | ⟨x, r, rfl, h⟩
  · rw [diff]
  · rw [diff, if_neg (by rw [lt_asymm h]; decide), if_neg (fun e => lt_ne h e.symm)]
theorem diff_eq {x z : Ky × Ky} {xs zs : List (Ky × Ky)} (h : x.1 = z.1) : diff (x :: xs) (z :: zs) = if x.2 = z.2 then diff xs zs else chR x z :: diff xs zs := by
  rw [diff, if_neg (by rw [h, qYq]; decide), if_pos h]
structure RC (h : Q0) (x : CR) : Prop where
  rd : x.Rd h
  blk : ∀ t, t ∈ x.sls -> t.nil = false -> ∃ c g m, h.get t.i = some (.cells c 1 g m)
theorem RC.fr {h h' : Q0} {x : CR} {T : Nat -> Prop} (a : RC h x) (f : Q5 T h h') (hT : ∀ i c g m, h.get i = some (.cells c 1 g m) -> ¬ T i) : RC h' x := by
  have b : ∀ t, t ∈ x.sls -> ∀ k, qz h t k -> qz h' t k := fun t ht k q => q.fr f fun e => by
    obtain ⟨c, g, m, hg⟩ := a.blk t ht e
    exact hT _ _ _ _ hg
  refine ⟨⟨b _ (by simp [CR.sls]) _ a.rd.1, b _ (by simp [CR.sls]) _ a.rd.2.1, b _ (by simp [CR.sls]) _ a.rd.2.2⟩, fun t ht e => ?_⟩
  obtain ⟨c, g, m, hg⟩ := a.blk t ht e
  have lt : t.i < h.next := by
    simp only [CR.sls, zL0, zM0, or_false] at ht
    rcases ht with rfl | rfl | rfl
    · exact a.rd.1.seg.lt e
    · exact a.rd.2.1.seg.lt e
    · exact a.rd.2.2.seg.lt e
  exact ⟨c, g, m, (f.same _ lt (hT _ _ _ _ hg)).trans hg⟩
theorem _root_.Go.X.Cln.blk {h0 h : Q0} {s : SL} {k : Ky} (w : Cln h0 h s k) (e : s.nil = false) : ∃ c g m, h.get s.i = some (.cells c 1 g m) := ⟨_, _, _, (w.own e).2.2.2⟩
section
variable {S : QW} [GoodS S] {lf n : Nat} {h g0 h0 : Q0} {K : ZK} {X Z : List ER} {ys : List CR}
theorem app_row {h1 : Q0} {s : SL} {y : CR} {A : List AV -> Prop} (g : Grown h0 h1 s 5 ys.length (ys.flatMap CR.row)) (hn : h0.next <= h1.next) (rc : ∀ x, x ∈ ys -> RC h1 x) (ry : RC h1 y) (hl : ys.length < 8589934590)
    (hA : ∀ h2 s2, Q5 (fun i => h0.next <= i) h1 h2 -> Grown h0 h2 s2 5 (ys ++ [y]).length ((ys ++ [y]).flatMap CR.row) -> (∀ x, x ∈ ys ++ [y] -> RC h2 x) -> s2 = s.app (h1.newO (.cells y.row 5 false false)).next 1 -> h2 = Qx (h1.newO (.cells y.row 5 false false)) s 5 1 y.row -> A y.row) :
    jY (h1.newO (.cells y.row 5 false false)) ⟨false, h1.next, 0, 1, 1, false⟩ 5 fun ds => jz Try.prog (h1.newO (.cells y.row 5 false false)) s 54 5 1 ds (A ds) := by
  have f1 : Q5 Qa h1 (h1.newO (.cells y.row 5 false false)) := Q5.newO _ _ _
  have sg : Seg (h1.newO (.cells y.row 5 false false)) ⟨false, h1.next, 0, 1, 1, false⟩ 5 y.row := Seg.own (more := []) rfl (zO0 _) (by rw [zS0]; exact Ql _ _)
  refine sg.zsrc ?_
  have hn1 : (h1.newO (.cells y.row 5 false false)).next = h1.next + 1 := rfl
  generalize h1.newO (.cells y.row 5 false false) = H at f1 sg hn1 hA ⊢
  have g1 := g.fr f1 fun _ => id
  refine Grown.append1 g1 (by omega) (k := 1) (by decide) rfl y.plain (qYe (by omega)) fun g2 f2 _ => ?_
  have g2' : Grown h0 (Qx H s 5 1 y.row) (s.app H.next 1) 5 (ys ++ [y]).length ((ys ++ [y]).flatMap CR.row) := by
    rw [zC0, zT0, zU0, List.flatMap_nil, zS0]; exact g2
  have nT : ∀ i c g m, H.get i = some (.cells c 1 g m) -> ¬ (s.nil = false /\ i = s.i) := fun i c g m hg ⟨e, e'⟩ => by
    rcases g1.2 with ⟨_, rfl⟩ | ⟨_, _, _, _, _, _, _, h8⟩
    · cases e
    · rw [e', h8] at hg; cases hg
  refine hA _ _ ((f1.mono fun _ _ e => e.elim).trans (f2.mono fun i _ ⟨e, e'⟩ => ?_)) g2' (fun x hx => ?_) rfl rfl
  · rcases g1.2 with ⟨_, rfl⟩ | ⟨_, _, _, _, _, h6, _, _⟩
    · cases e
    · rw [e']; exact h6
  · rcases List.mem_append.1 hx with hx | hx
    · exact ((rc x hx).fr f1 fun _ _ _ _ _ => id).fr f2 nT
    · rw [List.mem_singleton.1 hx]; exact (ry.fr f1 fun _ _ _ _ _ => id).fr f2 nT
end
end DfN
namespace DfN
open Go Go.X Go.X.Df Go.Proofs
structure RS (h0 h : Q0) (X Z : List ER) (D : List Ch) (i k : Nat) (s : SL) (ys : List CR) : Prop where
  fr : Q5 Qa h0 h
  gr : Grown h0 h s 5 ys.length (ys.flatMap CR.row)
  rc : ∀ x, x ∈ ys -> RC h x
  eq : ys.map CR.c ++ diff ((DfN.ents X).drop i) ((DfN.ents Z).drop k) = D
  il : i <= X.length
  kl : k <= Z.length
  nl : ys.length <= i + k
theorem J0 {X : List ER} {i : Nat} {x : ER} (hx : X[i]? = some x) : (DfN.ents X).drop i = x.e :: (DfN.ents X).drop (i + 1) := by
  have h : (DfN.ents X)[i]? = some x.e := by rw [DfN.ents, zV0, hx]; rfl
  obtain ⟨h1, h2⟩ := List.getElem?_eq_some_iff.1 h
  rw [List.drop_eq_getElem_cons h1, h2]
theorem qMk {X : List ER} {i : Nat} (hx : X.length <= i) : (DfN.ents X).drop i = [] := List.drop_eq_nil_of_le (by rw [DfN.ents, zJ0]; exact hx)
section
variable {S : QW} [GoodS S] {lf n : Nat} {h g0 h0 : Q0} {K : ZK} {X Z : List ER} {ys : List CR} {D : List Ch} {i k : Nat} {s a b : SL} {x z : ER}
theorem RS.app (st : RS h0 h X Z D i k s ys) {h3 : Q0} (f : Q5 Qa h h3) (hlen : X.length + Z.length < 8589934590) {y : CR} (ry : RC h3 y) {i' k' : Nat} (hi : i' <= X.length) (hk' : k' <= Z.length) (hik : i + k < i' + k') (he : diff ((DfN.ents X).drop i) ((DfN.ents Z).drop k) = y.c :: diff ((DfN.ents X).drop i') ((DfN.ents Z).drop k')) {A : List AV -> Prop}
    (hA : ∀ h2 s2, RS h0 h2 X Z D i' k' s2 (ys ++ [y]) -> s2 = s.app (h3.newO (.cells y.row 5 false false)).next 1 -> h2 = Qx (h3.newO (.cells y.row 5 false false)) s 5 1 y.row -> A y.row) :
    jY (h3.newO (.cells y.row 5 false false)) ⟨false, h3.next, 0, 1, 1, false⟩ 5 fun ds => jz Try.prog (h3.newO (.cells y.row 5 false false)) s 54 5 1 ds (A ds) := by
  have hl := st.nl
  have h1 := st.il
  have h2 := st.kl
  have F := st.fr.trans f
  refine app_row (st.gr.fr f fun _ => id) F.next (fun x hx => (st.rc x hx).fr f fun _ _ _ _ _ => id) ry (by omega) fun h2 s2 f2 g2 rc2 e1 e2 => hA h2 s2 ⟨F.behind f2, g2, rc2, ?_, hi, hk', by rw [zC0]; show _ + 1 <= _; omega⟩ e1 e2
  rw [List.map_append, List.append_assoc]
  show _ ++ ([y.c] ++ _) = _
  rw [List.singleton_append, <- he]; exact st.eq
abbrev rsl (a b s : SL) (i k : Nat) : List (Nat × ZV) := [(0, .sl a), (1, .sl b), (5, .sl s), (6, .int .i64 (i : Int)), (7, .int .i64 (k : Int))]
theorem rc3 {h : Q0} {k1 k2 k3 : SL} {c : Ch} (b1 : qz h k1 c.k) (b2 : qz h k2 c.old) (b3 : qz h k3 c.new) (o1 : k1.nil = false -> ∃ c g m, h.get k1.i = some (.cells c 1 g m)) (o2 : k2.nil = false -> ∃ c g m, h.get k2.i = some (.cells c 1 g m)) (o3 : k3.nil = false -> ∃ c g m, h.get k3.i = some (.cells c 1 g m)) : RC h ⟨k1, k2, k3, c⟩ :=
  ⟨⟨b1, b2, b3⟩, fun t ht e => by
    simp only [CR.sls, zL0, zM0, or_false] at ht
    rcases ht with rfl | rfl | rfl
    · exact o1 e
    · exact o2 e
    · exact o3 e⟩
theorem qQn {h h' : Q0} {t : SL} {k : Ky} (b : qz h t k) (f : Q5 Qa h h') (o : t.nil = false -> ∃ c g m, h.get t.i = some (.cells c 1 g m)) : t.nil = false -> ∃ c g m, h'.get t.i = some (.cells c 1 g m) := fun e => by
  obtain ⟨c, g, m, hg⟩ := o e
  exact ⟨c, g, m, (f.same _ (b.seg.lt e) id).trans hg⟩
theorem r4_ok {zt0 : ZT} {kk X0 X1 X2 : ZT -> Q0 -> Prop} {E : List (Nat × (ZT -> Q0 -> Prop))} (st : RS h0 h X Z D i k s ys) (ha : j1 h0 a X) (hb : j1 h0 b Z) (hlen : X.length + Z.length < 8589934590) (sX : ∀ x, x ∈ X -> Small x.e) (sZ : ∀ x, x ∈ Z -> Small x.e)
    (hx : X[i]? = some x) (hzz : Z[k]? = some z) (hxz : x.e.1 = z.e.1) (hz : ZAt 140 (rsl a b s i k) zt0)
    (hk : ∀ z' h' i' k' s' ys', ZAt 140 (rsl a b s' i' k') z' -> RS h0 h' X Z D i' k' s' ys' -> i + k < i' + k' -> kk z' h') :
    zAt Try.prog (Qq Try.prog S lf (n + 1)) lf 13 [1, 1, 1, 1, 0, 0, 0, 1, 0, 0, 1, 1, 1, 1] zt0 kk ⟨(2, X2) :: (1, X1) :: (0, X0) :: E, Q3 Try.prog 13 K⟩ h := by
  refine Qr _ hz fun d => (rlists_s4 _ _ _ _ _ _ _ _ _ _ _ _ _ _ _).mpr ?_
  have ha1 := ha.fr st.fr
  have hb1 := hb.fr st.fr
  have hi : i < X.length := (List.getElem?_eq_some_iff.1 hx).1
  have hkz : k < Z.length := (List.getElem?_eq_some_iff.1 hzz).1
  have na := ha1.nil_of (by decide) hi
  have la := ha1.len' (by decide) na
  have nb := hb1.nil_of (by decide) hkz
  have lb := hb1.len' (by decide) nb
  obtain ⟨xk, xv⟩ := ha1.ok x (zD0 hx)
  obtain ⟨zk, zv⟩ := hb1.ok z (zD0 hzz)
  have s1 := sX x (zD0 hx)
  have s2 := sZ z (zD0 hzz)
  refine ⟨na, qAe.2 ⟨by omega, rfl, rfl, Qh (ha1.at' na hx (q := 1) (by decide) rfl) (xv.zbytes ⟨nb, qAe.2 ⟨by omega, rfl, rfl, Qh (hb1.at' nb hzz (q := 1) (by decide) rfl) (zv.zbytes ?_)⟩⟩)⟩⟩
  have wi : IntKind.i64.wrap ((i : Int) + 1) = ((i + 1 : Nat) : Int) := by rw [QD (by omega) (by omega)]; rfl
  have wk : IntKind.i64.wrap ((k : Int) + 1) = ((k + 1 : Nat) : Int) := by rw [QD (by omega) (by omega)]; rfl
  have hd : diff ((DfN.ents X).drop i) ((DfN.ents Z).drop k) = if x.e.2 = z.e.2 then diff ((DfN.ents X).drop (i + 1)) ((DfN.ents Z).drop (k + 1)) else chR x.e z.e :: diff ((DfN.ents X).drop (i + 1)) ((DfN.ents Z).drop (k + 1)) := by
    rw [J0 hx, J0 hzz, diff_eq hxz]
  by_cases hv : x.e.2 = z.e.2
  · rw [decide_eq_true hv, Bool.not_true, qAz]
    refine qAy.2 (qAy.2 ?_)
    rw [wi, wk]
    rw [if_pos hv] at hd
    exact hk _ _ (i + 1) (k + 1) s ys ⟨rfl, rfl, rfl, rfl, rfl, rfl, trivial⟩ ⟨st.fr, st.gr, st.rc, by rw [<- hd]; exact st.eq, hi, hkz, by have := st.nl; omega⟩ (by omega)
  · rw [decide_eq_false hv, Bool.not_false, qBi]
    rw [if_neg hv] at hd
    refine ⟨na, qAe.2 ⟨by omega, rfl, rfl, Qh (ha1.at' na hx (q := 0) (by decide) rfl) ⟨na, qAe.2 ⟨by omega, rfl, rfl, Qh (ha1.at' na hx (q := 1) (by decide) rfl) ⟨nb, qAe.2 ⟨by omega, rfl, rfl, Qh (hb1.at' nb hzz (q := 1) (by decide) rfl) ?_⟩⟩⟩⟩⟩⟩
    refine j6 xk s1.1 fun h2 ks f2 c2 n2 => ?_
    refine qe ⟨⟨rfl, Qh ((hb1.fr f2).at' nb hzz (q := 1) (by decide) rfl) rfl⟩, ⟨rfl, Qh ((ha1.fr f2).at' na hx (q := 1) (by decide) rfl) rfl⟩, ?_⟩
    refine j6 (xv.fr f2 fun _ => id) s1.2 fun h3 os f3 c3 n3 => ?_
    refine qe ⟨⟨rfl, Qh (((hb1.fr f2).fr f3).at' nb hzz (q := 1) (by decide) rfl) rfl⟩, ?_⟩
    refine j6 ((zv.fr f2 fun _ => id).fr f3 fun _ => id) s2.2 fun h4 ns f4 c4 n4 => ?_
    refine qe ?_
    have f34 := f3.trans f4
    refine st.app ((f2.trans f3).trans f4) hlen (y := ⟨ks, os, ns, chR x.e z.e⟩) (rc3 (c2.byts.fr f34 fun _ => id) (c3.byts.fr f4 fun _ => id) c4.byts (qQn c2.byts f34 c2.blk) (qQn c3.byts f4 c3.blk) c4.blk) hi hkz (by omega) hd fun H s' st' e1 e2 => ?_
    subst e1 e2
    refine qAy.2 (qAy.2 ?_)
    rw [wi, wk]
    exact hk _ _ (i + 1) (k + 1) _ _ ⟨rfl, rfl, rfl, rfl, rfl, rfl, trivial⟩ st' (by omega)
end
end DfN
namespace DfN
open Go Go.X Go.X.Df Go.Proofs
section
variable {S : QW} [GoodS S] {lf n : Nat} {h g0 h0 : Q0} {K : ZK} {X Z : List ER} {ys : List CR} {D : List Ch} {i k : Nat} {s a b : SL}
theorem r2_ok {zt0 : ZT} {kk X0 X1 X2 : ZT -> Q0 -> Prop} {E : List (Nat × (ZT -> Q0 -> Prop))} {z : ER} (st : RS h0 h X Z D i k s ys) (ha : j1 h0 a X) (hb : j1 h0 b Z) (hlen : X.length + Z.length < 8589934590) (sX : ∀ x, x ∈ X -> Small x.e) (sZ : ∀ x, x ∈ Z -> Small x.e)
    (hzz : Z[k]? = some z) (hcase : ∀ x, X[i]? = some x -> ¬ Qm x.e.1 z.e.1 = true) (hz : ZAt 140 (rsl a b s i k) zt0)
    (hk : ∀ z' h' i' k' s' ys', ZAt 140 (rsl a b s' i' k') z' -> RS h0 h' X Z D i' k' s' ys' -> i + k < i' + k' -> kk z' h') :
    zAt Try.prog (Qq Try.prog S lf (n + 1)) lf 13 [1, 1, 1, 1, 0, 0, 0, 1, 0, 0, 1, 1] zt0 kk ⟨(2, X2) :: (1, X1) :: (0, X0) :: E, Q3 Try.prog 13 K⟩ h := by
  refine Qr _ hz fun d => (rlists_s2 _ _ _ _ _ _ _ _ _ _ _ _ _ _ _).mpr ?_
  unfold qKh
  have ha1 := ha.fr st.fr
  have hb1 := hb.fr st.fr
  have hkz : k < Z.length := (List.getElem?_eq_some_iff.1 hzz).1
  have nb := hb1.nil_of (by decide) hkz
  have lb := hb1.len' (by decide) nb
  have lan := ha1.len (by decide)
  have ea : (Int.ofNat a.n : Int) = ((X.length : Nat) : Int) := by rw [lan]; rfl
  obtain ⟨zk, zv⟩ := hb1.ok z (zD0 hzz)
  have s2 := sZ z (zD0 hzz)
  have il := st.il
  have wk : IntKind.i64.wrap ((k : Int) + 1) = ((k + 1 : Nat) : Int) := by rw [QD (by omega) (by omega)]; rfl
  rw [ea]
  by_cases hie : i = X.length
  · rw [decide_eq_true (by omega : (i : Int) = (X.length : Int)), qBi]
    have hd : diff ((DfN.ents X).drop i) ((DfN.ents Z).drop k) = chI z.e :: diff ((DfN.ents X).drop i) ((DfN.ents Z).drop (k + 1)) := by
      rw [J0 hzz, qY2 (.inl (qMk (by omega)))]
    refine ⟨nb, qAe.2 ⟨by omega, rfl, rfl, Qh (hb1.at' nb hzz (q := 0) (by decide) rfl) ⟨nb, qAe.2 ⟨by omega, rfl, rfl, Qh (hb1.at' nb hzz (q := 1) (by decide) rfl) ?_⟩⟩⟩⟩
    refine j6 zk s2.1 fun h2 ks f2 c2 n2 => ?_
    refine qe ⟨⟨rfl, Qh ((hb1.fr f2).at' nb hzz (q := 1) (by decide) rfl) rfl⟩, ?_⟩
    refine j6 (zv.fr f2 fun _ => id) s2.2 fun h3 ns f3 c3 n3 => ?_
    refine qe ?_
    refine st.app (f2.trans f3) hlen (y := ⟨ks, QE, ns, chI z.e⟩) (rc3 (c2.byts.fr f3 fun _ => id) (qz.nil _ _) c3.byts (qQn c2.byts f3 c2.blk) (fun e => (by cases e)) c3.blk) (i' := i) (k' := k + 1) st.il hkz (by omega) hd fun H s' st' e1 e2 => ?_
    subst e1 e2
    refine qAy.2 ?_
    rw [wk]
    exact hk _ _ i (k + 1) _ _ ⟨rfl, rfl, rfl, rfl, rfl, rfl, trivial⟩ st' (by omega)
  · have hi : i < X.length := by omega
    rw [decide_eq_false (by omega : ¬ (i : Int) = (X.length : Int)), qAz]
    obtain ⟨x, hx⟩ : ∃ x, X[i]? = some x := ⟨_, zE0 hi⟩
    have na := ha1.nil_of (by decide) hi
    have la := ha1.len' (by decide) na
    obtain ⟨xk, xv⟩ := ha1.ok x (zD0 hx)
    refine ⟨nb, qAe.2 ⟨by omega, rfl, rfl, Qh (hb1.at' nb hzz (q := 0) (by decide) rfl) (zk.zbytes ⟨na, qAe.2 ⟨by omega, rfl, rfl, Qh (ha1.at' na hx (q := 0) (by decide) rfl) (xk.zbytes ?_)⟩⟩)⟩⟩
    rw [qHv]
    by_cases hlt : Qm z.e.1 x.e.1 = true
    · rw [hlt, qBi]
      have hd : diff ((DfN.ents X).drop i) ((DfN.ents Z).drop k) = chI z.e :: diff ((DfN.ents X).drop i) ((DfN.ents Z).drop (k + 1)) := by
        rw [J0 hzz, qY2 (.inr ⟨_, _, J0 hx, hlt⟩)]
      refine ⟨nb, qAe.2 ⟨by omega, rfl, rfl, Qh (hb1.at' nb hzz (q := 0) (by decide) rfl) ⟨nb, qAe.2 ⟨by omega, rfl, rfl, Qh (hb1.at' nb hzz (q := 1) (by decide) rfl) ?_⟩⟩⟩⟩
      refine j6 zk s2.1 fun h2 ks f2 c2 n2 => ?_
      refine qe ⟨⟨rfl, Qh ((hb1.fr f2).at' nb hzz (q := 1) (by decide) rfl) rfl⟩, ?_⟩
      refine j6 (zv.fr f2 fun _ => id) s2.2 fun h3 ns f3 c3 n3 => ?_
      refine qe ?_
      refine st.app (f2.trans f3) hlen (y := ⟨ks, QE, ns, chI z.e⟩) (rc3 (c2.byts.fr f3 fun _ => id) (qz.nil _ _) c3.byts (qQn c2.byts f3 c2.blk) (fun e => (by cases e)) c3.blk) (i' := i) (k' := k + 1) st.il hkz (by omega) hd fun H s' st' e1 e2 => ?_
      subst e1 e2
      refine qAy.2 ?_
      rw [wk]
      exact hk _ _ i (k + 1) _ _ ⟨rfl, rfl, rfl, rfl, rfl, rfl, trivial⟩ st' (by omega)
    · rw [show Qm z.e.1 x.e.1 = false from by cases hq : Qm z.e.1 x.e.1 with | false => rfl | true => exact absurd hq hlt, qAz]
      have hxz : x.e.1 = z.e.1 := by
        rcases lt_tri x.e.1 z.e.1 with h | h | h
        · exact absurd h (hcase x hx)
        · exact h
        · exact absurd h hlt
      exact r4_ok (n := n) st ha hb hlen sX sZ hx hzz hxz ⟨rfl, rfl, rfl, rfl, rfl, rfl, trivial⟩ hk
theorem r0_ok {zt0 : ZT} {kk X0 : ZT -> Q0 -> Prop} {E : List (Nat × (ZT -> Q0 -> Prop))} (st : RS h0 h X Z D i k s ys) (ha : j1 h0 a X) (hb : j1 h0 b Z) (hlen : X.length + Z.length < 8589934590) (sX : ∀ x, x ∈ X -> Small x.e) (sZ : ∀ x, x ∈ Z -> Small x.e)
    (hsome : i < X.length ∨ k < Z.length) (hz : ZAt 140 (rsl a b s i k) zt0)
    (hk : ∀ z' h' i' k' s' ys', ZAt 140 (rsl a b s' i' k') z' -> RS h0 h' X Z D i' k' s' ys' -> i + k < i' + k' -> kk z' h') :
    zAt Try.prog (Qq Try.prog S lf (n + 1)) lf 13 [1, 1, 1, 1, 0, 0, 0, 1] zt0 kk ⟨(0, X0) :: E, Q3 Try.prog 13 K⟩ h := by
  refine Qr _ hz fun d => (rlists_s0 _ _ _ _ _ _ _ _ _ _ _ _ _).mpr ?_
  unfold qKi
  have ha1 := ha.fr st.fr
  have hb1 := hb.fr st.fr
  have lan := ha1.len (by decide)
  have lbn := hb1.len (by decide)
  have ea : (Int.ofNat a.n : Int) = ((X.length : Nat) : Int) := by rw [lan]; rfl
  have eb : (Int.ofNat b.n : Int) = ((Z.length : Nat) : Int) := by rw [lbn]; rfl
  have il := st.il
  have kl := st.kl
  have wi : IntKind.i64.wrap ((i : Int) + 1) = ((i + 1 : Nat) : Int) := by rw [QD (by omega) (by omega)]; rfl
  rw [ea, eb]
  by_cases hke : k = Z.length
  · rw [decide_eq_true (by omega : (k : Int) = (Z.length : Int)), qBi]
    have hi : i < X.length := by omega
    obtain ⟨x, hx⟩ : ∃ x, X[i]? = some x := ⟨_, zE0 hi⟩
    have na := ha1.nil_of (by decide) hi
    have la := ha1.len' (by decide) na
    obtain ⟨xk, xv⟩ := ha1.ok x (zD0 hx)
    have s1 := sX x (zD0 hx)
    have hd : diff ((DfN.ents X).drop i) ((DfN.ents Z).drop k) = chD x.e :: diff ((DfN.ents X).drop (i + 1)) ((DfN.ents Z).drop k) := by
      rw [J0 hx, qY3 (.inl (qMk (by omega)))]
    refine ⟨na, qAe.2 ⟨by omega, rfl, rfl, Qh (ha1.at' na hx (q := 0) (by decide) rfl) ⟨na, qAe.2 ⟨by omega, rfl, rfl, Qh (ha1.at' na hx (q := 1) (by decide) rfl) ?_⟩⟩⟩⟩
    refine j6 xk s1.1 fun h2 ks f2 c2 n2 => ?_
    refine qe ⟨⟨rfl, Qh ((ha1.fr f2).at' na hx (q := 1) (by decide) rfl) rfl⟩, ?_⟩
    refine j6 (xv.fr f2 fun _ => id) s1.2 fun h3 os f3 c3 n3 => ?_
    refine qe ?_
    refine st.app (f2.trans f3) hlen (y := ⟨ks, os, QE, chD x.e⟩) (rc3 (c2.byts.fr f3 fun _ => id) c3.byts (qz.nil _ _) (qQn c2.byts f3 c2.blk) c3.blk (fun e => (by cases e))) (i' := i + 1) (k' := k) hi st.kl (by omega) hd fun H s' st' e1 e2 => ?_
    subst e1 e2
    refine qAy.2 ?_
    rw [wi]
    exact hk _ _ (i + 1) k _ _ ⟨rfl, rfl, rfl, rfl, rfl, rfl, trivial⟩ st' (by omega)
  · have hkz : k < Z.length := by omega
    rw [decide_eq_false (by omega : ¬ (k : Int) = (Z.length : Int)), qAz]
    obtain ⟨z, hzz⟩ : ∃ z, Z[k]? = some z := ⟨_, zE0 hkz⟩
    have nb := hb1.nil_of (by decide) hkz
    have lb := hb1.len' (by decide) nb
    obtain ⟨zk, zv⟩ := hb1.ok z (zD0 hzz)
    by_cases hi : i < X.length
    · rw [decide_eq_true (by omega : (i : Int) < (X.length : Int)), qBi]
      obtain ⟨x, hx⟩ : ∃ x, X[i]? = some x := ⟨_, zE0 hi⟩
      have na := ha1.nil_of (by decide) hi
      have la := ha1.len' (by decide) na
      obtain ⟨xk, xv⟩ := ha1.ok x (zD0 hx)
      have s1 := sX x (zD0 hx)
      refine ⟨na, qAe.2 ⟨by omega, rfl, rfl, Qh (ha1.at' na hx (q := 0) (by decide) rfl) (xk.zbytes ⟨nb, qAe.2 ⟨by omega, rfl, rfl, Qh (hb1.at' nb hzz (q := 0) (by decide) rfl) (zk.zbytes ?_)⟩⟩)⟩⟩
      rw [cnd_t, qHv]
      by_cases hlt : Qm x.e.1 z.e.1 = true
      · rw [hlt, qBi]
        have hd : diff ((DfN.ents X).drop i) ((DfN.ents Z).drop k) = chD x.e :: diff ((DfN.ents X).drop (i + 1)) ((DfN.ents Z).drop k) := by
          rw [J0 hx, qY3 (.inr ⟨_, _, J0 hzz, hlt⟩)]
        refine ⟨na, qAe.2 ⟨by omega, rfl, rfl, Qh (ha1.at' na hx (q := 0) (by decide) rfl) ⟨na, qAe.2 ⟨by omega, rfl, rfl, Qh (ha1.at' na hx (q := 1) (by decide) rfl) ?_⟩⟩⟩⟩
        refine j6 xk s1.1 fun h2 ks f2 c2 n2 => ?_
        refine qe ⟨⟨rfl, Qh ((ha1.fr f2).at' na hx (q := 1) (by decide) rfl) rfl⟩, ?_⟩
        refine j6 (xv.fr f2 fun _ => id) s1.2 fun h3 os f3 c3 n3 => ?_
        refine qe ?_
        refine st.app (f2.trans f3) hlen (y := ⟨ks, os, QE, chD x.e⟩) (rc3 (c2.byts.fr f3 fun _ => id) c3.byts (qz.nil _ _) (qQn c2.byts f3 c2.blk) c3.blk (fun e => (by cases e))) (i' := i + 1) (k' := k) hi st.kl (by omega) hd fun H s' st' e1 e2 => ?_
        subst e1 e2
        refine qAy.2 ?_
        rw [wi]
        exact hk _ _ (i + 1) k _ _ ⟨rfl, rfl, rfl, rfl, rfl, rfl, trivial⟩ st' (by omega)
      · rw [show Qm x.e.1 z.e.1 = false from by cases hq : Qm x.e.1 z.e.1 with | false => rfl | true => exact absurd hq hlt, qAz]
        exact r2_ok (n := n) st ha hb hlen sX sZ hzz (fun y hy => by rw [hx] at hy; cases hy; exact hlt) ⟨rfl, rfl, rfl, rfl, rfl, rfl, trivial⟩ hk
    · rw [decide_eq_false (by omega : ¬ (i : Int) < (X.length : Int)), qAz]
      exact r2_ok (n := n) st ha hb hlen sX sZ hzz (fun y hy => by have := (List.getElem?_eq_some_iff.1 hy).1; omega) ⟨rfl, rfl, rfl, rfl, rfl, rfl, trivial⟩ hk
theorem qNf (ha : j1 h a X) (hb : j1 h b Z) (hlen : X.length + Z.length < 8589934590) (hlf : X.length + Z.length < lf) (sX : ∀ x, x ∈ X -> Small x.e) (sZ : ∀ x, x ∈ Z -> Small x.e)
    (hk : ∀ h' s ys, Q5 Qa h h' -> Chgs h' s ys -> ys.map CR.c = diff (DfN.ents X) (DfN.ents Z) -> K (.sl s) h') : Qq Try.prog S lf (n + 2) 13 [.sl a, .sl b] K h := by
  refine QJ (hSD (by decide) (by decide)) (by kernel_rfl) ?_
  rw [rlists_nf]
  have lan := ha.len (by decide)
  have lbn := hb.len (by decide)
  have ea : (Int.ofNat a.n : Int) = ((X.length : Nat) : Int) := by rw [lan]; rfl
  have eb : (Int.ofNat b.n : Int) = ((Z.length : Nat) : Int) := by rw [lbn]; rfl
  refine Qy.inv (fun q z h' => ∃ (i k : Nat) (s : SL) (ys : List CR), ZAt 140 (rsl a b s i k) z /\ RS h h' X Z (diff (DfN.ents X) (DfN.ents Z)) i k s ys /\ i + k + q = X.length + Z.length) (n := X.length + Z.length) hlf
    ⟨0, 0, QE, [], ⟨rfl, rfl, rfl, rfl, rfl, rfl, trivial⟩, ⟨Q5.refl _ _, Grown.start _ _ _, fun x hx => (by cases hx), rfl, zY0 _, zY0 _, zY0 _⟩, by omega⟩ ?_
  rintro q z h' kk hq ⟨i, k, s, ys, hz, st, hm⟩ ih
  have il := st.il
  have kl := st.kl
  refine Qr _ hz fun d => (qNg _ _ _ _ _ _ _ _ _ _ _ _ _).mpr ?_
  unfold qD4
  rw [ea, eb]
  have go : ∀ z' h2 i' k' s' ys', ZAt 140 (rsl a b s' i' k') z' -> RS h h2 X Z (diff (DfN.ents X) (DfN.ents Z)) i' k' s' ys' -> i + k < i' + k' -> kk z' h2 := fun z' h2 i' k' s' ys' hz' st' hl => by
    have := st'.il
    have := st'.kl
    exact ih (X.length + Z.length - (i' + k')) z' h2 (by omega) ⟨i', k', s', ys', hz', st', by omega⟩
  by_cases hi : i < X.length
  · rw [decide_eq_true (by omega : (i : Int) < (X.length : Int)), qBi]
    exact r0_ok (n := n) st ha hb hlen sX sZ (.inl hi) ⟨rfl, rfl, rfl, rfl, rfl, rfl, trivial⟩ go
  · rw [decide_eq_false (by omega : ¬ (i : Int) < (X.length : Int)), qAz, qHv]
    by_cases hk' : k < Z.length
    · rw [decide_eq_true (by omega : (k : Int) < (Z.length : Int)), qBi]
      exact r0_ok (n := n) st ha hb hlen sX sZ (.inr hk') ⟨rfl, rfl, rfl, rfl, rfl, rfl, trivial⟩ go
    · rw [decide_eq_false (by omega : ¬ (k : Int) < (Z.length : Int)), qAz]
      refine Qr (n := 140) [(5, .sl s)] ⟨rfl, rfl, trivial⟩ fun d' => (qRi _ _ _ _ _ _).mpr ?_
      refine hk _ s ys st.fr (st.gr.rws (fun _ _ => rfl) fun y hy => (st.rc y hy).rd) ?_
      have := st.eq
      rw [qMk (by omega), qMk (by omega), diff, zS0] at this
      exact this
end
end DfN
namespace DfN
open Go Go.X Go.X.Df Go.Proofs
def SA : QW := qZu 7
def S1 : QW := qPd Try.prog 8589934592 9 38 SA
def S2 : QW := qPd Try.prog 8589934592 9 12 S1
theorem SA_none {f : Nat} (h1 : f ≠ 7) (h2 : f ≠ 45) : SA f = none := by
  unfold SA qZu
  rw [qFl h1]
theorem qXy {f : Nat} (h1 : f ≠ 7) (h2 : f ≠ 45) (h3 : f ≠ 38) : S1 f = none := by
  unfold S1 qPd
  rw [qFl h3]; exact SA_none h1 h2
theorem S2_none {f : Nat} (h1 : f ≠ 7) (h2 : f ≠ 45) (h3 : f ≠ 38) (h4 : f ≠ 12) : S2 f = none := by
  unfold S2 qPd
  rw [qFl h4]; exact qXy h1 h2 h3
theorem S1_38 : S1 38 = some (fun args K h => Qq Try.prog SA 8589934592 9 38 args (qJ7 K) h) := by
  unfold S1 qPd; rw [beq_of_eq rfl]
theorem S2_12 : S2 12 = some (fun args K h => Qq Try.prog S1 8589934592 9 12 args (qJ7 K) h) := by
  unfold S2 qPd; rw [beq_of_eq rfl]
theorem S2_38 : S2 38 = some (fun args K h => Qq Try.prog SA 8589934592 9 38 args (qJ7 K) h) := by
  unfold S2 qPd; rw [qFl (by decide)]; exact S1_38
theorem S2_7 : S2 7 = some (fun args K h => args = [] /\ K (.bool true) h) := by
  unfold S2 qPd; rw [qFl (by decide)]
  unfold S1 qPd; rw [qFl (by decide)]
  unfold SA qZu; rfl
theorem qVj {h : Q0} {K : ZK} {s : SL} {k : Ky} (hb : qz h s k) (hl : k.length <= 4294967296) (hk : ∀ h' s', Q5 Qa h h' -> qy h h' s' k -> K (.sl s') h') : Qq Try.prog SA 8589934592 9 38 [.sl s] (qJ7 K) h :=
  clone0_ok (n := 8) (SA_none (by decide) (by decide)) hb hl fun h' s' f w => rev_own w fun h2 s2 f2 o _ => hk h2 s2 (f.behind (f2.mono fun i _ ⟨e, e'⟩ => by rw [e']; exact (w.own e).1)) o
instance : GoodS S1 where
  none f h1 h2 h3 h4 h5 h6 := qXy h1 h2 h3
  clone hb hl hk := qI2 (by kernel_rfl) S1_38 (qVj hb hl hk)
instance : GoodS S2 where
  none f h1 h2 h3 h4 h5 h6 := S2_none h1 h2 h3 h4
  clone hb hl hk := qI2 (by kernel_rfl) S2_38 (qVj hb hl hk)
theorem Out.of {h0 h1 h : Q0} {s : SL} {ys : List CR} (x : Out h1 h s ys) (hn : h0.next <= h1.next) : Out h0 h s ys :=
  ⟨x.seg, fun e => by
    obtain ⟨q1, q2, q3, q4⟩ := x.own e
    exact ⟨zP0 hn q1, q2, q3, q4⟩, fun y hy => by
    obtain ⟨o1, o2, o3⟩ := x.ok y hy
    exact ⟨o1.of hn, o2.of hn, o3.of hn⟩, x.ap⟩
theorem Out.frT {h0 h h' : Q0} {s : SL} {ys : List CR} {T : Nat -> Prop} (x : Out h0 h s ys) (f : Q5 T h h') (hT : ∀ i, h0.next <= i -> ¬ T i) : Out h0 h' s ys :=
  x.fr f (fun e => hT _ (x.own e).1) fun t ht e => by
    obtain ⟨k, w⟩ := x.mem ht
    exact hT _ (w.own e).1
theorem rev_out {K : ZK} {h0 h : Q0} {s : SL} {ys : List CR} {m : Nat} (g : Grown h0 h s 5 m (ys.flatMap CR.row)) (ok : ∀ y, y ∈ ys -> y.Ok h0 h) (hk : ∀ h' s', Q5 (fun i => h0.next <= i) h h' -> Out h0 h' s' ys -> (s'.nil = true -> s' = QE) -> K (.sl s') h') : qJ7 K (.sl s) h := by
  rcases g.2 with ⟨e0, rfl⟩ | ⟨h1, h2, h3, h4, h5, h6, h7, h8⟩
  · have hy : ys = [] := by
      have := g.1
      cases ys with
      | nil => rfl
      | cons y l => rw [e0, qEr (sz := 5) fun _ _ => rfl] at this; simp at this
    subst hy
    exact hk _ _ (Q5.refl _ _) ⟨Seg.nil _ _ _, fun e => (by cases e), fun y hy => (by cases hy), fun e => (by cases e)⟩ fun _ => rfl
  · obtain ⟨nil, i, o, len, cap, ext⟩ := s
    have h1 : nil = false := h1
    subst h1
    have h2 : o = 0 := h2
    subst h2
    have h5 : ext = true := h5
    subst h5
    have h4 : cap = m := h4
    subst h4
    have h3 : len = cap := h3
    subst h3
    have hl := g.1
    unfold qJ7
    refine ⟨_, _, _, h8, h7, fun x => ?_⟩
    have gg := qD1 h i (some (.cells (ys.flatMap CR.row ++ List.replicate (x * 5) AV.junk) 5 false false))
    have f : Q5 (fun j => j = i) h (h.put i (some (.cells (ys.flatMap CR.row ++ List.replicate (x * 5) AV.junk) 5 false false))) := Q5.put _ _ fun _ => rfl
    have ne : ∀ t k, qy h0 h t k -> t.nil = false -> t.i ≠ i := fun t k w e => by
      obtain ⟨_, _, _, c, hg, _⟩ := w.own e
      intro e'
      rw [e', h8] at hg
      cases hg
    refine hk _ _ (f.mono fun j _ e => by rw [e]; exact h6) ⟨Seg.own (more := List.replicate (x * 5) AV.junk) hl h7 gg, fun _ => ⟨h6, rfl, rfl, _, gg, ?_, ?_⟩, fun y hy => ?_, fun _ t ht e => ?_⟩ fun e => (by cases e)
    · rw [zC0, zX0, hl, Nat.add_mul]
    · rw [List.take_left]
    · obtain ⟨o1, o2, o3⟩ := ok y hy
      exact ⟨o1.fr f fun e => ne _ _ o1 e, o2.fr f fun e => ne _ _ o2 e, o3.fr f fun e => ne _ _ o3 e⟩
    · obtain ⟨y, hy, ht⟩ := List.mem_flatMap.1 ht
      obtain ⟨o1, o2, o3⟩ := ok y hy
      simp only [CR.sls, zL0, zM0, or_false] at ht
      rcases ht with rfl | rfl | rfl
      · exact ne _ _ o1 e
      · exact ne _ _ o2 e
      · exact ne _ _ o3 e
theorem qJx {lf n : Nat} {h : Q0} {K : ZK} {X Z : List ER} {a b : SL} (ha : j1 h a X) (hb : j1 h b Z) (oa : SlOk a) (ob : SlOk b) (sX : ∀ x, x ∈ X -> Small x.e) (sZ : ∀ x, x ∈ Z -> Small x.e) (hlen : X.length + Z.length < 4294967296)
    (hk : ∀ h' s ys, Q5 Qa h h' -> Out h h' s ys -> (s.nil = true -> s = QE) -> (ys.flatMap CR.sls).Pairwise SlLt -> ys.map CR.c = diff (ents X) (ents Z) -> K (.sl s) h') :
    Qq Try.prog S2 lf (n + 1) 12 [.sl a, .sl b] K h := by
  refine qI2 (by kernel_rfl) S2_12 ?_
  refine lists_ok (S := S1) (n := 4) (qXy (by decide) (by decide) (by decide)) ha hb oa ob sX sZ (by omega) (by omega) fun h' s ys gB f hg g ok pw hd => ?_
  refine rev_out g ok fun h2 s2 f2 o2 n2 => hk h2 s2 ys (f.behind (f2.mono fun i _ e => zP0 hg e)) (o2.of hg) n2 pw hd
end DfN
namespace DfN
open Go Go.X Go.X.Df Go.Proofs
structure Outs (g0 h : Q0) (os : List (SL × List CR)) : Prop where
  each : ∀ o, o ∈ os -> Out g0 h o.1 o.2 /\ (o.1.nil = true -> o.1 = QE)
  ids : (os.flatMap fun o => o.2.flatMap CR.sls).Pairwise fun s t => s.nil = false -> t.nil = false -> s.i ≠ t.i
  ap : (os.map Prod.fst).Pairwise fun s t => s.nil = false -> t.nil = false -> s.i ≠ t.i
theorem Outs.start (g0 h : Q0) : Outs g0 h [] := ⟨fun _ h => (by cases h), List.Pairwise.nil, List.Pairwise.nil⟩
theorem Outs.frT {g0 h h' : Q0} {os : List (SL × List CR)} {T : Nat -> Prop} (x : Outs g0 h os) (f : Q5 T h h') (hT : ∀ i, g0.next <= i -> ¬ T i) : Outs g0 h' os :=
  ⟨fun o ho => ⟨(x.each o ho).1.frT f hT, (x.each o ho).2⟩, x.ids, x.ap⟩
theorem Outs.of {g0 g1 h : Q0} {os : List (SL × List CR)} (x : Outs g1 h os) (hn : g0.next <= g1.next) : Outs g0 h os :=
  ⟨fun o ho => ⟨(x.each o ho).1.of hn, (x.each o ho).2⟩, x.ids, x.ap⟩
theorem Outs.kfr {kb : Nat} {g0 h h' : Q0} {os : List (SL × List CR)} (x : Outs g0 h os) (f : KFr kb h h') (hk : kb < g0.next) : Outs g0 h' os :=
  ⟨fun o ho => ⟨(x.each o ho).1.kfr f hk, (x.each o ho).2⟩, x.ids, x.ap⟩
theorem Outs.add {g0 h h' : Q0} {os : List (SL × List CR)} {s : SL} {ys : List CR} (x : Outs g0 h os) (hg : g0.next <= h.next) (f : Q5 Qa h h') (o : Out h h' s ys) (hn : s.nil = true -> s = QE) (pw : (ys.flatMap CR.sls).Pairwise SlLt) : Outs g0 h' (os ++ [(s, ys)]) := by
  refine ⟨fun p hp => ?_, ?_, ?_⟩
  · rcases List.mem_append.1 hp with hp | hp
    · exact ⟨(x.each p hp).1.fr0 f, (x.each p hp).2⟩
    · rw [List.mem_singleton.1 hp]; exact ⟨o.of hg, hn⟩
  · rw [zT0]
    refine List.pairwise_append.2 ⟨x.ids, ?_, fun a ha b hb e1 e2 => ?_⟩
    · rw [zU0, List.flatMap_nil, zS0]
      exact pw.imp fun h e1 e2 => Nat.ne_of_lt (h e1 e2)
    · obtain ⟨p, hp, ha⟩ := List.mem_flatMap.1 ha
      rw [zU0, List.flatMap_nil, zS0] at hb
      obtain ⟨k, w⟩ := (x.each p hp).1.mem ha
      obtain ⟨k', w'⟩ := o.mem hb
      have := w.byts.seg.lt e1
      have := (w'.own e2).1
      omega
  · rw [List.map_append]
    refine List.pairwise_append.2 ⟨x.ap, List.pairwise_singleton _ _, fun a ha b hb e1 e2 => ?_⟩
    obtain ⟨p, hp, rfl⟩ := List.mem_map.1 ha
    rw [List.map_cons, List.map_nil, List.mem_singleton] at hb
    subst hb
    have := (x.each p hp).1.seg.lt e1
    have := (o.own e2).1
    omega
theorem kvs_fst : ∀ l : List CR, (l.flatMap CR.kvs).map Prod.fst = l.flatMap CR.sls
  | [] => rfl
  | x :: l => by rw [zU0, zU0, List.map_append, kvs_fst l]; rfl
section
variable {lf n : Nat} {h g0 : Q0} {K : ZK} {kb : Nat}
structure Kept (g0 h : Q0) (kb : Nat) (L : List BR) (os : List (SL × List CR)) : Prop where
  book : Book g0 h kb L (os.map Prod.fst)
  same : L.map (fun r => (r.s, r.k)) = os.flatMap fun o => o.2.flatMap CR.kvs
theorem Kept.more {L : List BR} {os rest : List (SL × List CR)} {s : SL} {ys : List CR} (b : Kept g0 h kb L os) (x : Outs g0 h (os ++ (s, ys) :: rest)) (hg : g0.next <= h.next) (hs : ∀ y, y ∈ ys -> SmallC y.c) (hL : L.length + ys.length * 3 < 1000000000) (hcs : os.length < 1000000) (hlf : ys.length < lf)
    (hk : ∀ h' R, Kept g0 h' kb (L ++ R) (os ++ [(s, ys)]) -> Outs g0 h' (os ++ (s, ys) :: rest) -> h.next <= h'.next -> R.length = ys.length * 3 -> K (.tup []) h') :
    Qq Try.prog S2 lf (n + 2) 17 [.pv false kb 0, .sl s] K h := by
  have o := (x.each (s, ys) (by simp)).1
  refine jAt b.book (zN0 _) hg o hs hL (by rw [zJ0]; exact hcs) hlf fun h' R f b' e => ?_
  refine hk h' R ⟨by rw [List.map_append]; exact b', ?_⟩ (x.kfr f b.book.lt) f.next ?_
  · rw [List.map_append, b.same, e, zT0, zU0, List.flatMap_nil, zS0]
  · have := congrArg List.length e
    rw [zJ0, qWz] at this
    exact this
theorem Kept.ends {L : List BR} {os : List (SL × List CR)} (b : Kept g0 h kb L os) (x : Outs g0 h os) (hg : g0.next <= h.next) (hks : ∀ o, o ∈ os -> ∀ y, y ∈ o.2 -> y.c.k.length < 100000000 /\ y.c.old.length < 100000000 /\ y.c.new.length < 100000000) (hL : L.length < 100000000) (hos : os.length < 100000000) (hol : ∀ o, o ∈ os -> o.2.length < 1000000000) (hlf : 4000000000 < lf)
    (hk : ∀ h', K (.bool true) h') : Qq Try.prog S2 lf (n + 5) 18 [.pv false kb 0] K h := by
  have es : L.map BR.s = os.flatMap fun o => o.2.flatMap CR.sls := by
    have h1 : L.map BR.s = (L.map fun r => (r.s, r.k)).map Prod.fst := by rw [List.map_map]; rfl
    rw [h1, b.same, List.map_flatMap]
    congr 1
    funext o
    exact kvs_fst _
  refine ends_ok b.book hg (by rw [es]; exact x.ids) (fun r hr => ?_) hL (by omega) (fun h' K2 f hK2 => ?_) hk
  · have : (r.s, r.k) ∈ os.flatMap fun o => o.2.flatMap CR.kvs := by rw [<- b.same]; exact List.mem_map.2 ⟨r, hr, rfl⟩
    obtain ⟨o, ho, h1⟩ := List.mem_flatMap.1 this
    obtain ⟨y, hy, h2⟩ := List.mem_flatMap.1 h1
    have q := hks o ho y hy
    simp only [CR.kvs, zL0, zM0, or_false, Prod.mk.injEq] at h2
    rcases h2 with ⟨_, e⟩ | ⟨_, e⟩ | ⟨_, e⟩ <;> rw [e]
    · exact q.1
    · exact q.2.1
    · exact q.2.2
  · obtain ⟨l, w, c, v, a1, a2, a3, n1, n2, n3, d1, d2, d3⟩ := b.book.at'
    have ow : ∀ r, r ∈ L -> qy g0 h r.s r.k := fun r hr => (b.book.recs r hr).1
    have ec : EC g0 h' kb c (os.map Prod.fst) (fun j => ((os[j]?.map Prod.snd).getD []).flatMap CR.row) := by
      refine ⟨b.book.lt, ⟨_, _, v.fr f fun ⟨r, hr, e1, e2⟩ => ?_⟩, a3.fr f fun e ⟨r, hr, e1, e2⟩ => ?_, n3, fun j s hj => ?_, x.ap⟩
      · have := ((ow r hr).own e1).1
        have := b.book.lt
        omega
      · have q := qMe (ow r hr) e1
        rw [<- e2] at q
        exact q (Arr.ab a3 (n3 e) e).1
      · rw [zV0] at hj
        obtain ⟨o, ho, e⟩ := Option.map_eq_some_iff.1 hj
        subst e
        rw [ho]
        obtain ⟨q1, q2⟩ := x.each o (zD0 ho)
        have lo : LO g0 h o.1 (o.2.flatMap CR.row) := ⟨q1.seg, q1.own, q2⟩
        refine lo.fr f fun e ⟨r, hr, e1, e2⟩ => ?_
        obtain ⟨_, _, _, c1, hg1, _⟩ := (ow r hr).own e1
        obtain ⟨_, _, _, c2, hg2, _⟩ := q1.own e
        rw [<- e2, hg2] at hg1
        cases hg1
    refine outerc_ok (n := n + 2) (a := l.av) (w := w.av) (cl := fun j => ((os[j]?.map Prod.snd).getD []).length) ec (fun j hj => qEr fun _ _ => rfl) (fun j => ?_) (by rw [zJ0]; exact hos) (by have := f.next; omega) hlf hK2
    cases ho : os[j]? with
    | none => decide
    | some o => exact hol o (zD0 ho)
end
end DfN
namespace DfN
open Go Go.X Go.X.Df Go.Proofs
theorem qHm : ∀ (a b : List (Ky × Ky)), (diff a b).length <= a.length + b.length
  | [], [] => by rw [diff]; simp
  | x :: a, [] => by
    rw [diff]
    have := qHm a []
    simp only [zK0, List.length_nil] at this ⊢; omega
  | [], y :: b => by
    rw [diff]
    have := qHm [] b
    simp only [zK0, List.length_nil] at this ⊢; omega
  | x :: a, y :: b => by
    rw [diff]
    have h1 := qHm a (y :: b)
    have h2 := qHm a b
    have h3 := qHm (x :: a) b
    simp only [zK0] at h1 h2 h3 ⊢
    split
    · simp only [zK0]; omega
    · split
      · split
        · omega
        · simp only [zK0]; omega
      · simp only [zK0]; omega
termination_by a b => a.length + b.length
theorem qF9 {P : Ky -> Prop} (p0 : P []) : ∀ (a b : List (Ky × Ky)), (∀ x, x ∈ a -> P x.1 /\ P x.2) -> (∀ x, x ∈ b -> P x.1 /\ P x.2) -> ∀ c, c ∈ diff a b -> P c.k /\ P c.old /\ P c.new
  | [], [], _, _, c, h => by rw [diff] at h; cases h
  | x :: a, [], ha, hb, c, h => by
    rw [diff] at h
    have hx := ha x zB0
    rcases List.mem_cons.1 h with h | h
    · subst h; exact ⟨hx.1, hx.2, p0⟩
    · exact qF9 p0 a [] (fun z hz => ha z (zA0 _ hz)) hb c h
  | [], y :: b, ha, hb, c, h => by
    rw [diff] at h
    have hy := hb y zB0
    rcases List.mem_cons.1 h with h | h
    · subst h; exact ⟨hy.1, p0, hy.2⟩
    · exact qF9 p0 [] b ha (fun z hz => hb z (zA0 _ hz)) c h
  | x :: a, y :: b, ha, hb, c, h => by
    rw [diff] at h
    have hx := ha x zB0
    have hy := hb y zB0
    have ha' := fun z hz => ha z (zA0 x hz)
    have hb' := fun z hz => hb z (zA0 y hz)
    split at h
    · rcases List.mem_cons.1 h with h | h
      · subst h; exact ⟨hx.1, hx.2, p0⟩
      · exact qF9 p0 a (y :: b) ha' hb c h
    · split at h
      · split at h
        · exact qF9 p0 a b ha' hb' c h
        · rcases List.mem_cons.1 h with h | h
          · subst h; exact ⟨hx.1, hx.2, hy.2⟩
          · exact qF9 p0 a b ha' hb' c h
      · rcases List.mem_cons.1 h with h | h
        · subst h; exact ⟨hy.1, p0, hy.2⟩
        · exact qF9 p0 (x :: a) b ha hb' c h
termination_by a b => a.length + b.length
theorem zRA_3 {a b c : SL} {Q : SL -> SL -> SL -> Prop} (k : Q a b c) : ZRA (ZV.agg [.sl a, .sl b, .sl c]).av 3 fun f => ZRL (f 0) fun x => ZRL (f 1) fun y => ZRL (f 2) fun z => Q x y z :=
  ⟨fun i => match i with | 0 => a.av | 1 => b.av | _ => c.av, by simp [qVq], qe (qe (qe k))⟩
theorem var_new (h : Q0) (a b c : AV) : Var (hput (h.newO (.cells [.nils, .nils, .nils] 0 false false)) h.next 0 [a, b, c]) h.next [a, b, c] /\ Q5 Qa h (hput (h.newO (.cells [.nils, .nils, .nils] 0 false false)) h.next 0 [a, b, c]) /\ (hput (h.newO (.cells [.nils, .nils, .nils] 0 false false)) h.next 0 [a, b, c]).next = h.next + 1 :=
  ⟨Var.put_all (Var.new h [.nils, .nils, .nils]) rfl, (Q5.newO Qa h _).back ((Var.new h [.nils, .nils, .nils]).put_fr 0 [a, b, c]) fun i hi e => by omega, qg _ _ _ _⟩
section
variable {lf n : Nat} {h : Q0} {K : ZK} {X Y : List ER} {a b : SL}
def Mb (e : Ky × Ky) : Prop := e.1.length <= 1048576 /\ e.2.length <= 1048576
theorem qXd {X : List ER} (h : ∀ x, x ∈ X -> Mb x.e) : ∀ x, x ∈ ents X -> x.1.length <= 1048576 /\ x.2.length <= 1048576 := fun x hx => by
  obtain ⟨e, he, rfl⟩ := List.mem_map.1 hx
  exact h e he
theorem qR3 {X Y : List ER} (e : ents X = ents Y) (h : ∀ x, x ∈ Y -> Mb x.e) : ∀ x, x ∈ X -> Mb x.e := fun x hx => by
  have : x.e ∈ ents X := List.mem_map_of_mem hx
  rw [e] at this
  exact qXd h _ this
theorem Mb.small {e : Ky × Ky} (h : Mb e) : Small e := ⟨by have := h.1; omega, by have := h.2; omega⟩
theorem qSm {A B : List ER} (ha : ∀ x, x ∈ A -> Mb x.e) (hb : ∀ x, x ∈ B -> Mb x.e) {ys : List CR} (hd : ys.map CR.c = diff (ents A) (ents B)) :
    (∀ y, y ∈ ys -> y.c.k.length <= 1048576 /\ y.c.old.length <= 1048576 /\ y.c.new.length <= 1048576) /\ ys.length <= A.length + B.length := by
  have lE : ∀ Z : List ER, (ents Z).length = Z.length := fun Z => by unfold ents; simp
  refine ⟨fun y hy => qF9 (P := fun k => k.length <= 1048576) (by simp) _ _ (qXd ha) (qXd hb) y.c (by rw [<- hd]; exact List.mem_map_of_mem hy), ?_⟩
  have := congrArg List.length hd
  rw [zJ0] at this
  have dl := qHm (ents A) (ents B)
  rw [lE, lE] at dl
  omega
theorem qUu {rs : List LR} {A : List ER} (e : rs.map (fun r => (r.k, r.v)) = ents A) : rs.length = A.length /\ ents (rs.map LR.er) = ents A := by
  refine ⟨?_, ?_⟩
  · have := congrArg List.length e
    simpa [ents] using this
  · rw [<- e, ents, List.map_map]; rfl
theorem turn2_ok {lf n m : Nat} {h h0 : Q0} {K : ZK} {l c all : SL} {rs : List LR} (hmm : m = rs.length) (L : Lent h0 h l c all rs) (hn : h0.next <= h.next) (hm : rs.length < 2147483648) (hw : ∀ r, r ∈ rs -> r.v.length <= 2147483647) (hlf : 4294967296 < lf)
    (hk : ∀ h', Q5 (fun i => ∃ r, r ∈ rs /\ i = r.vi) h h' -> Lent h0 h' l c all (rs.map LR.tw) -> K (.tup []) h') :
    Qq Try.prog S2 lf (n + 2) 16 [.agg [.sl l, .sl c, .sl all], .int .i64 ((m : Nat) : Int), .int .i64 0] K h := by
  subst hmm
  exact turn_ok L hn hm hw hlf hk
theorem law_ok (ha : j1 h a X) (hb : j1 h b Y) (sX : ∀ x, x ∈ X -> Mb x.e) (sY : ∀ x, x ∈ Y -> Mb x.e) (lX : X.length <= 1048576) (lY : Y.length <= 1048576) (hlf : 8589934592 <= lf) :
    Qq Try.prog S2 lf (n + 7) 4 [.sl a, .sl b] (fun v _ => v.av = .bool true) h := by
  refine QJ (hSD (by decide) (by decide)) (by kernel_rfl) ?_
  rw [dlists_nf]
  refine qI2 (by kernel_rfl) S2_7 ⟨rfl, ?_⟩
  rw [qA1]
  have wid : ∀ {Z : List ER}, (∀ x, x ∈ Z -> Mb x.e) -> ∀ x, x ∈ Z -> Wide x.e := fun h x hx => ⟨by have := (h x hx).1; omega, by have := (h x hx).2; omega⟩
  refine qDf.2 (qTn ha (wid sX) (by omega) (by omega) fun w1 w10 w11 fX => ?_)
  rw [qA0]
  refine qFa.2 (qTn hb (wid sY) (by omega) (by omega) fun w2 w20 w21 fY => ?_)
  rw [qA0]
  refine qFa.2 (qAy.2 ?_)
  rw [QD (e := w1 + w2) (by omega) (by omega), q9]
  refine ⟨fun _ => qA1 true, fun _ => ?_⟩
  refine qYg ha (by omega) (by omega) fun h1 s1 f1 e1 o1 => ?_
  rw [qDk]
  refine qe (qYg (hb.fr f1) (by omega) (by omega) fun h2 s2 f2 e2 o2 => ?_)
  rw [qDk]
  refine qe ?_
  have e1' := e1.fr f2
  have lA := (qY X none).length_le
  have lB := (qY Y none).length_le
  have sA : ∀ x, x ∈ j5 none X -> Mb x.e := fun x hx => sX x ((qY X none).subset hx)
  have sB : ∀ x, x ∈ j5 none Y -> Mb x.e := fun x hx => sY x ((qY Y none).subset hx)
  generalize j5 none X = A at e1' lA sA
  generalize j5 none Y = B at e2 lB sB
  clear e1 ha hb o1 o2 fX fY w10 w11 w20 w21
  have la := e1'.len (by decide)
  have lb := e2.len (by decide)
  have ea : (Int.ofNat s1.n : Int) = ((A.length : Nat) : Int) := by rw [la]; rfl
  have eb : (Int.ofNat s2.n : Int) = ((B.length : Nat) : Int) := by rw [lb]; rfl
  rw [ea, eb]
  -- the book
  have VK := Var.new h2 [AV.nils, .nils, .nils, .nils]
  have f3 : Q5 Qa h2 (h2.newO (.cells [AV.nils, .nils, .nils, .nils] 0 false false)) := Q5.newO _ _ _
  have n3 : (h2.newO (.cells [AV.nils, .nils, .nils, .nils] 0 false false)).next = h2.next + 1 := rfl
  generalize h2.newO (.cells [AV.nils, .nils, .nils, .nils] 0 false false) = h3 at VK f3 n3 ⊢
  generalize hkb : h2.next = kb at VK n3 ⊢
  have E1 := e1'.fr f3
  have E2 := e2.fr f3
  have sA31 : ∀ x, x ∈ A -> x.e.1.length <= 2147483647 /\ x.e.2.length <= 2147483647 := fun x hx => ⟨by have := (sA x hx).1; omega, by have := (sA x hx).2; omega⟩
  have sB31 : ∀ x, x ∈ B -> x.e.1.length <= 2147483647 /\ x.e.2.length <= 2147483647 := fun x hx => ⟨by have := (sB x hx).1; omega, by have := (sB x hx).2; omega⟩
  -- what is lent
  refine lend_ok (n := n + 4) E1 (by omega) sA31 (by omega) fun h4 l1 c1 all1 rs1 f4 L1 er1 vt1 => ?_
  refine zRA_3 ⟨rfl, (Var.new h4 [AV.nils, .nils, .nils]).zput (by simp) ?_⟩
  obtain ⟨VP, f5, n5⟩ := var_new h4 l1.av c1.av all1.av
  generalize hput (h4.newO (.cells [.nils, .nils, .nils] 0 false false)) h4.next 0 [l1.av, c1.av, all1.av] = h5 at VP f5 n5 ⊢
  have l4 := L1.ok
  have hvp4 : h4.next = h4.next := rfl
  refine lend_ok (n := n + 4) ((E2.fr f4).fr f5) (by omega) sB31 (by omega) fun h6 l2 c2 all2 rs2 f6 L2 er2 vt2 => ?_
  refine zRA_3 ⟨rfl, (Var.new h6 [AV.nils, .nils, .nils]).zput (by simp) ?_⟩
  obtain ⟨VQ, f7, n7⟩ := var_new h6 l2.av c2.av all2.av
  generalize hput (h6.newO (.cells [.nils, .nils, .nils] 0 false false)) h6.next 0 [l2.av, c2.av, all2.av] = h7 at VQ f7 n7 ⊢
  have F57 : Q5 Qa h5 h7 := f6.trans f7
  have F47 : Q5 Qa h4 h7 := f5.trans F57
  have F37 : Q5 Qa h3 h7 := f4.trans F47
  have VP7 := VP.fr F57 id
  have P7 := L1.fr (F47.mono (T := fun i => i < h3.next) fun _ _ e => e.elim) fun i hi e => by omega
  have Q7 := L2.fr (f7.mono (T := fun i => i < h5.next) fun _ _ e => e.elim) fun i hi e => by omega
  obtain ⟨len1, en1⟩ := qUu er1
  obtain ⟨len2, en2⟩ := qUu er2
  obtain ⟨p1, p2, EP, op⟩ := P7.ents
  obtain ⟨q1, q2, EQ, oq⟩ := Q7.ents
  rw [len1] at p2 EP op
  rw [len2] at q2 EQ oq
  have sR1 : ∀ x, x ∈ rs1.map LR.er -> Mb x.e := qR3 en1 sA
  have sR2 : ∀ x, x ∈ rs2.map LR.er -> Mb x.e := qR3 en2 sB
  have lR1 : (rs1.map LR.er).length = A.length := by rw [zJ0]; exact len1
  have lR2 : (rs2.map LR.er).length = B.length := by rw [zJ0]; exact len2
  have sm : ∀ {Z : List ER}, (∀ x, x ∈ Z -> Mb x.e) -> ∀ x, x ∈ Z -> Small x.e := fun h x hx => (h x hx).small
  have cutA : (l1.nil = true -> 0 = 0 /\ A.length = 0) /\ (l1.nil = false -> Nat.le 0 A.length /\ Nat.le A.length l1.cap) := ⟨fun e => (by rw [p1] at e; cases e), fun _ => ⟨zY0 _, by rw [p2]; exact Nat.le_succ _⟩⟩
  have cutB : (l2.nil = true -> 0 = 0 /\ B.length = 0) /\ (l2.nil = false -> Nat.le 0 B.length /\ Nat.le B.length l2.cap) := ⟨fun e => (by rw [q1] at e; cases e), fun _ => ⟨zY0 _, by rw [q2]; exact Nat.le_succ _⟩⟩
  -- the three lists
  refine ⟨rfl, rfl, VP7.ldL l1 rfl (qCd.2 ⟨cutA, rfl, rfl, VQ.ldL l2 rfl (qCd.2 ⟨cutB, ?_⟩)⟩)⟩
  refine qJx EP EQ op oq (sm sR1) (sm sR2) (by omega) fun h8 s3 ys1 f8 u1 un1 pw1 d1 => qe ?_
  have O1 := (Outs.start h7 h7).add (zN0 _) f8 u1 un1 pw1
  have VP8 := VP7.fr f8 id
  have VQ8 := VQ.fr f8 id
  refine ⟨rfl, rfl, VQ8.ldL l2 rfl (qCd.2 ⟨cutB, rfl, rfl, VP8.ldL l1 rfl (qCd.2 ⟨cutA, ?_⟩)⟩)⟩
  refine qJx (EQ.fr f8) (EP.fr f8) oq op (sm sR2) (sm sR1) (by omega) fun h9 s4 ys2 f9 u2 un2 pw2 d2 => qe ?_
  have O2 := O1.add f8.next f9 u2 un2 pw2
  have VP9 := VP8.fr f9 id
  have VQ9 := VQ8.fr f9 id
  have F79 := f8.trans f9
  refine ⟨rfl, rfl, VP9.ldL l1 rfl (qCd.2 ⟨cutA, rfl, rfl, VQ9.ldL l2 rfl (qCd.2 ⟨cutB, ?_⟩)⟩)⟩
  refine qJx (EP.fr F79) (EQ.fr F79) op oq (sm sR1) (sm sR2) (by omega) fun h10 s5 ys3 f10 u3 un3 pw3 d3 => qe ?_
  have O3 := O2.add F79.next f10 u3 un3 pw3
  have F7a := F79.trans f10
  have F3a := F37.trans F7a
  -- what the document answers
  refine qNf (n := n + 4) (E1.fr F3a) (E2.fr F3a) (by omega) (by omega) (sm sA) (sm sB) fun h11 s6 zs1 f11 c6 dz1 => qe ?_
  refine qNf (n := n + 4) ((E2.fr F3a).fr f11) ((E1.fr F3a).fr f11) (by omega) (by omega) (sm sB) (sm sA) fun h12 s7 zs2 f12 c7 dz2 => qe ?_
  have Fac := f11.trans f12
  have F7c := F7a.trans Fac
  have F3c := F3a.trans Fac
  have O4 := O3.frT (Fac.mono (T := fun i => i < h7.next) fun _ _ e => e.elim) fun i hi e => by omega
  have c6' := c6.fr f12
  have ex1 : Chgs h12 s3 ys1 := (O4.each (s3, ys1) (by simp)).1.rws
  have ex2 : Chgs h12 s4 ys2 := (O4.each (s4, ys2) (by simp)).1.rws
  have ex3 : Chgs h12 s5 ys3 := (O4.each (s5, ys3) (by simp)).1.rws
  obtain ⟨m1, k1⟩ := qSm sR1 sR2 d1
  obtain ⟨m2, k2⟩ := qSm sR2 sR1 d2
  obtain ⟨m3, k3⟩ := qSm sR1 sR2 d3
  refine qJ5 (n := n + 5) ex1 c6' (by rw [d1, dz1, en1, en2]) (by omega) (by omega) ?_
  rw [qA1]
  refine qDf.2 (qJ5 (n := n + 5) ex2 c7 (by rw [d2, dz2, en1, en2]) (by omega) (by omega) ?_)
  rw [qA1]
  refine qDf.2 (qJ5 (n := n + 5) ex3 c6' (by rw [d3, dz1, en1, en2]) (by omega) (by omega) ?_)
  rw [qA1]
  refine qDf.2 ?_
  -- what is handed in stays
  have VPc := VP7.fr F7c id
  have VQc := VQ.fr F7c id
  have Pc := P7.fr (F7c.mono (T := fun i => i < h3.next) fun _ _ e => e.elim) fun i hi e => by omega
  have Qc := Q7.fr (F7c.mono (T := fun i => i < h5.next) fun _ _ e => e.elim) fun i hi e => by omega
  refine ⟨rfl, VPc.ldL l1 rfl (VPc.ldL c1 rfl (VPc.ldL all1 rfl (qYc (n := n + 4) Pc (E1.fr F3c) er1 vt1 (by omega) sA31 (by omega) fun h13 f13 => ?_)))⟩
  rw [qA1]
  have VPd := VPc.fr f13 id
  have VQd := VQc.fr f13 id
  have Qd := Qc.fr (f13.mono (T := fun i => i < h5.next) fun _ _ e => e.elim) fun i hi e => by omega
  have Pd := Pc.fr (f13.mono (T := fun i => i < h3.next) fun _ _ e => e.elim) fun i hi e => by omega
  refine qDf.2 ⟨rfl, VQd.ldL l2 rfl (VQd.ldL c2 rfl (VQd.ldL all2 rfl (qYc (n := n + 4) Qd ((E2.fr F3c).fr f13) er2 vt2 (by omega) sB31 (by omega) fun h14 f14 => ?_)))⟩
  rw [qA1]
  have VPe := VPd.fr f14 id
  have VQe := VQd.fr f14 id
  have Pe := Pd.fr (f14.mono (T := fun i => i < h3.next) fun _ _ e => e.elim) fun i hi e => by omega
  have Qe := Qd.fr (f14.mono (T := fun i => i < h5.next) fun _ _ e => e.elim) fun i hi e => by omega
  have Fce := f13.trans f14
  have F3e := F3c.trans Fce
  have O5 := O4.frT (Fce.mono (T := fun i => i < h7.next) fun _ _ e => e.elim) fun i hi e => by omega
  -- their owner writes over the values
  refine qDf.2 ⟨rfl, VPe.ldL l1 rfl (VPe.ldL c1 rfl (VPe.ldL all1 rfl ?_))⟩
  have hn3e := F3e.next
  have hlv : ∀ r, r ∈ rs1 -> r.v.length <= 2147483647 := fun r hr => zP0 (qR3 en1 sA r.er (List.mem_map_of_mem hr)).2 (by decide)
  have hT : ∀ i, (∃ r, r ∈ rs1 /\ i = r.vi) -> h3.next <= i /\ i < h4.next := fun i ⟨r, hr, e⟩ => by
    have := (l4 r hr).vl
    have := (l4 r hr).vn
    omega
  refine turn2_ok (n := n + 4) len1.symm Pe hn3e (by omega) hlv (by omega) fun h15 f15 Pt => qI0 fun _ => ?_
  have hn47 := F47.next
  have hn6 := f6.next
  have VPf := VPe.fr f15 fun T => by have := hT _ T; omega
  have VQf := VQe.fr f15 fun T => by have := hT _ T; omega
  have VKf := (VK.fr F3e id).fr f15 fun T => by have := hT _ T; omega
  have E2f := E2.fr (F3e.behind (f15.mono fun i _ T => (hT i T).1))
  have Qf := Qe.fr f15 fun i hi T => by have := hT i T; omega
  have O6 := O5.frT f15 fun i hi T => by have := hT i T; omega
  obtain ⟨_, _, EPt, opt⟩ := Pt.ents
  obtain ⟨_, _, EQf, _⟩ := Qf.ents
  rw [zJ0, len1] at EPt opt
  rw [len2] at EQf
  have sRt : ∀ x, x ∈ (rs1.map LR.tw).map LR.er -> Mb x.e := fun x hx => by
    obtain ⟨r', hr', rfl⟩ := List.mem_map.1 hx
    obtain ⟨r, hr, rfl⟩ := List.mem_map.1 hr'
    have q := qR3 en1 sA r.er (List.mem_map_of_mem hr)
    exact ⟨q.1, by show (r.v.map tw).length <= _; rw [zJ0]; exact q.2⟩
  have lRt : ((rs1.map LR.tw).map LR.er).length = A.length := by rw [zJ0, zJ0]; exact len1
  generalize hRt : (rs1.map LR.tw).map LR.er = Rt at EPt sRt lRt
  refine ⟨rfl, rfl, VPf.ldL l1 rfl (qCd.2 ⟨cutA, ?_⟩)⟩
  refine qNf (n := n + 4) EPt E2f (by omega) (by omega) (sm sRt) (sm sB) fun h16 s8 zs3 f16 c8 dz3 => qe ?_
  refine ⟨rfl, rfl, (VPf.fr f16 id).ldL l1 rfl (qCd.2 ⟨cutA, rfl, rfl, (VQf.fr f16 id).ldL l2 rfl (qCd.2 ⟨cutB, ?_⟩)⟩)⟩
  refine qJx (EPt.fr f16) (EQf.fr f16) opt oq (sm sRt) (sm sR2) (by omega) fun h17 s9 ys4 f17 u4 un4 pw4 d4 => qe ?_
  have hn7f : h7.next <= h16.next := by have := F7c.next; have := Fce.next; have := f15.next; have := f16.next; omega
  have O7 := (O6.frT (f16.mono (T := fun i => i < h7.next) fun _ _ e => e.elim) fun i hi e => by omega).add hn7f f17 u4 un4 pw4
  obtain ⟨m4, k4⟩ := qSm sRt sR2 d4
  have ex4 : Chgs h17 s9 ys4 := (O7.each (s9, ys4) (by simp)).1.rws
  refine qJ5 (n := n + 5) ex4 (c8.fr f17) (by rw [d4, dz3, en2]) (by omega) (by omega) ?_
  rw [qA1]
  refine qDf.2 ?_
  -- the book keeps them
  have VKg := (VKf.fr f16 id).fr f17 id
  have hn37 := F37.next
  have O8 : Outs h3 h17 [(s3, ys1), (s4, ys2), (s5, ys3), (s9, ys4)] := O7.of hn37
  have K0 : Kept h3 h17 kb [] [] := ⟨⟨by omega, ⟨QE, QE, QE, VKg, Grown.start _ _ _, Grown.start _ _ _, Grown.start _ _ _, fun e => (by cases e), fun e => (by cases e), fun e => (by cases e), fun e => (by cases e), fun e => (by cases e), fun e => (by cases e)⟩, fun r hr => (by cases hr)⟩, rfl⟩
  have smc : ∀ {ys : List CR}, (∀ y, y ∈ ys -> y.c.k.length <= 1048576 /\ y.c.old.length <= 1048576 /\ y.c.new.length <= 1048576) -> ∀ y, y ∈ ys -> SmallC y.c := fun h y hy => by
    obtain ⟨h1, h2, h3⟩ := h y hy
    exact ⟨by omega, by omega, by omega⟩
  have hn17 : h3.next <= h17.next := by have := f17.next; omega
  refine K0.more (n := n + 4) (rest := [(s4, ys2), (s5, ys3), (s9, ys4)]) O8 hn17 (smc m1) (by show 0 + _ < _; omega) (by decide) (by omega) fun h18 R1 K1 O9 hn18 e1 => qI0 fun _ => ?_
  refine K1.more (n := n + 4) (rest := [(s5, ys3), (s9, ys4)]) O9 (by omega) (smc m2) (by rw [zC0]; show 0 + _ + _ < _; omega) (by show 1 < 1000000; decide) (by omega) fun h19 R2 K2 O10 hn19 e2 => qI0 fun _ => ?_
  refine K2.more (n := n + 4) (rest := [(s9, ys4)]) O10 (by omega) (smc m3) (by rw [zC0, zC0]; show 0 + _ + _ + _ < _; omega) (by show 2 < 1000000; decide) (by omega) fun h20 R3 K3 O11 hn20 e3 => qI0 fun _ => ?_
  refine K3.more (n := n + 4) (rest := []) O11 (by omega) (smc m4) (by rw [zC0, zC0, zC0]; show 0 + _ + _ + _ + _ < _; omega) (by show 3 < 1000000; decide) (by omega) fun h21 R4 K4 O12 hn21 e4 => qI0 fun _ => ?_
  refine K4.ends (n := n + 1) O12 (by omega) (fun o ho => ?_) ?_ (by show 4 < 100000000; decide) (fun o ho => ?_) (by omega) fun h22 => ?_
  · have lift : ∀ {ys : List CR}, (∀ y, y ∈ ys -> y.c.k.length <= 1048576 /\ y.c.old.length <= 1048576 /\ y.c.new.length <= 1048576) -> ∀ y, y ∈ ys -> y.c.k.length < 100000000 /\ y.c.old.length < 100000000 /\ y.c.new.length < 100000000 := fun h y hy => by
      obtain ⟨h1, h2, h3⟩ := h y hy
      exact ⟨by omega, by omega, by omega⟩
    have ho : o ∈ [(s3, ys1), (s4, ys2), (s5, ys3), (s9, ys4)] := ho
    simp only [zL0, zM0, or_false] at ho
    rcases ho with rfl | rfl | rfl | rfl
    · exact lift m1
    · exact lift m2
    · exact lift m3
    · exact lift m4
  · rw [zC0, zC0, zC0, zC0]
    show 0 + _ + _ + _ + _ < _
    omega
  · have ho : o ∈ [(s3, ys1), (s4, ys2), (s5, ys3), (s9, ys4)] := ho
    simp only [zL0, zM0, or_false] at ho
    rcases ho with rfl | rfl | rfl | rfl
    · show ys1.length < _; omega
    · show ys2.length < _; omega
    · show ys3.length < _; omega
    · show ys4.length < _; omega
  · rw [qA1]
    refine qDf.2 ?_
    rw [qBi, qBi, qBi, qBi, qBi, qBi, qBi]
    exact qA1 true
end
end DfN
