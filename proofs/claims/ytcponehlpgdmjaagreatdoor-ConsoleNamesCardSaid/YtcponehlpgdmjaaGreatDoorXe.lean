/-
  PROVED: regions, code, loops, rounds, deferred calls and calls are sound; a closed law that runs to true over abstract values returns true. Condition: the program follows 'mixedOrders'.
-/
import Derived.Test.YtcponehlpgdmjaaGreatDoorXd
import Derived.Orders
import Derived.OrdersIn
import Derived.LoopNIn
import Derived.RangeFuncIn
import Derived.Lib.LaidTab
set_option linter.unusedVariables false
set_option linter.unusedSimpArgs false

namespace Go.X
open Go Go.RowKit

/-! ### temporaries -/
theorem getD_set (a : Array Value) (s r : Nat) (v : Value) (hs : s < a.size) : (a.setIfInBounds s v).getD r undef = if r = s then v else a.getD r undef := by
  simp only [Array.getD_eq_getD_getElem?, Array.getElem?_setIfInBounds]
  by_cases h : s = r
  · subst h; simp [hs]
  · rw [if_neg h, if_neg (fun e => h e.symm)]
section
variable {E : Env} {N : Nat}
theorem TmpsR.put {t : TT} {a : Array Value} (h : TmpsR E N t a) {s : Nat} (hs : s < N) {av : AV} {v : Value} (hv : VR E av v) : TmpsR E N (TT.put s av t) (a.setIfInBounds s v) := by
  have hle := h.le
  refine ⟨by rw [Array.size_setIfInBounds]; exact h.size, h.le, fun r hr => ?_⟩
  rw [TT.at_put (by omega) hr, getD_set _ _ _ _ (by rw [h.size]; exact hs)]
  by_cases e : r = s
  · rw [if_pos e, if_pos e]; exact hv
  · rw [if_neg e, if_neg e]; exact h.at' r hr
/-- an activation's abstraction -/
structure StR (E : Env) (N : Nat) (st : St) (a : Act) : Prop where
  tmps : TmpsR E N st.tmps a.tmps
  defers : DRs E st.defers a.defers
theorem StR.mono {E E' : Env} (le : E.Le E') {st : St} {a : Act} (h : StR E N st a) : StR E' N st a := ⟨h.tmps.mono le, h.defers.mono le⟩
theorem putDst_sat {dst : Option Tmp} {av : AV} {st : St} {k : St → FM} {p : Post} {h : Heap} (hs : (putDst N dst av st k).sat p h) {a : Act} (hst : StR E N st a) {v : Value} (hv : VR E av v) :
    ∃ st', StR E N st' (a.put dst v) ∧ (k st').sat p h := by
  cases dst with
  | none => exact ⟨st, hst, hs⟩
  | some s =>
    obtain ⟨hlt, hs2⟩ := cnd_sat (m := TT.putK s av st.tmps fun t => k ⟨t, st.defers, st.u⟩) hs
    rw [TT.putK_eq] at hs2
    exact ⟨⟨TT.put s av st.tmps, st.defers, st.u⟩, ⟨hst.tmps.put (ltb_iff.1 hlt) hv, hst.defers⟩, hs2⟩
theorem getD_some {a : Array Value} {s : Nat} {v : Value} (h : a.getD s undef = v) (hv : v ≠ undef) : a[s]? = some v := by
  rw [Array.getD_eq_getD_getElem?] at h
  cases ha : a[s]? with
  | none => rw [ha] at h; exact absurd h.symm hv
  | some u => rw [ha] at h; simp at h; rw [h]
theorem wantedK_sat {ops : Array Oper} {t : TT} {a : Array Value} (ht : TmpsR E N t a) {o : Oper} {k : Bool → FM} {p : Post} {h : Heap} (hs : (wantedK ops t o k).sat p h) : (k (Region.wanted o (yielded ops a))).sat p h := by
  have hs1 : (Option.rec (motive := fun _ => FM) (k true) (fun g => Option.rec (motive := fun _ => FM) (k false) (fun s => cnd (ltb s 4096) (guardV g.2 (TT.at s t) k) (.fail 159)) g.1) (guardOf ops o)).sat p h := hs
  unfold guardOf at hs1
  unfold Region.wanted
  cases hg : o.guard with
  | none => rw [hg] at hs1; exact hs1
  | some jw =>
    obtain ⟨j, want⟩ := jw
    rw [hg] at hs1
    simp only at hs1 ⊢
    cases ho : ops[j]? with
    | none =>
      rw [ho] at hs1
      have : yielded ops a j = none := by simp [yielded, ho]
      rw [this]; exact hs1
    | some x =>
      rw [ho] at hs1
      simp only at hs1
      cases hd : x.dst with
      | none =>
        rw [hd] at hs1
        have : yielded ops a j = none := by simp [yielded, ho, hd]
        rw [this]; exact hs1
      | some s =>
        rw [hd] at hs1
        obtain ⟨hlt, hs2⟩ := cnd_sat hs1
        have hv := ht.at' s (ltb_iff.1 hlt)
        generalize t.at s = av at hv hs2
        generalize hgd : a.getD s undef = v at hv
        cases hv with
        | bool b =>
          have hget := getD_some hgd (by simp [undef])
          have : yielded ops a j = some b := by simp [yielded, ho, hd, hget]
          rw [this]
          have hs3 : (k (cnd b want (cnd want false true))).sat p h := hs2
          have : (some b == some want) = cnd b want (cnd want false true) := by cases b <;> cases want <;> rfl
          rw [this]; exact hs3
        | tuple cs x hx =>
          have : yielded ops a j = none := by
            unfold yielded
            rw [ho]
            simp only [Option.bind_some, hd]
            rw [Array.getD_eq_getD_getElem?] at hgd
            cases hq : a[s]? with
            | none => rfl
            | some u => rw [hq] at hgd; simp at hgd; subst hgd; rfl
          rw [this]; exact hs2
        | _ => exact False.elim hs2
end

/-! ### what callees are worth -/
section
variable (P : Program) (W0 : World)
/-- the widest fence, of an activation or of a round -/
def FW (ro : Option Nat) : Fence := { Fence.wide with round := ro }
def RetPost (E : Env) (h : Heap) (k : KV) (kp : Chain → FM) (p : Post) : Ending → World → Prop
  | .returned v, w' => ∃ E' h' av, Stp E h E' h' ∧ Rel P W0 E' h' w' ∧ VR E' av v ∧ (k av).sat p h'
  | .panicked chain, w' => ∃ E' h' ach, Stp E h E' h' ∧ Rel P W0 E' h' w' ∧ ChR E' ach chain ∧ (kp ach).sat p h'
  | .outgrown, _ => False
def CallSound (call : CallRec) : Prop := ∀ f args (k : KV) (kp : Chain → FM) p E h w vs, bodied P f = true → (call f args k kp).sat p h → Rel P W0 E h w → VRs E args (Array.toList vs) → Calls P f vs w (RetPost P W0 E h k kp p)
def RoundSound (round : RoundRec) : Prop := RoundFits round ∧ ∀ i args (k : KV) p E h w (vs : Array Value) l r, (round i args k).sat p h → Rel P W0 E h w → E.blk i = some l → VRs E args vs.toList → w.heap[l]? = some (.loop r) → vs.size = r.params.size →
  ∀ n, RoundIn (FW none) n P l r.fn ((r.params.zip vs).foldl (fun tmps (t, a) => tmps.setIfInBounds t a) r.tmps) r.assign r.body w (RetPost P W0 E h k (fun _ => .fail 0) p)
inductive ExR (E : Env) : XExit → Exit → Prop
  | normal : ExR E .normal .normal
  | exit (i : Nat) : ExR E (.exit i) (.exit i)
  | goto (l : Nat) : ExR E (.goto l) (.goto l)
  | ret : ExR E .ret .ret
  | panic (c : Chain) (d : List PanicEntry) (h : ChR E c d) : ExR E (.panic c) (.panic d)
/-- what code achieves -/
def QP (E0 : Env) (h0 : Heap) (N : Nat) (kk : KC) (p : Post) (e : Exit) (a : Act) (w : World) : Prop :=
  ∃ E' h' xe st', Stp E0 h0 E' h' ∧ Rel P W0 E' h' w ∧ StR E' N st' a ∧ ExR E' xe e ∧ (kk xe st').sat p h'
end
section
variable {P : Program} {W0 : World} {E E0 : Env} {h h0 : Heap} {p : Post} {w : World} {k : KV} {call : CallRec} {round : RoundRec} {N : Nat} {ro : Option Nat} {n : Nat} {kk : KC}
theorem callsIn_FW {f : FuncId} {args : Array Value} {R : Ending → World → Prop} : CallsIn (FW ro) n P f args w R ↔ Calls P f args w R := by
  show CallsIn Fence.wide n P f args w R ↔ _
  exact callsIn_wide
theorem roundIn_FW {l : Nat} {f : FuncId} {tmps : Array Value} {assign body : Code} {R : Ending → World → Prop} : RoundIn (FW ro) n P l f tmps assign body w R ↔ RoundIn (FW none) n P l f tmps assign body w R := Iff.rfl
theorem QP.step {E1 : Env} {h1 : Heap} (s : Stp E0 h0 E1 h1) {e : Exit} {a : Act} {w : World} (q : QP P W0 E1 h1 N kk p e a w) : QP P W0 E0 h0 N kk p e a w := by
  obtain ⟨E', h', xe, st', a1, a2, a3, a4, a5⟩ := q
  exact ⟨E', h', xe, st', s.trans a1, a2, a3, a4, a5⟩
theorem StR.put {st : St} {a : Act} (hst : StR E N st a) {d : Deferred} {ad : ADef} (hd : DR E ad d) : StR E N ⟨st.tmps, ad :: st.defers, st.u⟩ { a with defers := d :: a.defers } := ⟨hst.tmps, .cons _ _ _ _ hd hst.defers⟩
/-- an operation within an activation -/
theorem upon_gen (hc : CallSound P W0 call) (hr : RoundSound P W0 round) {o : Oper} {a : Act} {k : KV} {kd : ADef → FM} {kp : Chain → FM} {K : Act → World → Prop} {Q : Exit → Act → World → Prop}
    (back : ∀ E' h' w' av v, Stp E h E' h' → Rel P W0 E' h' w' → VR E' av v → (k av).sat p h' → K (a.put o.dst v) w')
    (skp : ∀ E' h' w', Stp E h E' h' → Rel P W0 E' h' w' → (k (.tuple [])).sat p h' → K (a.put o.dst undef) w')
    (dfr : ∀ E' h' w' ad d, Stp E h E' h' → Rel P W0 E' h' w' → DR E' ad d → (kd ad).sat p h' → K ({ a with defers := d :: a.defers }.put o.dst undef) w')
    (pan : ∀ E' h' w' ach chain, Stp E h E' h' → Rel P W0 E' h' w' → ChR E' ach chain → (kp ach).sat p h' → Q (.panic chain) a w')
    {res : Result Next} (hu : Upon P W0 E h k kd kp call round p res) : o.uponIn (FW ro) n P a K Q res := by
  have hnd : (FW ro).depth.isSome = true → 1 ≤ n := fun h => by cases h
  cases res with
  | ok nx w' =>
    cases nx with
    | value v =>
      obtain ⟨E', h', av, s, r, hv, hs⟩ := hu
      exact back _ _ _ _ _ s r hv hs
    | skip =>
      obtain ⟨E', h', s, r, hs⟩ := hu
      exact skp _ _ _ s r hs
    | defer d =>
      obtain ⟨E', h', ad, s, r, hd, hs⟩ := hu
      exact dfr _ _ _ _ _ s r hd hs
    | enter f args =>
      obtain ⟨E', h', as, s, r, hv, hb, hs⟩ := hu
      refine ⟨hnd, callsIn_FW.2 ((hc f as _ _ p E' h' w' args hb hs r hv).mono fun e w'' he => ?_)⟩
      cases e with
      | returned v =>
        obtain ⟨E2, h2, av, s2, r2, hv2, hs2⟩ := he
        exact back _ _ _ _ _ (s.trans s2) r2 hv2 hs2
      | panicked chain =>
        obtain ⟨E2, h2, ach, s2, r2, hv2, hs2⟩ := he
        exact pan _ _ _ _ _ (s.trans s2) r2 hv2 hs2
      | outgrown => exact he.elim
    | round l f tmps assign body =>
      obtain ⟨E', h', i, as, args, lp, rr, s, r, hi, hv, hg, hw, hsz, e1, e2, e3, e4, hs⟩ := hu
      subst e1; subst e2; subst e3; subst e4
      refine ⟨hnd, roundIn_FW.2 ((hr.2 i as _ p E' h' w' args l rr hs r hi hv hw hsz (n - 1)).mono fun e w'' he => ?_)⟩
      cases e with
      | returned v =>
        obtain ⟨E2, h2, av, s2, r2, hv2, hs2⟩ := he
        exact back _ _ _ _ _ (s.trans s2) r2 hv2 hs2
      | panicked chain =>
        obtain ⟨E2, h2, ach, s2, r2, hv2, hs2⟩ := he
        exact hs2.elim
      | outgrown => exact he.elim
    | _ => exact hu.elim
  | halt hh w' =>
    cases hh with
    | panic v =>
      obtain ⟨E', h', ach, s, r, hc2, hs⟩ := hu
      exact pan _ _ _ _ _ s r hc2 hs
    | _ => exact hu.elim
/-- where nothing may be put off, nothing is -/
theorem no_defer (r : Rel P W0 E h w) (hfit : RoundFits round) {c : OC} (hcr : c.round = round) {ρ : Operand → Value} (hev : ∀ x, VR E (c.ev x) (ρ x)) {o : Oper} {k : KV} {kd : ADef → FM} {kp : Chain → FM} (hkd : ∀ ad g, ¬ (kd ad).sat p g)
    (hs3 : (opK P o.op c k kd kp).sat p h) : ∀ cl, o.op ≠ .defer cl := by
  intro cl hcl
  subst hcr
  have hu := opK_sound (o := o) r hfit hev hs3
  have hrun : (execOp ρ o).run P w = ((resolve ρ cl o.type).run P w).andThen fun d w' => .ok (.defer d) w' := by
    simp [execOp, hcl]
  rw [hrun] at hu
  cases hres : (resolve ρ cl o.type).run P w with
  | ok d w' =>
    rw [hres] at hu
    obtain ⟨_, _, _, _, _, _, hf⟩ := hu
    exact hkd _ _ hf
  | halt hh w' =>
    rw [hcl] at hs3
    have h5 := oDefer_sound (call := c.call) (round := c.round) (ty := o.type) (kp := kp) (k := k) r hev (show (oDefer cl c k kd kp).sat p h from hs3)
    have e5 : (do pure (.defer (← resolve ρ cl o.type)) : Sem Next).run P w = .halt hh w' := by simp [hres]
    rw [e5] at h5
    cases hh with
    | panic v =>
      exfalso
      unfold resolve at hres
      cases hcal : cl.callee with
      | value f =>
        rw [hcal] at hres
        simp only [Deferred.ofValue] at hres
        cases hfe : ρ f <;> rw [hfe] at hres <;> simp at hres
      | invoke a b => rw [hcal] at hres; simp at hres
      | builtin b => rw [hcal] at hres; simp at hres
    | _ => exact h5.elim
/-- outside of rounds, or where nothing is put off, an operation is what it is -/
theorem sem_eq (r : Rel P W0 E h w) (hfit : RoundFits round) {c : OC} (hcr : c.round = round) {ρ : Operand → Value} (hev : ∀ x, VR E (c.ev x) (ρ x)) {o : Oper} {k : KV} {kd : ADef → FM} {kp : Chain → FM} (hkd : ro = none ∨ ∀ ad g, ¬ (kd ad).sat p g)
    (hs3 : (opK P o.op c k kd kp).sat p h) : o.semAt (FW ro).round ρ = execOp ρ o := by
  rcases hkd with hro | hkd
  · subst hro; rfl
  · exact Oper.semAt_eq _ _ _ (no_defer r hfit hcr hev hkd hs3)
theorem evalO_R (r : Rel P W0 E h w) {t : TT} {a : Act} (ht : TmpsR E N t a.tmps) (x : Operand) : VR E (evalO P.globals.size t x) (a.eval x) := by
  cases x with
  | tmp s =>
    show VR E (cnd (ltb s 4096) (TT.at s t) .junk) _
    cases hb : ltb s 4096
    · exact .junk _
    · exact ht.at' s (ltb_iff.1 hb)
  | const v => exact ofValue_VR E v
  | global g =>
    show VR E (cnd (ltb g P.globals.size) (.ptr g Nat.zero) .junk) _
    cases hb : ltb g P.globals.size
    · exact .junk _
    · obtain ⟨h1, h2⟩ := r.glob g (ltb_iff.1 hb)
      exact .ptr _ _ _ _ h1 (by rw [h2])
  | func f => exact .func _ _ _ _ _ _ (.plain _) .nil .nil
theorem xOps_sound (hc : CallSound P W0 call) (hr : RoundSound P W0 round) {dok : Bool} (hdok : dok = true → ro = none) {ops : Array Oper} : ∀ (l : List Oper) (i : Nat), ops.toList.drop i = l → ∀ (st : St) (a : Act) (E : Env) (h : Heap) (w : World),
    (xOps P call round N dok ops l st (fun st' => kk .normal st') (fun st' ch => kk (.panic ch) st')).sat p h → Rel P W0 E h w → StR E N st a → Stp E0 h0 E h →
    wpOpsIn (FW ro) n P ops (QP P W0 E0 h0 N kk p) (List.range' i l.length) a w
  | [], i, _, st, a, E, h, w, hs, r, hst, s0 => ⟨E, h, .normal, st, s0, r, hst, .normal, hs⟩
  | o :: l, i, hl, st, a, E, h, w, hs, r, hst, s0 => by
    have hget : ops[i]? = some o := by
      rw [← Array.getElem?_toList]
      have : (ops.toList.drop i)[0]? = some o := by rw [hl]; rfl
      rw [List.getElem?_drop] at this
      simpa using this
    have hl2 : ops.toList.drop (i + 1) = l := by
      have : (ops.toList.drop i).drop 1 = l := by rw [hl]; rfl
      rw [List.drop_drop] at this
      exact this
    have next := fun st' a' E' h' w' hs' r' hst' s' => xOps_sound hc hr hdok l (i + 1) hl2 st' a' E' h' w' hs' r' hst' s'
    have hs1 : (wantedK ops st.tmps o fun b => cnd b
      (opK P o.op ⟨call, round, st.tmps, P.globals.size⟩ (fun v => putDst N o.dst v st fun st' => xOps P call round N dok ops l st' (fun st' => kk .normal st') (fun st' ch => kk (.panic ch) st'))
        (fun d => cnd dok (putDst N o.dst (.tuple []) ⟨st.tmps, d :: st.defers, st.u⟩ fun st' => xOps P call round N dok ops l st' (fun st' => kk .normal st') (fun st' ch => kk (.panic ch) st')) (.fail 157)) (fun ch => kk (.panic ch) st))
      (putDst N o.dst (.tuple []) st fun st' => xOps P call round N dok ops l st' (fun st' => kk .normal st') (fun st' ch => kk (.panic ch) st'))).sat p h := hs
    have hs2 := wantedK_sat hst.tmps hs1
    rw [List.length_cons, List.range'_succ]
    simp only [wpOpsIn, hget]
    rcases cnd2_sat hs2 with ⟨hw, hs3⟩ | ⟨hw, hs3⟩
    · rw [if_pos hw]
      refine ⟨fun f _ => trivial, ?_⟩
      have hev : ∀ x, VR E ((⟨call, round, st.tmps, P.globals.size⟩ : OC).ev x) (a.eval x) := fun x => evalO_R r hst.tmps x
      have hu := opK_sound (o := o) r hr.1 hev hs3
      rw [sem_eq (ro := ro) r hr.1 (c := ⟨call, round, st.tmps, P.globals.size⟩) rfl hev (by
        cases hd : dok with
        | true => exact .inl (hdok hd)
        | false => exact .inr fun ad g hf => hf) hs3]
      refine upon_gen hc hr (fun E' h' w' av v s r' hv hs => ?_) (fun E' h' w' s r' hs => ?_) (fun E' h' w' ad d s r' hd hs => ?_) (fun E' h' w' ach chain s r' hch hs => ?_) hu
      · obtain ⟨st', h1, h2⟩ := putDst_sat hs (hst.mono s.le) hv
        exact next _ _ _ _ _ h2 r' h1 (s0.trans s)
      · obtain ⟨st', h1, h2⟩ := putDst_sat hs (hst.mono s.le) (v := undef) (.tuple _ _ .nil)
        exact next _ _ _ _ _ h2 r' h1 (s0.trans s)
      · obtain ⟨_, hs2⟩ := cnd_sat hs
        obtain ⟨st', h1, h2⟩ := putDst_sat hs2 (a := { a with defers := d :: a.defers }) ((hst.mono s.le).put hd) (v := undef) (.tuple _ _ .nil)
        exact next _ _ _ _ _ h2 r' h1 (s0.trans s)
      · exact ⟨E', h', .panic ach, st, s0.trans s, r', hst.mono s.le, .panic _ _ hch, hs⟩
    · rw [hw]
      simp only [Bool.false_eq_true, if_false]
      refine ⟨fun f _ => trivial, ?_⟩
      obtain ⟨st', h1, h2⟩ := putDst_sat hs3 hst (v := undef) (.tuple _ _ .nil)
      exact next _ _ _ _ _ h2 r h1 s0
end
end Go.X

namespace Go.X
open Go Go.RowKit

/-! ### the orders of a region -/
theorem countP_lt {α : Type} {p q : α → Bool} : ∀ {l : List α} {x : α}, (∀ y ∈ l, q y = true → p y = true) → x ∈ l → p x = true → q x = false → l.countP q < l.countP p
  | [], _, _, hx, _, _ => absurd hx List.not_mem_nil
  | a :: l, x, h, hx, hp, hq => by
    have hle : l.countP q ≤ l.countP p := List.countP_mono_left fun y hy => h y (List.mem_cons_of_mem _ hy)
    rw [List.countP_cons, List.countP_cons]
    rcases List.mem_cons.1 hx with e | e
    · subst e
      rw [hp, hq]; simp only [Bool.false_eq_true, if_false, if_true]; omega
    · have := countP_lt (fun y hy => h y (List.mem_cons_of_mem _ hy)) e hp hq
      by_cases hqa : q a = true
      · rw [if_pos hqa, if_pos (h a List.mem_cons_self hqa)]; omega
      · rw [if_neg hqa]
        by_cases hpa : p a = true
        · rw [if_pos hpa]; omega
        · rw [if_neg hpa]; omega
section
variable {ops : Array Oper} {md : Region.Mode} {ord : Nat → Nat → Bool}
/-- edges come from ahead -/
structure EdgesOk (md : Region.Mode) (ops : Array Oper) (ord : Nat → Nat → Bool) : Prop where
  lt : ∀ i o, ops[i]? = some o → ∀ e ∈ o.after, Region.binds md e = true → e.on < i
  ord : ∀ i o, ops[i]? = some o → ∀ j, j < ops.size → ord j i = true → ∃ e ∈ o.after, Region.binds md e = true ∧ (j = e.on ∨ ord j e.on = true)
structure GoOk (ops : Array Oper) (ord : Nat → Nat → Bool) (listed : Array Bool) (l : List Nat) : Prop where
  nodup : l.Nodup
  mem : ∀ i, i ∈ l ↔ i < ops.size ∧ listed.getD i true = false
  ord : ∀ a i b, l = a ++ i :: b → ∀ j, j < ops.size → ord j i = true → j ∈ a ∨ listed.getD j false = true
theorem getD_flip {listed : Array Bool} {j : Nat} (hj : j < listed.size) (d d' : Bool) : listed.getD j d = listed.getD j d' := by
  simp [hj]
theorem go_ok (ek : EdgesOk md ops ord) : ∀ (fuel t : Nat) (listed : Array Bool), listed.size = ops.size → (List.range ops.size).countP (fun i => !listed.getD i true) ≤ fuel →
    (∀ i, i < ops.size → listed.getD i true = true → ∀ j, j < ops.size → ord j i = true → listed.getD j true = true) → GoOk ops ord listed (Region.linearise.go md ops fuel t listed []) := by
  have stuck : ∀ listed : Array Bool, listed.size = ops.size → Region.ready md ops listed = [] → ∀ i, i < ops.size → listed.getD i true = true := by
    intro listed hsz hr i
    induction i using Nat.strongRecOn with
    | _ i ih =>
      intro hi
      cases hl : listed.getD i true with
      | true => rfl
      | false =>
        exfalso
        have hm : i ∈ Region.ready md ops listed := mem_ready.2 ⟨hl, ops[i], by simp [hi], fun e he hb => by
          have hlt := ek.lt i ops[i] (by simp [hi]) e he hb
          rw [getD_flip (by omega) false true]
          exact ih e.on hlt (by omega)⟩
        rw [hr] at hm
        exact absurd hm List.not_mem_nil
  have done : ∀ listed : Array Bool, (∀ i, i < ops.size → listed.getD i true = true) → GoOk ops ord listed [] := fun listed h =>
    ⟨List.nodup_nil, fun i => ⟨fun hm => absurd hm List.not_mem_nil, fun ⟨h1, h2⟩ => by rw [h i h1] at h2; cases h2⟩, fun a i b e => by simp at e⟩
  intro fuel
  induction fuel with
  | zero =>
    intro t listed hsz hc _
    refine done listed fun i hi => ?_
    have h0 : (List.range ops.size).countP (fun i => !listed.getD i true) = 0 := by omega
    have := List.countP_eq_zero.1 h0 i (List.mem_range.2 hi)
    simpa using this
  | succ fuel ih =>
    intro t listed hsz hc hd
    simp only [Region.linearise.go]
    change GoOk ops ord listed (match (Region.ready md ops listed)[t % (Region.ready md ops listed).length]? with
      | some i => Region.linearise.go md ops fuel (t / (Region.ready md ops listed).length) (listed.setIfInBounds i true) [i]
      | none => [].reverse)
    cases hi : (Region.ready md ops listed)[t % (Region.ready md ops listed).length]? with
    | none =>
      have hnil : Region.ready md ops listed = [] := by
        cases hr : Region.ready md ops listed with
        | nil => rfl
        | cons x xs =>
          rw [hr] at hi
          have hlt : t % (x :: xs).length < (x :: xs).length := Nat.mod_lt _ (by simp)
          simp at hi
          simp at hlt
          omega
      exact done listed (stuck listed hsz hnil)
    | some i =>
      simp only []
      rw [linearise_go_acc, List.reverse_singleton, List.singleton_append]
      obtain ⟨hl, o, ho, hall⟩ := mem_ready.1 (List.mem_of_getElem? hi)
      have hin : i < ops.size := (Array.getElem?_eq_some_iff.1 ho).1
      have hset : ∀ j d, (listed.setIfInBounds i true).getD j d = if j = i then true else listed.getD j d := by
        intro j d
        by_cases e : j = i
        · subst e; rw [if_pos rfl]; simp [hsz, hin]
        · rw [if_neg e]; exact getD_set_ne d (fun h => e h.symm)
      have g := ih (t / (Region.ready md ops listed).length) (listed.setIfInBounds i true) (by simpa using hsz) (by
        have := countP_lt (l := List.range ops.size) (p := fun i => !listed.getD i true) (q := fun j => !(listed.setIfInBounds i true).getD j true) (x := i) (fun y _ hy => by
          simp only [hset] at hy
          by_cases e : y = i
          · rw [if_pos e] at hy; simp at hy
          · rw [if_neg e] at hy; exact hy) (List.mem_range.2 hin) (by simpa using hl) (by simp only [hset]; simp)
        omega) (fun k hk hkl j hj hjk => by
          rw [hset] at hkl ⊢
          by_cases e : j = i
          · rw [if_pos e]
          · rw [if_neg e]
            by_cases ek2 : k = i
            · subst ek2
              obtain ⟨x, hx, hb, hor⟩ := ek.ord k o ho j hj hjk
              have h1 := hall x hx hb
              have hlt := ek.lt k o ho x hx hb
              rcases hor with hor | hor
              · rw [hor, getD_flip (by omega) true false]; exact h1
              · refine hd x.on (by omega) (by rw [getD_flip (by omega) true false]; exact h1) j hj hor
            · rw [if_neg ek2] at hkl
              exact hd k hk hkl j hj hjk)
      refine ⟨List.nodup_cons.2 ⟨fun hm => ?_, g.nodup⟩, fun j => ?_, fun a j b e x hx hord => ?_⟩
      · have := ((g.mem i).1 hm).2
        rw [hset, if_pos rfl] at this; cases this
      · rw [List.mem_cons, g.mem, hset]
        constructor
        · rintro (e | ⟨h1, h2⟩)
          · subst e; exact ⟨hin, hl⟩
          · by_cases e : j = i
            · rw [if_pos e] at h2; cases h2
            · rw [if_neg e] at h2; exact ⟨h1, h2⟩
        · rintro ⟨h1, h2⟩
          by_cases e : j = i
          · exact .inl e
          · exact .inr ⟨h1, by rw [if_neg e]; exact h2⟩
      · cases a with
        | nil =>
          simp only [List.nil_append, List.cons.injEq] at e
          obtain ⟨e1, e2⟩ := e
          subst e1
          obtain ⟨y, hy, hb, hor⟩ := ek.ord i o ho x hx hord
          have h1 := hall y hy hb
          have hlt := ek.lt i o ho y hy hb
          rcases hor with hor | hor
          · right; rw [hor]; exact h1
          · right
            rw [getD_flip (by omega) false true]
            exact hd y.on (by omega) (by rw [getD_flip (by omega) true false]; exact h1) x hx hor
        | cons c a =>
          simp only [List.cons_append, List.cons.injEq] at e
          obtain ⟨e1, e2⟩ := e
          subst e1
          rcases g.ord a j b e2 x hx hord with h1 | h1
          · exact .inl (List.mem_cons_of_mem _ h1)
          · rw [hset] at h1
            by_cases exi : x = i
            · exact .inl (by rw [exi]; exact List.mem_cons_self)
            · rw [if_neg exi] at h1; exact .inr h1
theorem linearise_ok (ek : EdgesOk md ops ord) (t : Nat) : LinExt ops.size ord (Region.linearise md ops t) := by
  have hz : ∀ i, i < ops.size → (Array.replicate ops.size false).getD i true = false := fun i hi => by simp [hi]
  have g := go_ok ek ops.size t (Array.replicate ops.size false) (by simp) (Nat.le_trans List.countP_le_length (by simp)) (fun i hi h => by rw [hz i hi] at h; cases h)
  refine ⟨g.nodup, fun i => (g.mem i).trans ⟨fun h => h.1, fun h => ⟨h, hz i h⟩⟩, fun a i b e j hj ho => (g.ord a i b e j hj ho).resolve_right fun h => ?_⟩
  simp [hj] at h
/-- the masks -/
theorem befL_append : ∀ (l : List Oper) (acc : List Nat), ∃ t, befL l acc = acc ++ t ∧ t.length = l.length
  | [], acc => ⟨[], by simp [befL], rfl⟩
  | o :: r, acc => by
    obtain ⟨t, e, hl⟩ := befL_append r (acc ++ [o.after.toList.foldl (fun s e => if Region.binds .any e then s ||| 2 ^ e.on ||| acc.getD e.on 0 else s) 0])
    refine ⟨o.after.toList.foldl (fun s e => if Region.binds .any e then s ||| 2 ^ e.on ||| acc.getD e.on 0 else s) 0 :: t, ?_, ?_⟩
    · rw [befL, e]; simp
    · simp [hl]
theorem foldl_bit (acc : List Nat) (j : Nat) : ∀ (es : List Edge) (s : Nat), (es.foldl (fun s e => if Region.binds .any e then s ||| 2 ^ e.on ||| acc.getD e.on 0 else s) s).testBit j = true →
    s.testBit j = true ∨ ∃ e ∈ es, Region.binds .any e = true ∧ (j = e.on ∨ (acc.getD e.on 0).testBit j = true)
  | [], s, h => .inl h
  | e :: es, s, h => by
    rw [List.foldl_cons] at h
    rcases foldl_bit acc j es _ h with h1 | ⟨x, hx, h2⟩
    · by_cases hb : Region.binds .any e = true
      · rw [if_pos hb, Nat.testBit_or, Nat.testBit_or, Bool.or_eq_true, Bool.or_eq_true] at h1
        rcases h1 with (h1 | h1) | h1
        · exact .inl h1
        · rw [Nat.testBit_two_pow] at h1
          exact .inr ⟨e, List.mem_cons_self, hb, .inl ((by simpa using h1 : e.on = j).symm)⟩
        · exact .inr ⟨e, List.mem_cons_self, hb, .inr h1⟩
      · rw [if_neg hb] at h1; exact .inl h1
    · exact .inr ⟨x, List.mem_cons_of_mem _ hx, h2⟩
theorem masks_ord : ∀ (l : List Oper) (acc : List Nat) (n : Nat), acc.length = n → (∀ k o, l[k]? = some o → ∀ e ∈ o.after, Region.binds .any e = true → e.on < n + k) → ∀ k o, l[k]? = some o → ∀ j, ((befL l acc).getD (n + k) 0).testBit j = true →
    ∃ e ∈ o.after, Region.binds .any e = true ∧ (j = e.on ∨ ((befL l acc).getD e.on 0).testBit j = true)
  | [], _, _, _, _, k, o, hk, _, _ => by simp at hk
  | o :: r, acc, n, hn, hlt, 0, o', hk, j, hb => by
    simp only [List.getElem?_cons_zero, Option.some.injEq] at hk
    subst hk
    rw [befL] at hb ⊢
    obtain ⟨t, e, hl⟩ := befL_append r (acc ++ [o.after.toList.foldl (fun s e => if Region.binds .any e then s ||| 2 ^ e.on ||| acc.getD e.on 0 else s) 0])
    rw [e] at hb ⊢
    have h1 : (acc ++ [o.after.toList.foldl (fun s e => if Region.binds .any e then s ||| 2 ^ e.on ||| acc.getD e.on 0 else s) 0] ++ t).getD (n + 0) 0 = o.after.toList.foldl (fun s e => if Region.binds .any e then s ||| 2 ^ e.on ||| acc.getD e.on 0 else s) 0 := by
      simp [List.getD_eq_getElem?_getD, hn]
    rw [h1] at hb
    rcases foldl_bit acc j _ _ hb with h2 | ⟨x, hx, hxb, h2⟩
    · simp at h2
    · refine ⟨x, by simpa using hx, hxb, h2.imp id fun h3 => ?_⟩
      have := hlt 0 o rfl x (by simpa using hx) hxb
      rw [List.append_assoc, List.getD_eq_getElem?_getD, List.getElem?_append_left (by omega), ← List.getD_eq_getElem?_getD]
      exact h3
  | o :: r, acc, n, hn, hlt, k + 1, o', hk, j, hb => by
    rw [befL] at hb ⊢
    have := masks_ord r (acc ++ [o.after.toList.foldl (fun s e => if Region.binds .any e then s ||| 2 ^ e.on ||| acc.getD e.on 0 else s) 0]) (n + 1) (by simp [hn]) (fun k o hk e he hb => by
      have := hlt (k + 1) o hk e he hb
      omega) k o' hk j (by rw [show n + 1 + k = n + (k + 1) by omega]; exact hb)
    exact this
structure RegFit (N : Nat) (ops : Array Oper) : Prop where
  lt : ∀ (i : Nat) (o : Oper), ops[i]? = some o → ∀ e ∈ o.after, Region.binds .any e = true → e.on < i
  dst : ∀ (i : Nat) (o : Oper) (s : Nat), ops[i]? = some o → o.dst = some s → s < N
  slots : ∀ i, i < ops.size → ∀ s ∈ slotsOf ops i, s < 4096
theorem regFit_spec {N : Nat} (h : regFit N ops = true) : RegFit N ops := by
  unfold regFit at h
  rw [List.all_eq_true] at h
  have key : ∀ i o, ops[i]? = some o → _ := fun i o ho => h (o, i) (by
    rw [List.mem_zipIdx_iff_getElem?]
    simpa using ho)
  refine ⟨fun i o ho e he hb => ?_, fun i o s ho hd => ?_, fun i hi s hs => ?_⟩
  · have := key i o ho
    simp only [Bool.and_eq_true, List.all_eq_true] at this
    have := this.1.1 e (by simpa using he)
    simpa [hb] using this
  · have := key i o ho
    simp only [Bool.and_eq_true] at this
    have := this.1.2
    rw [hd] at this
    simpa using this
  · have := key i ops[i] (by simp [hi])
    simp only [Bool.and_eq_true, List.all_eq_true] at this
    simpa using this.2 s hs
theorem RegFit.edges {N : Nat} (f : RegFit N ops) : EdgesOk .any ops (ordL (masks ops)) := by
  refine ⟨f.lt, fun i o ho j hj hji => ?_⟩
  have := masks_ord ops.toList [] 0 rfl (fun k o hk e he hb => by
    have := f.lt k o (by simpa using hk) e he hb
    omega) i o (by simpa using ho) j (by rw [Nat.zero_add]; exact hji)
  exact this
end
end Go.X

namespace Go.X
open Go Go.RowKit

section
variable {P : Program} {W0 : World} {E E0 : Env} {h h0 : Heap} {p : Post} {w : World} {call : CallRec} {round : RoundRec} {N : Nat} {ro : Option Nat} {n : Nat} {kk : KC} {ops : Array Oper}

/-- temporaries of which only some are known -/
def pickT (N : Nat) (sl : List Nat) (a : Array Value) : Array Value := ((List.range N).map fun s => if s ∈ sl then a.getD s undef else undef).toArray
theorem pickT_size (N : Nat) (sl : List Nat) (a : Array Value) : (pickT N sl a).size = N := by simp [pickT]
theorem pickT_get {N : Nat} {sl : List Nat} {a : Array Value} (ha : a.size = N) (s : Nat) : (pickT N sl a).getD s undef = if s ∈ sl then a.getD s undef else undef := by
  by_cases hs : s < N
  · simp [pickT, hs]
  · have h1 : (pickT N sl a).getD s undef = undef := by
      rw [Array.getD_eq_getD_getElem?, Array.getElem?_eq_none (by rw [pickT_size]; omega)]; rfl
    have h2 : a.getD s undef = undef := by
      rw [Array.getD_eq_getD_getElem?, Array.getElem?_eq_none (by omega)]; rfl
    rw [h1, h2]; simp
theorem pickT_get? {N : Nat} {sl : List Nat} {a : Array Value} (ha : a.size = N) {s : Nat} (hs : s ∈ sl) : (pickT N sl a)[s]? = a[s]? := by
  by_cases hN : s < N
  · have h1 : (pickT N sl a)[s]? = some (if s ∈ sl then a.getD s undef else undef) := by
      simp [pickT, hN]
    rw [h1, if_pos hs, Array.getD_eq_getD_getElem?, Array.getElem?_eq_getElem (by omega)]
    rfl
  · rw [Array.getElem?_eq_none (by rw [pickT_size]; omega), Array.getElem?_eq_none (by omega)]
theorem TT.at_undef (s : Nat) : TT.undef.at s = .tuple [] := by
  simp only [TT.at, TT.getP, TT.undef, p2, N16.get_all]
theorem fillT_sat : ∀ (sl : List Nat), (∀ s ∈ sl, s < 4096) → ∀ (st : St) (t : TT) (k : TT → FM) (p : Post) (h : Heap), (fillT sl (st.sel sl) t k).sat p h →
    ∃ t', (k t').sat p h ∧ ∀ s, s < 4096 → t'.at s = if s ∈ sl then st.tmps.at s else t.at s
  | [], _, st, t, k, p, h, hs => ⟨t, hs, fun s _ => by simp⟩
  | x :: sl, hl, st, t, k, p, h, hs => by
    have hs1 : (TT.putK x (st.tmps.at x) t fun t' => fillT sl (st.sel sl) t' k).sat p h := hs
    rw [TT.putK_eq] at hs1
    obtain ⟨t', h1, h2⟩ := fillT_sat sl (fun s hm => hl s (List.mem_cons_of_mem _ hm)) st _ k p h hs1
    refine ⟨t', h1, fun s hlt => ?_⟩
    rw [h2 s hlt, TT.at_put (hl x List.mem_cons_self) hlt]
    by_cases e : s = x
    · rw [if_pos (show s ∈ x :: sl by rw [e]; exact List.mem_cons_self), if_pos e]
      by_cases e2 : s ∈ sl
      · rw [if_pos e2]
      · rw [if_neg e2, e]
    · by_cases e2 : s ∈ sl
      · rw [if_pos e2, if_pos (List.mem_cons_of_mem _ e2)]
      · rw [if_neg e2, if_neg e, if_neg (fun hm => (List.mem_cons.1 hm).elim e e2)]
theorem opAt_eq {i : Nat} {o : Oper} (ho : ops[i]? = some o) : opAt ops i = o := by
  rw [opAt, Array.getD_eq_getD_getElem?, ho]; rfl
theorem yielded_pick {sl : List Nat} {a : Array Value} (ha : a.size = N) {o : Oper} (hsl : ∀ g w, guardOf ops o = some (some g, w) → g ∈ sl) :
    Region.wanted o (yielded ops (pickT N sl a)) = Region.wanted o (yielded ops a) := by
  unfold Region.wanted
  cases hg : o.guard with
  | none => rfl
  | some jw =>
    obtain ⟨j, want⟩ := jw
    simp only
    have : yielded ops (pickT N sl a) j = yielded ops a j := by
      unfold yielded
      cases hoj : ops[j]? with
      | none => rfl
      | some x =>
        cases hd : x.dst with
        | none => simp [hd]
        | some s =>
          have hm : s ∈ sl := hsl s want (by unfold guardOf; rw [hg]; simp only; rw [hoj]; simp only; rw [hd])
          simp only [Option.bind_some, hd, pickT_get? ha hm]
    rw [this]
theorem sel_mem_guard {i : Nat} {o : Oper} (ho : ops[i]? = some o) : ∀ g w, guardOf ops o = some (some g, w) → g ∈ slotsOf ops i := by
  intro g w hg
  unfold slotsOf guardSlot
  rw [opAt_eq ho, hg]
  simp
theorem sel_mem_tmp {i : Nat} {o : Oper} (ho : ops[i]? = some o) {s : Nat} (hm : Operand.tmp s ∈ o.op.operands) : s ∈ slotsOf ops i := by
  unfold slotsOf
  rw [opAt_eq ho]
  refine List.mem_append_right _ (List.mem_filterMap.2 ⟨.tmp s, by simpa using hm, rfl⟩)
theorem St.put_eq {st : St} {i : Nat} {o : Oper} (ho : ops[i]? = some o) {a : Act} (hst : StR E N st a) (hd : ∀ s, o.dst = some s → s < N) {av : AV} {v : Value} (hv : VR E av v) : StR E N (st.put (dstOf ops i) av) (a.put o.dst v) := by
  unfold dstOf
  rw [opAt_eq ho]
  cases hdst : o.dst with
  | none => exact hst
  | some s => exact ⟨hst.tmps.put (hd s hdst) hv, hst.defers⟩
/-- a region whose order is drawn, along one order -/
theorem regs_sound {k0 : St → FM} {tail : List Nat} (fin : ∀ (E' : Env) (h' : Heap) (st' : St) (a' : Act) (w' : World), Stp E0 h0 E' h' → Rel P W0 E' h' w' → StR E' N st' a' → (k0 st').sat p h' → wpOpsIn (FW ro) n P ops (QP P W0 E0 h0 N kk p) tail a' w')
    (hc : CallSound P W0 call) (hr : RoundSound P W0 round) (hfit : RegFit N ops) {m : Nat} (hmm : m ≤ ops.size) {pos : Nat → Nat} (hp0 : pos 0 = h0.next) (hpm : ∀ i, i < m → pos i ≤ pos (i + 1)) (hpl : pos m ≤ h0.lim) (hlim : h0.lim ≤ top) (hinf : h0.inf = false) (hfree : ∀ x, h0.next ≤ x → x < h0.lim → E0.blk x = none) :
    ∀ (l done : List Nat), (done ++ l).Nodup → (∀ i ∈ done ++ l, i < m) → ∀ (st : St) (a : Act) (E : Env) (h : Heap) (w : World),
    regSat (slotsOf ops) (dstOf ops) (fun i vs q g => (regOp P call round ops i vs).sat q g) pos m h0.lim (fun s g => (k0 s).sat p g) l st h →
    Rel P W0 E h w → StR E N st a → E0.Le E → h.inf = false → (∀ x b, E.blk x = some b → E0.blk x = some b ∨ ∃ j ∈ done, pos j ≤ x ∧ x < pos (j + 1)) →
    wpOpsIn (FW ro) n P ops (QP P W0 E0 h0 N kk p) (l ++ tail) a w := by
  have mono : ∀ j i, i ≤ j → j ≤ m → pos i ≤ pos j := by
    intro j
    induction j with
    | zero =>
      intro i hi _
      have : i = 0 := by omega
      subst this; exact Nat.le_refl _
    | succ j ih =>
      intro i hi hj
      rcases Nat.lt_or_ge i (j + 1) with hlt | hge
      · exact Nat.le_trans (ih i (by omega) (by omega)) (hpm j (by omega))
      · have : i = j + 1 := by omega
        subst this; exact Nat.le_refl _
  intro l
  induction l with
  | nil =>
    intro done _ hin st a E h w hs r hst le hif hinv
    have hs1 : (k0 st).sat p (h.win (pos m) h0.lim) := hs
    have hm0 := mono m 0 (Nat.zero_le _) (Nat.le_refl _)
    refine fin E (h.win (pos m) h0.lim) st a w ⟨le, fun x b hx => ?_, by rw [hinf]; rfl, ?_⟩ (r.win hpl hlim (r.lim.resolve_left (by simp [hif])).2 fun x h1 h2 => ?_) hst hs1
    · rcases hinv x b hx with h1 | ⟨j, hj, h1, h2⟩
      · exact .inl h1
      · have hjl := hin j (by simpa using hj)
        have := mono j 0 (Nat.zero_le _) (by omega)
        have := mono m (j + 1) (by omega) (Nat.le_refl _)
        exact .inr ⟨by omega, .inr (by omega)⟩
    · show h0.next ≤ pos m
      omega
    · cases hx : E.blk x with
      | none => rfl
      | some b =>
        exfalso
        rcases hinv x b hx with h3 | ⟨j, hj, h3, h4⟩
        · rw [hfree x (by omega) h2] at h3; cases h3
        · have hjl := hin j (by simpa using hj)
          have := mono m (j + 1) (by omega) (Nat.le_refl _)
          omega
  | cons i l ih =>
    intro done hnd hin st a E h w hs r hst le hif hinv
    have hi1 : i < m := hin i (by simp)
    have hi : i < ops.size := Nat.lt_of_lt_of_le hi1 hmm
    have ho : ops[i]? = some ops[i] := by simp [hi]
    generalize ops[i] = o at ho
    have hm1 := mono i 0 (Nat.zero_le _) (by omega)
    have hm2 := mono m (i + 1) (by omega) (Nat.le_refl _)
    have hm3 := hpm i hi1
    have hni : i ∉ done := fun hm => by
      have := (List.nodup_append.1 hnd).2.2 i hm i List.mem_cons_self
      exact this rfl
    -- the operation's own window
    have r1 : Rel P W0 E (h.win (pos i) (pos (i + 1))) w := r.win hm3 (by omega) (r.lim.resolve_left (by simp [hif])).2 fun x h1 h2 => by
      cases hx : E.blk x with
      | none => rfl
      | some b =>
        exfalso
        rcases hinv x b hx with h3 | ⟨j, hj, h3, h4⟩
        · rw [hfree x (by omega) (by omega)] at h3; cases h3
        · have hjl := hin j (by simp [hj])
          have hji : j ≠ i := fun e => hni (e ▸ hj)
          rcases Nat.lt_or_gt_of_ne hji with hlt | hgt
          · have := mono i (j + 1) (by omega) (by omega)
            omega
          · have := mono j (i + 1) (by omega) (by omega)
            omega
    have next : ∀ E' h' w' av v, Stp E (h.win (pos i) (pos (i + 1))) E' h' → Rel P W0 E' h' w' → VR E' av v →
        (∃ x, Res.val av = .val x ∧ regSat (slotsOf ops) (dstOf ops) (fun i vs q g => (regOp P call round ops i vs).sat q g) pos m h0.lim (fun s g => (k0 s).sat p g) l (st.put (dstOf ops i) x) h') →
        wpOpsIn (FW ro) n P ops (QP P W0 E0 h0 N kk p) (l ++ tail) (a.put o.dst v) w' := by
      intro E' h' w' av v s' r' hv ⟨x, e, hs'⟩
      cases e
      refine ih (done ++ [i]) (by simpa using hnd) (fun j hj => hin j (by simpa using hj)) _ _ _ _ _ hs' r' (St.put_eq ho (hst.mono s'.le) (fun s => hfit.dst i o s ho) hv) (le.trans s'.le) (by have := s'.lim; simp only [Prod.mk.injEq, Heap.win_inf] at this; exact this.2) fun x b hx => ?_
      rcases s'.new x b hx with h1 | ⟨h1, h2⟩
      · rcases hinv x b h1 with h2 | ⟨j, hj, h2⟩
        · exact .inl h2
        · exact .inr ⟨j, by simp [hj], h2⟩
      · exact .inr ⟨i, by simp, h1, h2.resolve_left (by simp)⟩
    obtain ⟨t, hs1, ht⟩ := fillT_sat (slotsOf ops i) (hfit.slots i hi) st TT.undef _ _ _ hs
    rw [opAt_eq ho] at hs1
    have htm : TmpsR E N t (pickT N (slotsOf ops i) a.tmps) := ⟨pickT_size _ _ _, hst.tmps.le, fun s hlt => by
      rw [ht s hlt, pickT_get hst.tmps.size]
      by_cases e : s ∈ slotsOf ops i
      · rw [if_pos e, if_pos e]; exact hst.tmps.at' s hlt
      · rw [if_neg e, if_neg e, TT.at_undef]; exact .tuple _ _ .nil⟩
    have hs2 := wantedK_sat htm hs1
    rw [yielded_pick hst.tmps.size (sel_mem_guard ho)] at hs2
    rw [List.cons_append]
    simp only [wpOpsIn, ho]
    rcases cnd2_sat hs2 with ⟨hw, hs3⟩ | ⟨hw, hs3⟩
    · rw [if_pos hw]
      refine ⟨fun f _ => trivial, ?_⟩
      have hev : ∀ x, VR E ((⟨call, round, t, P.globals.size⟩ : OC).ev x) ((⟨pickT N (slotsOf ops i) a.tmps, a.defers⟩ : Act).eval x) := fun x => evalO_R r1 htm x
      have hu := opK_sound (o := o) r1 hr.1 hev hs3
      have hsel : ∀ cs b, o.op ≠ .select cs b := fun cs b e => by
        rw [e] at hs3; exact hs3
      have hcg : execOp (⟨pickT N (slotsOf ops i) a.tmps, a.defers⟩ : Act).eval o = execOp a.eval o := execOp_congr o hsel fun x hx => by
        cases x with
        | tmp s =>
          show (pickT N (slotsOf ops i) a.tmps).getD s undef = a.tmps.getD s undef
          rw [pickT_get hst.tmps.size, if_pos (sel_mem_tmp ho hx)]
        | _ => rfl
      have hse : o.semAt (FW ro).round a.eval = execOp a.eval o :=
        Oper.semAt_eq _ _ _ (no_defer r1 hr.1 (c := ⟨call, round, t, P.globals.size⟩) (kd := fun _ => .fail 155) rfl hev (fun ad g (hf : False) => hf) hs3)
      rw [hse, ← hcg]
      refine upon_gen hc hr (fun E' h' w' av v s r' hv hs => ?_) (fun E' h' w' s r' hs => ?_) (kd := fun _ => .fail 155) (kp := fun _ => .fail 156) (fun E' h' w' ad d s r' hd hs => False.elim hs) (fun E' h' w' ach chain s r' hch hs => False.elim hs) hu
      · exact next _ _ _ _ _ s r' hv hs
      · exact next _ _ _ _ _ s r' (.tuple _ _ .nil) hs
    · rw [hw]
      simp only [Bool.false_eq_true, if_false]
      refine ⟨fun f _ => trivial, ?_⟩
      exact next _ _ _ _ _ (.refl _ _) r1 (.tuple _ _ .nil) hs3
/-- likewise, names given as they come -/
theorem regsN_sound {k0 : St → FM} {tail : List Nat} (fin : ∀ (E' : Env) (h' : Heap) (st' : St) (a' : Act) (w' : World), Stp E0 h0 E' h' → Rel P W0 E' h' w' → StR E' N st' a' → (k0 st').sat p h' → wpOpsIn (FW ro) n P ops (QP P W0 E0 h0 N kk p) tail a' w')
    (hc : CallSound P W0 call) (hr : RoundSound P W0 round) (hfit : RegFit N ops) :
    ∀ (l : List Nat), (∀ i ∈ l, i < ops.size) → ∀ (st : St) (a : Act) (E : Env) (h : Heap) (w : World),
    regSatN (slotsOf ops) (dstOf ops) (fun i vs q g => (regOp P call round ops i vs).sat q g) (fun s g => (k0 s).sat p g) l st h →
    Rel P W0 E h w → StR E N st a → Stp E0 h0 E h → wpOpsIn (FW ro) n P ops (QP P W0 E0 h0 N kk p) (l ++ tail) a w := by
  intro l
  induction l with
  | nil => exact fun _ st a E h w hs r hst s0 => fin E h st a w s0 r hst hs
  | cons i l ih =>
    intro hin st a E h w hs r1 hst s0
    have hi : i < ops.size := hin i (by simp)
    have ho : ops[i]? = some ops[i] := by simp [hi]
    generalize ops[i] = o at ho
    have next : ∀ E' h' w' av v, Stp E h E' h' → Rel P W0 E' h' w' → VR E' av v →
        (∃ x, Res.val av = .val x ∧ regSatN (slotsOf ops) (dstOf ops) (fun i vs q g => (regOp P call round ops i vs).sat q g) (fun s g => (k0 s).sat p g) l (st.put (dstOf ops i) x) h') →
        wpOpsIn (FW ro) n P ops (QP P W0 E0 h0 N kk p) (l ++ tail) (a.put o.dst v) w' := by
      intro E' h' w' av v s' r' hv ⟨x, e, hs'⟩
      cases e
      exact ih (fun j hj => hin j (List.mem_cons_of_mem _ hj)) _ _ _ _ _ hs' r' (St.put_eq ho (hst.mono s'.le) (fun s => hfit.dst i o s ho) hv) (s0.trans s')
    obtain ⟨t, hs1, ht⟩ := fillT_sat (slotsOf ops i) (hfit.slots i hi) st TT.undef _ _ _ hs
    rw [opAt_eq ho] at hs1
    have htm : TmpsR E N t (pickT N (slotsOf ops i) a.tmps) := ⟨pickT_size _ _ _, hst.tmps.le, fun s hlt => by
      rw [ht s hlt, pickT_get hst.tmps.size]
      by_cases e : s ∈ slotsOf ops i
      · rw [if_pos e, if_pos e]; exact hst.tmps.at' s hlt
      · rw [if_neg e, if_neg e, TT.at_undef]; exact .tuple _ _ .nil⟩
    have hs2 := wantedK_sat htm hs1
    rw [yielded_pick hst.tmps.size (sel_mem_guard ho)] at hs2
    rw [List.cons_append]
    simp only [wpOpsIn, ho]
    rcases cnd2_sat hs2 with ⟨hw, hs3⟩ | ⟨hw, hs3⟩
    · rw [if_pos hw]
      refine ⟨fun f _ => trivial, ?_⟩
      have hev : ∀ x, VR E ((⟨call, round, t, P.globals.size⟩ : OC).ev x) ((⟨pickT N (slotsOf ops i) a.tmps, a.defers⟩ : Act).eval x) := fun x => evalO_R r1 htm x
      have hu := opK_sound (o := o) r1 hr.1 hev hs3
      have hsel : ∀ cs b, o.op ≠ .select cs b := fun cs b e => by
        rw [e] at hs3; exact hs3
      have hcg : execOp (⟨pickT N (slotsOf ops i) a.tmps, a.defers⟩ : Act).eval o = execOp a.eval o := execOp_congr o hsel fun x hx => by
        cases x with
        | tmp s =>
          show (pickT N (slotsOf ops i) a.tmps).getD s undef = a.tmps.getD s undef
          rw [pickT_get hst.tmps.size, if_pos (sel_mem_tmp ho hx)]
        | _ => rfl
      have hse : o.semAt (FW ro).round a.eval = execOp a.eval o :=
        Oper.semAt_eq _ _ _ (no_defer r1 hr.1 (c := ⟨call, round, t, P.globals.size⟩) (kd := fun _ => .fail 155) rfl hev (fun ad g (hf : False) => hf) hs3)
      rw [hse, ← hcg]
      refine upon_gen hc hr (fun E' h' w' av v s r' hv hs => ?_) (fun E' h' w' s r' hs => ?_) (kd := fun _ => .fail 155) (kp := fun _ => .fail 156) (fun E' h' w' ad d s r' hd hs => False.elim hs) (fun E' h' w' ach chain s r' hch hs => False.elim hs) hu
      · exact next _ _ _ _ _ s r' hv hs
      · exact next _ _ _ _ _ s r' (.tuple _ _ .nil) hs
    · rw [hw]
      simp only [Bool.false_eq_true, if_false]
      refine ⟨fun f _ => trivial, ?_⟩
      exact next _ _ _ _ _ (.refl _ _) r1 (.tuple _ _ .nil) hs3
end
end Go.X

namespace Go.X
open Go Go.RowKit

section
variable {P : Program} {W0 : World} {E E0 : Env} {h h0 : Heap} {p : Post} {w : World} {call : CallRec} {round : RoundRec} {N : Nat} {ro : Option Nat} {n : Nat} {kk : KC} {H : Hints} {fn : FuncId} {cur : Option Nat} {lf : Nat}

theorem Rel.drawn (r : Rel P W0 E h w) (d : Nat) : Rel P W0 E h { w with drawn := d } := r.same rfl rfl rfl rfl
theorem xRegion_sound (hc : CallSound P W0 call) (hr : RoundSound P W0 round) (hm : P.follows .mixedOrders = true) {dok : Bool} (hdok : dok = true → ro = none) {id : Nat} {ops : Array Oper} {draw : Bool} {st : St} {a : Act}
    (hs : (xRegion P call round N dok ops draw st (fun st' => kk .normal st') (fun st' ch => kk (.panic ch) st')).sat p h) (r : Rel P W0 E h w) (hst : StR E N st a) :
    (Code.region id ops draw).wpIn (FW ro) n P (QP P W0 E h N kk p) a w := by
  cases draw with
  | false =>
    refine wpIn_region ?_
    have := xOps_sound (n := n) (kk := kk) (E0 := E) (h0 := h) hc hr hdok ops.toList 0 (by simp) st a E h w hs r hst (.refl _ _)
    rw [List.range_eq_range']
    simpa using this
  | true =>
    obtain ⟨hf, hs1⟩ := cnd_sat (show (cnd (regFit N ops) (FM.regn ops.size (ordL (masks ops)) (slotsOf ops) (dstOf ops) (regOp P call round ops) st (fun st' => kk .normal st')) (FM.fail 154)).sat p h from hs)
    have fit := regFit_spec hf
    refine wpIn_region_draw fun t => ?_
    have hl := linearise_ok fit.edges t
    have hsch : Region.schedule (P.follows .mixedOrders) ops t = Region.linearise .any ops t := by simp [Region.schedule, hm]
    rw [hsch]
    rw [← List.append_nil (Region.linearise .any ops t)]
    have fin : ∀ (E' : Env) (h' : Heap) (st' : St) (a' : Act) (w' : World), Stp E h E' h' → Rel P W0 E' h' w' → StR E' N st' a' → (kk .normal st').sat p h' → wpOpsIn (FW ro) n P ops (QP P W0 E h N kk p) [] a' w' :=
      fun E' h' st' a' w' s r hst hs => ⟨E', h', .normal, st', s, r, hst, .normal, hs⟩
    rcases hs1 with ⟨hinf, pos, p0, p1, p2, hall⟩ | ⟨_, hall⟩
    · exact regs_sound (E0 := E) (h0 := h) (k0 := fun st' => kk .normal st') (tail := []) fin hc hr fit (Nat.le_refl _) p0 p1 p2 (r.lim.resolve_left (by simp [hinf])).1 hinf (fun x h1 h2 => r.free x h1 (.inr h2)) _ [] (by simpa using hl.nodup) (fun i hi => (hl.mem i).1 (by simpa using hi)) st a E h _ (hall _ hl) (r.drawn _) hst (.refl _) hinf (fun x b hx => .inl hx)
    · exact regsN_sound (E0 := E) (h0 := h) (k0 := fun st' => kk .normal st') (tail := []) fin hc hr fit _ (fun i hi => (hl.mem i).1 hi) st a E h _ (hall _ hl) (r.drawn _) hst (.refl _ _)

/-- an order of n + 1 operations whose last comes behind all others -/
theorem linExt_last {m : Nat} {ord : Nat → Nat → Bool} {l : List Nat} (hl : LinExt (m + 1) ord l) (hall : ∀ j, j < m → ord j m = true) : ∃ a, l = a ++ [m] ∧ LinExt m ord a := by
  obtain ⟨a, b, e⟩ := List.append_of_mem ((hl.mem m).2 (Nat.lt_succ_self m))
  have hb : b = [] := by
    cases b with
    | nil => rfl
    | cons x b =>
      exfalso
      have hx : x < m + 1 := (hl.mem x).1 (by rw [e]; simp)
      have hnd := hl.nodup
      rw [e] at hnd
      have hd := List.nodup_append.1 hnd
      have hxm : x ≠ m := fun e2 => by
        have := (List.nodup_cons.1 hd.2.1).1
        exact this (by rw [e2]; simp)
      have hxa : x ∈ a := hl.ord a m (x :: b) e x (by omega) (hall x (by omega))
      exact hd.2.2 x hxa x (by simp) rfl
  subst hb
  refine ⟨a, e, ?_, fun i => ?_, fun a1 i b1 e1 j hj ho => ?_⟩
  · have := hl.nodup
    rw [e] at this
    exact (List.nodup_append.1 this).1
  · have hm := hl.mem i
    have hnd := hl.nodup
    rw [e] at hm hnd
    have hd := List.nodup_append.1 hnd
    constructor
    · intro hi
      have h1 := hm.1 (List.mem_append_left _ hi)
      have : i ≠ m := fun e2 => hd.2.2 i hi m (by simp) e2
      omega
    · intro hi
      have h1 := hm.2 (by omega)
      rcases List.mem_append.1 h1 with h2 | h2
      · exact h2
      · simp at h2; omega
  · exact hl.ord a1 i (b1 ++ [m]) (by rw [e, e1]; simp) j (by omega) ho
theorem lastAll_spec {ops : Array Oper} (hl : lastAll ops = true) : ∃ m, ops.size = m + 1 ∧ ∀ j, j < m → ordL (masks ops) j m = true := by
  unfold lastAll at hl
  cases hs : ops.size with
  | zero => rw [hs] at hl; cases hl
  | succ m =>
    rw [hs] at hl
    have h1 : (masks ops).getD m 0 = 2 ^ m - 1 := Nat.eq_of_beq_eq_true hl
    refine ⟨m, rfl, fun j hj => ?_⟩
    unfold ordL
    rw [h1, Nat.testBit_two_pow_sub_one]
    simp [hj]
theorem xRegionS_sound (hc : CallSound P W0 call) (hr : RoundSound P W0 round) (hm : P.follows .mixedOrders = true) {dok : Bool} (hdok : dok = true → ro = none) {id : Nat} {ops : Array Oper} {draw : Bool} {st : St} {a : Act}
    (hs : (xRegionS P call round N dok ops draw st (fun st' => kk .normal st') (fun st' ch => kk (.panic ch) st')).sat p h) (r : Rel P W0 E h w) (hst : StR E N st a) :
    (Code.region id ops draw).wpIn (FW ro) n P (QP P W0 E h N kk p) a w := by
  rcases cnd2_sat hs with ⟨hb, hs1⟩ | ⟨_, hs1⟩
  · simp only [cnd_and] at hb
    obtain ⟨hd, hf, hla⟩ := hb
    subst hd
    obtain ⟨m, hsz, hord⟩ := lastAll_spec hla
    have hpm : Nat.pred ops.size = m := by rw [hsz]; rfl
    rw [hpm] at hs1
    have fit := regFit_spec hf
    refine wpIn_region_draw fun t => ?_
    have hl := linearise_ok fit.edges t
    have hsch : Region.schedule (P.follows .mixedOrders) ops t = Region.linearise .any ops t := by simp [Region.schedule, hm]
    rw [hsch]
    rw [hsz] at hl
    obtain ⟨l, el, hl2⟩ := linExt_last hl hord
    rw [el]
    have fin : ∀ (E' : Env) (h' : Heap) (st' : St) (a' : Act) (w' : World), Stp E h E' h' → Rel P W0 E' h' w' → StR E' N st' a' → (xOps P call round N dok ops (ops.toList.drop m) st' (fun st' => kk .normal st') (fun st' ch => kk (.panic ch) st')).sat p h' → wpOpsIn (FW ro) n P ops (QP P W0 E h N kk p) [m] a' w' := by
      intro E' h' st' a' w' s r' hst' hs'
      have := xOps_sound (n := n) (kk := kk) (E0 := E) (h0 := h) hc hr hdok (ops.toList.drop m) m (by simp) st' a' E' h' w' hs' r' hst' s
      have hlen : (ops.toList.drop m).length = 1 := by simp [hsz]
      rw [hlen] at this
      simpa using this
    rcases hs1 with ⟨hinf, pos, p0, p1, p2, hall⟩ | ⟨_, hall⟩
    · exact regs_sound (E0 := E) (h0 := h) (k0 := fun st' => xOps P call round N dok ops (ops.toList.drop m) st' (fun st' => kk .normal st') (fun st' ch => kk (.panic ch) st')) (tail := [m]) fin hc hr fit (by omega) p0 p1 p2 (r.lim.resolve_left (by simp [hinf])).1 hinf (fun x h1 h2 => r.free x h1 (.inr h2)) _ [] (by simpa using hl2.nodup) (fun i hi => (hl2.mem i).1 (by simpa using hi)) st a E h _ (hall _ hl2) (r.drawn _) hst (.refl _) hinf (fun x b hx => .inl hx)
    · exact regsN_sound (E0 := E) (h0 := h) (k0 := fun st' => xOps P call round N dok ops (ops.toList.drop m) st' (fun st' => kk .normal st') (fun st' ch => kk (.panic ch) st')) (tail := [m]) fin hc hr fit _ (fun i hi => Nat.lt_of_lt_of_le ((hl2.mem i).1 hi) (by omega)) st a E h _ (hall _ hl2) (r.drawn _) hst (.refl _ _)
  · exact xRegion_sound hc hr hm hdok hs1 r hst

/-- the loop that the round is of -/
def CurR (E : Env) (cur ro : Option Nat) : Prop := (cur = none ∧ ro = none) ∨ ∃ l lb, cur = some l ∧ ro = some lb ∧ E.blk l = some lb
theorem CurR.mono {E E' : Env} (le : E.Le E') {cur ro : Option Nat} (c : CurR E cur ro) : CurR E' cur ro := by
  rcases c with c | ⟨l, lb, h1, h2, h3⟩
  · exact .inl c
  · exact .inr ⟨l, lb, h1, h2, le.blk _ _ h3⟩
theorem CurR.dok {E : Env} {cur ro : Option Nat} (c : CurR E cur ro) : (Option.rec (motive := fun _ => Bool) true (fun _ => false) cur : Bool) = true → ro = none := by
  intro h
  rcases c with ⟨_, c⟩ | ⟨l, lb, h1, h2, h3⟩
  · exact c
  · subst h1; cases h
theorem goLoop_sound (hc : CallSound P W0 call) (r : Rel P W0 E h w) {f : AFn} {fv : Fn} (hf : FnR E f fv) {first captured : List AV} {x y : Array Value} (h1 : VRs E first x.toList) (h2 : VRs E captured y.toList)
    {t : TT} {tmps : Array Value} (ht : TmpsR E N t tmps) {dblock db : Nat} (hd : E.blk dblock = some db) {params : Array Tmp} {assign body : Code} {st' : St} {a' : Act} (hst : StR E N st' a') (fn2 : FuncId)
    (hs : (goLoop P call round N fn f first captured params assign body t dblock st' kk).sat p h) :
    ∃ g args w2, (invoke (.fn fv y) (x ++ #[.func (.yield w.heap.size) #[] #[]])).run P (w.alloc (.loop { state := .ready, pending := none, fn := fn2, tmps, params, assign, body, defers := db })) = .ok (.enter g args) w2 ∧
      CallsIn (FW ro) (n - 1) P g args w2 (rangePost (FW ro) n P w.heap.size (QP P W0 E h N kk p) a') := by
  obtain ⟨hn, hs0⟩ := hs
  have hf0 := r.free h.next (Nat.le_refl _) hn
  obtain ⟨E1, le, r1, s1, hnew⟩ : ∃ E1, E.Le E1 ∧ Rel P W0 E1 (h.newO (.loop ⟨.ready, .normal, fn, t, N :: params.toList, assign, body, dblock⟩)) (w.alloc (.loop { state := .ready, pending := none, fn := fn2, tmps, params, assign, body, defers := db })) ∧
      Stp E h E1 (h.newO (.loop ⟨.ready, .normal, fn, t, N :: params.toList, assign, body, dblock⟩)) ∧ E1.blk h.next = some w.heap.size :=
    have le := Env.add_le hf0 w.heap.size 0 0
    ⟨_, le, r.new hn 0 0 (.loop _ _ rfl .none N (ht.mono le) rfl rfl rfl (le.blk _ _ hd)), Stp.add hf0 hn w.heap.size 0 0, Env.add_blk _ _ _ _ _⟩
  generalize w.alloc (.loop { state := .ready, pending := none, fn := fn2, tmps, params, assign, body, defers := db }) = w1 at r1
  generalize w.heap.size = lb at hnew
  have hs1 : (appK first [.func (.yield h.next) [] []] fun args => afnM f (fun g => appK args captured fun as => cnd (bodied P g) (call g as (fun _ => endLoopK h.next st' kk) (fun _ => .fail 204)) (.fail 204)) (fun _ => .fail 204) (fun _ => .fail 204) (.fail 204)).sat p (h.newO (.loop ⟨.ready, .normal, fn, t, N :: params.toList, assign, body, dblock⟩)) := hs0
  rw [appK_eq] at hs1
  cases hf with
  | yield => exact False.elim hs1
  | plain =>
    cases fv with
    | func g =>
      have hs2 : (appK (first ++ [.func (.yield h.next) [] []]) captured fun as => cnd (bodied P g) (call g as (fun _ => endLoopK h.next st' kk) (fun _ => .fail 204)) (.fail 204)).sat p (h.newO (.loop ⟨.ready, .normal, fn, t, N :: params.toList, assign, body, dblock⟩)) := hs1
      rw [appK_eq] at hs2
      obtain ⟨hb, hs3⟩ := cnd_sat hs2
      have hargs : VRs E1 (first ++ [AV.func (.yield h.next) [] []] ++ captured) ((x ++ #[Value.func (.yield lb) #[] #[]]) ++ y).toList := by
        rw [Array.toList_append, Array.toList_append]
        refine ((h1.mono le).append (.cons _ _ _ _ (.func _ _ _ _ _ _ (.yield _ _ hnew) .nil .nil) .nil)).append (h2.mono le)
      have hb0 := hb
      unfold bodied at hb
      have hcall := hc g _ _ _ p _ _ _ _ hb0 hs3 r1 hargs
      refine ⟨g, (x ++ #[Value.func (.yield lb) #[] #[]]) ++ y, w1, ?_, callsIn_FW.2 (hcall.mono fun e w' he => ?_)⟩
      · cases hfn : P.funcs[g]? with
        | none => rw [hfn] at hb; cases hb
        | some gn =>
          rw [hfn] at hb
          simp only [Bool.and_eq_true, Bool.not_eq_true'] at hb
          have hh1 : gn.name ≠ "runtime.NumGoroutine" := by simpa using hb.2
          cases hbo : gn.body with
          | none => rw [hbo] at hb; simp at hb
          | some c => simp [invoke, callFunc, hfn, hh1, hbo]
      · cases e with
        | outgrown => exact he.elim
        | panicked chain => obtain ⟨_, _, _, _, _, _, hx⟩ := he; exact hx.elim
        | returned v =>
          obtain ⟨E', h', av, s', r', hv, o, hg, hs4⟩ := he
          obtain ⟨lr, e, hs5⟩ := onLoop_sat hs4
          subst e
          have hbl := s'.le.blk _ _ hnew
          obtain ⟨b, o, hb1, hw1, hor⟩ := r'.obj _ _ hg
          rw [hbl] at hb1; cases hb1
          cases hor with
          | loop _ rr hstt hpend N2 ht2 hps ha hbd hdd =>
            have fin : lr.state = .ready ∨ lr.state = .done → (FM.set h.next .tomb (kk lr.pending st')).sat p h' → rangePost (FW ro) n P lb (QP P W0 E h N kk p) a' (.returned v) w' := by
              intro hst2 hs6
              have hnb : rr.state ≠ .busy := by
                rw [hstt]; rcases hst2 with e | e <;> rw [e] <;> simp [lsOf]
              have r2 := r'.set (a1 := .tomb) (o1 := .loop { rr with state := .exhausted }) hg hbl (by rintro (e | ⟨c, e⟩) <;> cases e) (fun es v e => by cases e) (.tomb _)
              have s2 : Stp E h E' (h'.put h.next (some .tomb)) := s1.trans (s'.trans ⟨.refl _, fun _ _ h => .inl h, rfl, Nat.le_refl _⟩)
              have hst3 := hst.mono (le.trans s'.le)
              have hs7 : (kk lr.pending st').sat p (h'.put h.next (some .tomb)) := hs6.2
              refine ⟨rr.pending, _, run_endLoop hw1 hnb, ?_⟩
              generalize w'.putObj lb (.loop { rr with state := .exhausted }) = w4 at r2
              generalize lr.pending = pe at hpend hs7
              generalize rr.pending = rp at hpend
              cases hpend with
              | none => exact ⟨E', _, .normal, st', s2, r2, hst3, .normal, hs7⟩
              | exit i => exact wpIn_exit ⟨E', _, .exit i, st', s2, r2, hst3, .exit i, hs7⟩
              | ret => exact wpIn_ret ⟨E', _, .ret, st', s2, r2, hst3, .ret, hs7⟩
            cases hls : lr.state with
            | ready => rw [hls] at hs5; exact fin (.inl hls) hs5
            | busy => rw [hls] at hs5; exact False.elim hs5
            | done => rw [hls] at hs5; exact fin (.inr hls) hs5
            | exhausted => rw [hls] at hs5; exact False.elim hs5
    | _ => exact False.elim hs1
end
end Go.X

namespace Go.X
open Go Go.RowKit

section
variable {P : Program} {W0 : World} {E E0 : Env} {h h0 : Heap} {p : Post} {w : World} {call : CallRec} {round : RoundRec} {N : Nat} {ro : Option Nat} {n : Nat} {kk : KC} {H : Hints} {fn : FuncId} {cur : Option Nat} {lf : Nat}

theorem resolve_range {a : Act} {g : Operand} {fv : Fn} {x y : Array Value} (hg : a.eval g = .func fv x y) (l : Nat) (w : World) :
    (resolve a.eval (rangeCall g l) 0).run P w = .ok { target := .fn fv y, args := x ++ #[.func (.yield l) #[] #[]] } w := by
  have e : (#[.const (.func (.yield l) #[] #[])] : Array Operand).map a.eval = #[.func (.yield l) #[] #[]] := by simp [Act.eval]
  simp only [resolve, rangeCall, hg, e, Deferred.ofValue, Sem.run_pure]
theorem run_enterLoop_inner {l : Nat} {r : Loop} (hw : w.heap[l]? = some (.loop r)) (fn : FuncId) (tmps : Array Value) (ps : Array Tmp) (assign body : Code) :
    (Instr.enterLoop fn tmps ps assign body (some l)).run P w = .ok (w.heap.size, []) (w.alloc (.loop { state := .ready, pending := none, fn, tmps, params := ps, assign, body, defers := r.defers })) := by
  unfold Instr.enterLoop
  simp only [Sem.run_bind, run_getLoop hw, run_newObj_alloc, Result.andThen, Sem.run_pure]
theorem xRange_sound (hc : CallSound P W0 call) {g : Operand} {params : Array Tmp} {assign body : Code} {st : St} {a : Act} (hcur : CurR E cur ro)
    (hs : (xRange P call round N fn cur g params assign body st kk).sat p h) (r : Rel P W0 E h w) (hst : StR E N st a) :
    (Code.rangeFunc g params assign body).wpIn (FW ro) n P (QP P W0 E h N kk p) a w := by
  refine wpIn_rangeFunc fun fn2 _ => ?_
  have hev := evalO_R r hst.tmps g
  obtain ⟨fa, fv, first, captured, x, y, e1, e2, hf, h1, h2, hs1⟩ := onFunc_sat hev hs
  have hdep : (FW ro).depth.isSome = true → 1 ≤ n := fun h => by cases h
  have hlead : ∀ (w' : World) (d : Deferred) (f' : FuncId), Target.leads P w' d.target d.args = some f' → (FW ro).fn f' := fun _ _ _ _ => trivial
  rcases hcur with ⟨hc1, hc2⟩ | ⟨l, lb, hc1, hc2, hc3⟩
  · subst hc1; subst hc2
    obtain ⟨hn, hs2⟩ := hs1
    have hf0 := r.free h.next (Nat.le_refl _) hn
    obtain ⟨E1, le, r1, s1, hnew⟩ : ∃ E1, E.Le E1 ∧ Rel P W0 E1 (h.newO (.deferred (some []))) (w.alloc (.deferred (some []))) ∧ Stp E h E1 (h.newO (.deferred (some []))) ∧ E1.blk h.next = some w.heap.size :=
      ⟨_, Env.add_le hf0 w.heap.size 0 0, r.new hn 0 0 (.deferred _ _ .nil), Stp.add hf0 hn w.heap.size 0 0, Env.add_blk _ _ _ _ _⟩
    have hst' : StR E1 N ⟨st.tmps, ⟨.yield h.next, []⟩ :: st.defers, st.u⟩ { a with defers := [{ target := .collected w.heap.size, args := #[] }] ++ a.defers } :=
      ⟨hst.tmps.mono le, .cons _ _ _ _ (.mark _ _ hnew) (hst.defers.mono le)⟩
    obtain ⟨g2, args, w2, hinv, hcalls⟩ := goLoop_sound (ro := none) (n := n) hc r1 (hf.mono le) (h1.mono le) (h2.mono le) (hst.tmps.mono le) hnew hst' fn2 hs2
    have hsz : (w.alloc (.deferred (some []))).heap.size = w.heap.size + 1 := by simp
    rw [hsz] at hinv hcalls
    refine ⟨w.heap.size + 1, _, _, _, _, g2, args, w2, run_enterLoop_outer fn2 a.tmps params assign body, resolve_range e2 _ _, fun f' hf' => trivial, hinv, hdep, hcalls.mono fun e w' he => ?_⟩
    cases e with
    | returned v =>
      obtain ⟨jump, w4, ha, hb⟩ := he
      refine ⟨jump, w4, ha, ?_⟩
      cases jump with
      | none => exact QP.step s1 hb
      | some c => exact wpIn_mono hb fun _ _ _ q => q.step s1
    | panicked chain => exact QP.step s1 he
    | outgrown => obtain ⟨a0, w0, q⟩ := he; exact ⟨a0, w0, q.step s1⟩
  · subst hc1; subst hc2
    obtain ⟨o, hg, hs2⟩ := hs1
    obtain ⟨lr, e, hs3⟩ := onLoop_sat hs2
    subst e
    obtain ⟨b, o, hb, hw, hor⟩ := r.obj _ _ hg
    rw [hc3] at hb; cases hb
    cases hor with
    | loop _ rr hstt hpend N2 ht2 hps ha hbd hdd =>
      obtain ⟨g2, args, w2, hinv, hcalls⟩ := goLoop_sound (ro := some lb) (n := n) (a' := a) hc r hf h1 h2 hst.tmps hdd hst fn2 hs3
      exact ⟨w.heap.size, [], _, _, _, g2, args, w2, run_enterLoop_inner hw fn2 a.tmps params assign body, resolve_range e2 _ _, fun f' hf' => trivial, hinv, hdep, hcalls⟩

/-! ### loops -/
theorem QP.thn {kn : St → FM} {k : KC} {K : Act → World → Prop} {e : Exit} {a : Act} {w : World} (q : QP P W0 E h N (fun e st' => onNormal e st' kn k) p e a w)
    (next : ∀ E' h' st', Stp E h E' h' → Rel P W0 E' h' w → StR E' N st' a → (kn st').sat p h' → K a w) : Exit.then K (QP P W0 E h N k p) e a w := by
  obtain ⟨E', h', xe, st', s, r, hst, hex, hs⟩ := q
  cases hex with
  | normal => exact next E' h' st' s r hst hs
  | exit i => exact ⟨E', h', .exit i, st', s, r, hst, .exit i, hs⟩
  | goto l => exact ⟨E', h', .goto l, st', s, r, hst, .goto l, hs⟩
  | ret => exact ⟨E', h', .ret, st', s, r, hst, .ret, hs⟩
  | panic c d hcd => exact ⟨E', h', .panic c, st', s, r, hst, .panic c d hcd, hs⟩
/-- what code is worth -/
def CodeS (P : Program) (W0 : World) (N n : Nat) (cur ro : Option Nat) (X : CodeK) (c : Code) : Prop :=
  ∀ st kk p E h a w, (X st kk).sat p h → Rel P W0 E h w → StR E N st a → CurR E cur ro → c.wpIn (FW ro) n P (QP P W0 E h N kk p) a w
theorem xLoop_sound {X : CodeK} {c : Code} (hx : CodeS P W0 N n cur ro X c) {k : KC} : ∀ (m : Nat) (st : St) (E : Env) (h : Heap) (a : Act) (w : World), (xLoop X m st k).sat p h → Rel P W0 E h w → StR E N st a → CurR E cur ro → Stp E0 h0 E h →
    Code.roundsIn (FW ro) n P c (QP P W0 E0 h0 N k p) m a w
  | 0, _, _, _, _, _, hs, _, _, _, _ => False.elim hs
  | m + 1, st, E, h, a, w, hs, r, hst, hcur, s0 => by
    have hs1 : (X st fun e st' => onNormal e st' (fun st2 => xLoop X m st2 k) k).sat p h := hs
    rw [roundsIn_succ]
    refine wpIn_mono (hx st _ p E h a w hs1 r hst hcur) fun e a' w' q => ?_
    have q2 := q.thn (K := Code.roundsIn (FW ro) n P c (QP P W0 E0 h0 N k p) m) fun E' h' st' s r' hst' hs' => xLoop_sound hx m st' E' h' a' w' hs' r' hst' (hcur.mono s.le) (s0.trans s)
    cases e with
    | normal => exact q2
    | _ => exact QP.step s0 q2
theorem TmpsR.junk {t : TT} {a : Array Value} (ht : TmpsR E N t a) {s : Nat} (hs : s < 4096) : TmpsR E N (TT.put s .junk t) a := ⟨ht.size, ht.le, fun x hx => by
  rw [TT.at_put hs hx]
  by_cases e : x = s
  · rw [if_pos e]; exact .junk _
  · rw [if_neg e]; exact ht.at' x hx⟩
theorem junkK_sat {a : Array Value} {k : TT → FM} : ∀ (l : List Nat) (t : TT), TmpsR E N t a → (junkK l t k).sat p h → ∃ t', TmpsR E N t' a ∧ (k t').sat p h
  | [], t, ht, hs => ⟨t, ht, hs⟩
  | s :: l, t, ht, hs => by
    obtain ⟨hlt, hs1⟩ := cnd_sat (m := TT.putK s .junk t fun t' => junkK l t' k) hs
    rw [TT.putK_eq] at hs1
    exact junkK_sat l _ (ht.junk (ltb_iff.1 hlt)) hs1
theorem onPtr_any {av : AV} {k : Nat → Nat → FM} {m : FM} (hs : (av.onPtr k m).sat p h) : (∃ i o, (k i o).sat p h) ∨ m.sat p h := by
  cases av with
  | ptr i o => exact .inl ⟨i, o, hs⟩
  | _ => exact .inr hs
theorem onMapIter_any {o : AObj} {k : Nat → Nat → List (AV × AV) → AV → FM} {m : FM} (hs : (o.onMapIter k m m).sat p h) : (∃ a b c d, o = .mapIter a b c d ∧ (k a b c d).sat p h) ∨ m.sat p h := by
  cases o with
  | mapIter a b c d => exact .inl ⟨a, b, c, d, rfl, hs⟩
  | _ => exact .inr hs
theorem curK_sat {t : TT} {m : FM} : ∀ (l : List Nat) (h : Heap), Rel P W0 E h w → (curK t l m).sat p h → ∃ h', h'.next = h.next ∧ (h'.lim, h'.inf) = (h.lim, h.inf) ∧ Rel P W0 E h' w ∧ m.sat p h'
  | [], h, r, hs => ⟨h, rfl, rfl, r, hs⟩
  | s :: l, h, r, hs => by
    have hs1 : ((TT.at s t).onPtr (fun i _ => .get i fun o => o.onMapIter (fun m' ver left _ => .set i (.mapIter m' ver left .junk) (curK t l m)) (curK t l m) (curK t l m)) (curK t l m)).sat p h := hs
    rcases onPtr_any hs1 with ⟨i, o0, o, hg, hs2⟩ | hs2
    · rcases onMapIter_any hs2 with ⟨m', ver, left, cur, e, hs3⟩ | hs3
      · subst e
        obtain ⟨_, hs4⟩ := hs3
        obtain ⟨b, o, hb, hw, hor⟩ := r.obj _ _ hg
        have r2 : Rel P W0 E (h.put i (some (.mapIter m' ver left .junk))) w := by
          have r3 := r.set (a1 := .mapIter m' ver left .junk) (o1 := o) hg hb (by rintro (e | ⟨c, e⟩) <;> cases e) (fun es v e => by cases e) (by
            rw [putObj_same hw]
            cases hor with
            | mapIter _ _ _ _ b' since stepped seen h0 hb' hh =>
              refine .mapIter _ _ _ _ _ _ _ _ h0 hb' fun es v hv => ?_
              have hne : m' ≠ i := fun e => by
                rw [e, Heap.get_put _ (r.ltTop hg), if_pos rfl] at hv; cases hv
              rw [Heap.get_put _ (r.ltTop hg), if_neg hne] at hv
              obtain ⟨k1, k2⟩ := hh es v hv
              refine ⟨k1, fun ev => ?_⟩
              obtain ⟨xs, clock, c1, c2, c3, c4⟩ := k2 ev
              exact ⟨xs, clock, c1, c2, c3, ⟨c4.nodup, c4.left, c4.right, c4.kind, .inl rfl⟩⟩)
          rw [putObj_same hw] at r3
          exact r3
        obtain ⟨h', e1, e2, r', hm⟩ := curK_sat l _ r2 hs4
        exact ⟨h', e1, e2, r', hm⟩
      · exact curK_sat l h r hs3
    · exact curK_sat l h r hs2
theorem dropO_sat {a x : Nat} {m : FM} (r : Rel P W0 E h w) (hs : (dropO a x m).sat p h) : ∃ h', Stp E h E h' ∧ Rel P W0 E h' w ∧ m.sat p h' := by
  rcases cnd2_sat hs with ⟨_, hs1⟩ | ⟨_, h0, h1, h2, h3, hs1⟩
  · exact ⟨h, .refl _ _, r, hs1⟩
  · exact ⟨(dropIds a (h.next - a) h).win (a + x) h.lim, ⟨.refl _, fun _ _ h => .inl h, by rw [h0]; rfl, h2⟩, r.drop h0 h1 h2 h3, hs1⟩
theorem ExR.inv {xe : XExit} {e : Exit} (hx : ExR E xe e) : (xe = .normal ∧ e = .normal) ∨ (xe ≠ .normal ∧ e ≠ .normal) := by
  cases hx <;> simp
theorem xLoopM_sound {X : CodeK} {c : Code} (hx : CodeS P W0 N n cur ro X c) {jw : LH} {k : KC} : ∀ (m : Nat) (st : St) (E : Env) (h : Heap) (a : Act) (w : World),
    loopSat (fun s q g => (FM.here fun a => X s fun e s' => curK s'.tmps jw.its (junkK jw.junk s'.tmps fun t => dropO a jw.win (.ret (.st e ⟨t, s'.defers, s'.u⟩)))).sat q g) (fun e s g => (k e s).sat p g) m st h →
    Rel P W0 E h w → StR E N st a → CurR E cur ro → Stp E0 h0 E h → Code.roundsIn (FW ro) n P c (QP P W0 E0 h0 N k p) m a w
  | 0, _, _, _, _, _, hs, _, _, _, _ => False.elim hs
  | m + 1, st, E, h, a, w, hs, r, hst, hcur, s0 => by
    rw [roundsIn_succ]
    refine wpIn_mono (hx st _ _ E h a w hs r hst hcur) fun e a' w' q => ?_
    obtain ⟨E', h', xe, st', s, r', hst', hex, hs'⟩ := q
    obtain ⟨h1, e1, e2, r1, hs1⟩ := curK_sat _ _ r' hs'
    obtain ⟨t, ht, hs2⟩ := junkK_sat _ _ hst'.tmps hs1
    obtain ⟨h2, s2, r2, hs3⟩ := dropO_sat r1 hs2
    have s1 : Stp E h E' h1 := ⟨s.le, s.new, e2.trans s.lim, by rw [e1]; exact s.next⟩
    have s3 := s0.trans (s1.trans s2)
    have hst2 : StR E' N ⟨t, st'.defers, st'.u⟩ a' := ⟨ht, hst'.defers⟩
    cases hex with
    | normal => exact xLoopM_sound hx m _ E' h2 a' w' hs3 r2 hst2 (hcur.mono s.le) s3
    | exit i => exact ⟨E', h2, .exit i, _, s3, r2, hst2, .exit i, hs3⟩
    | goto l => exact ⟨E', h2, .goto l, _, s3, r2, hst2, .goto l, hs3⟩
    | ret => exact ⟨E', h2, .ret, _, s3, r2, hst2, .ret, hs3⟩
    | panic c d hcd => exact ⟨E', h2, .panic c, _, s3, r2, hst2, .panic c d hcd, hs3⟩

theorem xCode_sound (hc : CallSound P W0 call) (hr : RoundSound P W0 round) (hm : P.follows .mixedOrders = true) (c : Code) : CodeS P W0 N n cur ro (xCode P call round H fn N cur lf c) c := by
  induction c with
  | skip => exact fun st kk p E h a w hs r hst hcur => wpIn_skip ⟨E, h, .normal, st, .refl _ _, r, hst, .normal, hs⟩
  | region id ops draw =>
    intro st kk p E h a w hs r hst hcur
    rcases cnd2_sat hs with ⟨_, hs⟩ | ⟨_, hs⟩
    · exact xRegionS_sound hc hr hm hcur.dok hs r hst
    · exact xRegion_sound hc hr hm hcur.dok hs r hst
  | seq x y ihx ihy =>
    intro st kk p E h a w hs r hst hcur
    refine wpIn_seq (wpIn_mono (ihx st (fun e st' => onNormal e st' (fun st2 => xCode P call round H fn N cur lf y st2 kk) kk) p E h a w hs r hst hcur) fun e a' w' q => ?_)
    exact q.thn fun E' h' st' s r' hst' hs' => wpIn_mono (ihy st' kk p E' h' a' w' hs' r' hst' (hcur.mono s.le)) fun _ _ _ q => q.step s
  | cond x a b iha ihb =>
    intro st kk p E h ac w hs r hst hcur
    have hs1 : ((evalO P.globals.size st.tmps x).onBool (fun b' => cnd b' (xCode P call round H fn N cur lf a st kk) (xCode P call round H fn N cur lf b st kk)) (.fail 206)).sat p h := hs
    have hev := evalO_R r hst.tmps x
    generalize evalO P.globals.size st.tmps x = av at hev hs1
    generalize hv : ac.eval x = v at hev
    cases hev with
    | bool t =>
      refine wpIn_cond hv ?_
      cases t
      · exact ihb st kk p E h ac w hs1 r hst hcur
      · exact iha st kk p E h ac w hs1 r hst hcur
    | _ => exact False.elim hs1
  | block id b ih =>
    intro st kk p E h a w hs r hst hcur
    refine wpIn_block (wpIn_mono (ih st (fun e st' => inBlockK id e st' kk) p E h a w hs r hst hcur) fun e a' w' q => ?_)
    obtain ⟨E', h', xe, st', s, r', hst', hex, hs'⟩ := q
    cases hex with
    | normal => exact ⟨E', h', .normal, st', s, r', hst', .normal, hs'⟩
    | exit i =>
      have hs2 : (cnd (Nat.beq i id) (kk .normal st') (kk (.exit i) st')).sat p h' := hs'
      rcases cnd2_sat hs2 with ⟨hb, hs3⟩ | ⟨hb, hs3⟩
      · show (if i = id then QP P W0 E h N kk p .normal a' w' else QP P W0 E h N kk p (.exit i) a' w')
        rw [if_pos (beq_iff.1 hb)]
        exact ⟨E', h', .normal, st', s, r', hst', .normal, hs3⟩
      · show (if i = id then QP P W0 E h N kk p .normal a' w' else QP P W0 E h N kk p (.exit i) a' w')
        rw [if_neg (fun e => by rw [beq_iff.2 e] at hb; cases hb)]
        exact ⟨E', h', .exit i, st', s, r', hst', .exit i, hs3⟩
    | goto l => exact ⟨E', h', .goto l, st', s, r', hst', .goto l, hs'⟩
    | ret => exact ⟨E', h', .ret, st', s, r', hst', .ret, hs'⟩
    | panic c d hcd => exact ⟨E', h', .panic c, st', s, r', hst', .panic c d hcd, hs'⟩
  | loop b ih =>
    intro st kk p E h a w hs r hst hcur
    have hs1 : (xLoops H fn (xCode P call round H fn N cur lf b) lf st kk).sat p h := hs
    unfold xLoops at hs1
    refine wpIn_loop_rounds lf ?_
    cases hl : H.loop fn with
    | none => rw [hl] at hs1; exact xLoop_sound ih lf st E h a w hs1 r hst hcur (.refl _ _)
    | some jw => rw [hl] at hs1; exact xLoopM_sound ih lf st E h a w hs1 r hst hcur (.refl _ _)
  | rangeFunc g params assign body _ _ => exact fun st kk p E h a w hs r hst hcur => xRange_sound hc hcur hs r hst
  | exit id => exact fun st kk p E h a w hs r hst hcur => wpIn_exit ⟨E, h, .exit id, st, .refl _ _, r, hst, .exit id, hs⟩
  | scope b _ => exact fun st kk p E h a w hs r hst hcur => False.elim hs
  | label l => exact fun st kk p E h a w hs r hst hcur => wpIn_label ⟨E, h, .normal, st, .refl _ _, r, hst, .normal, hs⟩
  | goto l => exact fun st kk p E h a w hs r hst hcur => wpIn_goto ⟨E, h, .goto l, st, .refl _ _, r, hst, .goto l, hs⟩
  | ret => exact fun st kk p E h a w hs r hst hcur => wpIn_ret ⟨E, h, .ret, st, .refl _ _, r, hst, .ret, hs⟩
  | refuse why => exact fun st kk p E h a w hs r hst hcur => False.elim hs
end
end Go.X

namespace Go.X
open Go Go.RowKit

section
variable {P : Program} {W0 : World} {E E0 : Env} {h h0 : Heap} {p : Post} {w : World} {call : CallRec} {round : RoundRec} {N : Nat} {ro : Option Nat} {n : Nat} {kk : KC} {H : Hints} {fn : FuncId} {cur : Option Nat} {lf : Nat}

theorem bindK_len {k : TT → FM} : ∀ (ps : List Tmp) (args : List AV) (t : TT), (bindK N ps args t k).sat p h → ps.length = args.length
  | [], [], t, _ => rfl
  | [], _ :: _, t, hs => False.elim hs
  | _ :: _, [], t, hs => False.elim hs
  | q :: ps, a :: args, t, hs => by
    obtain ⟨_, hs1⟩ := cnd_sat (m := TT.putK q a t fun t' => bindK N ps args t' k) hs
    rw [TT.putK_eq] at hs1
    have := bindK_len ps args _ hs1
    simp [this]
theorem bindK_sat {k : TT → FM} : ∀ (ps : List Tmp) (args : List AV) (vs : List Value) (t : TT) (tmps : Array Value), VRs E args vs → TmpsR E N t tmps → (bindK N ps args t k).sat p h →
    ∃ t', TmpsR E N t' ((ps.zip vs).foldl (fun tmps x => tmps.setIfInBounds x.1 x.2) tmps) ∧ (k t').sat p h
  | [], [], vs, t, tmps, hv, ht, hs => ⟨t, ht, hs⟩
  | [], _ :: _, vs, t, tmps, hv, ht, hs => False.elim hs
  | _ :: _, [], vs, t, tmps, hv, ht, hs => False.elim hs
  | q :: ps, a :: args, _, t, tmps, .cons _ v _ vs hv hvs, ht, hs => by
    obtain ⟨hlt, hs1⟩ := cnd_sat (m := TT.putK q a t fun t' => bindK N ps args t' k) hs
    rw [TT.putK_eq] at hs1
    exact bindK_sat ps args vs _ _ hvs (ht.put (ltb_iff.1 hlt) hv) hs1
theorem FW_inRound (l : Nat) : (FW none).inRound l = FW (some l) := rfl
theorem endRoundK_sound {i l : Nat} {k : KV} (r : Rel P W0 E h w) (hi : E.blk i = some l) (s0 : Stp E0 h0 E h) {xe : XExit} {e : Exit} {a : Act} (hex : ExR E xe e) (hs : (endRoundK i k xe).sat p h) :
    roundPost P l (RetPost P W0 E0 h0 k (fun _ => .fail 0) p) e a w := by
  obtain ⟨o, hg, hs1⟩ := hs
  obtain ⟨lr, eo, hs2⟩ := onLoop_sat hs1
  subst eo
  obtain ⟨b, o, hb, hw, hor⟩ := r.obj _ _ hg
  rw [hi] at hb; cases hb
  cases hor with
  | loop _ rr hstt hpend N2 ht2 hps ha hbd hdd =>
    have fin : ∀ (jump : Option Code) (ls : LSt) (pe : XExit), PendR pe jump → (if jump.isNone then LoopState.ready else LoopState.done) = lsOf ls → (FM.set i (lr.with ls pe) (k (.bool jump.isNone))).sat p h →
        ∃ v w', (Instr.endRound l jump).run P w = .ok v w' ∧ RetPost P W0 E0 h0 k (fun _ => .fail 0) p (.returned v) w' := by
      intro jump ls pe hpe hls hs3
      have r2 := r.set (a1 := lr.with ls pe) (o1 := .loop { rr with state := if jump.isNone then .ready else .done, pending := jump }) hg hi (by rintro (e | ⟨c, e⟩) <;> cases e) (fun es v e => by cases e)
        (.loop ⟨ls, pe, lr.fn, lr.tmps, lr.params, lr.assign, lr.body, lr.defers⟩ _ hls hpe N2 ht2 hps ha hbd hdd)
      exact ⟨_, _, run_endRound jump hw, E, h.put i (some (lr.with ls pe)), .bool jump.isNone, s0.trans ⟨.refl _, fun _ _ h => .inl h, rfl, Nat.le_refl _⟩, r2, .bool _, hs3.2⟩
    cases hex with
    | normal => exact fin none .ready .normal .none rfl hs2
    | exit j => exact fin (some (.exit j)) .done (.exit j) (.exit j) rfl hs2
    | goto j => exact False.elim hs2
    | ret => exact fin (some .ret) .done .ret .ret rfl hs2
    | panic c d hcd => exact False.elim hs2
theorem xRound_sound (hc : CallSound P W0 call) (hr : RoundSound P W0 round) (hm : P.follows .mixedOrders = true) : RoundSound P W0 (xRound P call round H lf) := by
  refine ⟨fun i args k p h hs => ?_, fun i args k p E h w vs l r hs rel hi hv hw hsz n => ?_⟩
  · obtain ⟨o, hg, hs1⟩ := hs
    obtain ⟨lr, eo, hs2⟩ := onLoop_sat hs1
    subst eo
    refine ⟨lr, hg, ?_⟩
    cases hps : lr.params with
    | nil => rw [hps] at hs2; exact False.elim hs2
    | cons N ps => rw [hps] at hs2; simp [bindK_len ps args _ hs2]
  · obtain ⟨o, hg, hs1⟩ := hs
    obtain ⟨lr, eo, hs2⟩ := onLoop_sat hs1
    subst eo
    obtain ⟨b, o, hb, hw1, hor⟩ := rel.obj _ _ hg
    rw [hi] at hb; cases hb
    rw [hw] at hw1; cases hw1
    cases hor with
    | loop _ _ hstt hpend N ht hps ha hbd hdd =>
      rw [hps] at hs2
      have hs3 : (bindK N r.params.toList args lr.tmps fun t => xCode P call (round) H lr.fn N (some i) lf lr.assign ⟨t, [], .na⟩ fun e st => onNormal e st
        (fun st' => .get i fun o' => o'.onLoop (fun r' => LSt.rec (motive := fun _ => FM)
          (.set i (r'.with .busy r'.pending) (xCode P call round H lr.fn N (some i) lf lr.body st' fun e2 _ => endRoundK i k e2)) (.fail 170) (.fail 170) (.fail 170) r'.state) (.fail 171)) (fun _ _ => .fail 172)).sat p h := hs2
      obtain ⟨t, ht2, hs4⟩ := bindK_sat r.params.toList args vs.toList lr.tmps r.tmps hv ht hs3
      have hfold : (r.params.zip vs).foldl (fun tmps (t, a) => tmps.setIfInBounds t a) r.tmps = (r.params.toList.zip vs.toList).foldl (fun tmps x => tmps.setIfInBounds x.1 x.2) r.tmps := by
        rw [← Array.foldl_toList, Array.toList_zip]
      rw [hfold, ha, hbd]
      refine roundIn_of_wpIn trivial ?_
      rw [FW_inRound]
      have hst : StR E N ⟨t, [], .na⟩ { tmps := (r.params.toList.zip vs.toList).foldl (fun tmps x => tmps.setIfInBounds x.1 x.2) r.tmps, defers := [] } := ⟨ht2, .nil⟩
      refine wpIn_mono (xCode_sound (n := n) hc hr hm lr.assign _ _ p E h _ w hs4 rel hst (.inr ⟨i, l, rfl, rfl, hi⟩)) fun e a1 w1 q => ?_
      have q2 := q.thn (K := fun a1 w1 => ∃ w2, (Instr.beginRound l).run P w1 = .ok () w2 ∧ lr.body.wpIn (FW (some l)) n P (roundPost P l (RetPost P W0 E h k (fun _ => .fail 0) p)) a1 w2) fun E' h' st' s rel' hst' hs' => ?_
      · cases e with
        | normal => exact q2
        | _ => obtain ⟨_, _, _, _, _, _, _, _, hf⟩ := q2; exact hf.elim
      · obtain ⟨o', hg', hs5⟩ := hs'
        obtain ⟨lr', eo', hs6⟩ := onLoop_sat hs5
        subst eo'
        have hi' := s.le.blk _ _ hi
        obtain ⟨b, o, hb, hw2, hor⟩ := rel'.obj _ _ hg'
        rw [hi'] at hb; cases hb
        cases hor with
        | loop _ rr' hstt' hpend' N' ht' hps' ha' hbd' hdd' =>
          cases hls : lr'.state with
          | ready =>
            rw [hls] at hs6 hstt'
            have r2 := rel'.set (a1 := lr'.with .busy lr'.pending) (o1 := .loop { rr' with state := .busy }) hg' hi' (by rintro (e | ⟨c, e⟩) <;> cases e) (fun es v e => by cases e)
              (.loop ⟨.busy, lr'.pending, lr'.fn, lr'.tmps, lr'.params, lr'.assign, lr'.body, lr'.defers⟩ _ rfl hpend' N' ht' hps' ha' hbd' hdd')
            refine ⟨_, run_beginRound hw2 hstt', ?_⟩
            have s2 : Stp E h E' (h'.put i (some (lr'.with .busy lr'.pending))) := s.trans ⟨.refl _, fun _ _ h => .inl h, rfl, Nat.le_refl _⟩
            refine wpIn_mono (xCode_sound (n := n) hc hr hm lr.body st' _ p E' _ _ _ hs6.2 r2 hst' (.inr ⟨i, l, rfl, rfl, hi'⟩)) fun e2 a2 w3 q3 => ?_
            obtain ⟨E3, h3, xe, st3, s3, rel3, hst3, hex, hs7⟩ := q3
            exact endRoundK_sound rel3 (s3.le.blk _ _ hi') (s2.trans s3) hex hs7
          | busy => rw [hls] at hs6; exact False.elim hs6
          | done => rw [hls] at hs6; exact False.elim hs6
          | exhausted => rw [hls] at hs6; exact False.elim hs6
end
end Go.X

namespace Go.X
open Go Go.RowKit

section
variable {P : Program} {W0 : World} {E E0 : Env} {h h0 : Heap} {p : Post} {w : World} {call : CallRec} {round : RoundRec} {N : Nat} {n : Nat} {kk : KC} {H : Hints} {lf : Nat}

/-! ### results -/
def resOne (tmps : Array Value) : ResultVar → Sem Value
  | .tmp t => pure (tmps.getD t undef)
  | .cell a t => do loadVar t (← asAddr (tmps.getD a undef))
theorem results_eq (fn : Func) (tmps : Array Value) : results fn tmps = (do
    let vs ← fn.results.toList.mapM (resOne tmps)
    pure (if h : vs.toArray.size = 1 then vs.toArray[0] else .tuple vs.toArray)) := by
  have e : results fn tmps = (do
    let vs ← fn.results.mapM (resOne tmps)
    pure (if h : vs.size = 1 then vs[0] else .tuple vs)) := rfl
  rw [e, Array.mapM_eq_mapM_toList]
  simp only [map_eq_pure_bind, bind_assoc, pure_bind]
theorem resultK_sound (r : Rel P W0 E h w) {t : TT} {a : Array Value} (ht : TmpsR E N t a) {x : ResultVar} {k : KV} (hs : (resultK P t x k).sat p h) : ∃ v av, (resOne a x).run P w = .ok v w ∧ VR E av v ∧ (k av).sat p h := by
  cases x with
  | tmp s =>
    obtain ⟨hlt, hs1⟩ := cnd_sat (show (cnd (ltb s 4096) (k (TT.at s t)) (.fail 208)).sat p h from hs)
    exact ⟨_, _, rfl, ht.at' s (ltb_iff.1 hlt), hs1⟩
  | cell s ty =>
    obtain ⟨hlt, hs1⟩ := cnd_sat (show (cnd (ltb s 4096) ((TT.at s t).onPtr (fun i o => loadC P ty i o k) (.fail 209)) (.fail 208)).sat p h from hs)
    have hv := ht.at' s (ltb_iff.1 hlt)
    generalize t.at s = av at hv hs1
    generalize hav : a.getD s undef = v at hv
    cases hv with
    | ptr i o b x hb hx =>
      obtain ⟨v, av, h1, h2, h3⟩ := loadC_sound r hb (show (loadC P ty i o k).sat p h from hs1)
      subst hx
      exact ⟨v, av, by simp only [resOne, hav, asAddr, Sem.run_bind, Sem.run_pure, Result.andThen_ok]; exact h1, h2, h3⟩
    | _ => exact False.elim hs1
theorem resultsK_sound (r : Rel P W0 E h w) {t : TT} {a : Array Value} (ht : TmpsR E N t a) : ∀ (l : List ResultVar) (k : List AV → FM), (resultsK P t l k).sat p h →
    ∃ vs avs, (l.mapM (resOne a)).run P w = .ok vs w ∧ VRs E avs vs ∧ (k avs).sat p h
  | [], k, hs => ⟨[], [], by simp, .nil, hs⟩
  | x :: l, k, hs => by
    have hs1 : (resultK P t x fun v => resultsK P t l fun vs => k (v :: vs)).sat p h := hs
    obtain ⟨v, av, h1, h2, h3⟩ := resultK_sound r ht hs1
    obtain ⟨vs, avs, h4, h5, h6⟩ := resultsK_sound r ht l _ h3
    exact ⟨v :: vs, av :: avs, by simp [List.mapM_cons, h1, h4], .cons _ _ _ _ h2 h5, h6⟩
theorem results_sound (r : Rel P W0 E h w) {t : TT} {a : Array Value} (ht : TmpsR E N t a) {fn : Func} {k : KV} (hs : (resultsK P t fn.results.toList fun vs => results1 vs k).sat p h) :
    ∃ v av, (results fn a).run P w = .ok v w ∧ VR E av v ∧ (k av).sat p h := by
  obtain ⟨vs, avs, h1, h2, h3⟩ := resultsK_sound r ht _ _ hs
  rw [results_eq]
  simp only [Sem.run_bind, h1, Result.andThen_ok, Sem.run_pure]
  cases h2 with
  | nil => exact ⟨_, _, rfl, .tuple _ _ .nil, h3⟩
  | cons x y l m hx hl =>
    cases hl with
    | nil => exact ⟨y, x, rfl, hx, h3⟩
    | cons x2 y2 l2 m2 hx2 hl2 => exact ⟨.tuple (y :: y2 :: m2).toArray, .tuple (x :: x2 :: l2), rfl, .tuple _ _ (.cons _ _ _ _ hx (.cons _ _ _ _ hx2 hl2)), h3⟩
theorem results_any (r : Rel P W0 E h w) {t : TT} {a : Array Value} (ht : TmpsR E N t a) {fn : Func} {m : FM} (hs : (resultsK P t fn.results.toList fun _ => m).sat p h) :
    ∃ v, (results fn a).run P w = .ok v w ∧ m.sat p h := by
  obtain ⟨vs, avs, h1, h2, h3⟩ := resultsK_sound r ht _ _ hs
  rw [results_eq]
  simp only [Sem.run_bind, h1, Result.andThen_ok, Sem.run_pure]
  exact ⟨_, rfl, h3⟩

/-! ### arguments -/
theorem targs_sat {k : TT → FM} : ∀ (args : List AV) (vs : List Value) (i : Nat) (t : TT) (a : Array Value), VRs E args vs → TmpsR E N t a → i + args.length ≤ N → (TT.args args i t k).sat p h →
    ∃ t' a', TmpsR E N t' a' ∧ (k t').sat p h ∧ a'.size = a.size ∧ (∀ j, j < i → a'[j]? = a[j]?) ∧ (∀ j v, vs[j]? = some v → a'[i + j]? = some v) ∧ ∀ j, i + args.length ≤ j → a'[j]? = a[j]?
  | [], _, i, t, a, .nil, ht, _, hs => ⟨t, a, ht, hs, rfl, fun _ _ => rfl, fun _ _ e => by simp at e, fun _ _ => rfl⟩
  | x :: args, _, i, t, a, .cons _ v _ vs hv hvs, ht, hlen, hs => by
    have hs1 : (TT.putK i x t fun t' => TT.args args (i + 1) t' k).sat p h := hs
    rw [TT.putK_eq] at hs1
    simp only [List.length_cons] at hlen
    have hsz := ht.size
    obtain ⟨t', a', h1, h2, h3, h4, h5, h6⟩ := targs_sat args vs (i + 1) _ _ hvs (ht.put (s := i) (by omega) hv) (by omega) hs1
    refine ⟨t', a', h1, h2, by rw [h3, Array.size_setIfInBounds], fun j hj => ?_, fun j u hu => ?_, fun j hj => ?_⟩
    · rw [h4 j (by omega), Array.getElem?_setIfInBounds_ne (by omega)]
    · cases j with
      | zero =>
        simp only [List.getElem?_cons_zero, Option.some.injEq] at hu
        subst hu
        rw [Nat.add_zero, h4 i (by omega), Array.getElem?_setIfInBounds_self_of_lt (by omega)]
      | succ j =>
        rw [List.getElem?_cons_succ] at hu
        have := h5 j u hu
        rw [show i + (j + 1) = i + 1 + j by omega]; exact this
    · simp only [List.length_cons] at hj
      rw [h6 j (by omega), Array.getElem?_setIfInBounds_ne (by omega)]
theorem undefs_TmpsR (hN : N ≤ 4096) : TmpsR E N TT.undef (Array.replicate N undef) := ⟨by simp, hN, fun s _ => by
  rw [TT.at_undef]
  have : (Array.replicate N undef).getD s undef = undef := by
    rw [Array.getD_eq_getD_getElem?, Array.getElem?_replicate]
    by_cases e : s < N <;> simp [e]
  rw [this]
  exact .tuple _ _ .nil⟩
theorem argsK_sat {args : List AV} {vs : Array Value} {k : TT → FM} (hv : VRs E args vs.toList) (hs : (argsK N args k).sat p h) : ∃ t, TmpsR E N t (vs ++ Array.replicate (N - vs.size) undef) ∧ (k t).sat p h := by
  obtain ⟨hN, hs1⟩ := cnd_sat (show (cnd (Nat.ble N 4096) (lenK args Nat.zero fun n => cnd (Nat.ble n N) (TT.args args Nat.zero TT.undef k) (.fail 165)) (.fail 164)).sat p h from hs)
  rw [lenK0] at hs1
  obtain ⟨hl, hs2⟩ := cnd_sat hs1
  have hN2 := Nat.le_of_ble_eq_true hN
  have hl2 := Nat.le_of_ble_eq_true hl
  have hlen := hv.length
  obtain ⟨t', a', h1, h2, h3, _, h5, h6⟩ := targs_sat args vs.toList 0 TT.undef (Array.replicate N undef) hv (undefs_TmpsR hN2) (by omega) hs2
  refine ⟨t', ?_, h2⟩
  have hvs : vs.size = args.length := by rw [← hlen]; simp
  have e : a' = vs ++ Array.replicate (N - vs.size) undef := by
    apply Array.ext_getElem?
    intro j
    rcases Nat.lt_or_ge j vs.size with hj | hj
    · rw [Array.getElem?_append_left hj]
      have := h5 j vs[j] (by rw [Array.getElem?_toList]; simp [hj])
      rw [Nat.zero_add] at this
      rw [this]; simp [hj]
    · rw [h6 j (by omega), Array.getElem?_append_right hj, Array.getElem?_replicate, Array.getElem?_replicate]
      by_cases e : j < N
      · rw [if_pos e, if_pos (by omega)]
      · rw [if_neg e, if_neg (by omega)]
  rw [← e]; exact h1
end
end Go.X

namespace Go.X
open Go Go.RowKit

section
variable {P : Program} {W0 : World} {E E0 : Env} {h h0 : Heap} {p : Post} {w : World} {call : CallRec} {round : RoundRec} {N : Nat} {n : Nat} {kk : KC} {H : Hints} {lf : Nat}

/-! ### deferred calls -/
inductive MR (E : Env) : AMode → FrameMode → Prop
  | returning : MR E .returning .returning
  | panicking (ch : Chain) (d : List PanicEntry) (h : ChR E ch d) : MR E (.panicking ch) (.panicking d)
theorem MR.mono {E' : Env} (le : E.Le E') {u : AMode} {m : FrameMode} (h : MR E u m) : MR E' u m := by
  cases h with
  | returning => exact .returning
  | panicking ch d hc => exact .panicking _ _ (hc.mono le)
theorem MR.run {u : AMode} {m : FrameMode} (h : MR E u m) : m ≠ .run := by cases h <;> simp
theorem ChR.append {a b : Chain} {c d : List PanicEntry} (h : ChR E a c) (k : ChR E b d) : ChR E (a ++ b) (c ++ d) := by
  induction h with
  | nil => exact k
  | cons a b v l m h _ ih => exact .cons _ _ _ _ _ h ih
theorem ChR.drop {a : Chain} {d : List PanicEntry} (h : ChR E a d) : d.dropWhile (fun e => !e.goexit) = [] := by
  induction h with
  | nil => rfl
  | cons a b v l m h _ ih => rw [List.dropWhile_cons]; simpa using ih
theorem MR.settle {u : AMode} {m : FrameMode} (h : MR E u m) : MR E (settleA u) (Go.settle m) := by
  cases h with
  | returning => exact .returning
  | panicking ch d hc =>
    cases hc with
    | nil => exact .panicking _ _ .nil
    | cons a b v l m hv ht =>
      cases b with
      | false => exact .panicking _ _ (.cons _ _ _ _ _ hv ht)
      | true =>
        have e : Go.settle (.panicking ({ v := v, recovered := true } :: m)) = .returning := by
          simp only [Go.settle, ht.drop]
        rw [e]; exact .returning
theorem MR.raised {u : AMode} {m : FrameMode} (h : MR E u m) {ch : Chain} {d : List PanicEntry} (hc : ChR E ch d) : MR E (raisedA u ch) (Go.raised m d) := by
  cases h with
  | returning => exact .panicking _ _ hc
  | panicking c2 d2 hc2 => exact .panicking _ _ (hc.append hc2)
theorem noDefers_sat {l : List ADef} {m : FM} (hs : (noDefers l m).sat p h) : l = [] ∧ m.sat p h := by
  cases l with
  | nil => exact ⟨rfl, hs⟩
  | cons a l => exact False.elim hs
def DPost (K : FrameMode → World → Prop) : Ending → FrameMode → World → Prop
  | .returned _, u', w' => K (Go.settle u') w'
  | .panicked chain, u', w' => K (Go.raised u' chain) w'
  | .outgrown, _, _ => False
theorem doneD_sound {fn : Func} {u : AMode} {k : AMode → FM} {K : FrameMode → World → Prop} {e : Exit} {a : Act} {c0 : Frame} {cs : List Frame} {m : FrameMode} (hm : MR E u m)
    (hK : ∀ E' h' au m' w', Stp E h E' h' → Rel P W0 E' h' w' → MR E' au m' → (k au).sat p h' → K m' w') (q : QP P W0 E h N (doneD P fn u k) p e a w) : bodyPostS P fn c0 cs (DPost K) e a ({ c0 with mode := m } :: cs) w := by
  obtain ⟨E', h', xe, st', s, r, hst, hex, hs⟩ := q
  obtain ⟨hd, hs1⟩ := noDefers_sat hs
  have hdef : a.defers = [] := by
    have := hst.defers
    rw [hd] at this
    generalize a.defers = dd at this
    cases this with
    | nil => rfl
  have hm' := hm.mono s.le
  cases hex with
  | normal =>
    obtain ⟨v, h1, h2⟩ := results_any r hst.tmps (show (resultsK P st'.tmps fn.results.toList fun _ => k (settleA u)).sat p h' from hs1)
    exact ⟨hdef, m, rfl, v, h1, hK _ _ _ _ _ s r hm'.settle h2⟩
  | exit i => exact False.elim hs1
  | goto l => exact False.elim hs1
  | ret =>
    obtain ⟨v, h1, h2⟩ := results_any r hst.tmps (show (resultsK P st'.tmps fn.results.toList fun _ => k (settleA u)).sat p h' from hs1)
    exact ⟨hdef, m, rfl, v, h1, hK _ _ _ _ _ s r hm'.settle h2⟩
  | panic c d hcd => exact ⟨hdef, m, rfl, hK _ _ _ _ _ s r (hm'.raised hcd) hs1⟩
theorem recOp_spec {o : Oper} {d : Option Tmp} (hd : recOp o = some d) : o.guard = none ∧ (∃ cl, o.op = .call cl ∧ cl.callee = .builtin .recover) ∧ o.dst = d := by
  unfold recOp at hd
  split at hd
  · rename_i hg ho2
    split at hd
    · rename_i hcl
      cases hd
      exact ⟨hg, ⟨_, ho2, hcl⟩, rfl⟩
    · cases hd
  · cases hd
theorem recOf_spec {c : Code} {dst : Option Tmp} {ops : Array Oper} {os : List Oper} {rest : Code} (h : recOf c = some (dst, ops, os, rest)) :
    ∃ id o, c = .seq (.region id ops false) rest ∧ recOp o = some dst ∧ ops.toList = o :: os := by
  unfold recOf at h
  split at h
  · rename_i id ops r
    split at h
    · rename_i o os' ho
      split at h
      · rename_i d hd
        simp only [Option.some.injEq, Prod.mk.injEq] at h
        obtain ⟨e1, e2, e3, e4⟩ := h
        subst e1; subst e2; subst e3; subst e4
        exact ⟨id, o, rfl, hd, ho⟩
      · cases h
    · cases h
  · cases h
/-- a region that begins with recover: what stands behind it in the region goes with the frames as they are then -/
theorem wpSIn_recover {F : Fence} {id : Nat} {ops : Array Oper} {o : Oper} {l : List Nat} {a : Act} {cs : List Frame} {w : World} {Q : Exit → Act → List Frame → World → Prop} (hro : F.round = none) (hl : List.range ops.size = 0 :: l) (h0 : ops[0]? = some o)
    (hw : Region.wanted o (yielded ops a.tmps) = true) (hex : (execOp a.eval o).run P w = .ok .recover w) (habout : ∀ f, o.about P w a.eval = some f → F.fn f)
    (h : ∃ v cs', (recoverD cs = some (v, cs') ∨ (recoverD cs = none ∧ v = .nilIface ∧ cs' = cs)) ∧ ∃ Q1, wpOpsIn F n P ops Q1 l (a.put o.dst v) w ∧ ∀ e a' w', Q1 e a' w' → Q e a' cs' w') : (Code.region id ops false).wpSIn F n P Q a cs w := by
  intro b k hb hr hF hroom
  have hk : (b.atR a (.inRegion ops (0 :: l) :: k)).kind = .deferred := hb
  have h1 : (lone (b.atR a (.inRegion ops (0 :: l) :: k)) cs w).fenced P F := fenced_oper hF hroom h0 habout
  have hg := stepGR_op (P := P) (b := b) (k := k) (cs := cs) (w := w) (rest := l) h0 hw
  rw [hr, Oper.semAt_none] at hg
  have hfin : ∀ v, (b.atR a (.inRegion ops (0 :: l) :: k)).finish v = b.atR (a.put o.dst v) (.inRegion ops l :: k) := by
    intro v; rw [Frame.finish_atR, h0]; rfl
  have htr := tryRecover_deferred hk cs
  obtain ⟨v, cs', hrec, Q1, hw1, hq1⟩ := h
  have hlen : cs'.length = cs.length := by
    rcases hrec with hrec | ⟨_, _, e⟩
    · exact recoverD_length hrec
    · rw [e]
  obtain ⟨e, a', w', hq, harr⟩ := wp_opsIn _ _ _ hw1 b k cs' (hr.trans hro.symm) hF (hlen ▸ hroom)
  refine ⟨e, a', cs', w', hlen, hq1 _ _ _ hq, .of_steps (.one (fenced_calm hF hroom rfl) stepR_region) ?_⟩
  rw [hl]
  refine .of_steps (.one h1 (step_lone_go ?_)) harr
  rcases hrec with hrec | ⟨hrec, e1, e2⟩
  · rw [hg, ← hfin]
    simp only [Frame.atR, hr] at htr ⊢
    simp [stepG.apply, hex, htr, hrec]
  · subst e1; subst e2
    rw [hg, ← hfin]
    simp only [Frame.atR, hr] at htr ⊢
    simp [stepG.apply, hex, htr, hrec]
theorem recoverK_sound {u : AMode} {m : FrameMode} (hm : MR E u m) {k : AV → AMode → FM} (hs : (recoverK u k).sat p h) (c0 : Frame) (cs : List Frame) (hc0 : c0.mode = m) :
    ∃ v av u' m', VR E av v ∧ MR E u' m' ∧ (k av u').sat p h ∧ (recoverD (c0 :: cs) = some (v, { c0 with mode := m' } :: cs) ∨ (recoverD (c0 :: cs) = none ∧ v = .nilIface ∧ m' = m)) := by
  cases hm with
  | returning => exact ⟨.nilIface, .nilIface, .returning, .returning, .nilIface, .returning, hs, .inr ⟨by simp [recoverD, hc0], rfl, rfl⟩⟩
  | panicking ch d hc =>
    cases hc with
    | nil => exact ⟨.nilIface, .nilIface, .panicking [], .panicking [], .nilIface, .panicking _ _ .nil, hs, .inr ⟨by simp [recoverD, hc0], rfl, rfl⟩⟩
    | cons a b v l m hv ht =>
      cases b with
      | true => exact ⟨.nilIface, .nilIface, _, _, .nilIface, .panicking _ _ (.cons _ _ _ _ _ hv ht), hs, .inr ⟨by simp [recoverD, hc0], rfl, rfl⟩⟩
      | false => exact ⟨v, a, _, .panicking ({ v := v, recovered := true } :: m), hv, .panicking _ _ (.cons _ true _ _ _ hv ht), hs, .inl (by simp [recoverD, hc0])⟩
theorem xDefer_sound (hc : CallSound P W0 call) (hr : RoundSound P W0 round) (hmo : P.follows .mixedOrders = true) {f : FuncId} {args : List AV} {vs : Array Value} {u : AMode} {m : FrameMode} {k : AMode → FM} {K : FrameMode → World → Prop}
    (hs : (xDefer P call round H lf f args u k).sat p h) (r : Rel P W0 E h w) (hv : VRs E args vs.toList) (hm : MR E u m)
    (hK : ∀ E' h' au m' w', Stp E h E' h' → Rel P W0 E' h' w' → MR E' au m' → (k au).sat p h' → K m' w') : bodied P f = true ∧ CallsDIn (FW none) n P f vs m w (DPost K) := by
  obtain ⟨hb, hs1⟩ := cnd_sat (show (cnd (bodied P f) (optM P.funcs[f]? (.fail 160) fun fn => optM fn.body (.fail 160) fun c => argsK fn.ntmps args fun t =>
    Option.rec (motive := fun _ => FM) (xCode P call round H f fn.ntmps none lf c ⟨t, [], .na⟩ (doneD P fn u k))
      (fun dr => recoverK u fun v u' => putDst fn.ntmps dr.1 v ⟨t, [], .na⟩ fun st => xOps P call round fn.ntmps true dr.2.1 dr.2.2.1 st (fun st' => xCode P call round H f fn.ntmps none lf dr.2.2.2 st' (doneD P fn u' k)) (fun st' ch => doneD P fn u' k (.panic ch) st')) (recOf c)) (.fail 193)).sat p h from hs)
  refine ⟨hb, ?_⟩
  obtain ⟨fn, hf, hs2⟩ := optM_sat hs1
  obtain ⟨c, hbo, hs3⟩ := optM_sat hs2
  obtain ⟨t, ht, hs4⟩ := argsK_sat hv hs3
  have hst : StR E fn.ntmps ⟨t, [], .na⟩ { tmps := vs ++ Array.replicate (fn.ntmps - vs.size) undef, defers := [] } := ⟨ht, .nil⟩
  refine callsDIn_of_wpSIn hf hbo trivial fun c0 cs hc0 => ?_
  have hself : ({ c0 with mode := m } : Frame) = c0 := by subst hc0; rfl
  cases hrec : recOf c with
  | none =>
    rw [hrec] at hs4
    refine wpSIn_of_wpIn rfl (wpIn_mono (xCode_sound (n := n) hc hr hmo c _ _ p E h _ w hs4 r hst (.inl ⟨rfl, rfl⟩)) fun e a w' q => ?_)
    have := doneD_sound (c0 := c0) (cs := cs) hm hK q
    rw [hself] at this
    exact this
  | some dr =>
    obtain ⟨dst, ops, os, rest⟩ := dr
    rw [hrec] at hs4
    obtain ⟨id, o, ec, hro, hops⟩ := recOf_spec hrec
    obtain ⟨hg, ⟨cl, hop, hcl⟩, hdst⟩ := recOp_spec hro
    subst ec
    obtain ⟨v, av, u', m', hv', hm', hs5, hrd⟩ := recoverK_sound hm hs4 c0 cs hc0
    obtain ⟨st', hst', hs6⟩ := putDst_sat hs5 hst hv'
    have hs6 : (xOps P call round fn.ntmps true ops os st' (fun st2 => xCode P call round H f fn.ntmps none lf rest st2 (doneD P fn u' k)) (fun st2 ch => doneD P fn u' k (.panic ch) st2)).sat p h := hs6
    refine wpSIn_seq (wpSIn_recover (o := o) (l := List.range' 1 os.length) rfl ?_ ?_ ?_ ?_ (fun _ _ => trivial) ⟨v, ({ c0 with mode := m' } : Frame) :: cs, ?_, ?_⟩)
    · rw [← Array.length_toList, hops, List.length_cons, List.range_eq_range', List.range'_succ]
    · rw [← Array.getElem?_toList, hops]; rfl
    · simp [Region.wanted, hg]
    · simp [execOp, hop, resolve, hcl, invoke, builtin]
    · rcases hrd with hrd | ⟨hrd, e1, e2⟩
      · exact .inl hrd
      · subst e2; rw [hself]; exact .inr ⟨hrd, e1, rfl⟩
    · have hx := xOps_sound (kk := fun e st => onNormal e st (fun st2 => xCode P call round H f fn.ntmps none lf rest st2 (doneD P fn u' k)) (doneD P fn u' k)) (n := n) (ro := none) hc hr (dok := true) (fun _ => rfl) os 1 (by rw [hops]; rfl) st' _ E h w hs6 r hst' (Stp.refl _ _)
      rw [hdst]
      refine ⟨_, hx, fun e a' w' q => ?_⟩
      obtain ⟨E', h', xe, st2, s, r2, hst2, hex, hsat⟩ := q
      have tail : ∀ e, (doneD P fn u' k xe st2).sat p h' → ExR E' xe e → bodyPostS P fn c0 cs (DPost K) e a' ({ c0 with mode := m' } :: cs) w' := fun e hd hx => doneD_sound (c0 := c0) (cs := cs) hm' hK ⟨E', h', xe, st2, s, r2, hst2, hx, hd⟩
      cases hex with
      | normal =>
        have hs7 : (xCode P call round H f fn.ntmps none lf rest st2 (doneD P fn u' k)).sat p h' := hsat
        exact wpSIn_of_wpIn rfl (wpIn_mono (xCode_sound (n := n) hc hr hmo rest _ _ p E' h' _ w' hs7 r2 hst2 (.inl ⟨rfl, rfl⟩)) fun e a w' q => doneD_sound (c0 := c0) (cs := cs) (hm'.mono s.le) (fun E2 h2 au m2 w2 s2 r3 hm2 hk2 => hK E2 h2 au m2 w2 (s.trans s2) r3 hm2 hk2) q)
      | exit i => exact tail _ hsat (.exit i)
      | goto l => exact tail _ hsat (.goto l)
      | ret => exact tail _ hsat .ret
      | panic c d hcd => exact tail _ hsat (.panic c d hcd)
end
end Go.X

namespace Go.X
open Go Go.RowKit

section
variable {P : Program} {W0 : World} {E E0 : Env} {h h0 : Heap} {p : Post} {w : World} {call : CallRec} {round : RoundRec} {N : Nat} {n : Nat} {kk : KC} {H : Hints} {lf : Nat}

theorem run_callFunc_bodied {f : FuncId} (hb : bodied P f = true) (vs : Array Value) (w : World) : (callFunc f vs).run P w = .ok (.enter f vs) w := by
  unfold bodied at hb
  cases hfn : P.funcs[f]? with
  | none => rw [hfn] at hb; cases hb
  | some gn =>
    rw [hfn] at hb
    simp only [Bool.and_eq_true, Bool.not_eq_true'] at hb
    have hh1 : gn.name ≠ "runtime.NumGoroutine" := by simpa using hb.2
    cases hbo : gn.body with
    | none => rw [hbo] at hb; simp at hb
    | some c => simp [callFunc, hfn, hh1, hbo]
theorem xDefers_sound (hc : CallSound P W0 call) (hr : RoundSound P W0 round) (hmo : P.follows .mixedOrders = true) {fn : Func} {tmps : Array Value} {t : TT} {k : KV} {kp : Chain → FM} :
    ∀ (ds : List ADef) (cs : List Deferred) (u : AMode) (m : FrameMode) (E : Env) (h : Heap) (w : World), DRs E ds cs → MR E u m → Rel P W0 E h w → TmpsR E N t tmps → Stp E0 h0 E h →
    (xDefers P call round H lf ds u (endK P fn t k kp)).sat p h → LeavesInM (FW none) n P fn tmps (RetPost P W0 E0 h0 k kp p) cs m w
  | [], _, u, m, E, h, w, .nil, hm, r, ht, s0, hs => by
    have hs1 : (endK P fn t k kp u).sat p h := hs
    cases hm with
    | returning =>
      obtain ⟨v, av, h1, h2, h3⟩ := results_sound r ht (show (resultsK P t fn.results.toList fun vs => results1 vs k).sat p h from hs1)
      exact ⟨v, h1, E, h, av, s0, r, h2, h3⟩
    | panicking ch d hcd => exact ⟨E, h, ch, s0, r, hcd, hs1⟩
  | a :: ds, _, u, m, E, h, w, .cons _ d _ cs hd hds, hm, r, ht, s0, hs => by
    refine ⟨hm.run, ?_⟩
    cases hd with
    | mark i b hb =>
      left
      have hs1 : (FM.get i fun o => o.onDeferred (fun l => noDefers l (.set i .tomb (xDefers P call round H lf ds u (endK P fn t k kp)))) (.fail 192)).sat p h := hs
      obtain ⟨o, hg, hs2⟩ := hs1
      obtain ⟨b', ob, hb', hw, hor⟩ := r.obj _ _ hg
      rw [hb] at hb'; cases hb'
      cases hor with
      | deferred l cs2 hl =>
        obtain ⟨e, hs3⟩ := noDefers_sat (show (noDefers l (.set i .tomb (xDefers P call round H lf ds u (endK P fn t k kp)))).sat p h from hs2)
        subst e
        cases hl with
        | nil =>
          have r2 := r.set (a1 := .tomb) (o1 := .deferred none) hg hb (by rintro (e | ⟨c, e⟩) <;> cases e) (fun es v e => by cases e) (.tomb _)
          have s2 : Stp E h E (h.put i (some .tomb)) := ⟨.refl _, fun _ _ h => .inl h, rfl, Nat.le_refl _⟩
          exact ⟨b, _, rfl, run_takeDeferred hw, xDefers_sound hc hr hmo ds cs u m E _ _ hds hm r2 ht (s0.trans s2) hs3.2⟩
      | _ => exact False.elim hs2
    | fn f l cap args hl =>
      right
      have hs1 : (xDefer P call round H lf f l u fun u' => xDefers P call round H lf ds u' (endK P fn t k kp)).sat p h := hs
      obtain ⟨hb, hcd⟩ := xDefer_sound (n := n - 1) hc hr hmo hs1 r hl hm (K := fun m' w' => LeavesInM (FW none) n P fn tmps (RetPost P W0 E0 h0 k kp p) cs m' w') fun E' h' au m' w' s r' hm' hs' =>
        xDefers_sound hc hr hmo ds cs au m' E' h' w' (hds.mono s.le) hm' r' (ht.mono s.le) (s0.trans s) hs'
      have hdep : (FW none).depth.isSome = true → 1 ≤ n := fun h => by cases h
      refine ⟨hdep, .func f, cap, f, args ++ cap, rfl, ?_, fun _ _ => trivial, hcd.mono fun e u' w' he => ?_⟩
      · show (invoke (.fn (.func f) cap) args).run P w = _
        simp only [invoke]
        exact run_callFunc_bodied hb _ _
      · cases e with
        | returned v => exact he
        | panicked c => exact he
        | outgrown => exact he.elim
theorem xBody_sound (hc : CallSound P W0 call) (hr : RoundSound P W0 round) (hmo : P.follows .mixedOrders = true) : CallSound P W0 (xBody P H lf call round) := by
  intro f args k kp p E h w vs hb hs r hv
  obtain ⟨fn, hf, hs2⟩ := optM_sat (show (optM P.funcs[f]? (.fail 160) fun fn => optM fn.body (.fail 160) fun c => argsK fn.ntmps args fun t => xCode P call round H f fn.ntmps none lf c ⟨t, [], .na⟩ (leaveK P call round H lf fn k kp)).sat p h from hs)
  obtain ⟨c, hbo, hs3⟩ := optM_sat hs2
  obtain ⟨t, ht, hs4⟩ := argsK_sat hv hs3
  have hst : StR E fn.ntmps ⟨t, [], .na⟩ { tmps := vs ++ Array.replicate (fn.ntmps - vs.size) undef, defers := [] } := ⟨ht, .nil⟩
  have key : CallsIn (FW none) 0 P f vs w (RetPost P W0 E h k kp p) := by
    refine callsIn_of_wp_marks hf hbo trivial (wpIn_mono (xCode_sound (n := 0) hc hr hmo c _ _ p E h _ w hs4 r hst (.inl ⟨rfl, rfl⟩)) fun e a w' q => ?_)
    obtain ⟨E', h', xe, st', s, r', hst', hex, hs'⟩ := q
    cases hex with
    | normal => exact xDefers_sound hc hr hmo _ _ .returning .returning E' h' w' hst'.defers .returning r' hst'.tmps s hs'
    | exit i => exact False.elim hs'
    | goto l => exact False.elim hs'
    | ret => exact xDefers_sound hc hr hmo _ _ .returning .returning E' h' w' hst'.defers .returning r' hst'.tmps s hs'
    | panic c d hcd => exact xDefers_sound hc hr hmo _ _ (.panicking c) (.panicking d) E' h' w' hst'.defers (.panicking _ _ hcd) r' hst'.tmps s hs'
  exact callsIn_FW.1 key

/-! ### ways joined -/
theorem Calls.imp {f : FuncId} {vs : Array Value} {R R' : Ending → World → Prop} (h : Calls P f vs w R) (hr : ∀ e w', R e w' → R' e w') : Calls P f vs w R' := Calls.mono h hr
theorem joined_sound (hc : CallSound P W0 call) : CallSound P W0 (joined call) := by
  intro f args k kp p E h w vs hb hs r hv
  refine Calls.mono (hc f args (fun v => .ret (.val v)) (fun ch => .ret (.pan ch .na)) _ E h w vs hb hs r hv) fun e w' he => ?_
  cases e with
  | returned v => exact he
  | panicked c => exact he
  | outgrown => exact he
theorem tombs_sound {av : AV} {m : FM} (hw : 0 < w.heap.size) : ∀ (c : Nat) (E : Env) (h : Heap), Stp E0 h0 E h → Rel P W0 E h w → (gcK h0.next av c m).sat p h → ∃ E' h', Stp E0 h0 E' h' ∧ E.Le E' ∧ Rel P W0 E' h' w ∧ m.sat p h'
  | 0, E, h, s0, r, hs => ⟨E, h, s0, .refl _, r, hs⟩
  | c + 1, E, h, s0, r, hs => by
    have hs1 : (cnd (ownOf av (Nat.add h0.next c)) (gcK h0.next av c m) (forceNat (Nat.add h0.next c) fun i => .set i .tomb (gcK h0.next av c m))).sat p h := hs
    rcases cnd2_sat hs1 with ⟨_, hs2⟩ | ⟨_, hs2⟩
    · exact tombs_sound hw c E h s0 r hs2
    · rw [forceNat_eq] at hs2
      obtain ⟨hlt, hs3⟩ := hs2
      have hi : h0.next + c < h.next := hlt
      have ht : h.inf = true ∨ h0.next + c < top := r.lim.elim .inl fun l => r.room.imp id fun q => by omega
      have hl : h0.fr (h0.next + c) := (fr_iff s0.lim _).1 (r.room.imp id fun hr => by omega)
      cases hb : E.blk (h0.next + c) with
      | some b => exact tombs_sound hw c E (h.put (h0.next + c) (some .tomb)) ⟨s0.le, s0.new, s0.lim, s0.next⟩ (r.tombB ht hb) hs3
      | none =>
        have le := Env.add_le hb 0 0 0
        have s1 : Stp E0 h0 (E.add (h0.next + c) 0 0 0) (h.put (h0.next + c) (some .tomb)) := ⟨s0.le.trans le, fun i b hib => (Env.add_inv hib).elim (fun e => .inr ⟨by omega, by rw [e.1]; exact hl⟩) (fun e => s0.new i b e.2), s0.lim, s0.next⟩
        obtain ⟨E', h', a1, a2, a3, a4⟩ := tombs_sound hw c _ _ s1 (r.tombs hi hb hw) hs3
        exact ⟨E', h', a1, le.trans a2, a3, a4⟩
theorem joinedG_sound (hW : 0 < W0.heap.size) (hc : CallSound P W0 call) : CallSound P W0 (joinedG call) := by
  intro f args k kp p E h w vs hb hs r hv
  refine Calls.mono (hc f args (fun v => .here fun b => gcK h.next v (Nat.sub b h.next) (.ret (.val v))) (fun ch => .ret (.pan ch .na)) _ E h w vs hb hs r hv) fun e w' he => ?_
  cases e with
  | returned v =>
    obtain ⟨E', h', av, s, r', hv', hs'⟩ := he
    have hw : 0 < w'.heap.size := Nat.lt_of_lt_of_le hW r'.below.size
    obtain ⟨E2, h2, s2, le, r2, hs2⟩ := tombs_sound hw _ E' h' s r' hs'
    exact ⟨E2, h2, av, s2, r2, hv'.mono le, hs2⟩
  | panicked c => exact he
  | outgrown => exact he

/-! ### all levels -/
/-- what is said of functions' summaries -/
def SumsSound (P : Program) (W0 : World) (sums : Sums) : Prop := ∀ f s, sums f = some s → ∀ args (k : KV) (kp : Chain → FM) p E h w (vs : Array Value), bodied P f = true → (s args k kp).sat p h → Rel P W0 E h w → VRs E args vs.toList → Calls P f vs w (RetPost P W0 E h k kp p)
theorem xLevel_sound {sums : Sums} (hsum : SumsSound P W0 sums) (hW : 0 < W0.heap.size ∨ ∀ f, H.join f ≤ 1) (hc : CallSound P W0 call) (hr : RoundSound P W0 round) (hmo : P.follows .mixedOrders = true) : CallSound P W0 (xLevel P H sums lf call round) := by
  intro f args k kp p E h w vs hb hs r hv
  have hbody := xBody_sound (H := H) (lf := lf) hc hr hmo
  have hs1 : (Option.rec (motive := fun _ => FM) (cnd (cnd (Nat.beq (H.join f) 3) true (Nat.beq (H.join f) 0)) (xBody P H lf call round f args k kp) (cnd (Nat.beq (H.join f) 1) (joined (xBody P H lf call round) f args k kp) (joinedG (xBody P H lf call round) f args k kp))) (fun s => s args k kp) (sums f)).sat p h := hs
  cases hsf : sums f with
  | some s =>
    rw [hsf] at hs1
    exact hsum f s hsf args k kp p E h w vs hb hs1 r hv
  | none =>
    rw [hsf] at hs1
    rcases cnd2_sat hs1 with ⟨_, hs2⟩ | ⟨h0', hs2⟩
    · exact hbody f args k kp p E h w vs hb hs2 r hv
    · rcases cnd2_sat hs2 with ⟨_, hs3⟩ | ⟨h1', hs3⟩
      · exact joined_sound hbody f args k kp p E h w vs hb hs3 r hv
      · refine joinedG_sound ?_ hbody f args k kp p E h w vs hb hs3 r hv
        rcases hW with hW | hW
        · exact hW
        · exfalso
          have := hW f
          have n0 : H.join f ≠ 0 := fun e => by rw [e] at h0'; exact absurd h0' (by decide)
          have n1 : H.join f ≠ 1 := fun e => by rw [e] at h1'; cases h1'
          omega
theorem xCR_sound {sums : Sums} (hsum : SumsSound P W0 sums) (hW : 0 < W0.heap.size ∨ ∀ f, H.join f ≤ 1) (hmo : P.follows .mixedOrders = true) : ∀ n, CallSound P W0 (xCR P H sums lf n).call ∧ RoundSound P W0 (xCR P H sums lf n).round
  | 0 => ⟨fun f args k kp p E h w vs hb hs r hv => False.elim hs, fun i args k p h hs => False.elim hs, fun i args k p E h w vs l r hs => False.elim hs⟩
  | n + 1 =>
    have ih := xCR_sound hsum hW hmo n
    ⟨xLevel_sound hsum hW ih.1 ih.2 hmo, xRound_sound ih.1 ih.2 hmo⟩
/-- a run all of whose outcomes are good -/
theorem xCall_sound {sums : Sums} (hsum : SumsSound P W0 sums) (hW : 0 < W0.heap.size ∨ ∀ f, H.join f ≤ 1) (hmo : P.follows .mixedOrders = true) {n : Nat} {f : FuncId} {args : List AV} {vs : Array Value} (hb : bodied P f = true)
    (hs : (xCall P H sums lf n f args).sat p h) (r : Rel P W0 E h w) (hv : VRs E args vs.toList) :
    Calls P f vs w fun e w' => ∃ v E' h' av, e = .returned v ∧ Stp E h E' h' ∧ Rel P W0 E' h' w' ∧ VR E' av v ∧ p (.val av) h' := by
  refine Calls.mono ((xCR_sound hsum hW hmo n).1 f args _ _ p E h w vs hb hs r hv) fun e w' he => ?_
  cases e with
  | returned v =>
    obtain ⟨E', h', av, s, r', hv', hs'⟩ := he
    exact ⟨v, E', h', av, rfl, s, r', hv', hs'⟩
  | panicked c => obtain ⟨_, _, _, _, _, _, hf⟩ := he; exact hf.elim
  | outgrown => exact he.elim
end
end Go.X

namespace Go.X
open Go Go.RowKit

/-! ### a closed law -/
noncomputable def resB (r : Res) : Bool := Res.rec (motive := fun _ => Bool) (fun v => eqAV v (.bool true)) (fun _ _ => false) (fun _ _ => false) (fun _ _ => false) r
noncomputable def allTrue (o : Out) : Bool := Out.rec (motive := fun _ => Bool) (fun _ => false) (fun l _ => List.rec (motive := fun _ => Bool) true (fun x _ ih => cnd (resB x.1) ih false) l) o
theorem resB_spec {r : Res} (h : resB r = true) : r = .val (.bool true) := by
  cases r with
  | val v => rw [eqAV_eq v _ h]
  | _ => cases h
theorem allTrue_spec {o : Out} (h : allTrue o = true) : ∃ l g, o = .ok l g ∧ ∀ x, x ∈ l → x.1 = .val (.bool true) := by
  cases o with
  | err n => cases h
  | ok l g =>
    refine ⟨l, g, rfl, ?_⟩
    have key : ∀ l : List (Res × THeap), (List.rec (motive := fun _ => Bool) true (fun x _ ih => cnd (resB x.1) ih false) l : Bool) = true → ∀ x, x ∈ l → x.1 = .val (.bool true) := by
      intro l
      induction l with
      | nil => exact fun _ x hx => absurd hx List.not_mem_nil
      | cons a t ih =>
        intro h x hx
        have h2 : cnd (resB a.1) (List.rec (motive := fun _ => Bool) true (fun x _ ih => cnd (resB x.1) ih false) t) false = true := h
        rw [cnd_and] at h2
        rcases List.mem_cons.1 hx with e | e
        · rw [e]; exact resB_spec h2.1
        · exact ih h2.2 x e
    exact key l h
noncomputable def startH (G : Nat) : THeap := ⟨Tr.empty, G, 65536⟩
def startE (G : Nat) : Env := ⟨fun i => if i < G then some i else none, fun _ => 0, fun _ => 0⟩
theorem startH_get (G i : Nat) : (startH G).get i = none := by
  show cnd (ltb i top) (Tr.getP (p4 i) Tr.empty) none = none
  rw [Tr.get_empty]
  cases ltb i top <;> rfl
theorem startH_get' (G i : Nat) : (startH G).fn.get i = none := startH_get G i
section
variable {P : Program} {W : World} {G : Nat}
theorem start_rel (hG : P.globals.size = G) (hsz : G ≤ W.heap.size) (ht : G ≤ top) : Rel P W (startE G) (startH G).fn W := by
  refine ⟨fun i ao hi => ?_, fun i j x y b hi => ?_, fun i h1 h2 => ?_, fun i b hb => ?_, Below.refl _ _, fun i ao b hi => ?_, fun g hg => ⟨if_pos (by omega), rfl⟩, .inr ⟨Nat.le_refl _, fun i ao hi => ?_⟩, .inr ht⟩
  · rw [startH_get'] at hi; cases hi
  · rw [startH_get'] at hi; cases hi
  · exact if_neg (by have : G ≤ i := h1; omega)
  · by_cases e : i < G
    · have : (startE G).blk i = some i := if_pos e
      rw [this] at hb; cases hb; omega
    · have : (startE G).blk i = none := if_neg e
      rw [this] at hb; cases hb
  · rw [startH_get'] at hi; cases hi
  · rw [startH_get'] at hi; cases hi
theorem start_WF (ht : G ≤ top) : (startH G).WF := ⟨ht, Nat.le_refl _, fun i _ _ => startH_get G i⟩
/-- a closed law, run over abstract values, is true -/
theorem closed_true {H : Hints} {sums : Sums} {lf n : Nat} {f : FuncId} (hmo : P.follows .mixedOrders = true) (hG : P.globals.size = G) (hsz : G ≤ W.heap.size) (ht : G ≤ top) (hb : bodied P f = true)
    (hsum : SumsSound P W sums) (hW : 0 < W.heap.size ∨ ∀ f, H.join f ≤ 1) (hrun : allTrue ((xCall P H sums lf n f []).run 0 (startH G) Log.nil) = true) :
    Calls P f #[] W fun e W' => e = .returned (.bool true) ∧ Below W.heap.size W W' := by
  obtain ⟨l, g, e, hl⟩ := allTrue_spec hrun
  have hs := run_sat _ _ _ _ _ _ (fun r _ => r = .val (.bool true)) e (start_WF ht) (Nat.zero_le _) hl
  refine Calls.mono (xCall_sound hsum hW hmo hb hs (start_rel hG hsz ht) (vs := #[]) .nil) fun e w' ⟨v, E', h', av, e1, s, r, hv, hp⟩ => ?_
  subst e1
  cases hp
  cases hv
  exact ⟨rfl, r.below⟩
theorem shaped_size {g : Nat} (hsh : W.ShapedOpen P) (hg : g < P.globals.size) (h : (((begin P (fun _ _ => 0) default).world.heap[g]?).bind Obj.row?).isSome = true) : g + 1 ≤ W.heap.size := by
  obtain ⟨⟨zero, t⟩, hz⟩ := Option.isSome_iff_exists.1 h
  obtain ⟨cs, hc, _⟩ := hsh.1 g zero t hg hz
  exact (Array.getElem?_eq_some_iff.1 hc).1
theorem noSums : SumsSound P W fun _ => none := fun _ _ h => by cases h
end
end Go.X

namespace Go.X
open Go Go.RowKit

/-! ### a closed law over a table -/
noncomputable def startT (G g : Nat) (cs : List AV) : THeap := Tr.setP (p4 g) (some (.ro cs)) Tr.empty fun t => ⟨t, G, 65536⟩
theorem startT_put (G g : Nat) (cs : List AV) : startT G g cs = (startH G).put g (some (.ro cs)) := by
  unfold startT startH THeap.put
  rw [Tr.setP_put]
section
variable {P : Program} {W : World} {G g : Nat} {cs : List AV}
theorem VRs_ints {E : Env} (k : IntKind) : ∀ zs : List Int, VRs E (zs.map fun z => AV.int k z) (zs.map fun z => Value.int k z)
  | [] => .nil
  | z :: zs => .cons _ _ _ _ (.int k z) (VRs_ints k zs)
theorem startT_get (hg : g < top) (i : Nat) : (startT G g cs).get i = if i = g then some (.ro cs) else none := by
  rw [startT_put, THeap.get_put _ hg]
  by_cases e : i = g
  · rw [if_pos e, if_pos e]
  · rw [if_neg e, if_neg e]; exact startH_get G i
theorem startT_rel (hG : P.globals.size = G) (hg : g < G) (hsz : G ≤ W.heap.size) (ht : G ≤ top) {arr : Array Value} {t : TypeId} {fr : Nat × Nat} (hw : W.heap[g]? = some (.cells arr t fr)) (hv : VRs (startE G) cs arr.toList) : Rel P W (startE G) (startT G g cs).fn W := by
  have hgt : g < top := Nat.lt_of_lt_of_le hg ht
  have r := start_rel (W := W) hG hsz ht
  have hget : ∀ {i ao}, (startT G g cs).fn.get i = some ao → i = g ∧ ao = .ro cs := by
    intro i ao h
    replace h : (startT G g cs).get i = some ao := h
    rw [startT_get hgt] at h
    by_cases e : i = g
    · rw [if_pos e] at h; cases h; exact ⟨e, rfl⟩
    · rw [if_neg e] at h; cases h
  have hn : (startT G g cs).next = G := by rw [startT_put]; rfl
  have hl : (startT G g cs).lim = 65536 := by rw [startT_put]; rfl
  refine ⟨fun i ao hi => ?_, fun i j x y b hi hj _ _ _ _ => (hget hi).1.trans (hget hj).1.symm, fun i h1 h2 => ?_, r.bound, Below.refl _ _, fun i ao b hi _ _ => .inr ⟨cs, (hget hi).2⟩, r.glob, .inr ⟨Nat.le_of_eq hl, fun i ao hi => by rw [(hget hi).1]; exact hgt⟩, .inr (by show (startT G g cs).next ≤ (startT G g cs).lim; rw [hn, hl]; exact ht)⟩
  · obtain ⟨e1, e2⟩ := hget hi
    subst e1; subst e2
    exact ⟨i, _, if_pos hg, hw, .ro _ _ _ _ [] arr.toList [] (by simp) rfl hv⟩
  · replace h1 : (startT G g cs).next ≤ i := h1
    rw [hn] at h1
    exact if_neg (by omega)
theorem startT_WF (hg : g < G) (ht : G ≤ top) : (startT G g cs).WF := by
  rw [startT_put]
  exact (start_WF ht).put hg _
/-- a closed law, run over abstract values and one table, is true -/
theorem closed_true_tab {H : Hints} {sums : Sums} {lf n : Nat} {f : FuncId} (hmo : P.follows .mixedOrders = true) (hG : P.globals.size = G) (hg : g < G) (hsz : G ≤ W.heap.size) (ht : G ≤ top) (hb : bodied P f = true)
    {name : String} {k : IntKind} {zs : List Int} (hgl : P.globalNamed name = some g) (htab : Lib.TabIs P W name k zs) (hcs : cs = zs.map fun z => AV.int k z)
    (hsum : SumsSound P W sums) (hrun : allTrue ((xCall P H sums lf n f []).run 0 (startT G g cs) Log.nil) = true) :
    Calls P f #[] W fun e W' => e = .returned (.bool true) ∧ Below W.heap.size W W' := by
  obtain ⟨l, lg, e, hl⟩ := allTrue_spec hrun
  have hs := run_sat _ _ _ _ _ _ (fun r _ => r = .val (.bool true)) e (startT_WF hg ht) (Nat.zero_le _) hl
  have hrow : ∃ t fr, W.heap[g]? = some (.cells (zs.map fun z => Value.int k z).toArray t fr) := by
    unfold Lib.TabIs World.var? at htab
    rw [hgl, Option.bind_some] at htab
    split at htab
    · rename_i cs t fr hw
      exact ⟨t, fr, by rw [hw, Option.some.inj htab]⟩
    · cases htab
  obtain ⟨t, fr, hw⟩ := hrow
  have r := startT_rel (cs := cs) hG hg hsz ht hw (by rw [hcs]; exact VRs_ints k zs)
  refine Calls.mono (xCall_sound hsum (.inl (by omega)) hmo hb hs r (vs := #[]) .nil) fun e w' ⟨v, E', h', av, e1, s, r, hv, hp⟩ => ?_
  subst e1
  cases hp
  cases hv
  exact ⟨rfl, r.below⟩
end
end Go.X

namespace Go.X
open Go Go.RowKit

/-! ### a call, replayed -/
theorem THeap.same {a b : THeap} (hn : a.next = b.next) (hl : a.lim = b.lim) (h : ∀ i, i < top → a.get i = b.get i) : a = b := by
  obtain ⟨t, n, l⟩ := a
  obtain ⟨t', n', l'⟩ := b
  simp only at hn hl
  subst hn; subst hl
  have : t = t' := Tr.ext fun p => by
    obtain ⟨x, y, z, u⟩ := p
    have h1 := dN_lt x; have h2 := dN_lt y; have h3 := dN_lt z; have h4 := dN_lt u
    have hi : dN x + 16 * dN y + 256 * dN z + 4096 * dN u < top := by rw [top_eq]; omega
    have e := h _ hi
    rw [THeap.get_of_lt hi, THeap.get_of_lt hi] at e
    have ep : p4 (dN x + 16 * dN y + 256 * dN z + 4096 * dN u) = ⟨x, y, z, u⟩ := by
      simp only [p4, shr_eq, P4.mk.injEq]
      refine ⟨dN_inj ?_, dN_inj ?_, dN_inj ?_, dN_inj ?_⟩ <;> rw [dN_digit] <;> omega
    rw [ep] at e
    exact e
  rw [this]
/-- a call that has been run: where its new names begin; what it reads or writes (before), what it writes (behind), what is new; what it returns -/
structure Ent where
  next : Nat
  args : List AV
  rd : List (Nat × AObj)
  wr : List (Nat × AObj)
  new : List AObj
  v : AV
/-- a row of bytes, packed, the first one lowest -/
noncomputable def b8 (n : Nat) : Nat → List AV := Nat.rec (motive := fun _ => Nat → List AV) (fun _ => []) (fun _ ih x => forceNat (Nat.land x 255) fun b => forceNat (Nat.shiftRight x 8) fun y => (.int .u8 (.ofNat b)) :: ih y) n
/-- n times the same, ahead of l -/
noncomputable def repA (n : Nat) (v : AV) (l : List AV) : List AV := Nat.rec (motive := fun _ => List AV) l (fun _ ih => v :: ih) n
noncomputable def chkRd (l : List (Nat × AObj)) (no m : FM) : FM := List.rec (motive := fun _ => FM) m (fun x _ ih => .get x.1 fun o => cnd (eqObj o x.2) ih no) l
noncomputable def putWr (l : List (Nat × AObj)) (m : FM) : FM := List.rec (motive := fun _ => FM) m (fun x _ ih => .set x.1 x.2 ih) l
noncomputable def newAll (l : List AObj) (m : FM) : FM := List.rec (motive := fun _ => FM) m (fun o _ ih => .new o fun _ => ih) l
noncomputable def replay (tab : List Ent) : List AV → KV → (Chain → FM) → FM := fun args k _ => .here fun a => .drop a Nat.zero (
  List.rec (motive := fun _ => FM) (.fail 221) (fun e _ ih => cnd (cnd (Nat.beq e.next a) (eqL eqAV e.args args) false) (chkRd e.rd ih (putWr e.wr (newAll e.new (k e.v)))) ih) tab)
noncomputable def heapOf (l : List (Nat × AObj)) (n : Nat) : THeap := ⟨List.rec (motive := fun _ => Tr) Tr.empty (fun x _ ih => Tr.put (p4 x.1) (some x.2) ih) l, n, 65536⟩
noncomputable def keyIn (l : List (Nat × AObj)) (i : Nat) : Bool := List.rec (motive := fun _ => Bool) false (fun x _ ih => cnd (Nat.beq i x.1) true ih) l
noncomputable def keysLt (l : List (Nat × AObj)) (n : Nat) : Bool := List.rec (motive := fun _ => Bool) true (fun x _ ih => cnd (ltb x.1 n) ih false) l
noncomputable def hasAll (h : THeap) (l : List (Nat × AObj)) : Bool := List.rec (motive := fun _ => Bool) true (fun x _ ih => cnd (eqOObj (h.get x.1) (some x.2)) ih false) l
/-- an object that is let go, and whether there is any -/
noncomputable def isTomb (o : AObj) : Bool := AObj.rec (motive := fun _ => Bool) (fun _ _ _ _ => false) (fun _ _ => false) (fun _ _ _ _ => false) false true (fun _ _ => false) (fun _ => false) (fun _ => false) (fun _ => false) o
noncomputable def isO (o : Option AObj) : Bool := Option.rec (motive := fun _ => Bool) false (fun _ => true) o
noncomputable def hasNew (h : THeap) (l : List AObj) : Nat → Bool := List.rec (motive := fun _ => Nat → Bool) (fun a => Nat.beq h.next a) (fun o _ ih a => cnd (cnd (isTomb o) (isO (h.get a)) (eqOObj (h.get a) (some o))) (ih (Nat.succ a)) false) l
noncomputable def entOk1 (e : Ent) (o : Out) : Bool :=
  Out.rec (motive := fun _ => Bool) (fun _ => false) (fun l g => List.rec (motive := fun _ => Bool) false (fun x t _ => List.rec (motive := fun _ => Bool)
    (cnd (eqRes x.1 (.val e.v)) (cnd (allL (keyIn e.rd) g.rd) (cnd (allL (keyIn e.wr) g.wr) (cnd (hasAll x.2 e.wr) (hasNew x.2 e.new e.next) false) false) false) false) (fun _ _ _ => false) t) l) o
noncomputable def entOk (P : Program) (H : Hints) (sums : Sums) (lf n : Nat) (f : FuncId) (e : Ent) : Bool :=
  cnd (cnd (keysLt e.rd e.next) (cnd (allL (fun x => keyIn e.rd x.1) e.wr) (Nat.ble e.next 65536) false) false)
    (entOk1 e ((xCall P H sums lf n f e.args).run e.next (heapOf e.rd e.next) Log.nil)) false

section
variable {P : Program} {W0 : World} {p : Post} {h : Heap} {m : FM}
theorem chkRd_sat {no : FM} : ∀ (l : List (Nat × AObj)), (chkRd l no m).sat p h → ((∀ x, x ∈ l → h.get x.1 = some x.2) ∧ m.sat p h) ∨ no.sat p h
  | [], hs => .inl ⟨fun _ hx => absurd hx List.not_mem_nil, hs⟩
  | x :: l, hs => by
    have hs1 : (FM.get x.1 fun o => cnd (eqObj o x.2) (chkRd l no m) no).sat p h := hs
    obtain ⟨o, hg, hs2⟩ := hs1
    rcases cnd2_sat hs2 with ⟨he, hs3⟩ | ⟨_, hs3⟩
    · rcases chkRd_sat l hs3 with ⟨h1, h2⟩ | h2
      · refine .inl ⟨fun y hy => ?_, h2⟩
        rcases List.mem_cons.1 hy with e | e
        · subst e; rw [hg, eqObj_eq he]
        · exact h1 y e
      · exact .inr h2
    · exact .inr hs3
theorem keyIn_iff {i : Nat} : ∀ {l : List (Nat × AObj)}, keyIn l i = true ↔ ∃ x, x ∈ l ∧ x.1 = i
  | [] => ⟨fun h => (by cases h), fun ⟨x, h, _⟩ => absurd h List.not_mem_nil⟩
  | y :: l => by
    show cnd (Nat.beq i y.1) true (keyIn l i) = true ↔ _
    cases hb : Nat.beq i y.1
    · rw [cnd_false, keyIn_iff]
      have hne : i ≠ y.1 := fun e => by rw [beq_iff.2 e] at hb; cases hb
      exact ⟨fun ⟨x, h, e⟩ => ⟨x, List.mem_cons_of_mem _ h, e⟩, fun ⟨x, h, e⟩ => by
        rcases List.mem_cons.1 h with h | h
        · subst h; exact absurd e.symm hne
        · exact ⟨x, h, e⟩⟩
    · rw [cnd_true]
      exact ⟨fun _ => ⟨y, List.mem_cons_self, (beq_iff.1 hb).symm⟩, fun _ => rfl⟩
theorem keysLt_iff {n : Nat} : ∀ {l : List (Nat × AObj)}, keysLt l n = true → ∀ x, x ∈ l → x.1 < n
  | [], _, _, hx => absurd hx List.not_mem_nil
  | y :: l, h, x, hx => by
    have h1 : cnd (ltb y.1 n) (keysLt l n) false = true := h
    rw [cnd_and] at h1
    rcases List.mem_cons.1 hx with e | e
    · subst e; exact ltb_iff.1 h1.1
    · exact keysLt_iff h1.2 x e
theorem hasAll_iff {h : THeap} : ∀ {l : List (Nat × AObj)}, hasAll h l = true → ∀ x, x ∈ l → h.get x.1 = some x.2
  | [], _, _, hx => absurd hx List.not_mem_nil
  | y :: l, hh, x, hx => by
    have h1 : cnd (eqOObj (h.get y.1) (some y.2)) (hasAll h l) false = true := hh
    rw [cnd_and] at h1
    rcases List.mem_cons.1 hx with e | e
    · subst e; exact eqOObj_eq h1.1
    · exact hasAll_iff h1.2 x e
theorem isTomb_iff {o : AObj} : isTomb o = true ↔ o = .tomb := by cases o <;> simp [isTomb]
theorem isTomb_false {o : AObj} (h : o ≠ .tomb) : isTomb o = false := by
  cases hb : isTomb o with
  | false => rfl
  | true => exact absurd (isTomb_iff.1 hb) h
/-- what an entry says of a new object -/
def fits (x : Option AObj) (o : AObj) : Prop := (o = .tomb ∧ ∃ y, x = some y) ∨ (o ≠ .tomb ∧ x = some o)
theorem hasNew_iff {h : THeap} : ∀ {l : List AObj} {a : Nat}, hasNew h l a = true → h.next = a + l.length ∧ ∀ j o, l[j]? = some o → fits (h.get (a + j)) o
  | [], a, hh => ⟨beq_iff.1 hh, fun j o e => by simp at e⟩
  | x :: l, a, hh => by
    have h1 : cnd (cnd (isTomb x) (isO (h.get a)) (eqOObj (h.get a) (some x))) (hasNew h l (a + 1)) false = true := hh
    rw [cnd_and] at h1
    obtain ⟨h2, h3⟩ := hasNew_iff h1.2
    refine ⟨by rw [h2]; simp only [List.length_cons]; omega, fun j o e => ?_⟩
    cases j with
    | zero =>
      simp only [List.getElem?_cons_zero, Option.some.injEq] at e
      subst e
      have h4 := h1.1
      by_cases ht : x = .tomb
      · rw [isTomb_iff.2 ht, cnd_true] at h4
        refine .inl ⟨ht, ?_⟩
        rw [Nat.add_zero]
        cases hg : h.get a with
        | none => rw [hg] at h4; cases h4
        | some y => exact ⟨y, rfl⟩
      · rw [isTomb_false ht, cnd_false] at h4
        exact .inr ⟨ht, eqOObj_eq h4⟩
    | succ j =>
      rw [List.getElem?_cons_succ] at e
      rw [show a + (j + 1) = a + 1 + j by omega]
      exact h3 j o e
theorem heapOf_get (n : Nat) (ht : n ≤ top) : ∀ {l : List (Nat × AObj)}, keysLt l n = true → ∀ i, (keyIn l i = true → ∃ x, x ∈ l ∧ x.1 = i ∧ (heapOf l n).get i = some x.2) ∧ (keyIn l i = false → (heapOf l n).get i = none)
  | [], _, i => ⟨fun h => (by cases h), fun _ => startH_get n i⟩
  | y :: l, hk, i => by
    have h1 : cnd (ltb y.1 n) (keysLt l n) false = true := hk
    rw [cnd_and] at h1
    have hy : y.1 < top := Nat.lt_of_lt_of_le (ltb_iff.1 h1.1) ht
    have e : heapOf (y :: l) n = (heapOf l n).put y.1 (some y.2) := rfl
    rw [e, THeap.get_put _ hy]
    obtain ⟨a1, a2⟩ := heapOf_get n ht h1.2 i
    have hki : keyIn (y :: l) i = cnd (Nat.beq i y.1) true (keyIn l i) := rfl
    rw [hki]
    cases hb : Nat.beq i y.1
    · have hne : i ≠ y.1 := fun e => by rw [beq_iff.2 e] at hb; cases hb
      rw [if_neg hne]
      simp only [cnd_false]
      exact ⟨fun h => let ⟨x, h1, h2⟩ := a1 h; ⟨x, List.mem_cons_of_mem _ h1, h2⟩, a2⟩
    · rw [if_pos (beq_iff.1 hb)]
      simp only [cnd_true]
      exact ⟨fun _ => ⟨y, List.mem_cons_self, (beq_iff.1 hb).symm, rfl⟩, fun h => by cases h⟩
theorem putWr_sat : ∀ (l : List (Nat × AObj)) (h : Heap), (putWr l m).sat p h → ∃ h', m.sat p h' ∧ h'.next = h.next ∧ h'.lim = h.lim ∧ h'.inf = h.inf ∧ ∀ i, (keyIn l i = true → ∃ x, x ∈ l ∧ x.1 = i ∧ h'.get i = some x.2) ∧ (keyIn l i = false → h'.get i = h.get i)
  | [], h, hs => ⟨h, hs, rfl, rfl, rfl, fun i => ⟨fun h => (by cases h), fun _ => rfl⟩⟩
  | y :: l, h, hs => by
    have hs1 : (FM.set y.1 y.2 (putWr l m)).sat p h := hs
    obtain ⟨hlt, hs2⟩ := hs1
    obtain ⟨h', a1, a2, a3, a5, a4⟩ := putWr_sat l (h.put y.1 (some y.2)) hs2
    refine ⟨h', a1, a2, a3, a5, fun i => ?_⟩
    obtain ⟨b1, b2⟩ := a4 i
    have hki : keyIn (y :: l) i = cnd (Nat.beq i y.1) true (keyIn l i) := rfl
    rw [hki]
    have hy : True := trivial
    cases hk : keyIn l i
    · have e := b2 hk
      rw [Heap.get_put _ hy] at e
      cases hb : Nat.beq i y.1
      · have hne : i ≠ y.1 := fun e => by rw [beq_iff.2 e] at hb; cases hb
        rw [if_neg hne] at e
        simp only [cnd_false]
        exact ⟨fun h => (by cases h), fun _ => e⟩
      · rw [if_pos (beq_iff.1 hb)] at e
        simp only [cnd_true]
        exact ⟨fun _ => ⟨y, List.mem_cons_self, (beq_iff.1 hb).symm, e⟩, fun h => by cases h⟩
    · obtain ⟨x, c1, c2, c3⟩ := b1 hk
      refine ⟨fun _ => ⟨x, List.mem_cons_of_mem _ c1, c2, c3⟩, fun h => ?_⟩
      cases hb : Nat.beq i y.1 <;> rw [hb] at h <;> cases h
theorem newAll_sat : ∀ (l : List AObj) (h : Heap), h.inf = false → h.next ≤ h.lim → (newAll l m).sat p h → ∃ h', m.sat p h' ∧ h'.next = h.next + l.length ∧ h'.lim = h.lim ∧ h'.inf = h.inf ∧ h'.next ≤ h.lim ∧ (∀ j o, l[j]? = some o → h'.get (h.next + j) = some o) ∧ ∀ i, i < h.next ∨ h.next + l.length ≤ i → h'.get i = h.get i
  | [], h, _, hr, hs => ⟨h, hs, rfl, rfl, rfl, hr, fun j o e => by simp at e, fun _ _ => rfl⟩
  | x :: l, h, ht, hr, hs => by
    have hs1 : (FM.new x fun _ => newAll l m).sat p h := hs
    obtain ⟨hlt0, hs2⟩ := hs1
    have hlt : h.next < h.lim := hlt0.resolve_left (by simp [ht])
    obtain ⟨h', a1, a2, a3, a7, a4, a5, a6⟩ := newAll_sat l (h.newO x) ht hlt hs2
    have hnt : True := trivial
    have hn : (h.newO x).next = h.next + 1 := rfl
    rw [hn] at a2 a5 a6
    refine ⟨h', a1, by rw [a2]; simp only [List.length_cons]; omega, a3, a7, a4, fun j o e => ?_, fun i hi => ?_⟩
    · cases j with
      | zero =>
        simp only [List.getElem?_cons_zero, Option.some.injEq] at e
        subst e
        rw [Nat.add_zero, a6 h.next (.inl (by omega)), Heap.newO_get _ hnt, if_pos rfl]
      | succ j =>
        rw [List.getElem?_cons_succ] at e
        rw [show h.next + (j + 1) = h.next + 1 + j by omega]
        exact a5 j o e
    · simp only [List.length_cons] at hi
      rw [a6 i (by omega), Heap.newO_get _ hnt, if_neg (by omega)]
/-- a heap of few names, as a trie -/
noncomputable def N16.of {α : Type} (f : D16 → α) : N16 α := ⟨f .d0, f .d1, f .d2, f .d3, f .d4, f .d5, f .d6, f .d7, f .d8, f .d9, f .d10, f .d11, f .d12, f .d13, f .d14, f .d15⟩
theorem N16.get_of {α : Type} (f : D16 → α) (d : D16) : N16.get d (N16.of f) = f d := by cases d <;> rfl
noncomputable def Heap.tr (h : Heap) : THeap := ⟨N16.of fun d => N16.of fun c => N16.of fun b => N16.of fun a => h.get (dN a + 16 * dN b + 256 * dN c + 4096 * dN d), h.next, h.lim⟩
theorem Heap.tr_get (h : Heap) {i : Nat} (hi : i < top) : h.tr.get i = h.get i := by
  rw [THeap.get_of_lt hi]
  unfold Heap.tr Tr.getP p4
  simp only [N16.get_of, dN_digit, shr_eq]
  congr 1
  rw [top_eq] at hi
  omega
theorem Heap.tr_fn {h : Heap} (hi : h.inf = false) (hl : h.LimOk) : h.tr.fn = h :=
  Heap.ext (fun i => by
    show h.tr.get i = h.get i
    by_cases hlt : i < top
    · exact h.tr_get hlt
    · rw [THeap.get_big (Nat.le_of_not_lt hlt)]
      cases hg : h.get i with
      | none => rfl
      | some ao => exact absurd ((hl.resolve_left (by simp [hi])).2 i ao hg) hlt) rfl rfl hi.symm
theorem Rel.wf {E : Env} {w : World} (hi : h.inf = false) (r : Rel P W0 E h w) : h.tr.WF := ⟨r.room.resolve_left (by simp [hi]), (r.lim.resolve_left (by simp [hi])).1, fun i h1 h2 => by
  have h2' : i < h.lim := h2
  have ht := (r.lim.resolve_left (by simp [hi])).1
  rw [h.tr_get (by omega)]
  cases hg : h.get i with
  | none => rfl
  | some ao =>
    obtain ⟨b, _, hb, _⟩ := r.obj i ao hg
    rw [r.free i h1 (.inr h2)] at hb; cases hb⟩
theorem entOk1_spec {e : Ent} {o : Out} (h : entOk1 e o = true) : ∃ h1 g, o = .ok [(.val e.v, h1)] g ∧ (∀ i, i ∈ g.rd → keyIn e.rd i = true) ∧ (∀ i, i ∈ g.wr → keyIn e.wr i = true) ∧ hasAll h1 e.wr = true ∧ hasNew h1 e.new e.next = true := by
  cases o with
  | err n => cases h
  | ok l g =>
    cases l with
    | nil => cases h
    | cons x t =>
      cases t with
      | cons y t => cases h
      | nil =>
        obtain ⟨r, h1⟩ := x
        have h2 : cnd (eqRes r (.val e.v)) (cnd (allL (keyIn e.rd) g.rd) (cnd (allL (keyIn e.wr) g.wr) (cnd (hasAll h1 e.wr) (hasNew h1 e.new e.next) false) false) false) false = true := h
        simp only [cnd_and] at h2
        obtain ⟨a, b, c, d, e2⟩ := h2
        rw [eqRes_eq a]
        exact ⟨h1, g, rfl, allL_iff.1 b, allL_iff.1 c, d, e2⟩
def dropped (a : Nat) (l : List AObj) (i : Nat) : Prop := a ≤ i ∧ l[i - a]? = some .tomb
noncomputable instance (a : Nat) (l : List AObj) (i : Nat) : Decidable (dropped a l i) := Classical.propDecidable _
/-- some new objects, let go -/
noncomputable def forgetH (a : Nat) (l : List AObj) (h : Heap) : Heap := ⟨fun i => if dropped a l i then (h.get i).map fun _ => .tomb else h.get i, h.next, h.lim, h.inf⟩
theorem Rel.forget {E : Env} {w : World} {h : Heap} (r : Rel P W0 E h w) (a : Nat) (l : List AObj) : Rel P W0 E (forgetH a l h) w := by
  have key : ∀ {j ao}, (forgetH a l h).get j = some ao → h.get j = some ao ∨ (ao = .tomb ∧ ∃ y, h.get j = some y) := by
    intro j ao hj
    have hj : (if dropped a l j then (h.get j).map fun _ => AObj.tomb else h.get j) = some ao := hj
    by_cases e : dropped a l j
    · rw [if_pos e] at hj
      cases hg : h.get j with
      | none => rw [hg] at hj; cases hj
      | some y => rw [hg] at hj; cases hj; exact .inr ⟨rfl, y, rfl⟩
    · rw [if_neg e] at hj; exact .inl hj
  refine ⟨fun j ao hj => ?_, fun j k x y c hj hk hx hy => r.inj j k x y c ((key hj).resolve_right fun h => hx h.1) ((key hk).resolve_right fun h => hy h.1) hx hy, r.free, r.bound, r.below, fun j ao c hj hc hlt => ?_, r.glob, ?_, r.room⟩
  · rcases key hj with h1 | ⟨rfl, y, h1⟩
    · obtain ⟨b, o, hb, ho, hor⟩ := r.obj j ao h1
      refine ⟨b, o, hb, ho, hor.mono (.refl _) hb fun m d es v hd hv => ?_⟩
      rcases key hv with h2 | ⟨h2, _⟩
      · exact ⟨v, es, h2, Nat.le_refl _, fun _ => rfl⟩
      · cases h2
    · obtain ⟨b, o, hb, ho, _⟩ := r.obj j y h1
      exact ⟨b, o, hb, ho, .tomb _⟩
  · rcases key hj with h1 | ⟨rfl, y, h1⟩
    · exact r.old j ao c h1 hc hlt
    · exact .inl rfl
  · refine r.lim.imp id fun ⟨l1, l2⟩ => ⟨l1, fun i ao hi => ?_⟩
    rcases key hi with h1 | ⟨_, y, h1⟩
    · exact l2 i ao h1
    · exact l2 i y h1
/-- an entry that fits serves -/
theorem ent_sound {H : Hints} {sums0 : Sums} {lf n : Nat} {f : FuncId} {e : Ent} (hok : entOk P H sums0 lf n f e = true) (hsum : SumsSound P W0 sums0) (hW : 0 < W0.heap.size ∨ ∀ f, H.join f ≤ 1) (hmo : P.follows .mixedOrders = true)
    (args : List AV) (k : KV) (kp : Chain → FM) (p : Post) (E : Env) (h : Heap) (w : World) (vs : Array Value) (hb : bodied P f = true) (hinf : h.inf = false) (hnext : e.next = h.next) (hargs : e.args = args) (hchk : ∀ x, x ∈ e.rd → h.get x.1 = some x.2)
    (hs2 : (putWr e.wr (newAll e.new (k e.v))).sat p h) (r : Rel P W0 E h w) (hv : VRs E args vs.toList) : Calls P f vs w (RetPost P W0 E h k kp p) := by
  unfold entOk at hok
  simp only [cnd_and] at hok
  obtain ⟨⟨hlt, hsub, hle⟩, hok1⟩ := hok
  obtain ⟨h1, g, hrun, hrd, hwr, hall, hnew⟩ := entOk1_spec hok1
  have hle2 : e.next ≤ top := Nat.le_of_ble_eq_true hle
  have hg0 := heapOf_get e.next hle2 hlt
  have hn0 : (heapOf e.rd e.next).next = e.next := rfl
  have hl0 : (heapOf e.rd e.next).lim = top := rfl
  have wf0 : (heapOf e.rd e.next).WF := ⟨hle2, Nat.le_refl _, fun i hi _ => by
    refine (hg0 i).2 ?_
    cases hk : keyIn e.rd i with
    | false => rfl
    | true =>
      obtain ⟨x, hx, ex⟩ := keyIn_iff.1 hk
      have := keysLt_iff hlt x hx
      rw [hn0] at hi; omega⟩
  have rroom := r.room.resolve_left (by simp [hinf])
  have rlim := (r.lim.resolve_left (by simp [hinf])).1
  have rcap := (r.lim.resolve_left (by simp [hinf])).2
  have rwf := r.wf hinf
  have rfn := Heap.tr_fn hinf r.lim
  have rget : ∀ i, h.tr.get i = h.get i := fun i => congrArg (fun q : Heap => q.get i) rfn
  obtain ⟨h2, hs3, n2, l2, i2, g2⟩ := putWr_sat _ h hs2
  obtain ⟨h3, hs4, n3, l3, i3, le3, new3, off3⟩ := newAll_sat _ h2 (by rw [i2]; exact hinf) (by rw [n2, l2]; exact rroom) hs3
  rw [n2] at n3 new3 off3
  rw [l2] at l3 le3
  obtain ⟨hn1, hnew1⟩ := hasNew_iff hnew
  have fr := (run_fr _ _ _ _ _ _ hrun wf0 (Nat.le_refl _)).outs _ List.mem_cons_self
  have hwrsub : ∀ i, keyIn e.wr i = true → keyIn e.rd i = true := fun i hi => by
    obtain ⟨x, hx, ex⟩ := keyIn_iff.1 hi
    rw [← ex]; exact allL_iff.1 hsub x hx
  have hAg : ∀ i, (keyIn e.rd i = true ∨ (e.next ≤ i ∧ i < h.lim)) → h.tr.get i = (heapOf e.rd e.next).get i := by
    intro i hi
    rw [rget]
    rcases hi with hi | ⟨hi1, hi2⟩
    · obtain ⟨x, hx, ex, hg⟩ := (hg0 i).1 hi
      rw [hg, ← ex]; exact hchk x hx
    · rw [← rget, rwf.none i (by show h.next ≤ i; omega) hi2]
      exact (wf0.none i hi1 (Nat.lt_of_lt_of_le hi2 rlim)).symm
  obtain ⟨outs2, hrun2, hag⟩ := run_local _ _ _ _ _ _ hrun wf0 (Nat.le_refl _) h.tr (fun i => keyIn e.rd i = true ∨ (e.next ≤ i ∧ i < h.lim)) hnext.symm (fun o ho => by
      have : o = (.val e.v, h1) := by simpa using ho
      subst this
      show h1.next ≤ h.lim
      rw [hn1]; omega) rlim (fun i hi => .inl (hrd i hi)) (fun i hi => .inl (hwrsub i (hwr i hi))) (fun i h1 h2 => .inr ⟨h1, h2⟩) hAg
  cases hag with
  | @cons rr hh hx ll ll2 ag t =>
    cases t
    have hD : ∀ i, i < h.next ∨ h.next + e.new.length ≤ i → (forgetH h.next e.new hx.fn).get i = hx.get i := fun i hi => if_neg fun hc => by
      obtain ⟨c1, c2⟩ := hc
      have := (List.getElem?_eq_some_iff.1 c2).1
      omega
    have heq : forgetH h.next e.new hx.fn = h3 := by
      refine Heap.ext (fun i => ?_) (by show hx.next = _; rw [ag.next, hn1, n3]; omega) (by show hx.lim = _; rw [ag.lim, l3]; rfl) (by rw [i3, i2, hinf]; rfl)
      by_cases hA : keyIn e.rd i = true ∨ (e.next ≤ i ∧ i < h.lim)
      · by_cases hin : i < e.next
        · have hkr : keyIn e.rd i = true := hA.resolve_right fun h => by omega
          rw [hD i (.inl (by omega)), ag.on i hA]
          rw [off3 i (.inl (by omega))]
          obtain ⟨c1, c2⟩ := g2 i
          cases hk : keyIn e.wr i with
          | true =>
            obtain ⟨x, hx, ex, hg⟩ := c1 hk
            rw [hg, ← ex]; exact hasAll_iff hall x hx
          | false =>
            rw [c2 hk, fr.same i hin fun hm => by rw [hwr i hm] at hk; cases hk]
            rw [← hAg i hA, rget]
        · rcases Nat.lt_or_ge i (h.next + e.new.length) with hlt2 | hge
          · have hj : e.new[i - h.next]? = some (e.new[i - h.next]'(by omega)) := List.getElem?_eq_getElem (by omega)
            have a := new3 _ _ hj
            have b := hnew1 _ _ hj
            rw [show h.next + (i - h.next) = i by omega] at a
            rw [show e.next + (i - h.next) = i by omega] at b
            rw [a]
            show (if dropped h.next e.new i then (hx.get i).map fun _ => AObj.tomb else hx.get i) = _
            rw [ag.on i hA]
            rcases b with ⟨b1, y, b2⟩ | ⟨b1, b2⟩
            · rw [if_pos ⟨by omega, by rw [hj, b1]⟩, b2, b1]; rfl
            · rw [if_neg (fun hc => b1 (Option.some.inj (hj.symm.trans hc.2))), b2]
          · rw [hD i (.inr hge), ag.on i hA, off3 i (.inr hge)]
            have hil : i < h.lim := (hA.resolve_left fun hk => by
              obtain ⟨x, hx, ex⟩ := keyIn_iff.1 hk
              have := keysLt_iff hlt x hx
              omega).2
            obtain ⟨_, c2⟩ := g2 i
            rw [c2 (by
              cases hk : keyIn e.wr i with
              | false => rfl
              | true =>
                obtain ⟨x, hx, ex⟩ := keyIn_iff.1 (hwrsub i hk)
                have := keysLt_iff hlt x hx
                omega), ← rget, rwf.none i (by show h.next ≤ i; omega) hil]
            have hl1 := fr.lim
            exact fr.wf.none i (by rw [hn1]; omega) (by rw [hl1, hl0]; exact Nat.lt_of_lt_of_le hil rlim)
      · have hDi : (forgetH h.next e.new hx.fn).get i = hx.get i := if_neg fun hc => by
          obtain ⟨c1, c2⟩ := hc
          have := (List.getElem?_eq_some_iff.1 c2).1
          exact hA (.inr ⟨by omega, by omega⟩)
        rw [hDi, ag.off i hA, rget]
        have hA1 : keyIn e.rd i = false := by
          cases hk : keyIn e.rd i with
          | false => rfl
          | true => exact absurd (.inl hk) hA
        have hnot : i < e.next ∨ h.lim ≤ i := by
          rcases Nat.lt_or_ge i e.next with h1 | h1
          · exact .inl h1
          · exact .inr (Nat.le_of_not_lt fun h2 => hA (.inr ⟨h1, h2⟩))
        rw [off3 i (by
          rcases hnot with h1 | h1
          · exact .inl (by omega)
          · exact .inr (by omega))]
        obtain ⟨_, c2⟩ := g2 i
        rw [c2 (by
          cases hk : keyIn e.wr i with
          | false => rfl
          | true => rw [hwrsub i hk] at hA1; cases hA1)]
    have hsat := run_sat _ _ _ _ _ _ (fun res h' => ∃ v, res = .val v ∧ (k v).sat p (forgetH h.next e.new h')) hrun2 rwf (by show e.next ≤ h.next; omega) (fun o ho => by
      have : o = (.val e.v, hx) := by simpa using ho
      subst this
      exact ⟨e.v, rfl, by rw [heq]; exact hs4⟩)
    rw [hargs, rfn] at hsat
    refine Calls.mono ((xCR_sound hsum hW hmo n).1 f args _ _ _ E h w vs hb hsat r hv) fun e2 w' he => ?_
    cases e2 with
    | returned v =>
      obtain ⟨E', h', av, s, r', hv', hs'⟩ := he
      obtain ⟨v2, e3, hs5⟩ := hs'
      cases e3
      exact ⟨E', forgetH h.next e.new h', av, ⟨s.le, s.new, s.lim, s.next⟩, r'.forget _ _, hv', hs5⟩
    | panicked c => obtain ⟨_, _, _, _, _, _, hf⟩ := he; exact hf.elim
    | outgrown => exact he.elim
/-- what has been run once serves wherever it fits -/
theorem replay_sound {H : Hints} {sums0 : Sums} {lf n : Nat} {f : FuncId} {tab : List Ent} (hent : ∀ e, e ∈ tab → entOk P H sums0 lf n f e = true) (hsum : SumsSound P W0 sums0) (hW : 0 < W0.heap.size ∨ ∀ f, H.join f ≤ 1) (hmo : P.follows .mixedOrders = true)
    (args : List AV) (k : KV) (kp : Chain → FM) (p : Post) (E : Env) (h : Heap) (w : World) (vs : Array Value) (hb : bodied P f = true) (hs : (replay tab args k kp).sat p h) (r : Rel P W0 E h w) (hv : VRs E args vs.toList) : Calls P f vs w (RetPost P W0 E h k kp p) := by
  have pick : ∀ tab : List Ent, (List.rec (motive := fun _ => FM) (.fail 221) (fun e _ ih => cnd (cnd (Nat.beq e.next h.next) (eqL eqAV e.args args) false) (chkRd e.rd ih (putWr e.wr (newAll e.new (k e.v)))) ih) tab : FM).sat p h → ∃ e, e ∈ tab ∧ e.next = h.next ∧ e.args = args ∧ (∀ x, x ∈ e.rd → h.get x.1 = some x.2) ∧ (putWr e.wr (newAll e.new (k e.v))).sat p h := by
    intro tab
    induction tab with
    | nil => exact fun hs => False.elim hs
    | cons e t ih =>
      intro hs
      have hs1 : (cnd (cnd (Nat.beq e.next h.next) (eqL eqAV e.args args) false) (chkRd e.rd (List.rec (motive := fun _ => FM) (.fail 221) (fun e _ ih => cnd (cnd (Nat.beq e.next h.next) (eqL eqAV e.args args) false) (chkRd e.rd ih (putWr e.wr (newAll e.new (k e.v)))) ih) t) (putWr e.wr (newAll e.new (k e.v)))) (List.rec (motive := fun _ => FM) (.fail 221) (fun e _ ih => cnd (cnd (Nat.beq e.next h.next) (eqL eqAV e.args args) false) (chkRd e.rd ih (putWr e.wr (newAll e.new (k e.v)))) ih) t)).sat p h := hs
      rcases cnd2_sat hs1 with ⟨hc, hs2⟩ | ⟨_, hs2⟩
      · rw [cnd_and] at hc
        rcases chkRd_sat _ hs2 with ⟨h1, h2⟩ | hs3
        · exact ⟨e, List.mem_cons_self, beq_iff.1 hc.1, eqAVl_eq hc.2, h1, h2⟩
        · obtain ⟨e', h1, h2⟩ := ih hs3
          exact ⟨e', List.mem_cons_of_mem _ h1, h2⟩
      · obtain ⟨e', h1, h2⟩ := ih hs2
        exact ⟨e', List.mem_cons_of_mem _ h1, h2⟩
  obtain ⟨hinf, _, _, _, hs0⟩ := hs
  have hwin : (dropIds h.next (h.next - h.next) h).win (h.next + 0) h.lim = h := Heap.ext (fun i => by
    rw [Heap.win_get, dropIds_get _ _ _ trivial, if_neg (by omega)]) rfl rfl hinf.symm
  obtain ⟨e, hmem, hnext, hargs, hchk, hs2⟩ := pick tab (by rw [← hwin]; exact hs0)
  exact ent_sound (hent e hmem) hsum hW hmo args k kp p E h w vs hb hinf hnext hargs hchk hs2 r hv
theorem SumsSound.add {H : Hints} {sums : Sums} (hs : SumsSound P W0 sums) {lf n : Nat} {g : FuncId} {tab : List Ent} (hW : 0 < W0.heap.size ∨ ∀ f, H.join f ≤ 1) (hmo : P.follows .mixedOrders = true) (hent : ∀ e, e ∈ tab → entOk P H sums lf n g e = true) :
    SumsSound P W0 (fun f => cnd (Nat.beq f g) (some (replay tab)) (sums f)) := by
  intro f s hf args k kp p E h w vs hb hsat r hv
  have hf1 : cnd (Nat.beq f g) (some (replay tab)) (sums f) = some s := hf
  cases hfg : Nat.beq f g with
  | false =>
    rw [hfg, cnd_false] at hf1
    exact hs f s hf1 args k kp p E h w vs hb hsat r hv
  | true =>
    rw [hfg, cnd_true] at hf1
    cases hf1
    have e := beq_iff.1 hfg
    subst e
    exact replay_sound hent hs hW hmo args k kp p E h w vs hb hsat r hv
end
end Go.X

namespace Go.X
open Go Go.RowKit
section
variable {P : Program} {W : World} {G g : Nat} {cs : List AV}
/-- a law, run over abstract values and one table, of arguments that name no block, is true -/
theorem closed_true_args {H : Hints} {args : List AV} {vs : Array Value} (hvs : ∀ E, VRs E args vs.toList) {sums : Sums} {lf n : Nat} {f : FuncId} (hmo : P.follows .mixedOrders = true) (hG : P.globals.size = G) (hg : g < G) (hsz : G ≤ W.heap.size) (ht : G ≤ top) (hb : bodied P f = true)
    {name : String} {k : IntKind} {zs : List Int} (hgl : P.globalNamed name = some g) (htab : Lib.TabIs P W name k zs) (hcs : cs = zs.map fun z => AV.int k z)
    (hsum : SumsSound P W sums) (hrun : allTrue ((xCall P H sums lf n f args).run 0 (startT G g cs) Log.nil) = true) :
    Calls P f vs W fun e W' => e = .returned (.bool true) ∧ Below W.heap.size W W' := by
  obtain ⟨l, lg, e, hl⟩ := allTrue_spec hrun
  have hs := run_sat _ _ _ _ _ _ (fun r _ => r = .val (.bool true)) e (startT_WF hg ht) (Nat.zero_le _) hl
  have hrow : ∃ t fr, W.heap[g]? = some (.cells (zs.map fun z => Value.int k z).toArray t fr) := by
    unfold Lib.TabIs World.var? at htab
    rw [hgl, Option.bind_some] at htab
    split at htab
    · rename_i cs t fr hw
      exact ⟨t, fr, by rw [hw, Option.some.inj htab]⟩
    · cases htab
  obtain ⟨t, fr, hw⟩ := hrow
  have r := startT_rel (cs := cs) hG hg hsz ht hw (by rw [hcs]; exact VRs_ints k zs)
  refine Calls.mono (xCall_sound hsum (.inl (by omega)) hmo hb hs r (vs := vs) (hvs _)) fun e w' ⟨v, E', h', av, e1, s, r, hv, hp⟩ => ?_
  subst e1
  cases hp
  cases hv
  exact ⟨rfl, r.below⟩
end
end Go.X

namespace Go.X
open Go Go.RowKit
/-! ### errors.As as a summary: its ends by the types of what came and of where it goes: 1: laid (a pointer), 2: told false (a whole number), 3: laid (a whole number) -/
noncomputable def asM (hit : TypeId → TypeId → Nat) (args : List AV) (k : KV) : FM :=
  match args with
  | [.nilIface, _] => k (.bool false)
  | [.iface te (.ptr a x), .iface tp (.ptr i o)] => match hit te tp with | 1 => overC i o [.ptr a x] (k (.bool true)) | _ => .fail 171
  | [.iface te (.int q n), .iface tp (.ptr i o)] => match q, hit te tp with | .i64, 3 => overC i o [.int .i64 n] (k (.bool true)) | .i64, 2 => k (.bool false) | _, _ => .fail 171
  | _ => .fail 171
noncomputable def asX (f : FuncId) (hit : TypeId → TypeId → Nat) (sums : Sums) : Sums := fun g => match Nat.beq g f with | true => some (fun args k _ => asM hit args k) | false => sums g
/-- what is to be shown of a program's errors.As -/
structure AsFacts (P : Program) (W0 : World) (f : FuncId) (hit : TypeId → TypeId → Nat) : Prop where
  nil : ∀ (w : World) (t : Value), Below W0.heap.size W0 w → Calls P f #[.nilIface, t] w fun e w' => e = .returned (.bool false) ∧ Below w.heap.size w w'
  ptr : ∀ (te tp : TypeId) (w : World) (a t : Addr) (old : Value), hit te tp = 1 → Below W0.heap.size W0 w → w.cell? t = some old → w.frozen? t = false →
    Calls P f #[.iface te (.pointer (some a)), .iface tp (.pointer (some t))] w fun e w' => e = .returned (.bool true) ∧ ∃ w1, Below w.heap.size w w1 ∧ w' = w1.setCell t (.pointer (some a))
  int : ∀ (te tp : TypeId) (w : World) (n : Int) (t : Addr) (old : Value), hit te tp = 3 → Below W0.heap.size W0 w → w.cell? t = some old → w.frozen? t = false →
    Calls P f #[.iface te (.int .i64 n), .iface tp (.pointer (some t))] w fun e w' => e = .returned (.bool true) ∧ ∃ w1, Below w.heap.size w w1 ∧ w' = w1.setCell t (.int .i64 n)
  miss : ∀ (te tp : TypeId) (w : World) (n : Int) (t : Addr), hit te tp = 2 → Below W0.heap.size W0 w →
    Calls P f #[.iface te (.int .i64 n), .iface tp (.pointer (some t))] w fun e w' => e = .returned (.bool false) ∧ Below w.heap.size w w'
section
variable {P : Program} {W0 : World}
theorem vrs_two {E : Env} {a b : AV} {vs : Array Value} (hv : VRs E [a, b] vs.toList) : ∃ x y, vs = #[x, y] ∧ VR E a x ∧ VR E b y := by
  obtain ⟨l⟩ := vs
  have hv : VRs E [a, b] l := hv
  cases hv with
  | cons _ x _ m h t =>
    cases t with
    | cons _ y _ m h2 t =>
      cases t
      exact ⟨x, y, rfl, h, h2⟩
theorem Rel.grow {E : Env} {h : Heap} {w w' : World} (r : Rel P W0 E h w) (b : Below w.heap.size w w') : Rel P W0 E h w' := by
  refine ⟨fun i ao hi => ?_, r.inj, r.free, fun i x hx => Nat.lt_of_lt_of_le (r.bound i x hx) b.size, r.below.trans (b.mono r.below.size), r.old, r.glob, r.lim, r.room⟩
  obtain ⟨x, o, hx, ho, hr⟩ := r.obj i ao hi
  refine ⟨x, o, hx, (b.block x (r.bound i x hx)).trans ho, ?_⟩
  cases hr with
  | cells c esz grown mark cs e fr pre c1 rest h1 h2 h3 h4 h5 => exact .cells c esz grown mark cs e fr pre c1 rest h1 h2 h3 h4 h5
  | ro c cs e fr pre c1 rest h1 h2 h3 => exact .ro c cs e fr pre c1 rest h1 h2 h3
  | map es ver xs clock h => exact .map es ver xs clock h
  | mapIter m ver left cur y since stepped seen h0 hb h =>
    refine .mapIter m ver left cur y since stepped seen h0 hb fun es v hm => ?_
    obtain ⟨h1, h2⟩ := h es v hm
    refine ⟨h1, fun e => ?_⟩
    obtain ⟨xs, clock, h3, h4⟩ := h2 e
    exact ⟨xs, clock, (b.block y (r.bound m y hb)).trans h3, h4⟩
  | nilIter since stepped seen h0 => exact .nilIter since stepped seen h0
  | tomb o => exact .tomb o
  | strIter s pos b h0 h => exact .strIter s pos b h0 h
  | loop l r hs hp N ht hps ha hb hd => exact .loop l r hs hp N ht hps ha hb hd
  | deferred ds cs h => exact .deferred ds cs h
theorem as_put {E : Env} {h : Heap} {w : World} (r : Rel P W0 E h w) {i o b : Nat} (hi : E.blk i = some b) {a : AV} {v : Value} (hv : VR E a v) {m : FM} {p : Post} (hs : (overC i o [a] m).sat p h) :
    ∃ vz, w.cell? ⟨b, E.base i + o, none⟩ = some vz ∧ w.frozen? ⟨b, E.base i + o, none⟩ = false ∧ ∃ h', Rel P W0 E h' (w.setCell ⟨b, E.base i + o, none⟩ v) ∧ Stp E h E h' ∧ m.sat p h' := by
  obtain ⟨hp, hs⟩ := cnd_sat hs
  obtain ⟨ao, hg, hs⟩ := hs
  obtain ⟨c, esz, g, mk, rfl, hs⟩ := onCells_sat hs
  have hs0 := hs
  obtain ⟨hle, _⟩ := putK_sat [a] o c _ hs
  have hlt : o < c.length := hle
  obtain ⟨z, hz⟩ : ∃ z, c[o]? = some z := ⟨_, List.getElem?_eq_getElem hlt⟩
  have hpa : a.plainC = true := allPlain_iff.1 hp a (by simp)
  obtain ⟨vz, h1, _, h2, _, h', h3, h4, h5⟩ := cell_put r hg hi hz hv hpa hs0
  exact ⟨vz, h1, h2, h', h3, h4, h5⟩
theorem as_sound {f : FuncId} {hit : TypeId → TypeId → Nat} {sums : Sums} (hsum : SumsSound P W0 sums) (F : AsFacts P W0 f hit) : SumsSound P W0 (asX f hit sums) := by
  intro g s hg args k kp p E h w vs hb hs r hv
  unfold asX at hg
  cases hbq : Nat.beq g f with
  | false => rw [hbq] at hg; exact hsum g s hg args k kp p E h w vs hb hs r hv
  | true =>
    rw [hbq] at hg
    have := Nat.eq_of_beq_eq_true hbq
    subst this
    cases hg
    have hs : (asM hit args k).sat p h := hs
    unfold asM at hs
    split at hs
    · obtain ⟨x, y, rfl, hx, hy⟩ := vrs_two hv
      cases hx
      refine (F.nil w y r.below).mono fun e w' ⟨he, hb⟩ => ?_
      subst he
      exact ⟨E, h, _, Stp.refl _ _, r.grow hb, .bool false, hs⟩
    · rename_i te a x tp i o _
      obtain ⟨u, y, rfl, hu, hy⟩ := vrs_two hv
      cases hu with
      | iface _ _ v1 hv1 =>
      cases hy with
      | iface _ _ v2 hv2 =>
      cases hv2 with
      | ptr _ _ b z hi hz =>
      subst hz
      split at hs
      · rename_i hh
        have hv1' := hv1
        obtain ⟨vz, hz1, hz2, _⟩ := as_put r hi hv1 hs
        cases hv1 with
        | ptr _ _ b1 z1 hi1 hz1' =>
        refine (F.ptr te tp w _ _ vz hh r.below hz1 hz2).mono fun e w' ⟨he, w1, hb1, hw⟩ => ?_
        subst he; subst hw
        obtain ⟨_, _, _, h', g3, g4, g5⟩ := as_put (r.grow hb1) hi hv1' hs
        exact ⟨E, h', _, g4, g3, .bool true, g5⟩
      · exact (show False from hs).elim
    · rename_i te q n tp i o _
      obtain ⟨u, y, rfl, hu, hy⟩ := vrs_two hv
      cases hu with
      | iface _ _ v1 hv1 =>
      cases hy with
      | iface _ _ v2 hv2 =>
      cases hv2 with
      | ptr _ _ b z hi hz =>
      subst hz
      cases hv1
      split at hs
      · rename_i hh _
        obtain ⟨vz, hz1, hz2, _⟩ := as_put r hi (.int .i64 n) hs
        refine (F.int te tp w _ _ vz hh r.below hz1 hz2).mono fun e w' ⟨he, w1, hb1, hw⟩ => ?_
        subst he; subst hw
        obtain ⟨_, _, _, h', g3, g4, g5⟩ := as_put (r.grow hb1) hi (.int .i64 n) hs
        exact ⟨E, h', _, g4, g3, .bool true, g5⟩
      · rename_i hh _
        refine (F.miss te tp w _ _ hh r.below).mono fun e w' ⟨he, hb⟩ => ?_
        subst he
        exact ⟨E, h, _, Stp.refl _ _, r.grow hb, .bool false, hs⟩
      · exact (show False from hs).elim
    · exact (show False from hs).elim
end
end Go.X
