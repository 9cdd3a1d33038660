/-
  PROVED: writes, regions, code, loops, calls, said as propositions, are sound; laws for contracts; readings of a world. Condition: the proposition holds of the world's own heap.
-/
import Derived.Test.YtghpkpddmicleaaGreatDoorXf
import Derived.ChangeSlices
import Derived.ReadAgain
import Derived.Carry
import Derived.ChangeSame
import Derived.OpenShut
set_option linter.unusedVariables false
set_option linter.unusedSimpArgs false

namespace Go.X
/-- an operation that makes or writes -/
def EfOk (h : Heap) (K : ZK) (m : KV → FM) : Prop := ∀ (k : KV) (p : Post), (∀ v h', h'.inf = true → K v h' → (k v.av).sat p h') → (m k).sat p h
/-- calls, and rounds of ranges over functions: those stand behind the functions, by their loop's name -/
structure CZ (P : Program) (call : CallRec) (round : RoundRec) (C : ZCall) : Prop where
  call : ∀ f args (K : ZK) h, f < P.funcs.size → h.inf = true → C f args K h → ∀ kp, EfOk h K (fun k => call f (avs args) k kp)
  round : ∀ l args (K : ZK) h, h.inf = true → C (rndId P l) args K h → EfOk h K (fun k => round l (avs args) k)
theorem bodied_lt {P : Program} {f : FuncId} (h : bodied P f = true) : f < P.funcs.size := by
  unfold bodied at h
  cases hf : P.funcs[f]? with
  | none => rw [hf] at h; cases h
  | some fn => exact (Array.getElem?_eq_some_iff.1 hf).1
theorem EfOk.eq {h : Heap} {K : ZK} {m m' : KV → FM} (e : ∀ k, m k = m' k) (r : EfOk h K m') : EfOk h K m := fun k p hp => by rw [e]; exact r k p hp
theorem EfOk.val {h : Heap} {K : ZK} {m : KV → FM} (hinf : h.inf = true) (v : ZV) (hk : K v h) (e : ∀ k, m k = k v.av) : EfOk h K m := fun k p hp => by rw [e]; exact hp v h hinf hk
theorem putK_eq' {α : Type} (vs : List α) : ∀ (n : Nat) (l : List α) (k : List α → FM), n + vs.length ≤ l.length → putK vs n l k = k (l.take n ++ (vs ++ l.drop (n + vs.length)))
  | 0, l, k, hl => by
    show overK vs l k = _
    rw [overK_eq, if_pos (by omega)]; simp
  | n + 1, [], k, hl => by simp at hl
  | n + 1, x :: l, k, hl => by
    show putK vs n l (fun r => k (x :: r)) = _
    simp only [List.length_cons] at hl
    rw [putK_eq' vs n l _ (by omega)]
    have e : (x :: l).drop (n + 1 + vs.length) = l.drop (n + vs.length) := by
      rw [show n + 1 + vs.length = (n + vs.length) + 1 by omega]; rfl
    rw [e]; rfl
theorem hput_eq {h : Heap} {i : Nat} {c : List AV} {e : Nat} {g m : Bool} (hg : h.get i = some (.cells c e g m)) (o : Nat) (vs : List AV) : hput h i o vs = h.put i (some (.cells (c.take o ++ (vs ++ c.drop (o + vs.length))) e g m)) := by
  unfold hput; rw [hg]
theorem hput_inf (h : Heap) (i o : Nat) (vs : List AV) : (hput h i o vs).inf = h.inf := by unfold hput; split <;> rfl
theorem hput_next (h : Heap) (i o : Nat) (vs : List AV) : (hput h i o vs).next = h.next := by unfold hput; split <;> rfl
theorem hmap_inf (h : Heap) (i : Nat) (f : List (AV × AV) → List (AV × AV)) : (hmap h i f).inf = h.inf := by unfold hmap; split <;> rfl
theorem hmap_next (h : Heap) (i : Nat) (f : List (AV × AV) → List (AV × AV)) : (hmap h i f).next = h.next := by unfold hmap; split <;> rfl
theorem overC_sat {h : Heap} {i o : Nat} {cs : List AV} {m : FM} {p : Post} (hpl : allPlain cs = true) (hc : canPut h i (o + cs.length)) (hs : m.sat p (hput h i o cs)) : (overC i o cs m).sat p h := by
  obtain ⟨hi, c, e, g, mk, hg, hl⟩ := hc
  unfold overC
  rw [hpl, cnd_true]
  refine ⟨_, hg, ?_⟩
  show (putK cs o c fun c' => .set i (.cells c' e g mk) m).sat p h
  rw [putK_eq' cs o c _ hl]
  rw [hput_eq hg] at hs
  exact ⟨hi, hs⟩
theorem new_sat {h : Heap} (hinf : h.inf = true) {o : AObj} {k : Nat → FM} {p : Post} (hs : (k h.next).sat p (h.newO o)) : (FM.new o k).sat p h := ⟨.inl hinf, hs⟩
theorem zPlain_spec : ∀ {l : List ZV} {A : Prop}, zPlain l A → allPlain (avs l) = true ∧ A
  | [], A, h => ⟨rfl, h⟩
  | v :: r, A, h => by
    have key : v.av.plainC = true → zPlain r A → allPlain (avs (v :: r)) = true ∧ A := fun hp h2 => by
      obtain ⟨h3, h4⟩ := zPlain_spec h2
      refine ⟨?_, h4⟩
      show cnd v.av.plainC (allPlain (avs r)) false = true
      rw [hp, h3]; rfl
    cases v with
    | any a => obtain ⟨hp, h2⟩ := h; exact key (by simpa using hp) h2
    | agg cs => exact h.elim
    | tup cs => exact h.elim
    | _ => exact key (plainC_of (fun a e => by cases e) (fun cs e => by cases e) (fun cs e => by cases e)) h
theorem minsert_eq (key v : AV) : ∀ (l : List (AV × AV)) (k : List (AV × AV) → FM), insertK key v l k = k (minsert key v l)
  | [], k => rfl
  | e :: t, k => by
    show cnd (keyLt key e.1) (k ((key, v) :: e :: t)) (insertK key v t fun r => k (e :: r)) = k (match keyLt key e.1 with | true => (key, v) :: e :: t | false => e :: minsert key v t)
    cases keyLt key e.1
    · rw [cnd_false, minsert_eq key v t]
    · rfl
theorem eqNs_refl (l : List Nat) : eqNs l l = true := by
  induction l with
  | nil => rfl
  | cons x t ih => show cnd (Nat.beq x x) (eqNs t t) false = true; rw [Nat.beq_refl, cnd_true, ih]
theorem keyEqK_eq {key k2 : AV} (hf : keyFit key k2 = true) (k : Bool → FM) : keyEqK key k2 k = k (eqAV key k2) := by
  cases k2 with
  | int r2 m =>
    cases key with
    | int q n =>
      have hb : Nat.beq (kindN q) (kindN r2) = true := hf
      have e2 : eqAV (.int q n) (.int r2 m) = eqI n m := by
        show cnd (Nat.beq (kindN q) (kindN r2)) (eqI n m) false = _
        rw [hb]; rfl
      rw [e2]
      show cnd (Nat.beq (kindN q) (kindN r2)) _ _ = _
      rw [hb]; rfl
    | _ => cases hf
  | str s2 =>
    cases key with
    | str s1 =>
      have e2 : eqAV (.str s1) (.str s2) = bytesEq s1 s2 := by
        show eqNs s1 s2 = _
        rw [bytesEq_dec]
        by_cases e : s1 = s2
        · subst e; simp [eqNs_refl]
        · simp only [e, decide_false]
          cases hb : eqNs s1 s2
          · rfl
          · exact absurd (eqNs_eq hb) e
      rw [e2]; rfl
    | _ => cases hf
  | _ => cases hf
theorem mreplace_eq {key : AV} (v : AV) : ∀ (l : List (AV × AV)), keysFit l key = true → ∀ (k : List (AV × AV) → FM), replaceK key v l k = k (mreplace key v l)
  | [], _, k => rfl
  | e :: t, hf, k => by
    have hf' : (keyFit key e.1 && keysFit t key) = true := hf
    rw [Bool.and_eq_true] at hf'
    show keyEqK key e.1 (fun b => cnd b (k ((key, v) :: t)) (replaceK key v t fun r => k (e :: r))) = k (match eqAV key e.1 with | true => (key, v) :: t | false => e :: mreplace key v t)
    rw [keyEqK_eq hf'.1]
    cases eqAV key e.1
    · rw [cnd_false, mreplace_eq v t hf'.2]
    · rfl
theorem mdelete_eq {key : AV} : ∀ (l : List (AV × AV)), keysFit l key = true → ∀ (k : List (AV × AV) → FM), delK key l k = k (mdelete key l)
  | [], _, k => rfl
  | e :: t, hf, k => by
    have hf' : (keyFit key e.1 && keysFit t key) = true := hf
    rw [Bool.and_eq_true] at hf'
    show keyEqK key e.1 (fun b => cnd b (k t) (delK key t fun r => k (e :: r))) = k (match eqAV key e.1 with | true => t | false => e :: mdelete key t)
    rw [keyEqK_eq hf'.1]
    cases eqAV key e.1
    · rw [cnd_false, mdelete_eq t hf'.2]
    · rfl
section
variable {P : Program} {h : Heap}
theorem zCellsN_sound {v : ZV} {K : List ZV → Prop} (hs : zCellsN v K) : ∃ cs, K cs ∧ v.av.cellsK = fun k => k (avs cs) := by
  unfold zCellsN at hs
  split at hs
  · rename_i cs; exact ⟨cs, hs, by rw [av_agg]; rfl⟩
  · exact hs.elim
  · rename_i a
    obtain ⟨hp, hk⟩ := hs
    exact ⟨_, hk, by funext k; rw [av_any, plain_cellsK hp]; simp⟩
  · rename_i n1 n2 n3
    have hp := plainC_of (v := v) (fun a e => n3 a e) (fun cs e => n1 cs e) (fun cs e => n2 cs e)
    exact ⟨_, hs, by funext k; rw [plain_cellsK hp]; simp⟩
theorem zKeyFit_spec {t : TypeId} {key : ZV} {K : AV → Prop} (hs : zKeyFit P t key K) : K key.av ∧ (∃ ke, elemM P t = some ke) ∧ (∀ m : FM, fitK P t key.av m = m) ∧ ∀ k : TypeId → FM, ∃ ke, elemM P t = some ke ∧ mapK P t k = k ke.2 := by
  unfold zKeyFit at hs
  split at hs
  · rename_i kt e q n hm
    split at hs
    · rename_i ht
      refine ⟨by simpa using hs, ⟨_, hm⟩, fun m => ?_, fun k => ⟨_, hm, ?_⟩⟩
      · unfold fitK
        rw [hm, optM_some, av_int]
        show cnd (Nat.beq (tagOf P kt) 2) m (.fail 48) = _
        rw [ht, cnd_true]
      · unfold mapK
        rw [hm, optM_some]
        simp only [ht, cnd_true]
    · exact hs.elim
  · rename_i kt e s hm
    split at hs
    · rename_i ht
      have h2 : Nat.beq (tagOf P kt) 2 = false := by
        cases hb : Nat.beq (tagOf P kt) 2
        · rfl
        · have a := natbeq hb; have b := natbeq ht; omega
      refine ⟨by simpa using hs, ⟨_, hm⟩, fun m => ?_, fun k => ⟨_, hm, ?_⟩⟩
      · unfold fitK
        rw [hm, optM_some, av_str]
        show cnd (Nat.beq (tagOf P kt) 3) m (.fail 48) = _
        rw [ht, cnd_true]
      · unfold mapK
        rw [hm, optM_some]
        simp only [ht, h2, cnd_true, cnd_false]
    · exact hs.elim
  · exact hs.elim
theorem roomK_intro {e : TypeId} {n : Nat} (hr : roomB P e n = true) (m : FM) : roomK P e n m = m := by
  unfold roomB at hr
  unfold roomK
  split at hr
  · rename_i b hb
    rw [hb, optM_some, hr, cnd_true]
  · cases hr
theorem rowK_intro {e : TypeId} {sz : Nat} {zs : List AV} (hsz : szO P e = some sz) (hz : (zeroO P e).bind cellsOf = some zs) (hl : Nat.beq zs.length sz = true) (n : Nat) (k : List AV → Nat → FM) : rowK P e n k = k (List.replicate n zs).flatten sz := by
  obtain ⟨zv, h1, h2⟩ := Option.bind_eq_some_iff.1 hz
  show zrowK P e n k = _
  unfold zrowK
  rw [hsz, optM_some, h1, optM_some, cellsOf_cellsK h2, lenK_eq, show Nat.zero + zs.length = zs.length from Nat.zero_add _, hl, cnd_true, repK_eq]
theorem growK_intro {e : TypeId} {sz : Nat} {zs : List AV} (hz : (zeroO P e).bind cellsOf = some zs) (hl : Nat.beq zs.length sz = true) (cs : List AV) (m : Nat) (mk : Bool) (k : KV) : growK P e cs sz m mk k = .new (.cells cs sz true mk) fun j => k (.slice j Nat.zero m m true) := by
  obtain ⟨zv, h1, h2⟩ := Option.bind_eq_some_iff.1 hz
  unfold growK
  rw [h1, optM_some, cellsOf_cellsK h2, lenK_eq, show Nat.zero + zs.length = zs.length from Nat.zero_add _, hl, cnd_true]
theorem src_intro {xs : SL} {sz : Nat} {ds : List AV} (hn : xs.nil = true → ds = []) (hs : xs.nil = false → ∃ c, cellsAt h xs.i = some c ∧ (c.drop xs.o).take (xs.len * sz) = ds ∧ xs.len * sz ≤ (c.drop xs.o).length)
    (n : Nat) (hle : n ≤ xs.n) (kk : List AV → FM) (p : Post) (hp : (kk (ds.take (n * sz))).sat p h) : (firstC n sz xs.av kk).sat p h := by
  obtain ⟨xn, xi, xo, xl, xc, xe⟩ := xs
  cases xn with
  | true =>
    have e0 : n = 0 := Nat.le_zero.1 hle
    subst e0
    rw [hn rfl] at hp
    have hp' : (kk []).sat p h := by simpa using hp
    cases xe <;> exact hp'
  | false =>
    obtain ⟨c, h1, h2, h3⟩ := hs rfl
    have hle : n ≤ xl := hle
    show (readCells xi fun c => takeK (Nat.mul n sz) (dropL xo c) kk).sat p h
    refine readCells_sat h1 ?_
    simp only at h2 h3
    have hm : n * sz ≤ xl * sz := Nat.mul_le_mul_right _ hle
    rw [takeK_eq, dropL_eq, if_pos (by show n * sz ≤ _; omega)]
    rw [← h2, List.take_take, Nat.min_eq_left hm] at hp
    exact hp
end
section
variable {P : Program} {h : Heap}
theorem zUpdate_sound (hinf : h.inf = true) {t : TypeId} {m key v : ZV} {K : ZK} (hs : zUpdate P t m key v h K) : EfOk h K (fun k => xUpdate P t m.av key.av v.av k) := by
  unfold zUpdate at hs
  split at hs
  · rename_i nil i
    obtain ⟨hz, _, hfit, hmk⟩ := zKeyFit_spec hs
    obtain ⟨hn, hi, ⟨es, ver, hg, hf⟩, hk⟩ := hz
    subst hn
    intro k p hp
    obtain ⟨ke, _, e2⟩ := hmk (fun _ => fitK P t key.av ((ZV.mp false i).av.onMap (fun i => .get i fun o => o.onMap (fun es ver => findK key.av es fun r =>
      Option.rec (motive := fun _ => FM) (insertK key.av v.av es fun es' => .set i (.map es' (Nat.succ ver)) (k (.tuple [])))
        (fun _ => replaceK key.av v.av es fun es' => .set i (.map es' (Nat.succ ver)) (k (.tuple []))) r) (.fail 48)) (.fail 49)))
    show (mapK P t fun _ => fitK P t key.av ((ZV.mp false i).av.onMap (fun i => .get i fun o => o.onMap (fun es ver => findK key.av es fun r =>
      Option.rec (motive := fun _ => FM) (insertK key.av v.av es fun es' => .set i (.map es' (Nat.succ ver)) (k (.tuple [])))
        (fun _ => replaceK key.av v.av es fun es' => .set i (.map es' (Nat.succ ver)) (k (.tuple []))) r) (.fail 48)) (.fail 49))).sat p h
    rw [e2, hfit, av_mpf]
    refine ⟨_, hg, ?_⟩
    show (findK key.av es fun r => Option.rec (motive := fun _ => FM) (insertK key.av v.av es fun es' => .set i (.map es' (Nat.succ ver)) (k (.tuple [])))
        (fun _ => replaceK key.av v.av es fun es' => .set i (.map es' (Nat.succ ver)) (k (.tuple []))) r).sat p h
    rw [mlook_findK hf]
    have hh : hmap h i (mset key.av v.av) = h.put i (some (.map (mset key.av v.av es) (ver + 1))) := by unfold hmap; rw [hg]
    have hfin := hp (.tup []) _ (by rw [hmap_inf]; exact hinf) hk
    rw [hh] at hfin
    unfold mset at hfin
    cases hr : mlook es key.av with
    | none =>
      rw [hr] at hfin
      show (insertK key.av v.av es fun es' => .set i (.map es' (Nat.succ ver)) (k (.tuple []))).sat p h
      rw [minsert_eq]
      exact ⟨hi, by simpa using hfin⟩
    | some a =>
      rw [hr] at hfin
      show (replaceK key.av v.av es fun es' => .set i (.map es' (Nat.succ ver)) (k (.tuple []))).sat p h
      rw [mreplace_eq _ _ hf]
      exact ⟨hi, by simpa using hfin⟩
  · exact hs.elim
theorem zDelete_sound (hinf : h.inf = true) {t : TypeId} {nil : Bool} {i : Nat} {key : ZV} {K : ZK} (hs : zKeyFit P t key fun ka => ZMap h nil i ka (K (.tup []) (hmap h i (mdelete ka)))) : EfOk h K (fun k => xDelete P t (ZV.mp nil i).av key.av k) := by
  obtain ⟨hz, _, hfit, hmk⟩ := zKeyFit_spec hs
  obtain ⟨hn, hi, ⟨es, ver, hg, hf⟩, hk⟩ := hz
  subst hn
  intro k p hp
  obtain ⟨ke, _, e2⟩ := hmk (fun _ => fitK P t key.av ((ZV.mp false i).av.onMapN (k (.tuple [])) (fun i => .get i fun o => o.onMap (fun es v => delK key.av es fun es' => .set i (.map es' (Nat.succ v)) (k (.tuple []))) (.fail 48)) (.fail 49)))
  show (mapK P t fun _ => fitK P t key.av ((ZV.mp false i).av.onMapN (k (.tuple [])) (fun i => .get i fun o => o.onMap (fun es v => delK key.av es fun es' => .set i (.map es' (Nat.succ v)) (k (.tuple []))) (.fail 48)) (.fail 49))).sat p h
  rw [e2, hfit, av_mpf]
  refine ⟨_, hg, ?_⟩
  show (delK key.av es fun es' => .set i (.map es' (Nat.succ ver)) (k (.tuple []))).sat p h
  rw [mdelete_eq _ hf]
  have hh : hmap h i (mdelete key.av) = h.put i (some (.map (mdelete key.av es) (ver + 1))) := by unfold hmap; rw [hg]
  have hfin := hp (.tup []) _ (by rw [hmap_inf]; exact hinf) hk
  rw [hh] at hfin
  exact ⟨hi, by simpa using hfin⟩
theorem append_sound (hinf : h.inf = true) {st xt e : TypeId} {sz : Nat} {zs : List AV} (he : elemS P st = some e) (hsz : szO P e = some sz) (hz : (zeroO P e).bind cellsOf = some zs) (hzl : Nat.beq zs.length sz = true)
    {s : SL} {x : AV} {n : Nat} {ds : List AV} (ht : Nat.beq (tagOf P xt) 9 = true ∨ Nat.beq (tagOf P xt) 3 = true) (hx : x.lenO = some n) (hsrc : ∀ (kk : List AV → FM) (p : Post), (kk ds).sat p h → (firstC n sz x kk).sat p h)
    {K : ZK} (hs : ZApp P h s e sz n ds (K (.sl (s.app h.next n)) (happ h s sz n ds))) : EfOk h K (fun k => xAppend P st xt s.av x k) := by
  obtain ⟨ok, pl, hk⟩ := hs
  intro k p hp
  have h2 : Nat.beq (tagOf P xt) 2 = false := by
    cases hb : Nat.beq (tagOf P xt) 2
    · rfl
    · have a := natbeq hb
      rcases ht with h | h <;> (have b := natbeq h; omega)
  have hc : cnd (Nat.beq (tagOf P xt) 9) true (cnd (Nat.beq (tagOf P xt) 3) true (Nat.beq (tagOf P xt) 2)) = true := by
    rcases ht with h | h
    · rw [h]; rfl
    · rw [h]; cases Nat.beq (tagOf P xt) 9 <;> rfl
  have hlz : lenZ (Nat.beq (tagOf P xt) 2) x = some n := by rw [h2]; exact hx
  show (xAppend P st xt s.av x k).sat p h
  unfold xAppend
  rw [he, optM_some, hsz, optM_some, hc, cnd_true, hlz, optM_some, h2]
  show FM.sat (cnd (Nat.beq n Nat.zero) _ _) p h
  have hadd : ∀ (kk : List AV → FM) (p : Post), (kk ds).sat p h → (addC P e false n sz x kk).sat p h := hsrc
  obtain ⟨sn, si, so, sl, sc, se⟩ := s
  cases hn0 : Nat.beq n Nat.zero with
  | true =>
    rw [cnd_true]
    have e1 : Nat.beq n 0 = true := hn0
    simp only [SL.app, happ, e1] at hk
    cases sn with
    | true =>
      have hk2 := hp _ _ hinf hk
      cases se with
      | false =>
        show (k .nils).sat p h
        simpa [SL.av] using hk2
      | true =>
        show (k .emp).sat p h
        simpa [SL.av] using hk2
    | false =>
      show FM.sat (cnd (Nat.ble sl sc) (k (.slice si so sl sc se)) (.fail 39)) p h
      rw [Nat.ble_eq_true_of_le (ok.cap rfl), cnd_true]
      simpa [SL.av] using hp _ _ hinf hk
  | false =>
    rw [cnd_false]
    have e1 : Nat.beq n 0 = false := hn0
    have hne : n ≠ 0 := fun e => by subst e; cases hn0
    simp only [SL.app, happ, e1] at hk
    cases sn with
    | true =>
      simp only at hk
      have hse : se = false := ok.known hne rfl
      subst hse
      show (roomK P e n (addC P e false n sz x fun cs => growK P e cs sz n false k)).sat p h
      have hr := ok.room hne (.inr rfl)
      rw [roomK_intro (by simpa [SL.n] using hr)]
      refine hadd _ _ ?_
      rw [growK_intro hz hzl]
      exact new_sat hinf (by simpa [SL.av] using hp _ _ (by exact hinf) hk)
    | false =>
      simp only at hk
      show (apSlice P e sz si so sl sc se false n x k).sat p h
      unfold apSlice
      rw [forceNat_eq]
      cases hb : Nat.ble (sl + n) sc with
      | true =>
        have hle := Nat.le_of_ble_eq_true hb
        rw [hb] at hk
        simp only at hk
        rw [cnd_true]
        refine hadd _ _ ?_
        refine overC_sat pl (ok.here hne rfl hle) ?_
        simpa [SL.av] using hp _ _ (by rw [hput_inf]; exact hinf) hk
      | false =>
        have hgt : sc < sl + n := by
          rcases Nat.lt_or_ge sc (sl + n) with h | h
          · exact h
          · rw [Nat.ble_eq_true_of_le h] at hb; cases hb
        rw [hb] at hk
        simp only at hk
        rw [cnd_false]
        have hr := ok.room hne (.inl hgt)
        have hr' : roomB P e (Nat.add sl n) = true := hr
        rw [roomK_intro hr']
        cases se with
        | true =>
          obtain ⟨hi, c, mk, hg, hcl, hlen⟩ := ok.grown hne rfl hgt rfl
          simp only at hg hcl hlen hi
          rw [hg] at hk
          simp only at hk
          rw [cnd_true]
          refine ⟨_, hg, ?_⟩
          show (lenK c Nat.zero fun cl => cnd (cnd true (cnd (Nat.beq sz sz) (Nat.beq (Nat.add so (Nat.mul sc sz)) cl) false) false)
            (takeK (Nat.mul sl sz) (dropL so c) fun cs => addC P e false n sz x fun ds => cnd (allPlain ds) (appK cs ds fun cd => .set si .tomb (growK P e cd sz (sl + n) mk k)) (.fail 37)) (.fail 37)).sat p h
          have e3 : Nat.beq (Nat.add so (Nat.mul sc sz)) c.length = true := by rw [← hcl]; exact Nat.beq_refl _
          rw [lenK_eq, show Nat.zero + c.length = c.length from Nat.zero_add _, Nat.beq_refl, e3]
          show (takeK (Nat.mul sl sz) (dropL so c) fun cs => addC P e false n sz x fun ds => cnd (allPlain ds) (appK cs ds fun cd => .set si .tomb (growK P e cd sz (sl + n) mk k)) (.fail 37)).sat p h
          rw [takeK_eq, dropL_eq, if_pos (show Nat.mul sl sz ≤ _ from hlen)]
          refine hadd _ _ ?_
          rw [pl, cnd_true, appK_eq, growK_intro hz hzl]
          refine ⟨hi, new_sat (h := h.put si (some .tomb)) hinf ?_⟩
          simpa [SL.av] using hp _ _ (by exact hinf) hk
        | false =>
          obtain ⟨c, hcc, hlen⟩ := ok.read hne rfl hgt rfl
          simp only at hcc hlen
          rw [cnd_false]
          refine readCells_sat hcc ?_
          rw [takeK_eq, dropL_eq, if_pos (show Nat.mul sl sz ≤ _ from hlen)]
          refine hadd _ _ ?_
          rw [appK_eq, growK_intro hz hzl]
          refine new_sat hinf ?_
          unfold cellsAt at hcc
          cases hg : h.get si with
          | none => rw [hg] at hcc; cases hcc
          | some ob =>
            rw [hg] at hcc hk
            cases ob <;> simp only [Option.some.injEq, reduceCtorEq] at hcc
            · subst hcc
              simp only at hk
              simpa [SL.av] using hp _ _ (by exact hinf) hk
            · subst hcc
              simp only at hk
              simpa [SL.av] using hp _ _ (by exact hinf) hk
end
end Go.X

namespace Go.X
section
variable {P : Program} {h : Heap} {z : ZT} {c : OC} {kd : ADef → FM} {kp : Chain → FM} {C : ZCall}
theorem zAppend_sound (hinf : h.inf = true) {st xt : TypeId} {s x : ZV} {K : ZK} (hs : zAppend P st xt s x h K) : EfOk h K (fun k => xAppend P st xt s.av x.av k) := by
  unfold zAppend at hs
  split at hs
  · rename_i e s he
    split at hs
    · rename_i sz zs hsz hz
      split at hs
      · rename_i hzl
        split at hs
        · rename_i xs
          split at hs
          · rename_i ht
            obtain ⟨ds, h1, h2, hk⟩ := hs
            rw [av_sl]
            refine append_sound hinf he hsz hz hzl (.inl ht) (n := xs.n) ?_ (fun kk p hp => ?_) hk
            · rw [av_sl]; obtain ⟨xn, _, _, _, _, xe⟩ := xs; cases xn <;> cases xe <;> rfl
            · rw [av_sl]
              refine src_intro h1 h2 xs.n (Nat.le_refl _) kk p ?_
              have hlen : ds.length ≤ xs.n * sz := by
                obtain ⟨xn, xi, xo, xl, xc, xe⟩ := xs
                cases xn with
                | true => rw [h1 rfl]; simp
                | false =>
                  obtain ⟨c, _, e2, _⟩ := h2 rfl
                  rw [← e2, List.length_take]; exact Nat.min_le_left _ _
              rw [List.take_of_length_le hlen]; exact hp
          · exact hs.elim
        · rename_i l
          split at hs
          · rename_i ht h1
            have e1 := natbeq h1
            subst e1
            rw [av_sl, av_str]
            refine append_sound hinf he hsz hz hzl (.inr ht) (n := l.length) rfl (fun kk p hp => ?_) hs
            show FM.sat (cnd (Nat.beq 1 1) (takeK l.length l fun s' => kk (ofBytes s')) (.fail 34)) p h
            rw [Nat.beq_refl, cnd_true, takeK_eq, if_pos (Nat.le_refl _), List.take_length]
            exact hp
          · exact hs.elim
        · exact hs.elim
      · exact hs.elim
    · exact hs.elim
  · exact hs.elim
theorem zCopy_sound (hinf : h.inf = true) {t : TypeId} {d x : ZV} {K : ZK} (hs : zCopy P t d x h K) : EfOk h K (fun k => xCopy P t d.av x.av k) := by
  unfold zCopy at hs
  split at hs
  · rename_i e d he
    split at hs
    · rename_i sz s hsz
      obtain ⟨ds, h1, h2, hcan, hpl, hk⟩ := hs
      intro k p hp
      have lenO_sl : ∀ s : SL, (ZV.sl s).av.lenO = some s.n := fun s => by
        rw [av_sl]; obtain ⟨xn, _, _, _, _, xe⟩ := s; cases xn <;> cases xe <;> rfl
      show (xCopy P t (ZV.sl d).av (ZV.sl s).av k).sat p h
      unfold xCopy
      rw [he, optM_some, hsz, optM_some, lenO_sl, optM_some, lenO_sl, optM_some, forceNat_eq]
      have hm : cnd (Nat.ble s.n d.n) s.n d.n = min d.n s.n := by
        cases hb : Nat.ble s.n d.n with
        | true => rw [cnd_true, Nat.min_eq_right (Nat.le_of_ble_eq_true hb)]
        | false =>
          rw [cnd_false, Nat.min_eq_left]
          rcases Nat.lt_or_ge s.n d.n with h | h
          · rw [Nat.ble_eq_true_of_le (Nat.le_of_lt h)] at hb; cases hb
          · exact h
      rw [hm]
      have hfin := hp _ _ (by rw [hput_inf]; exact hinf) hk
      rw [av_int] at hfin
      have hdl : ds.length ≤ s.n * sz ∧ (s.nil = false → ds.length = s.len * sz) := by
        obtain ⟨xn, xi, xo, xl, xc, xe⟩ := s
        cases xn with
        | true => rw [h1 rfl]; simp
        | false =>
          obtain ⟨c, _, e2, e3⟩ := h2 rfl
          have : ds.length = xl * sz := by rw [← e2, List.length_take]; exact Nat.min_eq_left e3
          exact ⟨Nat.le_of_eq this, fun _ => this⟩
      cases hj : Nat.beq (min d.n s.n) Nat.zero with
      | true =>
        rw [cnd_true]
        have e0 : min d.n s.n = 0 := natbeq hj
        obtain ⟨hi0, c0, e0', g0, m0, hg0, hl0⟩ := hcan
        have hsame : hput h d.i d.o (ds.take (min d.n s.n * sz)) = h := by
          rw [e0, Nat.zero_mul, List.take_zero, hput_eq hg0]
          simp only [List.length_nil, Nat.add_zero, List.nil_append, List.take_append_drop]
          refine Heap.ext (fun i => ?_) rfl rfl rfl
          rw [Heap.get_put _ trivial]
          by_cases e : i = d.i
          · rw [if_pos e, e, hg0]
          · rw [if_neg e]
        rw [hsame, e0] at hfin
        obtain ⟨dn, _, _, _, _, de⟩ := d
        cases dn <;> cases de <;> (show (retN Nat.zero k).sat p h; unfold retN; rw [forceNat_eq]; exact hfin)
      | false =>
        rw [cnd_false, av_sl]
        refine src_intro h1 h2 (min d.n s.n) (Nat.min_le_right _ _) _ p ?_
        have hdn : d.nil = false := by
          cases hd : d.nil with
          | false => rfl
          | true =>
            have : d.n = 0 := by unfold SL.n; rw [hd]
            rw [this, Nat.zero_min] at hj; cases hj
        have hda : (ZV.sl d).av = .slice d.i d.o d.len d.cap d.ext := by rw [av_sl]; unfold SL.av; rw [hdn]
        rw [hda]
        show (overC d.i d.o (ds.take (min d.n s.n * sz)) (retN (min d.n s.n) k)).sat p h
        have htl : (ds.take (min d.n s.n * sz)).length ≤ min d.n s.n * sz := by rw [List.length_take]; exact Nat.min_le_left _ _
        refine overC_sat ?_ ?_ ?_
        · have key : ∀ (l : List AV) (n : Nat), allPlain l = true → allPlain (l.take n) = true := by
            intro l
            induction l with
            | nil => intro n h; simpa using h
            | cons a l ih =>
              intro n h
              cases n with
              | zero => rfl
              | succ n =>
                have h' : cnd a.plainC (allPlain l) false = true := h
                rw [cnd_and] at h'
                show cnd a.plainC (allPlain (l.take n)) false = true
                rw [cnd_and]; exact ⟨h'.1, ih n h'.2⟩
          exact key _ _ hpl
        · obtain ⟨hi0, c0, e0', g0, m0, hg0, hl0⟩ := hcan
          exact ⟨hi0, c0, e0', g0, m0, hg0, by omega⟩
        · show (retN (min d.n s.n) k).sat p _
          unfold retN
          rw [forceNat_eq]; exact hfin
    · exact hs.elim
  · exact hs.elim
theorem zExt_sound (hinf : h.inf = true) {n : Nat} {args : List ZV} {K : ZK} (hs : zExt n args h K) : EfOk h K (fun k => extK n (avs args) k) := by
  unfold zExt at hs
  split at hs
  · rename_i a b hn
    have e := natbeq hn
    subst e
    obtain ⟨x, a1, a2, a3, y, b1, b2, b3, hk⟩ := hs
    intro k p hp
    have hfin := hp _ _ hinf hk
    have bok : ∀ (s : SL) (l : List Nat) (kk : List Nat → FM) (q : Post), (s.nil = true → l = []) → (s.nil = false → ∃ c, cellsAt h s.i = some c ∧ (c.drop s.o).take s.len = ofBytes l ∧ s.len ≤ (c.drop s.o).length) → (∀ x, x ∈ l → x < 256) → (kk l).sat q h → (bytesOfK (ZV.sl s).av kk).sat q h := by
      intro s l kk q n1 n2 n3 hq
      obtain ⟨sn, si, so, sl, sc, se⟩ := s
      rw [av_sl]
      cases sn with
      | true => rw [n1 rfl] at hq; cases se <;> exact hq
      | false =>
        obtain ⟨c, c1, c2, c3⟩ := n2 rfl
        show (readCells si fun c => takeK sl (dropL so c) fun l => bytesK l kk).sat q h
        refine readCells_sat c1 ?_
        simp only at c2 c3
        rw [takeK_eq, dropL_eq, if_pos c3, c2, bytesK_ofBytes _ _ n3]
        exact hq
    show (just2 (avs [.sl a, .sl b]) fun a b => bytesOfK a fun x => bytesOfK b fun y => k (.int .i64 (cnd (bytesLt x y) (.negSucc Nat.zero) (cnd (bytesEq x y) (.ofNat Nat.zero) (.ofNat 1))))).sat p h
    show (bytesOfK (ZV.sl a).av fun x => bytesOfK (ZV.sl b).av fun y => k (.int .i64 (cnd (bytesLt x y) (.negSucc Nat.zero) (cnd (bytesEq x y) (.ofNat Nat.zero) (.ofNat 1))))).sat p h
    refine bok a x _ p a1 a2 a3 (bok b y _ p b1 b2 b3 ?_)
    rw [av_int] at hfin
    have e : cnd (bytesLt x y) (.negSucc Nat.zero) (cnd (bytesEq x y) (.ofNat Nat.zero) (.ofNat 1)) = (if bytesLt x y then -1 else if x = y then 0 else 1 : Int) := by
      rw [bytesEq_dec]
      cases bytesLt x y
      · by_cases e : x = y <;> simp [e, cnd]
      · rfl
    rw [e]; exact hfin
  · rename_i nil i o a b hn
    split at hs
    · rename_i h2
      have e := natbeq h2
      subst e
      obtain ⟨hn, x, hx, ⟨hi, c, e, g, mk, hg, hl⟩, hk⟩ := hs
      subst hn
      have hc : c[o]? = some (.int .i32 x) := by
        unfold cellAt cellsAt at hx
        rw [hg] at hx
        exact hx
      intro k p hp
      have hf : ∀ m : FM, (cnd (eqI x a) (putK [AV.int .i32 b] o c fun c' => FM.set i (.cells c' e g mk) (k (.bool true))) (k (.bool false))).sat p h → (extK 2 (avs [.pv false i o, .int .i32 a, .int .i32 b]) k).sat p h := fun _ hm => by
        rw [avs_cons, avs_cons, avs_cons, avs_nil, av_pvf, av_int, av_int]
        refine ⟨_, hg, ?_⟩
        show (optM (nthL c o) (.fail 183) _).sat p h
        rw [nthL_eq, hc, optM_some]
        exact hm
      refine hf (.fail 0) ?_
      cases hb : eqI x a with
      | true =>
        rw [hb, cnd_true] at hk
        rw [cnd_true, putK_eq' [AV.int .i32 b] o c _ hl]
        have := hp _ _ (by rw [hput_inf]; exact hinf) hk
        rw [av_bool, hput_eq hg] at this
        exact ⟨hi, this⟩
      | false =>
        rw [hb, cnd_false] at hk
        rw [cnd_false]
        have := hp _ _ hinf hk
        rw [av_bool] at this
        exact this
    · exact hs.elim
  · rename_i nil i o b hn
    split at hs
    · rename_i h2
      have e := natbeq h2
      subst e
      obtain ⟨hn, x, hx, ⟨hi, c, e, g, mk, hg, hl⟩, ⟨hk⟩⟩ := hs
      subst hn
      have hc : c[o]? = some (.int .i32 x) := by
        unfold cellAt cellsAt at hx
        rw [hg] at hx
        exact hx
      intro k p hp
      have hf : (retI .i32 (addI x b) fun v => putK [v] o c fun c' => FM.set i (.cells c' e g mk) (k v)).sat p h → (extK 3 (avs [.pv false i o, .int .i32 b]) k).sat p h := fun hm => by
        rw [avs_cons, avs_cons, avs_nil, av_pvf, av_int]
        refine ⟨_, hg, ?_⟩
        show (optM (nthL c o) (.fail 183) _).sat p h
        rw [nthL_eq, hc, optM_some]
        exact hm
      refine hf ?_
      unfold retI
      rw [forceInt_eq, wrapI_eq, addI_eq]
      show (putK [AV.int .i32 (IntKind.i32.wrap (x + b))] o c fun c' => FM.set i (.cells c' e g mk) (k (.int .i32 (IntKind.i32.wrap (x + b))))).sat p h
      rw [putK_eq' [AV.int .i32 (IntKind.i32.wrap (x + b))] o c _ hl]
      have := hp _ _ (by rw [hput_inf]; exact hinf) hk
      rw [av_int, hput_eq hg] at this
      exact ⟨hi, this⟩
    · exact hs.elim
  · exact hs.elim
theorem zFunc_sound {call : CallRec} {round : RoundRec} (hC : CZ P call round C) (hinf : h.inf = true) {f : FuncId} {args : List ZV} {K : ZK} (hs : zFunc P C f args h K) : EfOk h K (fun k => xFunc P call f (avs args) k kp) := by
  unfold zFunc at hs
  split at hs
  · rename_i hb
    refine .eq (fun k => ?_) (hC.call f args K h (bodied_lt hb) hinf hs kp)
    unfold xFunc; rw [hb, cnd_true]
  · rename_i hb
    refine .eq (fun k => ?_) (zExt_sound hinf hs)
    unfold xFunc; rw [hb, cnd_false]
theorem zCallV_sound {call : CallRec} {round : RoundRec} (hC : CZ P call round C) (hinf : h.inf = true) {f : ZV} {args : List ZV} {K : ZK} (hs : zCallV P C f args h K) :
    EfOk h K (fun k => f.av.onFunc (fun g first captured => appK first (avs args) fun l => xApply P call round g l captured k kp) (.fail 153)) := by
  have av_anys : ∀ l : List AV, avs (zOfs l) = l := zOfs_av
  unfold zCallV at hs
  split at hs
  · rename_i g fs cap
    refine .eq (fun k => ?_) (zFunc_sound (kp := kp) hC hinf hs)
    rw [av_fn]
    show appK (avs fs) (avs args) (fun l => xApply P call round (.plain (.func g)) l (avs cap) k kp) = _
    rw [appK_eq]
    show appK (avs fs ++ avs args) (avs cap) (fun l => xFunc P call g l k kp) = _
    rw [appK_eq, ← avs_append, ← avs_append]
  · rename_i l fs cap
    refine .eq (fun k => ?_) (hC.round l (fs ++ args) K h hinf hs)
    rw [av_fn]
    show appK (avs fs) (avs args) (fun l2 => xApply P call round (.yield l) l2 (avs cap) k kp) = _
    rw [appK_eq, ← avs_append]; rfl
  · rename_i a
    obtain ⟨g, fs, cap, e, hk⟩ := hs
    subst e
    refine .eq (fun k => ?_) (zFunc_sound (kp := kp) hC hinf hk)
    rw [av_any]
    show appK fs (avs args) (fun l => xApply P call round (.plain (.func g)) l cap k kp) = _
    rw [appK_eq]
    show appK (fs ++ avs args) cap (fun l => xFunc P call g l k kp) = _
    rw [appK_eq, avs_append, avs_append, av_anys, av_anys]
  · exact hs.elim
theorem zMethod_sound {call : CallRec} {round : RoundRec} (hC : CZ P call round C) (hinf : h.inf = true) {r : ZV} {name : String} {args : List ZV} {K : ZK} (hs : zMethod P C r name args h K) : EfOk h K (fun k => xMethod P call r.av name (avs args) k kp) := by
  unfold zMethod at hs
  split at hs
  · rename_i t v
    split at hs
    · rename_i f hm
      refine .eq (fun k => ?_) (zFunc_sound (kp := kp) hC hinf hs)
      unfold xMethod
      rw [av_iface]
      show MtK.rec (motive := fun _ => FM) _ _ _ _ (methodOf P t name) = _
      rw [hm]; rfl
    · rename_i f el hm
      split at hs
      · rename_i nil i o
        obtain ⟨hn, hk⟩ := hs
        subst hn
        obtain ⟨v', hk, e⟩ := zLoad_sound P hk
        intro k p hp
        show (xMethod P call (ZV.iface t (.pv false i o)).av name (avs args) k kp).sat p h
        unfold xMethod
        rw [av_iface, av_pvf]
        show FM.sat (MtK.rec (motive := fun _ => FM) _ _ _ _ (methodOf P t name)) p h
        rw [hm]
        show (loadC P el i o fun v' => xFunc P call f (v' :: avs args) k kp).sat p h
        exact e _ p (zFunc_sound (kp := kp) hC hinf hk k p hp)
      · exact hs.elim
    · exact hs.elim
  · exact hs.elim
theorem zBltE_sound (hinf : h.inf = true) {b : Builtin} {l : List ZV} {ts : Array TypeId} {K : ZK} (hs : zBltE P b l ts h K) : EfOk h K (fun k => bltK P b (avs l) ts k) := by
  unfold zBltE at hs
  split at hs
  · rename_i s x
    split at hs
    · rename_i st xt h0 h1
      refine .eq (fun k => ?_) (zAppend_sound hinf hs)
      show optM ts[0]? (.fail 50) (fun st => optM ts[1]? (.fail 50) fun xt => args2 (avs [s, x]) fun s x => xAppend P st xt s x k) = _
      rw [h0, optM_some, h1, optM_some]; rfl
    · exact hs.elim
  · rename_i d x
    split at hs
    · rename_i t h0
      refine .eq (fun k => ?_) (zCopy_sound hinf hs)
      show optM ts[0]? (.fail 50) (fun t => args2 (avs [d, x]) fun d s => xCopy P t d s k) = _
      rw [h0, optM_some]; rfl
    · exact hs.elim
  · rename_i nil i key
    split at hs
    · rename_i t h0
      refine .eq (fun k => ?_) (zDelete_sound hinf hs)
      show optM ts[0]? (.fail 50) (fun t => args2 (avs [.mp nil i, key]) fun m key => xDelete P t m key k) = _
      rw [h0, optM_some]; rfl
    · exact hs.elim
  · exact hs.elim
theorem zEff_sound {call : CallRec} {round : RoundRec} (hC : CZ P call round C) (hinf : h.inf = true) (hev : ∀ x, c.ev x = (zEv P z x).av) (hcall : c.call = call) (hrnd : c.round = round) {o : Op} {K : ZK} (hs : zEff P C o z h K) : EfOk h K (fun k => opK P o c k kd kp) := by
  unfold zEff at hs
  split at hs
  · rename_i e
    split at hs
    · rename_i zs hz
      obtain ⟨zv, h1, h2⟩ := Option.bind_eq_some_iff.1 hz
      intro k p hp
      show (optM (zeroO P e) (.fail 101) fun z => newVar z k).sat p h
      rw [h1, optM_some]
      unfold newVar
      rw [cellsOf_cellsK h2]
      exact new_sat hinf (by simpa using hp _ _ (by exact hinf) hs)
    · exact hs.elim
  · rename_i e x
    obtain ⟨cs, hk, e1⟩ := zCellsN_sound hs
    intro k p hp
    show (newVar (c.ev x) k).sat p h
    unfold newVar
    rw [hev, e1]
    exact new_sat hinf (by simpa using hp _ _ (by exact hinf) hk)
  · rename_i t len parts
    unfold zBuildSlice at hs
    split at hs
    · rename_i e he
      split at hs
      · rename_i sz zs hsz hz
        split at hs
        · rename_i hzl hr hb
          obtain ⟨r, hk, _, e2⟩ := zFill_sound hev hs
          rw [zOfs_av] at e2
          intro k p hp
          show (optM (elemS P t) (.fail 104) fun e => roomK P e len (rowK P e len fun cs0 sz => cnd (Nat.ble (Nat.mul len sz) 16777216)
            (fillK c (fun i => some (Nat.mul i sz, sz)) parts.toList cs0 fun cs => .new (.cells cs sz false false) fun i => k (.slice i Nat.zero len len false)) (.fail 104))).sat p h
          rw [he, optM_some, roomK_intro hr, rowK_intro hsz hz hzl, hb, cnd_true, e2]
          exact new_sat hinf (by simpa [SL.av] using hp _ _ (by exact hinf) hk)
        · exact hs.elim
      · exact hs.elim
    · exact hs.elim
  · rename_i t a v
    split at hs
    · rename_i nil i o n ha hsz
      obtain ⟨hn, hs⟩ := hs
      subst hn
      obtain ⟨cs, hk, hl, _, e1⟩ := zCells_sound hs
      obtain ⟨hpl, hcan, hk⟩ := zPlain_spec hk
      intro k p hp
      show ((c.ev a).onPtr (fun i o => storeC P t i o (c.ev v) (k (.tuple []))) (.fail 108)).sat p h
      rw [hev, hev, ha, av_pvf]
      show (storeC P t i o (zEv P z v).av (k (.tuple []))).sat p h
      unfold storeC
      rw [hsz, optM_some, e1]
      refine overC_sat hpl (by rw [avs_length, hl]; exact hcan) ?_
      simpa using hp _ _ (by rw [hput_inf]; exact hinf) hk
    · exact hs.elim
  · rename_i t m k v
    refine .eq (fun kk => ?_) (zUpdate_sound hinf hs)
    show xUpdate P t (c.ev m) (c.ev k) (c.ev v) kk = _
    rw [hev, hev, hev]
  · rename_i t m k v
    refine .eq (fun kk => ?_) (zUpdate_sound hinf hs)
    show xUpdate P t (c.ev m) (c.ev k) (c.ev v) kk = _
    rw [hev, hev, hev]
  · rename_i t r
    split at hs
    · intro k p hp
      show (FM.new (.map [] Nat.zero) fun i => k (.map i)).sat p h
      exact new_sat hinf (by simpa using hp _ _ (by exact hinf) hs)
    · rename_i x
      split at hs
      · rename_i ke q n hm hx
        intro k p hp
        show (optM (elemM P t) (.fail 115) fun _ => (c.ev x).onInt (fun _ _ => .new (.map [] Nat.zero) fun i => k (.map i)) (.fail 115)).sat p h
        rw [hm, optM_some, hev, hx, av_int]
        exact new_sat hinf (by simpa using hp _ _ (by exact hinf) hs)
      · exact hs.elim
  · rename_i t l m
    unfold zMakeSlice at hs
    split at hs
    · rename_i e q n q2 p2 he hl hm
      split at hs
      · rename_i sz zs hsz hz
        split at hs
        · rename_i hzl
          obtain ⟨n, en, pp, ep, hle, hr, hk⟩ := hs
          subst en; subst ep
          intro k p hp
          show (optM (elemS P t) (.fail 115) fun e => (c.ev l).onNat (fun n => (c.ev m).onNat (fun p =>
            cnd (Nat.ble n p) (roomK P e p (rowK P e p fun cs sz => .new (.cells cs sz false false) fun i => forceNat n fun n' => forceNat p fun p' => k (.slice i Nat.zero n' p' false))) (.fail 116)) (.fail 117)) (.fail 117)).sat p h
          rw [he, optM_some, hev, hev, hl, hm, av_int, av_int]
          show FM.sat (cnd (Nat.ble n pp) (roomK P e pp (rowK P e pp fun cs sz => .new (.cells cs sz false false) fun i => forceNat n fun n' => forceNat pp fun p' => k (.slice i Nat.zero n' p' false))) (.fail 116)) p h
          rw [Nat.ble_eq_true_of_le hle, cnd_true, roomK_intro hr, rowK_intro hsz hz hzl]
          refine new_sat hinf ?_
          rw [forceNat_eq, forceNat_eq]
          simpa [SL.av] using hp _ _ (by exact hinf) hk
        · exact hs.elim
      · exact hs.elim
    · exact hs.elim
  · rename_i s d x
    split at hs
    · rename_i e l hcv hx
      intro k p hp
      show (xConvert P s d (c.ev x) k).sat p h
      unfold xConvert
      rw [hcv, hev, hx, av_str]
      show (lenK l Nat.zero fun n => .new (.cells (ofBytes l) 1 true true) fun i => k (.slice i Nat.zero n n true)).sat p h
      rw [lenK_eq, show Nat.zero + l.length = l.length from Nat.zero_add _]
      exact new_sat hinf (by simpa [SL.av] using hp _ _ (by exact hinf) hs)
    · rename_i s' hcv hx
      obtain ⟨cc, e, g, m, hn, hg, hi, hk⟩ := hs
      intro k p hp
      show (xConvert P s d (c.ev x) k).sat p h
      unfold xConvert
      rw [hcv, hev, hx, av_sl]
      have hav : s'.av = .slice s'.i s'.o s'.len s'.cap s'.ext := by unfold SL.av; rw [hn]
      have := hp _ _ (by exact hinf) hk
      rw [av_sl] at this
      rw [hav] at this ⊢
      exact ⟨_, hg, hi, this⟩
    · exact hs.elim
  · rename_i t x
    split at hs
    · rename_i nil m ht hx
      obtain ⟨hn, es, ver, hg, hk⟩ := hs
      subst hn
      intro k p hp
      show ((c.ev x).onMapN (tagIs P t 10 (.new .nilIter fun i => k (.ptr i Nat.zero)))
        (fun m => tagIs P t 10 (.get m fun o => o.onMap (fun es ver => .new (.mapIter m ver es .junk) fun i => k (.ptr i Nat.zero)) (.fail 136)))
        ((c.ev x).onStr (fun s => tagIs P t 3 (.new (.strIter s Nat.zero) fun i => k (.ptr i Nat.zero))) (.fail 137))).sat p h
      rw [hev, hx, av_mpf]
      show (tagIs P t 10 (.get m fun o => o.onMap (fun es ver => .new (.mapIter m ver es .junk) fun i => k (.ptr i Nat.zero)) (.fail 136))).sat p h
      unfold tagIs
      rw [ht, cnd_true]
      exact ⟨_, hg, new_sat hinf (by simpa using hp _ _ (by exact hinf) hk)⟩
    · exact hs.elim
  · rename_i it
    split at hs
    · rename_i nil i o ha
      obtain ⟨hn, ho, m, ver, left, cur, es, e, lt, em, over, next⟩ := hs
      subst hn; subst ho
      intro k p hp
      show ((c.ev it).onPtr (fun i o => cnd (Nat.beq o Nat.zero) (.get i fun x => cnd false (x.onStrIter (fun s pos => nxStr i s pos k) (.fail 142)) (x.onMapIter (fun m ver left _ => nxMap i m ver left k) (nxOver i k) (.fail 142))) (.fail 143)) (.fail 143)).sat p h
      rw [hev, ha, av_pvf]
      refine ⟨_, e, _, em, ?_⟩
      show (cnd (Nat.beq ver ver) (List.rec (motive := fun _ => FM) (nxOver i k) (fun e t _ => List.rec (motive := fun _ => FM) (nxEntry i m ver e [] k)
        (fun _ _ _ => lenK left Nat.zero fun n => .choose n fun j => optM (nthL left j) (.fail 138) fun e => eraseK left j fun left' => nxEntry i m ver e left' k) t) left) (.fail 139)).sat p h
      rw [Nat.beq_refl, cnd_true]
      have entry : ∀ j x, left[j]? = some x → (nxEntry i m ver x (left.eraseIdx j) k).sat p h := fun j x hx => by
        refine ⟨lt, ?_⟩
        have := hp _ _ (by exact hinf) (next j x hx)
        simpa using this
      cases left with
      | nil =>
        refine ⟨lt, ?_⟩
        have := hp _ _ (by exact hinf) (over rfl)
        simpa using this
      | cons x t =>
        cases t with
        | nil => exact entry 0 x rfl
        | cons y t =>
          show (lenK (x :: y :: t) Nat.zero fun n => .choose n fun j => optM (nthL (x :: y :: t) j) (.fail 138) fun e => eraseK (x :: y :: t) j fun left' => nxEntry i m ver e left' k).sat p h
          rw [lenK_eq, show Nat.zero + (x :: y :: t).length = (x :: y :: t).length from Nat.zero_add _]
          intro j hj
          show (optM (nthL (x :: y :: t) j) (.fail 138) fun e => eraseK (x :: y :: t) j fun left' => nxEntry i m ver e left' k).sat p h
          rw [nthL_eq, List.getElem?_eq_getElem hj, optM_some, eraseK_eq]
          exact entry j _ (List.getElem?_eq_getElem hj)
    · exact hs.elim
  · rename_i it
    split at hs
    · rename_i nil i o ha
      obtain ⟨hn, ho, m, ver, left, ka, va, es, e, em, hk⟩ := hs
      subst hn; subst ho
      intro k p hp
      show ((c.ev it).onPtr (fun i o => cnd (Nat.beq o Nat.zero) (.get i fun x => x.onMapIter (fun m ver _ cur => .get m fun o' => o'.onMap (fun _ v => cnd (Nat.beq v ver) (cur.onTuple (fun l => k (.tuple l)) (.fail 144)) (.fail 144)) (.fail 145)) (.fail 146) (.fail 146)) (.fail 147)) (.fail 147)).sat p h
      rw [hev, ha, av_pvf]
      refine ⟨_, e, _, em, ?_⟩
      show (cnd (Nat.beq ver ver) (k (.tuple [ka, va])) (.fail 144)).sat p h
      rw [Nat.beq_refl, cnd_true]
      have := hp _ _ hinf hk
      simpa using this
    · exact hs.elim
  · rename_i cl
    have e : ∀ k, opK P (.call cl) c k kd kp = Callee.rec (motive := fun _ => FM)
      (fun f => (c.ev f).onFunc (fun g first captured => appK first (c.evs cl.args.toList) fun l => xApply P c.call c.round g l captured k kp) (.fail 153))
      (fun r name => xMethod P c.call (c.ev r) name (c.evs cl.args.toList) k kp)
      (fun b => bltK P b (c.evs cl.args.toList) cl.argTypes k) cl.callee := fun k => rfl
    split at hs
    · rename_i f hf
      refine .eq (fun k => ?_) (zCallV_sound (kp := kp) hC hinf hs)
      rw [e, hf, evs_av hev, hcall, hrnd]
      show (c.ev f).onFunc _ _ = _
      rw [hev]
    · rename_i r name hf
      refine .eq (fun k => ?_) (zMethod_sound (kp := kp) hC hinf hs)
      rw [e, hf, evs_av hev, hcall]
      show xMethod P call (c.ev r) name _ k kp = _
      rw [hev]
    · rename_i b hf
      refine .eq (fun k => ?_) (zBltE_sound hinf hs)
      rw [e, hf, evs_av hev]
  · exact hs.elim
end
end Go.X

namespace Go.X
section
variable (P : Program) (C : ZCall)
/-! ### regions -/
def isRdB : Builtin → Bool | .len => true | .cap => true | .min => true | .max => true | _ => false
def isRdC : CvK → Bool | .toInt _ => true | .toString => true | .bytes => true | _ => false
def isRd (o : Op) : Bool := match o with
  | .move _ | .assign _ | .pick _ _ _ | .nilCheck _ | .binOp _ _ _ _ _ | .unOp _ _ _ | .makeInterface _ _ | .makeFunc _ _ _ | .slice _ _ _ _ _ | .fieldAddr _ _ _ | .field _ _ _ | .indexAddr _ _ _ | .index _ _ _
  | .lookup _ _ _ _ | .load _ _ | .typeAssert _ _ _ _ | .extract _ _ | .build _ _ => true
  | .convert s d _ => isRdC (cvOf P s d)
  | .call c => match c.callee with | .builtin b => isRdB b | _ => false
  | _ => false
noncomputable def zTys (ts : List TypeId) (vs : List AV) (K : List ZV → Prop) : Prop := match ts, vs with
  | [], [] => K []
  | t :: r, v :: vs => zTy1 P t v fun u => zTys r vs fun us => K (u :: us)
  | _, _ => False
noncomputable def zTy (t : TypeId) (v : ZV) (K : ZV → Prop) : Prop := match P.underlying t with
  | some (.tuple ts) => ZRT v.av ts.size fun f => zTys P ts.toList (avsOf f ts.size) fun us => K (.tup us)
  | _ => zTy1 P t v.av K
def isCall (o : Op) : Bool := match o with
  | .call c => match c.callee with | .builtin _ => false | _ => true
  | _ => false
noncomputable def zEffT (o : Op) (ty : TypeId) (z : ZT) (h : Heap) (K : ZK) : Prop := match isCall o with
  | true => zEff P C o z h fun v h' => zTy P ty v fun u => K u h'
  | false => zEff P C o z h K
/-- what is taken out of several values, as its type says -/
noncomputable def zExT (o : Op) (ty : TypeId) (v : ZV) (K : ZV → Prop) : Prop := match o, v with
  | .extract _ _, .any a => zTy1 P ty a K
  | _, v => K v
noncomputable def zOp (o : Op) (ty : TypeId) (z : ZT) (h : Heap) (K : ZK) : Prop := match isRd P o with
  | true => zRead P o z h fun v => zExT P o ty v fun u => K u h
  | false => zEffT P C o ty z h K
noncomputable def zDst (N : Nat) (dst : Option Tmp) (v : ZV) (z : ZT) (K : ZT → Prop) : Prop := match dst with
  | none => K z
  | some s => match ltb s N with | true => K (zset z s v) | false => False
/-- is an operation wanted: its guard -/
noncomputable def zGuard (ops : Array Oper) (z : ZT) (o : Oper) (yes no : ZT → Prop) : Prop := match guardOf ops o with
  | none => yes z
  | some (none, _) => no z
  | some (some s, want) => match ltb s 4096, zget z s with
    | true, .bool b => cnd b (match want with | true => yes (zset z s (.bool true)) | false => no (zset z s (.bool true))) (match want with | true => no (zset z s (.bool false)) | false => yes (zset z s (.bool false)))
    | true, .tup _ => no z
    | _, _ => False
noncomputable def zOps (N : Nat) (ops : Array Oper) (l : List Oper) (z : ZT) (h : Heap) (K : ZT → Heap → Prop) : Prop := match l with
  | [] => K z h
  | o :: r => zGuard ops z o (fun z => zOp P C o.op o.type z h fun v h' => zDst N o.dst v z fun z' => zOps N ops r z' h' K) (fun z => zDst N o.dst (.tup []) z fun z' => zOps N ops r z' h K)
end
/-! the state's side -/
theorem ZS.put {Df : List ADef} {z : ZT} {st : St} (s : ZS Df z st) {d : Nat} (hd : d < 4096) {v : ZV} : ZS Df (zset z d v) ⟨TT.put d v.av st.tmps, st.defers, st.u⟩ := by
  refine ⟨fun r hr => ?_, s.defers, s.na⟩
  show (TT.put d v.av st.tmps).at r = _
  rw [TT.at_put hd hr, zget_zset]
  by_cases e : r = d
  · rw [if_pos e, if_pos e]
  · rw [if_neg e, if_neg e]; exact s.at' r hr
theorem ZS.const {Df : List ADef} {z : ZT} {st : St} (s : ZS Df z st) {d : Nat} {v w : ZV} (e : zget z d = v) (hv : v.av = w.av) : ZS Df (zset z d w) st := by
  refine ⟨fun r hr => ?_, s.defers, s.na⟩
  rw [s.at' r hr, zget_zset]
  by_cases h : r = d
  · rw [if_pos h, h, e, hv]
  · rw [if_neg h]
section
variable {P : Program} {C : ZCall} {h : Heap} {z : ZT} {st : St} {call : CallRec} {round : RoundRec} {p : Post}
theorem zEv_ev {t : TT} (hz : ∀ s, s < 4096 → t.at s = (zget z s).av) (x : Operand) : evalO P.globals.size t x = (zEv P z x).av := by
  cases x with
  | tmp s =>
    show cnd (ltb s 4096) (TT.at s t) .junk = (match ltb s 4096 with | true => zget z s | false => ZV.any .junk).av
    cases hb : ltb s 4096
    · rw [cnd_false]; simp
    · rw [cnd_true]; exact hz s (ltb_iff.1 hb)
  | const v => exact (zOf_av _).symm
  | global g =>
    show cnd (ltb g P.globals.size) (.ptr g Nat.zero) .junk = (match ltb g P.globals.size with | true => ZV.pv false g 0 | false => ZV.any .junk).av
    cases hb : ltb g P.globals.size
    · rw [cnd_false]; simp
    · rw [cnd_true]; simp
  | func f =>
    show AV.func (.plain (.func f)) [] [] = (ZV.fn (.plain (.func f)) [] []).av
    simp
theorem zTys_spec : ∀ {l : List TypeId} {vs : List AV} {K : List ZV → Prop}, zTys P l vs K → ∃ us, avs us = vs ∧ K us
  | [], [], K, hs => ⟨[], rfl, hs⟩
  | [], _ :: _, K, hs => hs.elim
  | _ :: _, [], K, hs => hs.elim
  | s :: r, v :: vs, K, hs => by
    obtain ⟨u, e1, h1⟩ := zTy1_spec hs
    obtain ⟨us, e2, h2⟩ := zTys_spec h1
    exact ⟨u :: us, by rw [avs_cons, e1, e2], h2⟩
theorem zTy_spec {t : TypeId} {v : ZV} {K : ZV → Prop} (hs : zTy P t v K) : ∃ u, u.av = v.av ∧ K u := by
  unfold zTy at hs
  split at hs
  · obtain ⟨f, e, hk⟩ := hs
    obtain ⟨us, e2, h2⟩ := zTys_spec hk
    exact ⟨.tup us, by rw [av_tup, e2, e], h2⟩
  · exact zTy1_spec hs
theorem zEffT_sound {c : OC} {kd : ADef → FM} {kp : Chain → FM} (hC : CZ P call round C) (hinf : h.inf = true) (hev : ∀ x, c.ev x = (zEv P z x).av) (hcall : c.call = call) (hrnd : c.round = round) {o : Op} {ty : TypeId} {K : ZK} (hs : zEffT P C o ty z h K) : EfOk h K (fun k => opK P o c k kd kp) := by
  unfold zEffT at hs
  split at hs
  · intro k q hq
    refine zEff_sound hC hinf hev hcall hrnd hs k q fun v h' hi hk => ?_
    obtain ⟨u, e, hu⟩ := zTy_spec hk
    rw [← e]; exact hq u h' hi hu
  · exact zEff_sound hC hinf hev hcall hrnd hs
theorem zOp_sound (hC : CZ P call round C) (hinf : h.inf = true) {t : TT} (hz : ∀ s, s < 4096 → t.at s = (zget z s).av) {o : Op} {ty : TypeId} {K : ZK} (hs : zOp P C o ty z h K) {kd : ADef → FM} {kp : Chain → FM} : EfOk h K (fun k => opK P o ⟨call, round, t, P.globals.size⟩ k kd kp) := by
  have hev : ∀ x, (⟨call, round, t, P.globals.size⟩ : OC).ev x = (zEv P z x).av := fun x => zEv_ev hz x
  unfold zOp at hs
  split at hs
  · obtain ⟨v, hk0, e⟩ := zRead_sound (kd := kd) (kp := kp) hev hs
    obtain ⟨u, hu, hk⟩ : ∃ u : ZV, u.av = v.av ∧ K u h := by
      unfold zExT at hk0
      split at hk0
      · obtain ⟨u, h1, h2⟩ := zTy1_spec hk0
        exact ⟨u, by rw [h1, av_any], h2⟩
      · exact ⟨v, rfl, hk0⟩
    intro k q hq
    exact e k q (by rw [← hu]; exact hq u h hinf hk)
  · exact zEffT_sound hC hinf hev rfl rfl hs
theorem zGuard_sound {ops : Array Oper} {t : TT} (hz : ∀ s, s < 4096 → t.at s = (zget z s).av) {o : Oper} {yes no : ZT → Prop} (hs : zGuard ops z o yes no) :
    ∃ (b : Bool) (z' : ZT), (∀ s, (zget z' s).av = (zget z s).av) ∧ (cnd b (yes z') (no z')) ∧ ∀ k : Bool → FM, wantedK ops t o k = k b := by
  unfold zGuard at hs
  have e : ∀ k, wantedK ops t o k = Option.rec (motive := fun _ => FM) (k true) (fun g => Option.rec (motive := fun _ => FM) (k false) (fun s => cnd (ltb s 4096) (guardV g.2 (TT.at s t) k) (.fail 159)) g.1) (guardOf ops o) := fun k => rfl
  split at hs
  · rename_i hg
    exact ⟨true, z, fun _ => rfl, hs, fun k => by rw [e, hg]⟩
  · rename_i w hg
    exact ⟨false, z, fun _ => rfl, hs, fun k => by rw [e, hg]⟩
  · rename_i s want hg
    split at hs
    · rename_i b hb hzs
      have hat : TT.at s t = .bool b := by rw [hz s (ltb_iff.1 hb), hzs, av_bool]
      have hk : ∀ k : Bool → FM, wantedK ops t o k = k (cnd b want (cnd want false true)) := fun k => by
        rw [e, hg]
        show cnd (ltb s 4096) (guardV want (TT.at s t) k) (.fail 159) = _
        rw [hb, cnd_true, hat]; rfl
      have same : ∀ s', (zget (zset z s (.bool b)) s').av = (zget z s').av := fun s' => by
        rw [zget_zset]
        by_cases e : s' = s
        · rw [if_pos e, e, hzs]
        · rw [if_neg e]
      cases b with
      | true =>
        cases want with
        | true => exact ⟨true, _, same, hs, hk⟩
        | false => exact ⟨false, _, same, hs, hk⟩
      | false =>
        cases want with
        | true => exact ⟨false, _, same, hs, hk⟩
        | false => exact ⟨true, _, same, hs, hk⟩
    · rename_i vs hb hzs
      have hat : TT.at s t = .tuple (avs vs) := by rw [hz s (ltb_iff.1 hb), hzs, av_tup]
      refine ⟨false, z, fun _ => rfl, hs, fun k => ?_⟩
      rw [e, hg]
      show cnd (ltb s 4096) (guardV want (TT.at s t) k) (.fail 159) = _
      rw [hb, cnd_true, hat]; rfl
    · exact hs.elim
theorem ZS.same {Df : List ADef} {z' : ZT} (s : ZS Df z st) (e : ∀ s, (zget z' s).av = (zget z s).av) : ZS Df z' st := ⟨fun r hr => by rw [s.at' r hr, e], s.defers, s.na⟩
theorem zDst_sound {Df : List ADef} {N : Nat} (hN : N ≤ 4096) {dst : Option Tmp} {v : ZV} (s : ZS Df z st) {K : ZT → Prop} (hs : zDst N dst v z K) : ∃ z' st', ZS Df z' st' ∧ K z' ∧ ∀ k : St → FM, putDst N dst v.av st k = k st' := by
  unfold zDst at hs
  split at hs
  · exact ⟨z, st, s, hs, fun k => rfl⟩
  · rename_i d
    split at hs
    · rename_i hb
      refine ⟨_, _, s.put (by have := ltb_iff.1 hb; omega), hs, fun k => ?_⟩
      show cnd (ltb d N) (TT.putK d v.av st.tmps fun t => k ⟨t, st.defers, st.u⟩) (.fail 158) = _
      rw [hb, cnd_true, TT.putK_eq]
    · exact hs.elim
theorem zOps_sound {Df : List ADef} (hC : CZ P call round C) {N : Nat} (hN : N ≤ 4096) {dok : Bool} {ops : Array Oper} {k : St → FM} {kp : St → Chain → FM} {K : ZT → Heap → Prop} (hK : ∀ z' st' h', h'.inf = true → ZS Df z' st' → K z' h' → (k st').sat p h') :
    ∀ (l : List Oper) (z : ZT) (st : St) (h : Heap), h.inf = true → ZS Df z st → zOps P C N ops l z h K → (xOps P call round N dok ops l st k kp).sat p h
  | [], z, st, h, hinf, s, hs => hK z st h hinf s hs
  | o :: r, z, st, h, hinf, s, hs => by
    unfold zOps at hs
    obtain ⟨b, z', hsame, hb, hw⟩ := zGuard_sound (t := st.tmps) s.at' hs
    have s' := s.same hsame
    show (wantedK ops st.tmps o fun b => cnd b
      (opK P o.op ⟨call, round, st.tmps, P.globals.size⟩ (fun v => putDst N o.dst v st fun st' => xOps P call round N dok ops r st' k kp)
        (fun d => cnd dok (putDst N o.dst (.tuple []) ⟨st.tmps, d :: st.defers, st.u⟩ fun st' => xOps P call round N dok ops r st' k kp) (.fail 157)) (kp st))
      (putDst N o.dst (.tuple []) st fun st' => xOps P call round N dok ops r st' k kp)).sat p h
    rw [hw]
    cases b with
    | true =>
      rw [cnd_true] at hb ⊢
      refine zOp_sound hC hinf s'.at' hb _ p fun v h' hi hk => ?_
      obtain ⟨z2, st2, s2, hk2, e⟩ := zDst_sound hN s' hk
      rw [e]
      exact zOps_sound hC hN hK r z2 st2 h' hi s2 hk2
    | false =>
      rw [cnd_false] at hb ⊢
      obtain ⟨z2, st2, s2, hk2, e⟩ := zDst_sound hN s' hb
      have e' := e fun st' => xOps P call round N dok ops r st' k kp
      simp only [av_tup, avs_nil] at e'
      rw [e']
      exact zOps_sound hC hN hK r z2 st2 h hinf s2 hk2
end
end Go.X

namespace Go.X
/-! ### regions whose order is drawn: those that read go as early as they can; what they read must stay -/
/-- an operation that has been done -/
structure PE where
  i : Nat
  z : ZT
  v : ZV
  ran : Bool
def zpick (sl : List Nat) (z : ZT) : ZT := match sl with
  | [] => []
  | s :: r => zset (zpick r z) s (zget z s)
theorem zget_zpick (z : ZT) (r : Nat) : ∀ sl : List Nat, zget (zpick sl z) r = if r ∈ sl then zget z r else .tup []
  | [] => by simp [zpick, zget]
  | s :: l => by
    show zget (zset (zpick l z) s (zget z s)) r = _
    rw [zget_zset, zget_zpick z r l]
    by_cases e : r = s
    · subst e; simp
    · rw [if_neg e]
      by_cases h : r ∈ l <;> simp [h, e]
section
variable (P : Program) (C : ZCall) (ops : Array Oper)
def ordOf (j i : Nat) : Bool := ordL (masks ops) j i
def memB (i : Nat) (l : List Nat) : Bool := match l with | [] => false | j :: r => match Nat.beq i j with | true => true | false => memB i r
theorem memB_iff {i : Nat} : ∀ {l : List Nat}, memB i l = true ↔ i ∈ l
  | [] => by simp [memB]
  | j :: r => by
    unfold memB
    cases hb : Nat.beq i j
    · have : i ≠ j := fun e => by subst e; simp at hb
      simp [memB_iff, this]
    · simp [natbeq hb]
/-- all that go ahead of i are done -/
def predsIn (a : List Nat) (i : Nat) (n : Nat) : Bool := match n with
  | 0 => true
  | n + 1 => (match ordOf ops n i with | true => memB n a | false => true) && predsIn a i n
theorem predsIn_iff {a : List Nat} {i : Nat} : ∀ {n : Nat}, predsIn ops a i n = true ↔ ∀ j, j < n → ordOf ops j i = true → j ∈ a
  | 0 => by simp [predsIn]
  | n + 1 => by
    unfold predsIn
    rw [Bool.and_eq_true, predsIn_iff]
    constructor
    · intro ⟨h1, h2⟩ j hj ho
      rcases Nat.lt_or_ge j n with h | h
      · exact h2 j h ho
      · have : j = n := by omega
        subst this
        rw [ho] at h1
        exact memB_iff.1 h1
    · intro h
      refine ⟨?_, fun j hj ho => h j (by omega) ho⟩
      cases ho : ordOf ops n i with
      | false => rfl
      | true => exact memB_iff.2 (h n (by omega) ho)
def pickR (a : List Nat) (rd : Bool) (n : Nat) : List Nat → Option Nat
  | [] => none
  | i :: r => match memB i a, isRd P (opAt ops i).op == rd, predsIn ops a i n with
    | false, true, true => some i
    | _, _, _ => pickR a rd n r
/-- those that do not only read -/
def effs (l : List Nat) : List Nat := l.filter fun i => !isRd P (opAt ops i).op
/-- the ways in which they may follow one another -/
def effOrd : Nat → List Nat → List (List Nat)
  | 0, _ => [[]]
  | f + 1, l => match l with
    | [] => [[]]
    | x :: r => (x :: r).flatMap fun i => match (x :: r).all fun j => !ordOf ops j i with
      | true => (effOrd f ((x :: r).filter fun j => !Nat.beq j i)).map fun w => i :: w
      | false => []
/-- the order in which it is gone through: those that read go as early as they can -/
def canonP (n : Nat) : Nat → List Nat → List Nat → List Nat
  | 0, _, _ => []
  | f + 1, a, w => match pickR P ops a true n (List.range n) with
    | some i => i :: canonP n f (i :: a) w
    | none => match w with
      | e :: r => e :: canonP n f (e :: a) r
      | [] => []
def listBeq : List Nat → List Nat → Bool
  | [], [] => true
  | x :: l, y :: m => Nat.beq x y && listBeq l m
  | _, _ => false
theorem listBeq_eq : ∀ {l m : List Nat}, listBeq l m = true → l = m
  | [], [], _ => rfl
  | x :: l, y :: m, h => by
    unfold listBeq at h
    rw [Bool.and_eq_true] at h
    rw [Nat.eq_of_beq_eq_true h.1, listBeq_eq h.2]
  | [], y :: m, h => by cases h
  | x :: l, [], h => by cases h
def zAll {α : Type} (Q : α → Prop) : List α → Prop
  | [] => True
  | [w] => Q w
  | w :: r => ZAnd (Q w) (zAll Q r)
theorem zAll_mem {α : Type} {Q : α → Prop} : ∀ {l : List α}, zAll Q l → ∀ w, w ∈ l → Q w
  | [], _, w, hw => by cases hw
  | [x], h, w, hw => by rw [List.mem_singleton.1 hw]; exact h
  | x :: y :: r, h, w, hw => by
    obtain ⟨h1, h2⟩ := h
    rcases List.mem_cons.1 hw with e | e
    · rw [e]; exact h1
    · exact zAll_mem h2 w e
theorem effOrd_mem : ∀ (f : Nat) (l rem : List Nat), l.Pairwise (fun x y => ordOf ops y x = false) → (∀ i, i ∈ l → ordOf ops i i = false) → (∀ i, i ∈ rem ↔ i ∈ l) → l.Nodup → l.length ≤ f → l ∈ effOrd ops f rem
  | 0, l, rem, _, _, _, _, hl => by
    have : l = [] := List.eq_nil_of_length_eq_zero (by omega)
    subst this
    simp [effOrd]
  | f + 1, [], rem, _, _, hm, _, _ => by
    cases rem with
    | nil => simp [effOrd]
    | cons x r => exact absurd ((hm x).1 List.mem_cons_self) List.not_mem_nil
  | f + 1, i :: l, rem, hp, hi, hm, nd, hl => by
    cases rem with
    | nil => exact absurd ((hm i).2 List.mem_cons_self) List.not_mem_nil
    | cons x r =>
      obtain ⟨p1, p2⟩ := List.pairwise_cons.1 hp
      obtain ⟨n1, n2⟩ := List.nodup_cons.1 nd
      show i :: l ∈ (x :: r).flatMap _
      refine List.mem_flatMap.2 ⟨i, (hm i).2 List.mem_cons_self, ?_⟩
      have hall : ((x :: r).all fun j => !ordOf ops j i) = true := List.all_eq_true.2 fun j hj => by
        rcases List.mem_cons.1 ((hm j).1 hj) with e | e
        · rw [e, hi i List.mem_cons_self]; rfl
        · rw [p1 j e]; rfl
      rw [hall]
      refine List.mem_map.2 ⟨l, effOrd_mem f l _ p2 (fun j hj => hi j (List.mem_cons_of_mem _ hj)) (fun j => ?_) n2 (by simp at hl; omega), rfl⟩
      rw [List.mem_filter]
      constructor
      · rintro ⟨h1, h2⟩
        rcases List.mem_cons.1 ((hm j).1 h1) with e | e
        · subst e; simp at h2
        · exact e
      · intro h1
        refine ⟨(hm j).2 (List.mem_cons_of_mem _ h1), ?_⟩
        have hne : j ≠ i := fun e => n1 (by rw [← e]; exact h1)
        cases hb : Nat.beq j i with
        | true => exact absurd (Nat.eq_of_beq_eq_true hb) hne
        | false => rfl
def ways : List (List Nat × List Nat) := (effOrd ops ops.size (effs P ops (List.range ops.size))).map fun w => (w, canonP P ops ops.size ops.size [] w)
def chkC (a : List Nat) : List Nat → Bool
  | [] => true
  | i :: b => (ltb2 i ops.size && !memB i a && predsIn ops a i ops.size &&
      (match isRd P (opAt ops i).op with
        | true => true
        | false => b.all fun r => !isRd P (opAt ops r).op || !predsIn ops a r ops.size)) && chkC (i :: a) b
where ltb2 (a b : Nat) : Bool := Nat.ble (a + 1) b
def coverB (l : List Nat) (n : Nat) : Bool := match n with | 0 => true | n + 1 => memB n l && coverB l n
theorem coverB_iff {l : List Nat} : ∀ {n : Nat}, coverB l n = true ↔ ∀ i, i < n → i ∈ l
  | 0 => by simp [coverB]
  | n + 1 => by
    unfold coverB
    rw [Bool.and_eq_true, coverB_iff, memB_iff]
    constructor
    · intro ⟨h1, h2⟩ i hi
      rcases Nat.lt_or_ge i n with h | h
      · exact h2 i h
      · have : i = n := by omega
        subst this; exact h1
    · intro h; exact ⟨h n (by omega), fun i hi => h i (by omega)⟩
/-- what was read before stays so -/
noncomputable def zStable (i : Nat) (h' : Heap) (A : Prop) (past : List PE) : Prop := match past with
  | [] => A
  | e :: r => match e.ran && !isPure (opAt ops e.i).op && !ordOf ops e.i i && isRd P (opAt ops e.i).op with
    | true => ZAnd (zRead P (opAt ops e.i).op e.z h' fun v => v.av = e.v.av) (zStable i h' A r)
    | false => zStable i h' A r
noncomputable def zRunD (N : Nat) (K : ZT → Heap → Prop) : List Nat → List PE → ZT → Heap → Prop
  | [], _, z, h => K z h
  | i :: r, past, z, h => zGuard ops z (opAt ops i)
      (fun z => match isRd P (opAt ops i).op with
        | true => zRead P (opAt ops i).op (zpick (slotsOf ops i) z) h fun v => zDst N (dstOf ops i) v z fun z' => zRunD N K r (⟨i, zpick (slotsOf ops i) z, v, true⟩ :: past) z' h
        | false => zEffT P C (opAt ops i).op (opAt ops i).type (zpick (slotsOf ops i) z) h fun v h' => zStable P ops i h' (zDst N (dstOf ops i) v z fun z' => zRunD N K r (⟨i, zpick (slotsOf ops i) z, v, true⟩ :: past) z' h') past)
      (fun z => zDst N (dstOf ops i) (.tup []) z fun z' => zRunD N K r (⟨i, [], .tup [], false⟩ :: past) z' h)
noncomputable def zRegion (N : Nat) (draw : Bool) (z : ZT) (h : Heap) (K : ZT → Heap → Prop) : Prop := match draw with
  | false => zOps P C N ops ops.toList z h K
  | true => match regFit N ops && regOk ops.size (ordOf ops) (slotsOf ops) (dstOf ops) && (ways P ops).all fun w => chkC P ops [] w.2 && coverB w.2 ops.size && listBeq (effs P ops w.2) w.1 with
    | true => zAll (fun w => zRunD P C ops N K w.2 [] z h) (ways P ops)
    | false => False
end
/-- what an operation that has been done came to -/
def pval (past : List PE) (j : Nat) : AV := match past with
  | [] => .junk
  | e :: r => if e.i = j then e.v.av else pval r j
theorem pval_cons_ne {e : PE} {past : List PE} {j : Nat} (h : e.i ≠ j) : pval (e :: past) j = pval past j := if_neg h
theorem pval_cons_eq {e : PE} {past : List PE} : pval (e :: past) e.i = e.v.av := if_pos rfl
def idx (past : List PE) : List Nat := past.map PE.i
section
variable {P : Program} {C : ZCall} {ops : Array Oper} {st0 : St}
/-- what a temporary holds where the operations S have been done -/
noncomputable def tval (ops : Array Oper) (st0 : St) (past : List PE) (S : Nat → Bool) (s : Nat) : AV := match (List.range ops.size).find? (fun i => S i && (dstOf ops i == some s)) with
  | some i => pval past i
  | none => st0.tmps.at s
theorem find?_congr' {α : Type} {p q : α → Bool} : ∀ {l : List α}, (∀ x ∈ l, p x = q x) → l.find? p = l.find? q
  | [], _ => rfl
  | x :: l, h => by
    simp only [List.find?_cons]
    rw [h x (by simp), find?_congr' fun y hy => h y (by simp [hy])]
theorem tval_congr {past : List PE} {S T : Nat → Bool} {s : Nat} (h : ∀ i, i < ops.size → dstOf ops i = some s → S i = T i) : tval ops st0 past S s = tval ops st0 past T s := by
  unfold tval
  rw [find?_congr' (q := fun i => T i && (dstOf ops i == some s)) fun i hi => ?_]
  by_cases e : dstOf ops i = some s
  · rw [h i (List.mem_range.1 hi) e]
  · have : (dstOf ops i == some s) = false := by simpa using e
    rw [this]; simp
/-- places of a region are told apart -/
structure RegF (ops : Array Oper) : Prop where
  sep : ∀ i j s, i < ops.size → j < ops.size → i ≠ j → dstOf ops j = some s → dstOf ops i ≠ some s
  dep : ∀ i j s, i < ops.size → j < ops.size → dstOf ops j = some s → s ∈ slotsOf ops i → ordOf ops j i = true ∨ ordOf ops i j = true
  lt : ∀ i s, i < ops.size → s ∈ slotsOf ops i → s < 4096
  dlt : ∀ i s, i < ops.size → dstOf ops i = some s → s < 4096
  ord : ∀ i j, i < ops.size → j < ops.size → ordOf ops j i = true → j < i
theorem regF_of (h : regOk ops.size (ordOf ops) (slotsOf ops) (dstOf ops) = true) : RegF ops := by
  have h1 := allL_iff.1 (show allL _ _ = true from h)
  have key : ∀ i, i < ops.size → (∀ s ∈ slotsOf ops i, s < 4096) ∧ ∀ j, j < ops.size → (ordOf ops j i = true → j < i) ∧ ∀ s, dstOf ops j = some s → s < 4096 ∧ (s ∈ slotsOf ops i → ordOf ops j i = true ∨ ordOf ops i j = true) ∧ (i = j ∨ dstOf ops i ≠ some s) := by
    intro i hi
    have h2 := h1 i (List.mem_range.2 hi)
    obtain ⟨h3, h4⟩ := cnd_and.1 h2
    have h4 := allL_iff.1 h4
    refine ⟨fun s hs => ltb_iff.1 (allL_iff.1 h3 s hs), fun j hj => ?_⟩
    obtain ⟨h5, h6⟩ := cnd_and.1 (h4 j (List.mem_range.2 hj))
    refine ⟨fun ho => ?_, fun s hd => ?_⟩
    · rw [ho, cnd_true] at h5; exact ltb_iff.1 h5
    · rw [hd] at h6
      obtain ⟨h7, h8⟩ := cnd_and.1 (show cnd (ltb s 4096) (cnd (cnd (memN s (slotsOf ops i)) (cnd (ordOf ops j i) true (ordOf ops i j)) true)
          (cnd (Nat.beq i j) true (Option.rec (motive := fun _ => Bool) true (fun s' => notB (Nat.beq s s')) (dstOf ops i))) false) false = true from h6)
      obtain ⟨h9, h10⟩ := cnd_and.1 h8
      refine ⟨ltb_iff.1 h7, fun hm => ?_, ?_⟩
      · rw [memN_iff.2 hm, cnd_true] at h9
        cases ho : ordOf ops j i with
        | true => exact .inl rfl
        | false => rw [ho, cnd_false] at h9; exact .inr h9
      · by_cases e : i = j
        · exact .inl e
        · right
          have hb : Nat.beq i j = false := by
            cases hb : Nat.beq i j
            · rfl
            · exact absurd (natbeq hb) e
          rw [hb, cnd_false] at h10
          intro hd2
          rw [hd2] at h10
          have h11 : notB (Nat.beq s s) = true := h10
          rw [Nat.beq_refl] at h11; cases h11
  exact ⟨fun i j s hi hj hne hd => ((((key i hi).2 j hj).2 s hd).2.2).resolve_left hne, fun i j s hi hj hd hm => (((key i hi).2 j hj).2 s hd).2.1 hm, fun i s hi hs => (key i hi).1 s hs, fun i s hi hd => (((key i hi).2 i hi).2 s hd).1, fun i j hi hj ho => ((key i hi).2 j hj).1 ho⟩
/-- a temporary that j reads, before j -/
theorem tval_arg (rf : RegF ops) {past : List PE} {S : Nat → Bool} {j s : Nat} (hj : j < ops.size) (hs : s ∈ slotsOf ops j) (hnj : S j = false) (hp : ∀ i, i < ops.size → ordOf ops i j = true → S i = true)
    (hcl : ∀ i, i < ops.size → S i = true → ∀ k, k < ops.size → ordOf ops k i = true → S k = true) : tval ops st0 past S s = tval ops st0 past (fun i => ordOf ops i j) s := by
  refine tval_congr fun i hi hd => ?_
  cases ho : ordOf ops i j with
  | true => exact hp i hi ho
  | false =>
    cases hS : S i with
    | false => rfl
    | true =>
      rcases rf.dep j i s hj hi hd hs with h | h
      · rw [h] at ho; cases ho
      · rw [hcl i hi hS j hj h] at hnj; cases hnj
/-- one operation more -/
theorem tval_add (rf : RegF ops) {past : List PE} {S T : Nat → Bool} {i s : Nat} (hi : i < ops.size) (hS : S i = false) (hT : ∀ j, j < ops.size → T j = (S j || decide (j = i))) :
    tval ops st0 past T s = if dstOf ops i = some s then pval past i else tval ops st0 past S s := by
  by_cases hd : dstOf ops i = some s
  · rw [if_pos hd]
    unfold tval
    have : (List.range ops.size).find? (fun j => T j && (dstOf ops j == some s)) = some i := by
      rw [find?_congr' (q := fun j => decide (j = i)) fun j hj => ?_]
      · have hm : i ∈ List.range ops.size := List.mem_range.2 hi
        have : ((List.range ops.size).find? fun j => decide (j = i)).isSome = true := List.find?_isSome.2 ⟨i, hm, by simp⟩
        obtain ⟨x, hx⟩ := Option.isSome_iff_exists.1 this
        have := List.find?_some hx
        simp only [decide_eq_true_eq] at this
        rw [hx, this]
      · rw [hT j (List.mem_range.1 hj)]
        by_cases e : j = i
        · subst e; simp [hd]
        · have hne := rf.sep j i s (List.mem_range.1 hj) hi e hd
          have : (dstOf ops j == some s) = false := by simpa using hne
          rw [this]; simp [e]
    rw [this]
  · rw [if_neg hd]
    refine tval_congr fun j hj hdj => ?_
    rw [hT j hj]
    have : j ≠ i := fun e => hd (e ▸ hdj)
    simp [this]
theorem tval_past {past : List PE} {e : PE} {S : Nat → Bool} {s : Nat} (h : S e.i = false) : tval ops st0 (e :: past) S s = tval ops st0 past S s := by
  unfold tval
  split
  · rename_i i hi
    have := List.find?_some hi
    simp only [Bool.and_eq_true] at this
    exact pval_cons_ne fun he => by rw [he] at h; rw [h] at this; cases this.1
  · rfl
end
end Go.X

namespace Go.X
section
variable {P : Program} {C : ZCall} {ops : Array Oper} {st0 : St} {call : CallRec} {round : RoundRec}
theorem fillT_map (f : Nat → AV) : ∀ (sl : List Nat) (t : TT), (∀ s ∈ sl, s < 4096) → ∃ t', (∀ k : TT → FM, fillT sl (sl.map f) t k = k t') ∧ ∀ r, r < 4096 → t'.at r = if r ∈ sl then f r else t.at r
  | [], t, _ => ⟨t, fun k => rfl, fun r _ => by simp⟩
  | s :: l, t, hl => by
    obtain ⟨t', h1, h2⟩ := fillT_map f l (TT.put s (f s) t) fun x hx => hl x (by simp [hx])
    refine ⟨t', fun k => ?_, fun r hr => ?_⟩
    · show TT.putK s (f s) t (fun t' => fillT l (l.map f) t' k) = _
      rw [TT.putK_eq, h1]
    · rw [h2 r hr, TT.at_put (hl s (by simp)) hr]
      by_cases e : r = s
      · subst e
        by_cases h : r ∈ l <;> simp [h]
      · by_cases h : r ∈ l <;> simp [h, e]
/-- the temporaries that an operation of a region sees -/
theorem regOp_eq (rf : RegF ops) {j : Nat} (hj : j < ops.size) {f : Nat → AV} {zp : ZT} (hz : ∀ s, s ∈ slotsOf ops j → f s = (zget zp s).av) (hz2 : ∀ s, s ∉ slotsOf ops j → zget zp s = .tup []) :
    ∃ t', (∀ s, s < 4096 → t'.at s = (zget zp s).av) ∧ (∀ s, s ∈ slotsOf ops j → t'.at s = f s) ∧ regOp P call round ops j ((slotsOf ops j).map f) = wantedK ops t' (opAt ops j) fun b => cnd b
      (opK P (opAt ops j).op ⟨call, round, t', P.globals.size⟩ (fun v => .ret (.val v)) (fun _ => .fail 155) (fun _ => .fail 156)) (.ret (.val (.tuple []))) := by
  obtain ⟨t', h1, h2⟩ := fillT_map f (slotsOf ops j) TT.undef fun s hs => rf.lt j s hj hs
  refine ⟨t', fun s hs => ?_, fun s hs => ?_, h1 _⟩
  · rw [h2 s hs]
    by_cases e : s ∈ slotsOf ops j
    · rw [if_pos e]; exact hz s e
    · rw [if_neg e, TT.at_undef, hz2 s e]; simp
  · rw [h2 s (rf.lt j s hj hs), if_pos hs]
theorem zGuard_any {z : ZT} {o : Oper} {yes no : ZT → Prop} (hs : zGuard ops z o yes no) :
    ∃ (b : Bool) (z' : ZT), (∀ s, (zget z' s).av = (zget z s).av) ∧ (cnd b (yes z') (no z')) ∧ ∀ t : TT, (∀ s w, guardOf ops o = some (some s, w) → t.at s = (zget z s).av) → ∀ k : Bool → FM, wantedK ops t o k = k b := by
  unfold zGuard at hs
  have e : ∀ (t : TT) k, wantedK ops t o k = Option.rec (motive := fun _ => FM) (k true) (fun g => Option.rec (motive := fun _ => FM) (k false) (fun s => cnd (ltb s 4096) (guardV g.2 (TT.at s t) k) (.fail 159)) g.1) (guardOf ops o) := fun t k => rfl
  split at hs
  · rename_i hg
    exact ⟨true, z, fun _ => rfl, hs, fun t _ k => by rw [e, hg]⟩
  · rename_i w hg
    exact ⟨false, z, fun _ => rfl, hs, fun t _ k => by rw [e, hg]⟩
  · rename_i s want hg
    split at hs
    · rename_i b hb hzs
      have hk : ∀ t : TT, (∀ s w, guardOf ops o = some (some s, w) → t.at s = (zget z s).av) → ∀ k : Bool → FM, wantedK ops t o k = k (cnd b want (cnd want false true)) := fun t ht k => by
        have hat : TT.at s t = .bool b := by rw [ht s want hg, hzs, av_bool]
        rw [e, hg]
        show cnd (ltb s 4096) (guardV want (TT.at s t) k) (.fail 159) = _
        rw [hb, cnd_true, hat]; rfl
      have same : ∀ s', (zget (zset z s (.bool b)) s').av = (zget z s').av := fun s' => by
        rw [zget_zset]
        by_cases e : s' = s
        · rw [if_pos e, e, hzs]
        · rw [if_neg e]
      cases b with
      | true =>
        cases want with
        | true => exact ⟨true, _, same, hs, hk⟩
        | false => exact ⟨false, _, same, hs, hk⟩
      | false =>
        cases want with
        | true => exact ⟨false, _, same, hs, hk⟩
        | false => exact ⟨true, _, same, hs, hk⟩
    · rename_i vs hb hzs
      refine ⟨false, z, fun _ => rfl, hs, fun t ht k => ?_⟩
      have hat : TT.at s t = .tuple (avs vs) := by rw [ht s want hg, hzs, av_tup]
      rw [e, hg]
      show cnd (ltb s 4096) (guardV want (TT.at s t) k) (.fail 159) = _
      rw [hb, cnd_true, hat]; rfl
    · exact hs.elim
theorem guard_slot {j : Nat} {g : Tmp} {w : Bool} (h : guardOf ops (opAt ops j) = some (some g, w)) : g ∈ slotsOf ops j := by
  unfold slotsOf guardSlot
  rw [h]; simp
/-- what j comes to is known, and does not go back on the heap -/
def ROk (P : Program) (ops : Array Oper) (st0 : St) (call : CallRec) (round : RoundRec) (past : List PE) (j : Nat) (h : Heap) : Prop :=
  ∀ q : Post, q (.val (pval past j)) h → (regOp P call round ops j ((slotsOf ops j).map fun s => tval ops st0 past (fun i => ordOf ops i j) s)).sat q h
structure DI (P : Program) (ops : Array Oper) (st0 : St) (call : CallRec) (round : RoundRec) (past : List PE) (cr : List Nat) (z : ZT) (h : Heap) (D lr : List Nat) (stL : St) : Prop where
  inf : h.inf = true
  chk : chkC P ops (idx past) cr = true
  eo : effs P ops cr = effs P ops lr
  all : ∀ i, i < ops.size → i ∈ idx past ∨ i ∈ cr
  lt : ∀ i, i ∈ idx past → i < ops.size
  pcl : ∀ i, i ∈ idx past → ∀ j, j < ops.size → ordOf ops j i = true → j ∈ idx past
  dcl : ∀ i, i ∈ D → ∀ j, j < ops.size → ordOf ops j i = true → j ∈ D
  dsub : ∀ i, i ∈ D → i ∈ idx past
  eff : ∀ i, i ∈ idx past → isRd P (opAt ops i).op = false → i ∈ D
  dl : ∀ i, i < ops.size → (i ∈ D ∨ i ∈ lr)
  dn : ∀ i, i ∈ lr → i ∉ D
  lord : ∀ p i s, lr = p ++ i :: s → ∀ j, j < ops.size → ordOf ops j i = true → j ∈ D ∨ j ∈ p
  lnd : lr.Nodup
  llt : ∀ i, i ∈ lr → i < ops.size
  tz : ∀ s, s < 4096 → (zget z s).av = tval ops st0 past (fun i => memB i (idx past)) s
  tl : ∀ s, s < 4096 → stL.tmps.at s = tval ops st0 past (fun i => memB i D) s
  du : stL.defers = st0.defers ∧ stL.u = st0.u
  ready : ∀ j, j ∈ idx past → j ∉ D → ROk P ops st0 call round past j h
  re : ∀ e, e ∈ past → e.i ∉ D → (e.ran = true → ∀ h', h'.inf = true → (isPure (opAt ops e.i).op = true ∨ zRead P (opAt ops e.i).op e.z h' fun v => v.av = e.v.av) → ROk P ops st0 call round past e.i h') ∧
    (e.ran = false → ∀ h', ROk P ops st0 call round past e.i h')
theorem memB_false {i : Nat} {l : List Nat} : memB i l = false ↔ i ∉ l := by
  rw [← Bool.not_eq_true, memB_iff]
theorem ROk.cons {past : List PE} {e : PE} {j : Nat} {h : Heap} (he : e.i ≠ j) (hp : ordOf ops e.i j = false) (r : ROk P ops st0 call round past j h) : ROk P ops st0 call round (e :: past) j h := by
  intro q hq
  rw [pval_cons_ne he] at hq
  have : ((slotsOf ops j).map fun s => tval ops st0 (e :: past) (fun i => ordOf ops i j) s) = (slotsOf ops j).map fun s => tval ops st0 past (fun i => ordOf ops i j) s :=
    List.map_congr_left fun s _ => tval_past hp
  rw [this]
  exact r q hq
theorem chk_head {a b : List Nat} {i : Nat} (h : chkC P ops a (i :: b) = true) : i < ops.size ∧ i ∉ a ∧ (∀ j, j < ops.size → ordOf ops j i = true → j ∈ a) ∧
    (isRd P (opAt ops i).op = false → ∀ r, r ∈ b → isRd P (opAt ops r).op = true → ¬ ∀ j, j < ops.size → ordOf ops j r = true → j ∈ a) ∧ chkC P ops (i :: a) b = true := by
  unfold chkC at h
  simp only [Bool.and_eq_true] at h
  obtain ⟨⟨⟨⟨h1, h2⟩, h3⟩, h4⟩, h5⟩ := h
  refine ⟨Nat.le_of_ble_eq_true h1, fun hm => ?_, (predsIn_iff (ops := ops)).1 h3, fun hr => ?_, h5⟩
  · rw [memB_iff.2 hm] at h2; cases h2
  · rw [hr] at h4
    simp only [List.all_eq_true] at h4
    intro r hr2 hrr hall
    have := h4 r hr2
    rw [hrr, (predsIn_iff (ops := ops)).2 hall] at this; cases this
theorem effs_rd {i : Nat} {l : List Nat} (h : isRd P (opAt ops i).op = true) : effs P ops (i :: l) = effs P ops l := by unfold effs; rw [List.filter_cons, h]; rfl
theorem effs_wr {i : Nat} {l : List Nat} (h : isRd P (opAt ops i).op = false) : effs P ops (i :: l) = i :: effs P ops l := by unfold effs; rw [List.filter_cons, h]; rfl
/-- what an operation that reads comes to, from its look on -/
theorem read_ROk (rf : RegF ops) {past : List PE} {i : Nat} (hi : i < ops.size) (hni : i ∉ idx past) (hirr : ordOf ops i i = false) {z1 : ZT} (hz1 : ∀ s, s ∈ slotsOf ops i → (zget z1 s).av = tval ops st0 past (fun j => ordOf ops j i) s)
    (hw : ∀ t : TT, (∀ s w, guardOf ops (opAt ops i) = some (some s, w) → t.at s = (zget z1 s).av) → ∀ k : Bool → FM, wantedK ops t (opAt ops i) k = k true)
    {v : ZV} {h' : Heap} (hrd : ∀ (t : TT), (∀ s, s < 4096 → t.at s = (zget (zpick (slotsOf ops i) z1) s).av) → ∀ q : Post, q (.val v.av) h' → (opK P (opAt ops i).op ⟨call, round, t, P.globals.size⟩ (fun v => .ret (.val v)) (fun _ => .fail 155) (fun _ => .fail 156)).sat q h') :
    ROk P ops st0 call round (⟨i, zpick (slotsOf ops i) z1, v, true⟩ :: past) i h' := by
  intro q hq
  have e1 : pval ((⟨i, zpick (slotsOf ops i) z1, v, true⟩ : PE) :: past) i = v.av := pval_cons_eq (e := ⟨i, zpick (slotsOf ops i) z1, v, true⟩)
  rw [e1] at hq
  have hargs : ((slotsOf ops i).map fun s => tval ops st0 ((⟨i, zpick (slotsOf ops i) z1, v, true⟩ : PE) :: past) (fun j => ordOf ops j i) s) = (slotsOf ops i).map fun s => tval ops st0 past (fun j => ordOf ops j i) s :=
    List.map_congr_left fun s _ => tval_past hirr
  rw [hargs]
  obtain ⟨t', h1, h2, h3⟩ := regOp_eq (P := P) (call := call) (round := round) rf hi (f := fun s => tval ops st0 past (fun j => ordOf ops j i) s) (zp := zpick (slotsOf ops i) z1)
    (fun s hs => by rw [zget_zpick, if_pos hs]; exact (hz1 s hs).symm) (fun s hs => by rw [zget_zpick, if_neg hs])
  rw [h3, hw t' fun s w hg => by rw [h2 s (guard_slot hg)]; exact (hz1 s (guard_slot hg)).symm, cnd_true]
  exact hrd t' h1 q hq
theorem none_ROk (rf : RegF ops) {past : List PE} {i : Nat} (hi : i < ops.size) (hirr : ordOf ops i i = false) {z1 : ZT} (hz1 : ∀ s, s ∈ slotsOf ops i → (zget z1 s).av = tval ops st0 past (fun j => ordOf ops j i) s)
    (hw : ∀ t : TT, (∀ s w, guardOf ops (opAt ops i) = some (some s, w) → t.at s = (zget z1 s).av) → ∀ k : Bool → FM, wantedK ops t (opAt ops i) k = k false) (h' : Heap) :
    ROk P ops st0 call round (⟨i, [], .tup [], false⟩ :: past) i h' := by
  intro q hq
  have e1 : pval ((⟨i, [], .tup [], false⟩ : PE) :: past) i = .tuple [] := by
    have : pval ((⟨i, [], .tup [], false⟩ : PE) :: past) i = (ZV.tup []).av := pval_cons_eq (e := ⟨i, [], .tup [], false⟩)
    rw [this]; simp
  rw [e1] at hq
  have hargs : ((slotsOf ops i).map fun s => tval ops st0 ((⟨i, [], .tup [], false⟩ : PE) :: past) (fun j => ordOf ops j i) s) = (slotsOf ops i).map fun s => tval ops st0 past (fun j => ordOf ops j i) s :=
    List.map_congr_left fun s _ => tval_past hirr
  rw [hargs]
  obtain ⟨t', h1, h2, h3⟩ := regOp_eq (P := P) (call := call) (round := round) rf hi (f := fun s => tval ops st0 past (fun j => ordOf ops j i) s) (zp := zpick (slotsOf ops i) z1)
    (fun s hs => by rw [zget_zpick, if_pos hs]; exact (hz1 s hs).symm) (fun s hs => by rw [zget_zpick, if_neg hs])
  rw [h3, hw t' fun s w hg => by rw [h2 s (guard_slot hg)]; exact (hz1 s (guard_slot hg)).symm, cnd_false]
  exact hq
theorem zStable_spec {i : Nat} {h' : Heap} {A : Prop} : ∀ {past : List PE}, zStable P ops i h' A past → A ∧ ∀ e, e ∈ past → e.ran = true → isPure (opAt ops e.i).op = false → ordOf ops e.i i = false → isRd P (opAt ops e.i).op = true → zRead P (opAt ops e.i).op e.z h' fun v => v.av = e.v.av
  | [], h => ⟨h, fun e he => absurd he List.not_mem_nil⟩
  | x :: r, h => by
    unfold zStable at h
    split at h
    · rename_i hc
      obtain ⟨h1, h2⟩ := h
      obtain ⟨h3, h4⟩ := zStable_spec h2
      refine ⟨h3, fun e he h5 h6 h7 h8 => ?_⟩
      rcases List.mem_cons.1 he with e1 | e1
      · subst e1; exact h1
      · exact h4 e e1 h5 h6 h7 h8
    · rename_i hc
      obtain ⟨h3, h4⟩ := zStable_spec h
      refine ⟨h3, fun e he h5 h6 h7 h8 => ?_⟩
      rcases List.mem_cons.1 he with e1 | e1
      · subst e1; rw [h5, h6, h7, h8] at hc; cases hc
      · exact h4 e e1 h5 h6 h7 h8
/-- a step of the order that is gone through, of an operation that reads or that is not wanted -/
theorem DI.tz_add (rf : RegF ops) {past : List PE} {z1 : ZT} {i : Nat} (hi : i < ops.size) (hni : i ∉ idx past) (hz : ∀ s, s < 4096 → (zget z1 s).av = tval ops st0 past (fun j => memB j (idx past)) s) {e : PE} (he : e.i = i) {N : Nat} {K : ZT → Prop}
    (hs : zDst N (dstOf ops i) e.v z1 K) : ∃ z', K z' ∧ ∀ s, s < 4096 → (zget z' s).av = tval ops st0 (e :: past) (fun j => memB j (idx (e :: past))) s := by
  have hadd : ∀ s, tval ops st0 (e :: past) (fun j => memB j (idx (e :: past))) s = if dstOf ops i = some s then e.v.av else tval ops st0 past (fun j => memB j (idx past)) s := by
    intro s
    rw [tval_add rf (S := fun j => memB j (idx past)) (i := i) hi (memB_false.2 hni) (fun j _ => by
      have : idx (e :: past) = i :: idx past := by unfold idx; simp [he]
      rw [this]
      show (match Nat.beq j i with | true => true | false => memB j (idx past)) = (memB j (idx past) || decide (j = i))
      cases hb : Nat.beq j i
      · have : j ≠ i := fun e => by subst e; simp at hb
        simp [this]
      · simp [natbeq hb])]
    have h1 : pval (e :: past) i = e.v.av := by rw [← he]; exact pval_cons_eq
    rw [h1, tval_past (by rw [he]; exact memB_false.2 hni)]
  unfold zDst at hs
  split at hs
  · rename_i hd
    refine ⟨z1, hs, fun s hs2 => ?_⟩
    rw [hadd s, hd, if_neg (by simp)]
    exact hz s hs2
  · rename_i d hd
    split at hs
    · refine ⟨_, hs, fun s hs2 => ?_⟩
      rw [hadd s, zget_zset, hd]
      by_cases e1 : s = d
      · subst e1; simp
      · rw [if_neg e1, if_neg (by simpa using fun h => e1 h.symm)]
        exact hz s hs2
    · exact hs.elim
end
end Go.X

namespace Go.X
section
variable {P : Program} {C : ZCall} {ops : Array Oper} {st0 : St} {call : CallRec} {round : RoundRec}
theorem tt_of (zp : ZT) : ∃ t : TT, ∀ s, s < 4096 → t.at s = (zget zp s).av := by
  obtain ⟨t', _, h2⟩ := fillT_map (fun s => (zget zp s).av) (List.range 4096) TT.undef fun s hs => List.mem_range.1 hs
  exact ⟨t', fun s hs => by rw [h2 s hs, if_pos (List.mem_range.2 hs)]⟩
theorem sel_map (st : St) : ∀ l : List Nat, st.sel l = l.map fun s => st.tmps.at s
  | [] => rfl
  | s :: l => by show st.tmps.at s :: st.sel l = _; rw [sel_map st l]; rfl
theorem memB_cons {i j : Nat} {l : List Nat} : memB j (i :: l) = (memB j l || decide (j = i)) := by
  show (match Nat.beq j i with | true => true | false => memB j l) = _
  cases hb : Nat.beq j i
  · have : j ≠ i := fun e => by subst e; simp at hb
    simp [this]
  · simp [natbeq hb]
section
variable {past : List PE} {cr : List Nat} {z : ZT} {h : Heap} {D lr : List Nat} {stL : St}
theorem irr (rf : RegF ops) {i : Nat} (hi : i < ops.size) : ordOf ops i i = false := by
  cases h : ordOf ops i i
  · rfl
  · exact absurd (rf.ord i i hi hi h) (Nat.lt_irrefl _)
/-- the order that is gone through, by one that reads (or is not wanted) -/
theorem DI.step (rf : RegF ops) (d : DI P ops st0 call round past cr z h D lr stL) {e : PE} {r : List Nat} {z' : ZT} (hcr : cr = e.i :: r)
    (hrd : isRd P (opAt ops e.i).op = true ∨ e.i ∈ D)
    (tz : ∀ s, s < 4096 → (zget z' s).av = tval ops st0 (e :: past) (fun j => memB j (idx (e :: past))) s)
    (hready : ROk P ops st0 call round (e :: past) e.i h)
    (hre : (e.ran = true → ∀ h', h'.inf = true → (isPure (opAt ops e.i).op = true ∨ zRead P (opAt ops e.i).op e.z h' fun v => v.av = e.v.av) → ROk P ops st0 call round (e :: past) e.i h') ∧ (e.ran = false → ∀ h', ROk P ops st0 call round (e :: past) e.i h')) :
    DI P ops st0 call round (e :: past) r z' h D lr stL := by
  have hchk := d.chk
  rw [hcr] at hchk
  obtain ⟨h1, h2, h3, h4, h5⟩ := chk_head hchk
  have hne : ∀ j, j ∈ idx past → e.i ≠ j := fun j hj he => h2 (he ▸ hj)
  have hord : ∀ j, j ∈ idx past → ordOf ops e.i j = false := fun j hj => by
    cases ho : ordOf ops e.i j
    · rfl
    · exact absurd (d.pcl j hj e.i h1 ho) h2
  have hnD : e.i ∉ D := fun hm => h2 (d.dsub _ hm)
  have hidx : idx (e :: past) = e.i :: idx past := rfl
  have heo : effs P ops r = effs P ops lr := by rw [← d.eo, hcr, effs_rd (hrd.resolve_right hnD)]
  refine ⟨d.inf, h5, heo, fun i hi => ?_, fun i hi => ?_, fun i hi j hj ho => ?_, d.dcl, fun i hi => ?_, fun i hi hr => ?_, d.dl, d.dn, d.lord, d.lnd, d.llt, tz, fun s hs => ?_, d.du, fun j hj hnj => ?_, fun e' he' hn' => ?_⟩
  · rcases d.all i hi with h | h
    · exact .inl (by rw [hidx]; exact List.mem_cons_of_mem _ h)
    · rw [hcr] at h
      rcases List.mem_cons.1 h with e1 | e1
      · exact .inl (by rw [hidx, e1]; exact List.mem_cons_self)
      · exact .inr e1
  · rw [hidx] at hi
    rcases List.mem_cons.1 hi with e1 | e1
    · rw [e1]; exact h1
    · exact d.lt i e1
  · rw [hidx] at hi ⊢
    rcases List.mem_cons.1 hi with e1 | e1
    · subst e1; exact List.mem_cons_of_mem _ (h3 j hj ho)
    · exact List.mem_cons_of_mem _ (d.pcl i e1 j hj ho)
  · rw [hidx]; exact List.mem_cons_of_mem _ (d.dsub i hi)
  · rw [hidx] at hi
    rcases List.mem_cons.1 hi with e1 | e1
    · subst e1
      rcases hrd with h | h
      · rw [h] at hr; cases hr
      · exact h
    · exact d.eff i e1 hr
  · rw [tval_past (memB_false.2 hnD)]; exact d.tl s hs
  · rw [hidx] at hj
    rcases List.mem_cons.1 hj with e1 | e1
    · subst e1; exact hready
    · exact (d.ready j e1 hnj).cons (hne j e1) (hord j e1)
  · rcases List.mem_cons.1 he' with e1 | e1
    · subst e1; exact hre
    · have hm : e'.i ∈ idx past := List.mem_map_of_mem e1
      obtain ⟨a, b⟩ := d.re e' e1 hn'
      exact ⟨fun hr h' hi ha => (a hr h' hi ha).cons (hne _ hm) (hord _ hm), fun hr h' => (b hr h').cons (hne _ hm) (hord _ hm)⟩
/-- the run itself, by one that has been gone through -/
theorem DI.run (rf : RegF ops) {i : Nat} {rest : List Nat} (d : DI P ops st0 call round past cr z h D (i :: rest) stL) (hi : i ∈ idx past) : DI P ops st0 call round past cr z h (i :: D) rest (stL.put (dstOf ops i) (pval past i)) := by
  have hil := d.llt i List.mem_cons_self
  have hnd := List.nodup_cons.1 d.lnd
  have hniD := d.dn i List.mem_cons_self
  have hri : isRd P (opAt ops i).op = true := by
    cases h : isRd P (opAt ops i).op with
    | true => rfl
    | false => exact absurd (d.eff i hi h) hniD
  refine ⟨d.inf, d.chk, by rw [d.eo, effs_rd hri], d.all, d.lt, d.pcl, fun x hx j hj ho => ?_, fun x hx => ?_, fun x hx hr => List.mem_cons_of_mem _ (d.eff x hx hr), fun x hx => ?_, fun x hx hm => ?_, fun p x s e j hj ho => ?_, hnd.2, fun x hx => d.llt x (List.mem_cons_of_mem _ hx), d.tz, fun s hs => ?_, ?_, fun j hj hn => d.ready j hj fun h => hn (List.mem_cons_of_mem _ h), fun e he hn => d.re e he fun h => hn (List.mem_cons_of_mem _ h)⟩
  · rcases List.mem_cons.1 hx with e | e
    · subst e
      rcases d.lord [] x rest rfl j hj ho with h | h
      · exact List.mem_cons_of_mem _ h
      · cases h
    · exact List.mem_cons_of_mem _ (d.dcl x e j hj ho)
  · rcases List.mem_cons.1 hx with e | e
    · rw [e]; exact hi
    · exact d.dsub x e
  · rcases d.dl x hx with h | h
    · exact .inl (List.mem_cons_of_mem _ h)
    · rcases List.mem_cons.1 h with e | e
      · exact .inl (by rw [e]; exact List.mem_cons_self)
      · exact .inr e
  · rcases List.mem_cons.1 hm with e | e
    · subst e; exact hnd.1 hx
    · exact d.dn x (List.mem_cons_of_mem _ hx) e
  · rcases d.lord (i :: p) x s (by rw [e]; rfl) j hj ho with h | h
    · exact .inl (List.mem_cons_of_mem _ h)
    · rcases List.mem_cons.1 h with e1 | e1
      · exact .inl (by rw [e1]; exact List.mem_cons_self)
      · exact .inr e1
  · have hadd := tval_add (st0 := st0) rf (past := past) (S := fun j => memB j D) (T := fun j => memB j (i :: D)) (i := i) (s := s) hil (memB_false.2 hniD) fun j _ => memB_cons
    rw [hadd]
    cases hd : dstOf ops i with
    | none => rw [if_neg (by simp)]; exact d.tl s hs
    | some t =>
      have ht : t < 4096 := rf.dlt i t hil hd
      show (TT.put t (pval past i) stL.tmps).at s = _
      rw [TT.at_put ht hs]
      by_cases e : s = t
      · subst e; simp
      · rw [if_neg e, if_neg (by simpa using fun h => e h.symm)]; exact d.tl s hs
  · cases hd : dstOf ops i with
    | none => exact d.du
    | some t => exact d.du
theorem DI.args (rf : RegF ops) {i : Nat} {rest : List Nat} (d : DI P ops st0 call round past cr z h D (i :: rest) stL) : stL.sel (slotsOf ops i) = (slotsOf ops i).map fun s => tval ops st0 past (fun j => ordOf ops j i) s := by
  have hil := d.llt i List.mem_cons_self
  rw [sel_map]
  refine List.map_congr_left fun s hs => ?_
  rw [d.tl s (rf.lt i s hil hs)]
  refine tval_arg rf hil hs (memB_false.2 (d.dn i List.mem_cons_self)) (fun j hj ho => memB_iff.2 ?_) fun j hj hS k hk ho => memB_iff.2 (d.dcl j (memB_iff.1 hS) k hk ho)
  rcases d.lord [] i rest rfl j hj ho with h | h
  · exact h
  · cases h
theorem DI.look (rf : RegF ops) {i : Nat} {r : List Nat} (d : DI P ops st0 call round past cr z h D lr stL) (hcr : cr = i :: r) {z1 : ZT} (hsame : ∀ s, (zget z1 s).av = (zget z s).av) : ∀ s, s ∈ slotsOf ops i → (zget z1 s).av = tval ops st0 past (fun j => ordOf ops j i) s := by
  have hchk := d.chk
  rw [hcr] at hchk
  obtain ⟨h1, h2, h3, _, _⟩ := chk_head hchk
  intro s hs
  rw [hsame, d.tz s (rf.lt i s h1 hs)]
  exact tval_arg rf h1 hs (memB_false.2 h2) (fun j hj ho => memB_iff.2 (h3 j hj ho)) fun j hj hS k hk ho => memB_iff.2 (d.pcl j (memB_iff.1 hS) k hk ho)
end
variable {N : Nat} {K : ZT → Heap → Prop}
theorem advance (rf : RegF ops) {h : Heap} {D rest : List Nat} {i : Nat} {stL : St} : ∀ (cr : List Nat) (past : List PE) (z : ZT), DI P ops st0 call round past cr z h D (i :: rest) stL → zRunD P C ops N K cr past z h →
    ∃ past' cr' z', DI P ops st0 call round past' cr' z' h D (i :: rest) stL ∧ zRunD P C ops N K cr' past' z' h ∧ (i ∈ idx past' ∨ (i ∉ idx past' ∧ (∃ r, cr' = i :: r) ∧ isRd P (opAt ops i).op = false))
  | cr, past, z, d, hz => by
    by_cases hi : i ∈ idx past
    · exact ⟨past, cr, z, d, hz, .inl hi⟩
    · have hil := d.llt i List.mem_cons_self
      cases cr with
      | nil => exact absurd ((d.all i hil).resolve_left hi) List.not_mem_nil
      | cons c r =>
        obtain ⟨h1, h2, h3, h4, h5⟩ := chk_head d.chk
        have hpre : ∀ j, j < ops.size → ordOf ops j i = true → j ∈ D := fun j hj ho => by
          rcases d.lord [] i rest rfl j hj ho with h | h
          · exact h
          · cases h
        cases hrc : isRd P (opAt ops c).op with
        | false =>
          have hci : c = i := by
            by_cases e : c = i
            · exact e
            · exfalso
              have hir : i ∈ r := by
                rcases List.mem_cons.1 ((d.all i hil).resolve_left hi) with h | h
                · exact absurd h.symm e
                · exact h
              cases hri : isRd P (opAt ops i).op with
              | true => exact h4 hrc i hir hri fun j hj ho => d.dsub j (hpre j hj ho)
              | false =>
                have ho := d.eo
                rw [effs_wr hrc, effs_wr hri] at ho
                exact e (List.cons.inj ho).1
          subst hci
          exact ⟨past, c :: r, z, d, hz, .inr ⟨hi, ⟨r, rfl⟩, hrc⟩⟩
        | true =>
          have hz0 : zGuard ops z (opAt ops c)
            (fun z => match isRd P (opAt ops c).op with
              | true => zRead P (opAt ops c).op (zpick (slotsOf ops c) z) h fun v => zDst N (dstOf ops c) v z fun z' => zRunD P C ops N K r (⟨c, zpick (slotsOf ops c) z, v, true⟩ :: past) z' h
              | false => zEffT P C (opAt ops c).op (opAt ops c).type (zpick (slotsOf ops c) z) h fun v h' => zStable P ops c h' (zDst N (dstOf ops c) v z fun z' => zRunD P C ops N K r (⟨c, zpick (slotsOf ops c) z, v, true⟩ :: past) z' h') past)
            (fun z => zDst N (dstOf ops c) (.tup []) z fun z' => zRunD P C ops N K r (⟨c, [], .tup [], false⟩ :: past) z' h) := hz
          obtain ⟨b, z1, hsame, hb, hw0⟩ := zGuard_any hz0
          have hw : ∀ t : TT, (∀ s w, guardOf ops (opAt ops c) = some (some s, w) → t.at s = (zget z1 s).av) → ∀ k : Bool → FM, wantedK ops t (opAt ops c) k = k b := fun t ht => hw0 t fun s w hg => (ht s w hg).trans (hsame s)
          have hlook := d.look rf rfl hsame
          have hirr := irr rf h1
          have htz1 : ∀ s, s < 4096 → (zget z1 s).av = tval ops st0 past (fun j => memB j (idx past)) s := fun s hs => by rw [hsame]; exact d.tz s hs
          cases b with
          | true =>
            rw [cnd_true, hrc] at hb
            replace hb : zRead P (opAt ops c).op (zpick (slotsOf ops c) z1) h fun v => zDst N (dstOf ops c) v z1 fun z' => zRunD P C ops N K r (⟨c, zpick (slotsOf ops c) z1, v, true⟩ :: past) z' h := hb
            obtain ⟨t0, ht0⟩ := tt_of (zpick (slotsOf ops c) z1)
            have hev : ∀ x, (⟨call, round, t0, P.globals.size⟩ : OC).ev x = (zEv P (zpick (slotsOf ops c) z1) x).av := fun x => zEv_ev ht0 x
            have huniq : ∀ t : TT, (∀ s, s < 4096 → t.at s = (zget (zpick (slotsOf ops c) z1) s).av) → t = t0 := fun t ht => TT.ext fun s hs => by rw [ht s hs, ht0 s hs]
            obtain ⟨v, hk, hnow, hlater⟩ : ∃ v, (zDst N (dstOf ops c) v z1 fun z' => zRunD P C ops N K r (⟨c, zpick (slotsOf ops c) z1, v, true⟩ :: past) z' h) ∧
                ROk P ops st0 call round (⟨c, zpick (slotsOf ops c) z1, v, true⟩ :: past) c h ∧
                ∀ h', h'.inf = true → (isPure (opAt ops c).op = true ∨ zRead P (opAt ops c).op (zpick (slotsOf ops c) z1) h' fun u => u.av = v.av) → ROk P ops st0 call round (⟨c, zpick (slotsOf ops c) z1, v, true⟩ :: past) c h' := by
              have later : ∀ (v : ZV) (h' : Heap), (zRead P (opAt ops c).op (zpick (slotsOf ops c) z1) h' fun u => u.av = v.av) → ROk P ops st0 call round (⟨c, zpick (slotsOf ops c) z1, v, true⟩ :: past) c h' := fun v h' hr => by
                obtain ⟨v', e', rd'⟩ := zRead_sound (kd := fun _ => .fail 155) (kp := fun _ => .fail 156) hev hr
                exact read_ROk rf h1 h2 hirr hlook hw fun t ht q hq => by rw [huniq t ht]; exact rd' _ q (by rw [e']; exact hq)
              cases hp : isPure (opAt ops c).op with
              | true =>
                obtain ⟨v, hk, e⟩ := zRead_pure (kd := fun _ => .fail 155) (kp := fun _ => .fail 156) hev hp hb
                have all' : ∀ h', ROk P ops st0 call round (⟨c, zpick (slotsOf ops c) z1, v, true⟩ :: past) c h' := fun h' =>
                  read_ROk rf h1 h2 hirr hlook hw fun t ht q hq => by
                    rw [huniq t ht]
                    have e1 := e fun v => .ret (.val v)
                    simp only at e1
                    rw [e1]; exact hq
                exact ⟨v, hk, all' h, fun h' _ _ => all' h'⟩
              | false =>
                obtain ⟨v, hk, rd⟩ := zRead_sound (kd := fun _ => .fail 155) (kp := fun _ => .fail 156) hev hb
                refine ⟨v, hk, read_ROk rf h1 h2 hirr hlook hw fun t ht q hq => by rw [huniq t ht]; exact rd _ q hq, fun h' _ ho => ?_⟩
                exact later v h' (ho.resolve_left (by simp))
            obtain ⟨z', hz', tz'⟩ := DI.tz_add rf h1 h2 htz1 (e := ⟨c, zpick (slotsOf ops c) z1, v, true⟩) rfl hk
            exact advance rf r _ z' (d.step rf (e := ⟨c, zpick (slotsOf ops c) z1, v, true⟩) rfl (.inl hrc) tz' hnow ⟨fun _ => hlater, fun hf => (by cases hf)⟩) hz'
          | false =>
            rw [cnd_false] at hb
            have hno := fun h' => none_ROk (P := P) (call := call) (round := round) rf h1 hirr hlook hw h'
            obtain ⟨z', hz', tz'⟩ := DI.tz_add rf h1 h2 htz1 (e := ⟨c, [], .tup [], false⟩) rfl hb
            exact advance rf r _ z' (d.step rf (e := ⟨c, [], .tup [], false⟩) rfl (.inl hrc) tz' (hno h) ⟨fun hf => (by cases hf), fun _ => hno⟩) hz'
theorem drawn_sound {Df : List ADef} (hC : CZ P call round C) (rf : RegF ops) {k : St → FM} {p : Post} (hst : st0.defers = Df ∧ st0.u = .na) (hK : ∀ z' st' h', h'.inf = true → ZS Df z' st' → K z' h' → (k st').sat p h') :
    ∀ (lr D : List Nat) (past : List PE) (cr : List Nat) (z : ZT) (h : Heap) (stL : St), DI P ops st0 call round past cr z h D lr stL → zRunD P C ops N K cr past z h →
      regSatN (slotsOf ops) (dstOf ops) (fun i vs q g => (regOp P call round ops i vs).sat q g) (fun s g => (k s).sat p g) lr stL h
  | [], D, past, cr, z, h, stL, d, hz => by
    have hall : ∀ i, i < ops.size → i ∈ D := fun i hi => (d.dl i hi).resolve_right List.not_mem_nil
    cases cr with
    | nil =>
      have hz' : K z h := hz
      refine hK z stL h d.inf ⟨fun s hs => ?_, by rw [d.du.1, hst.1], by rw [d.du.2, hst.2]⟩ hz'
      rw [d.tl s hs, d.tz s hs]
      exact tval_congr fun i hi _ => by rw [memB_iff.2 (hall i hi), memB_iff.2 (d.dsub i (hall i hi))]
    | cons c r =>
      obtain ⟨h1, h2, _, _, _⟩ := chk_head d.chk
      exact absurd (d.dsub c (hall c h1)) h2
  | i :: rest, D, past0, cr0, z0, h, stL, d0, hz0 => by
    obtain ⟨past, cr, z, d, hz, hcase⟩ := advance rf cr0 past0 z0 d0 hz0
    show (regOp P call round ops i (stL.sel (slotsOf ops i))).sat (fun r h' => ∃ v, r = .val v ∧ regSatN (slotsOf ops) (dstOf ops) (fun i vs q g => (regOp P call round ops i vs).sat q g) (fun s g => (k s).sat p g) rest (stL.put (dstOf ops i) v) h') h
    rw [d.args rf]
    have hniD := d.dn i List.mem_cons_self
    have hil := d.llt i List.mem_cons_self
    rcases hcase with hi | ⟨hni, ⟨r, hcr⟩, hir⟩
    · refine d.ready i hi hniD _ ⟨_, rfl, ?_⟩
      exact drawn_sound hC rf hst hK rest (i :: D) past cr z h _ (d.run rf hi) hz
    · subst hcr
      obtain ⟨h1, h2, h3, h4, h5⟩ := chk_head d.chk
      have hz1 : zGuard ops z (opAt ops i)
        (fun z => match isRd P (opAt ops i).op with
          | true => zRead P (opAt ops i).op (zpick (slotsOf ops i) z) h fun v => zDst N (dstOf ops i) v z fun z' => zRunD P C ops N K r (⟨i, zpick (slotsOf ops i) z, v, true⟩ :: past) z' h
          | false => zEffT P C (opAt ops i).op (opAt ops i).type (zpick (slotsOf ops i) z) h fun v h' => zStable P ops i h' (zDst N (dstOf ops i) v z fun z' => zRunD P C ops N K r (⟨i, zpick (slotsOf ops i) z, v, true⟩ :: past) z' h') past)
        (fun z => zDst N (dstOf ops i) (.tup []) z fun z' => zRunD P C ops N K r (⟨i, [], .tup [], false⟩ :: past) z' h) := hz
      obtain ⟨b, z1, hsame, hb, hw0⟩ := zGuard_any hz1
      have hlook := d.look rf rfl hsame
      have hirr := irr rf h1
      have htz1 : ∀ s, s < 4096 → (zget z1 s).av = tval ops st0 past (fun j => memB j (idx past)) s := fun s hs => by rw [hsame]; exact d.tz s hs
      have hpre : ∀ j, j < ops.size → ordOf ops j i = true → j ∈ D := fun j hj ho => by
        rcases d.lord [] i rest rfl j hj ho with h | h
        · exact h
        · cases h
      -- both go on
      have both : ∀ (e : PE) (h' : Heap) (z' : ZT), e.i = i → h'.inf = true → (∀ s, s < 4096 → (zget z' s).av = tval ops st0 (e :: past) (fun j => memB j (idx (e :: past))) s) →
          (∀ j, j ∈ idx past → j ∉ D → ROk P ops st0 call round past j h') → zRunD P C ops N K r (e :: past) z' h' →
          regSatN (slotsOf ops) (dstOf ops) (fun i vs q g => (regOp P call round ops i vs).sat q g) (fun s g => (k s).sat p g) rest (stL.put (dstOf ops i) e.v.av) h' := by
        intro e h' z' he hi' tz' hrd hz'
        have hne : ∀ j, j ∈ idx past → e.i ≠ j := fun j hj h => h2 (by rw [← he, h]; exact hj)
        have hord : ∀ j, j ∈ idx past → ordOf ops e.i j = false := fun j hj => by
          rw [he]
          cases ho : ordOf ops i j
          · rfl
          · exact absurd (d.pcl j hj i h1 ho) h2
        have hidx : idx (e :: past) = i :: idx past := by show e.i :: idx past = _; rw [he]
        have hnd := List.nodup_cons.1 d.lnd
        have hpv : pval (e :: past) i = e.v.av := by rw [← he]; exact pval_cons_eq
        have heo : effs P ops r = effs P ops rest := by
          have := d.eo
          rw [effs_wr hir, effs_wr hir] at this
          exact (List.cons.inj this).2
        refine drawn_sound hC rf hst hK rest (i :: D) (e :: past) r z' h' _ ⟨hi', by rw [hidx]; exact h5, heo, fun x hx => ?_, fun x hx => ?_, fun x hx j hj ho => ?_, fun x hx j hj ho => ?_, fun x hx => ?_, fun x hx hr => ?_, fun x hx => ?_, fun x hx hm => ?_, fun p x s e2 j hj ho => ?_, hnd.2, fun x hx => d.llt x (List.mem_cons_of_mem _ hx), tz', fun s hs => ?_, ?_, fun j hj hn => ?_, fun e' he' hn => ?_⟩ hz'
        · rw [hidx]
          rcases d.all x hx with h | h
          · exact .inl (List.mem_cons_of_mem _ h)
          · rcases List.mem_cons.1 h with e1 | e1
            · exact .inl (by rw [e1]; exact List.mem_cons_self)
            · exact .inr e1
        · rw [hidx] at hx
          rcases List.mem_cons.1 hx with e1 | e1
          · rw [e1]; exact h1
          · exact d.lt x e1
        · rw [hidx] at hx ⊢
          rcases List.mem_cons.1 hx with e1 | e1
          · subst e1; exact List.mem_cons_of_mem _ (h3 j hj ho)
          · exact List.mem_cons_of_mem _ (d.pcl x e1 j hj ho)
        · rcases List.mem_cons.1 hx with e1 | e1
          · subst e1; exact List.mem_cons_of_mem _ (hpre j hj ho)
          · exact List.mem_cons_of_mem _ (d.dcl x e1 j hj ho)
        · rw [hidx]
          rcases List.mem_cons.1 hx with e1 | e1
          · rw [e1]; exact List.mem_cons_self
          · exact List.mem_cons_of_mem _ (d.dsub x e1)
        · rw [hidx] at hx
          rcases List.mem_cons.1 hx with e1 | e1
          · rw [e1]; exact List.mem_cons_self
          · exact List.mem_cons_of_mem _ (d.eff x e1 hr)
        · rcases d.dl x hx with h | h
          · exact .inl (List.mem_cons_of_mem _ h)
          · rcases List.mem_cons.1 h with e1 | e1
            · exact .inl (by rw [e1]; exact List.mem_cons_self)
            · exact .inr e1
        · rcases List.mem_cons.1 hm with e1 | e1
          · subst e1; exact hnd.1 hx
          · exact d.dn x (List.mem_cons_of_mem _ hx) e1
        · rcases d.lord (i :: p) x s (by rw [e2]; rfl) j hj ho with h | h
          · exact .inl (List.mem_cons_of_mem _ h)
          · rcases List.mem_cons.1 h with e1 | e1
            · exact .inl (by rw [e1]; exact List.mem_cons_self)
            · exact .inr e1
        · have hadd := tval_add (st0 := st0) rf (past := e :: past) (S := fun j => memB j D) (T := fun j => memB j (i :: D)) (i := i) (s := s) hil (memB_false.2 hniD) fun j _ => memB_cons
          rw [hadd, hpv, tval_past (by rw [he]; exact memB_false.2 hniD)]
          cases hd : dstOf ops i with
          | none => rw [if_neg (by simp)]; exact d.tl s hs
          | some t =>
            have ht : t < 4096 := rf.dlt i t hil hd
            show (TT.put t e.v.av stL.tmps).at s = _
            rw [TT.at_put ht hs]
            by_cases e1 : s = t
            · subst e1; simp
            · rw [if_neg e1, if_neg (by simpa using fun h => e1 h.symm)]; exact d.tl s hs
        · cases hd : dstOf ops i with
          | none => exact d.du
          | some t => exact d.du
        · rw [hidx] at hj
          rcases List.mem_cons.1 hj with e1 | e1
          · exact absurd (by rw [e1]; exact List.mem_cons_self) hn
          · exact (hrd j e1 fun h => hn (List.mem_cons_of_mem _ h)).cons (hne j e1) (hord j e1)
        · rcases List.mem_cons.1 he' with e1 | e1
          · subst e1; exact absurd (by rw [he]; exact List.mem_cons_self) hn
          · have hm : e'.i ∈ idx past := List.mem_map_of_mem e1
            obtain ⟨a, b⟩ := d.re e' e1 fun h => hn (List.mem_cons_of_mem _ h)
            exact ⟨fun hr h' hi ha => (a hr h' hi ha).cons (hne _ hm) (hord _ hm), fun hr h' => (b hr h').cons (hne _ hm) (hord _ hm)⟩
      obtain ⟨t', ht1, ht2, hreg⟩ := regOp_eq (P := P) (call := call) (round := round) rf h1 (f := fun s => tval ops st0 past (fun j => ordOf ops j i) s) (zp := zpick (slotsOf ops i) z1)
        (fun s hs => by rw [zget_zpick, if_pos hs]; exact (hlook s hs).symm) (fun s hs => by rw [zget_zpick, if_neg hs])
      rw [hreg, hw0 t' fun s w hg => by rw [ht2 s (guard_slot hg), ← hlook s (guard_slot hg), hsame]]
      cases b with
      | true =>
        rw [cnd_true, hir] at hb
        replace hb : zEffT P C (opAt ops i).op (opAt ops i).type (zpick (slotsOf ops i) z1) h fun v h' => zStable P ops i h' (zDst N (dstOf ops i) v z1 fun z' => zRunD P C ops N K r (⟨i, zpick (slotsOf ops i) z1, v, true⟩ :: past) z' h') past := hb
        rw [cnd_true]
        have hev : ∀ x, (⟨call, round, t', P.globals.size⟩ : OC).ev x = (zEv P (zpick (slotsOf ops i) z1) x).av := fun x => zEv_ev ht1 x
        refine zEffT_sound (kd := fun _ => .fail 155) (kp := fun _ => .fail 156) hC d.inf hev rfl rfl hb (fun v => .ret (.val v)) _ fun v h' hi' hk => ⟨_, rfl, ?_⟩
        obtain ⟨hd, hst2⟩ := zStable_spec hk
        obtain ⟨z', hz', tz'⟩ := DI.tz_add rf h1 h2 htz1 (e := ⟨i, zpick (slotsOf ops i) z1, v, true⟩) rfl hd
        refine both ⟨i, zpick (slotsOf ops i) z1, v, true⟩ h' z' rfl hi' tz' (fun j hj hn => ?_) hz'
        obtain ⟨e', he', hej⟩ := List.mem_map.1 hj
        subst hej
        obtain ⟨a, b⟩ := d.re e' he' hn
        cases hr : e'.ran with
        | false => exact b hr h'
        | true =>
          refine a hr h' hi' ?_
          cases hp : isPure (opAt ops e'.i).op with
          | true => exact .inl rfl
          | false =>
            refine .inr (hst2 e' he' hr hp ?_ ?_)
            · cases ho : ordOf ops e'.i i
              · rfl
              · exact absurd (hpre e'.i (d.lt _ hj) ho) hn
            · cases hr2 : isRd P (opAt ops e'.i).op with
              | true => rfl
              | false => exact absurd (d.eff e'.i hj hr2) hn
      | false =>
        rw [cnd_false] at hb ⊢
        obtain ⟨z', hz', tz'⟩ := DI.tz_add rf h1 h2 htz1 (e := ⟨i, [], .tup [], false⟩) rfl hb
        have hfin := both ⟨i, [], .tup [], false⟩ h z' rfl d.inf tz' (fun j hj hn => d.ready j hj hn) hz'
        refine ⟨_, rfl, ?_⟩
        simpa using hfin
end
end Go.X

namespace Go.X
/-! ### code -/
structure KZ where
  env : List (Nat × (ZT → Heap → Prop))
  ret : ZT → Heap → Prop
def zLook (env : List (Nat × (ZT → Heap → Prop))) (id : Nat) (z : ZT) (h : Heap) : Prop := match env with
  | [] => False
  | e :: r => match Nat.beq id e.1 with | true => e.2 z h | false => zLook r id z h
def zRounds (body : ZT → (ZT → Heap → Prop) → KZ → Heap → Prop) (E : KZ) : Nat → ZT → Heap → Prop
  | 0, _, _ => False
  | n + 1, z, h => body z (zRounds body E n) E h
inductive ZLoop (lf : Nat) (body : ZT → (ZT → Heap → Prop) → KZ → Heap → Prop) (z : ZT) (E : KZ) (h : Heap) : Prop where
  | mk (n : Nat) (hn : n ≤ lf) (r : zRounds body E n z h)
def zConst (x : Operand) (z : ZT) (b : Bool) : ZT := match x with | .tmp s => zset z s (.bool b) | _ => z
section
variable (P : Program) (C : ZCall)
noncomputable def zCode (N lf : Nat) (c : Code) : ZT → (ZT → Heap → Prop) → KZ → Heap → Prop :=
  Code.rec (motive := fun _ => ZT → (ZT → Heap → Prop) → KZ → Heap → Prop)
    (fun z k _ h => k z h)
    (fun _ ops draw z k _ h => zRegion P C ops N draw z h k)
    (fun _ _ ia ib z k E h => ia z (fun z' h' => ib z' k E h') E h)
    (fun x _ _ it ie z k E h => match zEv P z x with | .bool b => cnd b (it (zConst x z true) k E h) (ie (zConst x z false) k E h) | _ => False)
    (fun id _ ib z k E h => ib z k ⟨(id, k) :: E.env, E.ret⟩ h)
    (fun _ ib z _ E h => ZLoop lf ib z E h)
    (fun _ _ _ _ _ _ _ _ _ _ => False)
    (fun id z _ E h => zLook E.env id z h)
    (fun _ _ _ _ _ _ => False)
    (fun _ z k _ h => k z h)
    (fun _ _ _ _ _ => False)
    (fun z _ E h => E.ret z h)
    (fun _ _ _ _ _ => False)
    c
noncomputable def zResults (l : List ResultVar) (z : ZT) (h : Heap) (K : List ZV → Prop) : Prop := match l with
  | [] => K []
  | .tmp s :: r => match ltb s 4096 with | true => zResults r z h fun vs => K (zget z s :: vs) | false => False
  | .cell a t :: r => match ltb a 4096, zget z a with | true, .pv nil i o => ZAnd (nil = false) (zLoad P t i o h fun v => zResults r z h fun vs => K (v :: vs)) | _, _ => False
def zRes1 (vs : List ZV) : ZV := match vs with
  | [v] => v
  | vs => .tup vs
noncomputable def zBody (lf : Nat) (f : FuncId) (args : List ZV) (K : ZK) (h : Heap) : Prop := match P.funcs[f]? with
  | some fn => match fn.body, Nat.ble fn.ntmps 4096, Nat.ble args.length fn.ntmps with
    | some c, true, true => zCode P C fn.ntmps lf c (padT fn.ntmps args) (fun z h => zResults P fn.results.toList z h fun vs => K (zRes1 vs) h) ⟨[], fun z h => zResults P fn.results.toList z h fun vs => K (zRes1 vs) h⟩ h
    | _, _, _ => False
  | none => False
end
/-! ### ranges over functions -/
/-- temporaries as a loop's record keeps them -/
def Agr (t : TT) (z : ZT) : Prop := ∀ s, s < 4096 → t.at s = (zget z s).av
/-- behind a range: how it was left -/
inductive ZAfter (h : Heap) (l : Nat) (K : XExit → Heap → Prop) : Prop where
  | mk (r : ALoop) (e : h.get l = some (.loop r)) (lt : l < h.next) (st : r.state = .ready ∨ r.state = .done) (k : K r.pending (h.put l (some .tomb)))
def zExit (e : XExit) (K : ZT → Heap → Prop) (E : KZ) (z : ZT) (h : Heap) : Prop := match e with
  | .normal => K z h
  | .exit i => zLook E.env i z h
  | .ret => E.ret z h
  | _ => False
/-- a loop's record, before the first round -/
def loopO (fn N : Nat) (params : List Tmp) (assign body : Code) (d : Nat) (t : TT) : AObj := .loop ⟨.ready, .normal, fn, t, N :: params, assign, body, d⟩
/-- the range over a function: the function is called; rounds go by the loop's name -/
noncomputable def zRange (P : Program) (C : ZCall) (fn N : Nat) (g : Operand) (params : Array Tmp) (assign body : Code) (z : ZT) (h : Heap) (K : XExit → Heap → Prop) : Prop := match zEv P z g with
  | .fn (.plain (.func f)) fs cap => ZAnd (bodied P f = true) (∀ t, Agr t z → C f ((fs ++ [.fn (.yield (h.next + 1)) [] []]) ++ cap) (fun _ h' => ZAfter h' (h.next + 1) K) ((h.newO (.deferred (some []))).newO (loopO fn N params.toList assign body h.next t)))
  | .any a => ZFn a fun f fs cap => ZAnd (bodied P f = true) (∀ t, Agr t z → C f ((zOfs fs ++ [.fn (.yield (h.next + 1)) [] []]) ++ zOfs cap) (fun _ h' => ZAfter h' (h.next + 1) K) ((h.newO (.deferred (some []))).newO (loopO fn N params.toList assign body h.next t)))
  | _ => False
/-- code outside of loops, with ranges over functions: each leaves one deferred thing -/
noncomputable def zSpine (P : Program) (C : ZCall) (fn N lf : Nat) (c : Code) : List ADef → ZT → (List ADef → ZT → Heap → Prop) → (List ADef → KZ) → Heap → Prop :=
  Code.rec (motive := fun _ => List ADef → ZT → (List ADef → ZT → Heap → Prop) → (List ADef → KZ) → Heap → Prop)
    (fun D z k _ h => k D z h)
    (fun _ ops draw D z k _ h => zRegion P C ops N draw z h (k D))
    (fun _ _ ia ib D z k E h => ia D z (fun D' z' h' => ib D' z' k E h') E h)
    (fun x _ _ it ie D z k E h => match zEv P z x with | .bool b => cnd b (it D (zConst x z true) k E h) (ie D (zConst x z false) k E h) | _ => False)
    (fun id _ ib D z k E h => ib D z k (fun D' => ⟨(id, k D') :: (E D').env, (E D').ret⟩) h)
    (fun body _ D z _ E h => ZLoop lf (zCode P C N lf body) z (E D) h)
    (fun g params assign body _ _ D z k E h => zRange P C fn N g params assign body z h fun e h' => zExit e (k (⟨.yield h.next, []⟩ :: D)) (E (⟨.yield h.next, []⟩ :: D)) z h')
    (fun id D z _ E h => zLook (E D).env id z h)
    (fun _ _ _ _ _ _ _ => False)
    (fun _ D z k _ h => k D z h)
    (fun _ _ _ _ _ _ => False)
    (fun D z _ E h => (E D).ret z h)
    (fun _ _ _ _ _ _ => False)
    c
/-- is there a range over a function outside of loops -/
def hasRange : Code → Bool
  | .seq a b => hasRange a || hasRange b
  | .cond _ a b => hasRange a || hasRange b
  | .block _ c => hasRange c
  | .rangeFunc _ _ _ _ => true
  | _ => false
def rangesF (P : Program) (f : FuncId) : Bool := match P.funcs[f]? with
  | some fn => match fn.body with | some c => hasRange c | none => false
  | none => false
/-- what is left behind for the end -/
def zDefers (D : List ADef) (h : Heap) (K : Heap → Prop) : Prop := match D with
  | [] => K h
  | d :: r => match d.fn with
    | .yield b => h.get b = some (.deferred (some [])) ∧ b < h.next ∧ zDefers r (h.put b (some .tomb)) K
    | _ => False
noncomputable def zBodyR (P : Program) (C : ZCall) (lf : Nat) (f : FuncId) (args : List ZV) (K : ZK) (h : Heap) : Prop := match P.funcs[f]? with
  | some fn => match fn.body, Nat.ble fn.ntmps 4096, Nat.ble args.length fn.ntmps with
    | some c, true, true => zSpine P C f fn.ntmps lf c [] (padT fn.ntmps args) (fun D z h => zDefers D h fun h' => zResults P fn.results.toList z h' fun vs => K (zRes1 vs) h') (fun D => ⟨[], fun z h => zDefers D h fun h' => zResults P fn.results.toList z h' fun vs => K (zRes1 vs) h'⟩) h
    | _, _, _ => False
  | none => False
/-- a round -/
def zBind (N : Nat) (ps : List Tmp) (args : List ZV) (z : ZT) (K : ZT → Prop) : Prop := match ps, args with
  | [], [] => K z
  | p :: ps, a :: as => match ltb p N with | true => zBind N ps as (zset z p a) K | false => False
  | _, _ => False
/-- where it ends -/
inductive ZEnd (h : Heap) (l : Nat) (K : ALoop → Heap → Prop) : Prop where
  | mk (r : ALoop) (e : h.get l = some (.loop r)) (lt : l < h.next) (k : K r h)
def zEndR (l : Nat) (K : ZK) (e : XExit) (h : Heap) : Prop := match e with
  | .normal => ZEnd h l fun r h => K (.bool true) (h.put l (some (r.with .ready .normal)))
  | .exit i => ZEnd h l fun r h => K (.bool false) (h.put l (some (r.with .done (.exit i))))
  | .ret => ZEnd h l fun r h => K (.bool false) (h.put l (some (r.with .done .ret)))
  | _ => False
/-- the exits of a piece of code -/
def exitsOf : Code → List Nat
  | .seq a b => exitsOf a ++ exitsOf b
  | .cond _ a b => exitsOf a ++ exitsOf b
  | .block _ c => exitsOf c
  | .loop c => exitsOf c
  | .exit i => [i]
  | _ => []
def zExits (l : List Nat) (f : Nat → ZT → Heap → Prop) : List (Nat × (ZT → Heap → Prop)) := match l with | [] => [] | i :: r => (i, f i) :: zExits r f
/-- a round's run, from its loop's record -/
noncomputable def zRun (P : Program) (C : ZCall) (lf l N : Nat) (ps : List Tmp) (assign body : Code) (z : ZT) (args : List ZV) (K : ZK) (h : Heap) : Prop :=
  zBind N ps args z fun z => zCode P C N lf assign z (fun z' h' => ZEnd h' l fun r' h' => ZAnd (r'.state = .ready) (zCode P C N lf body z' (fun _ h2 => zEndR l K .normal h2) ⟨zExits (exitsOf body) fun i _ h2 => zEndR l K (.exit i) h2, fun _ h2 => zEndR l K .ret h2⟩ (h'.put l (some (r'.with .busy r'.pending))))) ⟨[], fun _ _ => False⟩ h
inductive ZRnd (P : Program) (C : ZCall) (lf l : Nat) (args : List ZV) (K : ZK) (h : Heap) : Prop where
  | mk (r : ALoop) (N : Nat) (ps : List Tmp) (z : ZT) (e : h.get l = some (.loop r)) (eps : r.params = N :: ps) (le : N ≤ 4096) (ag : Agr r.tmps z) (run : zRun P C lf l N ps r.assign r.body z args K h)
abbrev ZSums := FuncId → Option (List ZV → ZK → Heap → Prop)
noncomputable def zCall (P : Program) (S : ZSums) (lf : Nat) (n : Nat) : ZCall :=
  Nat.rec (motive := fun _ => ZCall) (fun _ _ _ _ => False)
    (fun _ ih f args K h => cnd (ltb f P.funcs.size) (Option.rec (motive := fun _ => Prop) (cnd (rangesF P f) (zBodyR P ih lf f args K h) (zBody P ih lf f args K h)) (fun s => s args K h) (S f)) (ZRnd P ih lf (f - P.funcs.size) args K h)) n
def noHints : Hints := ⟨fun _ => none, fun _ => 0⟩
/-- what continuations are good for -/
structure KR (D : List ADef) (kn : ZT → Heap → Prop) (E : KZ) (kk : KC) (p : Post) : Prop where
  normal : ∀ z st h, h.inf = true → ZS D z st → kn z h → (kk .normal st).sat p h
  exit : ∀ id z st h, h.inf = true → ZS D z st → zLook E.env id z h → (kk (.exit id) st).sat p h
  ret : ∀ z st h, h.inf = true → ZS D z st → E.ret z h → (kk .ret st).sat p h
structure KRS (K : List ADef → ZT → Heap → Prop) (E : List ADef → KZ) (kk : KC) (p : Post) : Prop where
  at' : ∀ D, KR D (K D) (E D) kk p
section
variable {P : Program} {C : ZCall} {call : CallRec} {round : RoundRec}
theorem zRegion_sound {Df : List ADef} (hC : CZ P call round C) {N : Nat} (hN : N ≤ 4096) {dok : Bool} {ops : Array Oper} {draw : Bool} {z : ZT} {st : St} {h : Heap} (hinf : h.inf = true) (s : ZS Df z st) {K : ZT → Heap → Prop} {k : St → FM} {kp : St → Chain → FM} {p : Post}
    (hK : ∀ z' st' h', h'.inf = true → ZS Df z' st' → K z' h' → (k st').sat p h') (hs : zRegion P C ops N draw z h K) : (xRegion P call round N dok ops draw st k kp).sat p h := by
  unfold zRegion at hs
  cases draw with
  | false =>
    show (xOps P call round N dok ops ops.toList st k kp).sat p h
    exact zOps_sound hC hN hK ops.toList z st h hinf s hs
  | true =>
    simp only at hs
    split at hs
    · rename_i hc
      simp only [Bool.and_eq_true] at hc
      obtain ⟨⟨h1, h2⟩, h34⟩ := hc
      show (cnd (regFit N ops) (FM.regn ops.size (ordL (masks ops)) (slotsOf ops) (dstOf ops) (regOp P call round ops) st k) (.fail 154)).sat p h
      rw [h1, cnd_true]
      refine .inr ⟨hinf, fun l hl => ?_⟩
      have rf := regF_of h2
      -- the way that this order takes
      have hpw : l.Pairwise fun x y => ordOf ops y x = false := by
        have key : ∀ (a b : List Nat), l = a ++ b → b.Pairwise fun x y => ordOf ops y x = false := by
          intro a b
          induction b generalizing a with
          | nil => intro _; exact List.Pairwise.nil
          | cons x b ih =>
            intro e
            refine List.pairwise_cons.2 ⟨fun y hy => ?_, ih (a ++ [x]) (by rw [e]; simp)⟩
            cases ho : ordOf ops y x with
            | false => rfl
            | true =>
              exfalso
              have hyl : y ∈ l := by rw [e]; exact List.mem_append_right _ (List.mem_cons_of_mem _ hy)
              have hya := hl.ord a x b e y ((hl.mem y).1 hyl) ho
              have nd := hl.nodup
              rw [e] at nd
              exact (List.nodup_append.1 nd).2.2 y hya y (List.mem_cons_of_mem _ hy) rfl
        exact key [] l rfl
      have hmem : effs P ops l ∈ effOrd ops ops.size (effs P ops (List.range ops.size)) := by
        refine effOrd_mem ops ops.size _ _ (hpw.filter _) (fun i hi => irr rf ((hl.mem i).1 (List.mem_filter.1 hi).1)) (fun i => ?_) (hl.nodup.filter _) ?_
        · unfold effs
          rw [List.mem_filter, List.mem_filter, List.mem_range, hl.mem]
        · refine Nat.le_trans (List.length_filter_le _ _) ?_
          have := List.Nodup.length_le_of_subset hl.nodup (l₂ := List.range ops.size) fun i hi => List.mem_range.2 ((hl.mem i).1 hi)
          rwa [List.length_range] at this
      have hw : (effs P ops l, canonP P ops ops.size ops.size [] (effs P ops l)) ∈ ways P ops := List.mem_map.2 ⟨_, hmem, rfl⟩
      have hcw := List.all_eq_true.1 h34 _ hw
      simp only [Bool.and_eq_true] at hcw
      obtain ⟨⟨h3, h4⟩, h5⟩ := hcw
      have hs := zAll_mem hs _ hw
      refine drawn_sound hC rf (st0 := st) ⟨s.defers, s.na⟩ hK l [] [] (canonP P ops ops.size ops.size [] (effs P ops l)) z h st ⟨hinf, h3, listBeq_eq h5, fun i hi => .inr (coverB_iff.1 h4 i hi), fun i hi => absurd hi List.not_mem_nil, fun i hi => absurd hi List.not_mem_nil, fun i hi => absurd hi List.not_mem_nil, fun i hi => absurd hi List.not_mem_nil, fun i hi => absurd hi List.not_mem_nil,
        fun i hi => .inr ((hl.mem i).2 hi), fun i _ => List.not_mem_nil, fun a i b e j hj ho => .inr (hl.ord a i b e j hj ho), hl.nodup, fun i hi => (hl.mem i).1 hi, fun t ht => ?_, fun t ht => ?_, ⟨rfl, rfl⟩, fun j hj => absurd hj List.not_mem_nil, fun e he => absurd he List.not_mem_nil⟩ hs
      · have : tval ops st [] (fun i => memB i (idx [])) t = st.tmps.at t := by
          unfold tval
          rw [List.find?_eq_none.2 fun x _ => by simp [idx, memB]]
        rw [this]; exact (s.at' t ht).symm
      · have : tval ops st [] (fun i => memB i []) t = st.tmps.at t := by
          unfold tval
          rw [List.find?_eq_none.2 fun x _ => by simp [memB]]
        rw [this]
    · exact hs.elim
theorem xLoop_mono {Df : List ADef} {body : CodeK} {p : Post} {B : ZT → (ZT → Heap → Prop) → KZ → Heap → Prop} {E : KZ} {kk : KC} (hE : ∀ id z st h, h.inf = true → ZS Df z st → zLook E.env id z h → (kk (.exit id) st).sat p h) (hR : ∀ z st h, h.inf = true → ZS Df z st → E.ret z h → (kk .ret st).sat p h)
    (hB : ∀ (kn : ZT → Heap → Prop) (k2 : KC) z st h, h.inf = true → ZS Df z st → KR Df kn E k2 p → B z kn E h → (body st k2).sat p h) :
    ∀ (n m : Nat), n ≤ m → ∀ z st h, h.inf = true → ZS Df z st → zRounds B E n z h → (xLoop body m st kk).sat p h
  | 0, m, _, z, st, h, _, _, hs => hs.elim
  | n + 1, 0, hm, z, st, h, _, _, hs => absurd hm (Nat.not_succ_le_zero n)
  | n + 1, m + 1, hm, z, st, h, hinf, s, hs => by
    show (body st fun e st' => onNormal e st' (fun st2 => xLoop body m st2 kk) kk).sat p h
    refine hB _ _ z st h hinf s ⟨fun z' st' h' hi s' hk => ?_, fun id z' st' h' hi s' hk => ?_, fun z' st' h' hi s' hk => ?_⟩ hs
    · exact xLoop_mono hE hR hB n m (Nat.le_of_succ_le_succ hm) z' st' h' hi s' hk
    · exact hE id z' st' h' hi s' hk
    · exact hR z' st' h' hi s' hk
theorem zCode_sound {Df : List ADef} {cur : Option Nat} (hC : CZ P call round C) {fn : FuncId} {N lf : Nat} (hN : N ≤ 4096) {p : Post} (c : Code) : ∀ (z : ZT) (kn : ZT → Heap → Prop) (E : KZ) (h : Heap) (kk : KC) (st : St), h.inf = true → ZS Df z st → KR Df kn E kk p → zCode P C N lf c z kn E h →
    (xCode P call round noHints fn N cur lf c st kk).sat p h := by
  induction c with
  | skip => exact fun z kn E h kk st hi s kr hs => kr.normal z st h hi s hs
  | region id ops draw =>
    exact fun z kn E h kk st hi s kr hs => zRegion_sound (k := fun st' => kk .normal st') (kp := fun st' ch => kk (.panic ch) st') hC hN hi s (fun z' st' h' hi' s' hk => kr.normal z' st' h' hi' s' hk) hs
  | seq a b iha ihb =>
    intro z kn E h kk st hi s kr hs
    exact iha z (fun z' h' => zCode P C N lf b z' kn E h') E h (fun e st' => onNormal e st' (fun st2 => xCode P call round noHints fn N cur lf b st2 kk) kk) st hi s
      ⟨fun z' st' h' hi' s' hk => ihb z' kn E h' kk st' hi' s' kr hk, fun id z' st' h' hi' s' hk => kr.exit id z' st' h' hi' s' hk, fun z' st' h' hi' s' hk => kr.ret z' st' h' hi' s' hk⟩ hs
  | cond x a b iha ihb =>
    intro z kn E h kk st hi s kr hs
    have hs1 : (match zEv P z x with | .bool b' => cnd b' (zCode P C N lf a (zConst x z true) kn E h) (zCode P C N lf b (zConst x z false) kn E h) | _ => False) := hs
    show ((evalO P.globals.size st.tmps x).onBool (fun b' => cnd b' (xCode P call round noHints fn N cur lf a st kk) (xCode P call round noHints fn N cur lf b st kk)) (.fail 206)).sat p h
    have hev := zEv_ev (P := P) (t := st.tmps) s.at' x
    rw [hev]
    split at hs1
    · rename_i t ht
      rw [ht, av_bool]
      have hc : ZS Df (zConst x z t) st := by
        unfold zConst
        split
        · rename_i sl
          have hz : zEv P z (.tmp sl) = .bool t := ht
          by_cases hl : sl < 4096
          · have : zget z sl = .bool t := by
              have e : zEv P z (.tmp sl) = (match ltb sl 4096 with | true => zget z sl | false => .any .junk) := rfl
              rw [e, ltb_iff.2 hl] at hz; exact hz
            exact s.const this rfl
          · exfalso
            have e : zEv P z (.tmp sl) = (match ltb sl 4096 with | true => zget z sl | false => .any .junk) := rfl
            rw [e, ltb_false.2 (Nat.le_of_not_lt hl)] at hz; cases hz
        · exact s
      cases t with
      | true => exact iha _ kn E h kk st hi hc kr hs1
      | false => exact ihb _ kn E h kk st hi hc kr hs1
    · exact hs1.elim
  | block id body ih =>
    intro z kn E h kk st hi s kr hs
    refine ih z kn ⟨(id, kn) :: E.env, E.ret⟩ h (fun e st' => inBlockK id e st' kk) st hi s ⟨fun z' st' h' hi' s' hk => kr.normal z' st' h' hi' s' hk, fun id' z' st' h' hi' s' hk => ?_, fun z' st' h' hi' s' hk => kr.ret z' st' h' hi' s' hk⟩ hs
    show (cnd (Nat.beq id' id) (kk .normal st') (kk (.exit id') st')).sat p h'
    have hk' : (match Nat.beq id' id with | true => kn z' h' | false => zLook E.env id' z' h') := hk
    cases hb : Nat.beq id' id with
    | true => rw [hb] at hk'; exact kr.normal z' st' h' hi' s' hk'
    | false => rw [hb] at hk'; exact kr.exit id' z' st' h' hi' s' hk'
  | loop body ih =>
    intro z kn E h kk st hi s kr hs
    obtain ⟨n, hn, hr⟩ := (show ZLoop lf (zCode P C N lf body) z E h from hs)
    show (xLoop (xCode P call round noHints fn N cur lf body) lf st kk).sat p h
    exact xLoop_mono (fun id z' st' h' hi' s' hk => kr.exit id z' st' h' hi' s' hk) (fun z' st' h' hi' s' hk => kr.ret z' st' h' hi' s' hk) (fun kn2 k2 z' st' h' hi' s' kr2 hb => ih z' kn2 E h' k2 st' hi' s' kr2 hb) n lf hn z st h hi s hr
  | rangeFunc g params assign body => exact fun z kn E h kk st hi s kr hs => hs.elim
  | exit id => exact fun z kn E h kk st hi s kr hs => kr.exit id z st h hi s hs
  | scope body => exact fun z kn E h kk st hi s kr hs => hs.elim
  | label l => exact fun z kn E h kk st hi s kr hs => kr.normal z st h hi s hs
  | goto l => exact fun z kn E h kk st hi s kr hs => hs.elim
  | ret => exact fun z kn E h kk st hi s kr hs => kr.ret z st h hi s hs
  | refuse why => exact fun z kn E h kk st hi s kr hs => hs.elim
theorem zResults_sound {Df : List ADef} {z : ZT} {st : St} (s : ZS Df z st) {h : Heap} {p : Post} : ∀ (l : List ResultVar) (K : List ZV → Prop) (k : List AV → FM), zResults P l z h K → (∀ vs, K vs → (k (avs vs)).sat p h) → (resultsK P st.tmps l k).sat p h
  | [], K, k, hs, hk => hk [] hs
  | .tmp t :: r, K, k, hs, hk => by
    have hs1 : (match ltb t 4096 with | true => zResults P r z h fun vs => K (zget z t :: vs) | false => False) := hs
    show (cnd (ltb t 4096) (resultsK P st.tmps r fun vs => k (TT.at t st.tmps :: vs)) (.fail 208)).sat p h
    cases hb : ltb t 4096 with
    | false => rw [hb] at hs1; exact hs1.elim
    | true =>
      rw [hb] at hs1
      rw [cnd_true]
      refine zResults_sound s r _ _ hs1 fun vs hv => ?_
      rw [s.at' t (ltb_iff.1 hb)]
      exact hk _ hv
  | .cell a t :: r, K, k, hs, hk => by
    have hs1 : (match ltb a 4096, zget z a with | true, .pv nil i o => ZAnd (nil = false) (zLoad P t i o h fun v => zResults P r z h fun vs => K (v :: vs)) | _, _ => False) := hs
    show (cnd (ltb a 4096) ((TT.at a st.tmps).onPtr (fun i o => loadC P t i o fun v => resultsK P st.tmps r fun vs => k (v :: vs)) (.fail 209)) (.fail 208)).sat p h
    split at hs1
    · rename_i nil i o hb hz
      obtain ⟨hn, hs2⟩ := hs1
      subst hn
      rw [hb, cnd_true, s.at' a (ltb_iff.1 hb), hz, av_pvf]
      obtain ⟨v, hk2, e⟩ := zLoad_sound P hs2
      exact e _ p (zResults_sound s r _ _ hk2 fun vs hv => hk _ hv)
    · exact hs1.elim
theorem targs_at : ∀ (l : List ZV) (n : Nat) (t : TT) (k : TT → FM), n + l.length ≤ 4096 → ∃ t', TT.args (avs l) n t k = k t' ∧ ∀ s, s < 4096 → t'.at s = if n ≤ s ∧ s < n + l.length then (zget l (s - n)).av else t.at s
  | [], n, t, k, _ => ⟨t, rfl, fun s _ => by rw [if_neg (by simp only [List.length_nil]; omega)]⟩
  | v :: l, n, t, k, hl => by
    simp only [List.length_cons] at hl
    obtain ⟨t', h1, h2⟩ := targs_at l (n + 1) (TT.put n v.av t) k (by omega)
    refine ⟨t', ?_, fun s hs => ?_⟩
    · show TT.putK n v.av t (fun t' => TT.args (avs l) (n + 1) t' k) = _
      rw [TT.putK_eq, h1]
    · rw [h2 s hs, TT.at_put (by omega) hs]
      simp only [List.length_cons]
      by_cases e : s = n
      · subst e
        rw [if_neg (by omega), if_pos rfl, if_pos (by omega), Nat.sub_self]; rfl
      · by_cases e2 : n + 1 ≤ s ∧ s < n + 1 + l.length
        · rw [if_pos e2, if_pos (by omega)]
          obtain ⟨m, hm⟩ : ∃ m, s - n = m + 1 := ⟨s - n - 1, by omega⟩
          rw [hm, show s - (n + 1) = m by omega]; rfl
        · rw [if_neg e2, if_neg e, if_neg (by omega)]
theorem zget_over {l : List ZV} : ∀ {s : Nat}, l.length ≤ s → zget l s = .tup [] := by
  induction l with
  | nil => intro s _; cases s <;> rfl
  | cons v l ih =>
    intro s hs
    cases s with
    | zero => simp at hs
    | succ s => exact ih (by simpa using hs)
theorem zBody_sound (hC : CZ P call round C) {lf : Nat} {f : FuncId} {args : List ZV} {K : ZK} {h : Heap} (hinf : h.inf = true) (hs : zBody P C lf f args K h) {kp : Chain → FM} : EfOk h K (fun k => xBody P noHints lf call round f (avs args) k kp) := by
  unfold zBody at hs
  split at hs
  · rename_i fn hf
    split at hs
    · rename_i c hbo hN hl
      have hN := Nat.le_of_ble_eq_true hN
      have hl := Nat.le_of_ble_eq_true hl
      intro k p hp
      show (optM P.funcs[f]? (.fail 160) fun fn => optM fn.body (.fail 160) fun c => argsK fn.ntmps (avs args) fun t => xCode P call round noHints f fn.ntmps none lf c ⟨t, [], .na⟩ (leaveK P call round noHints lf fn k kp)).sat p h
      rw [hf, optM_some, hbo, optM_some]
      unfold argsK
      rw [Nat.ble_eq_true_of_le hN, cnd_true, lenK_eq, avs_length, show Nat.zero + args.length = args.length from Nat.zero_add _, Nat.ble_eq_true_of_le hl, cnd_true]
      obtain ⟨t, ht, hat⟩ := targs_at args 0 TT.undef (fun t => xCode P call round noHints f fn.ntmps none lf c ⟨t, [], .na⟩ (leaveK P call round noHints lf fn k kp)) (by omega)
      have ht' : TT.args (avs args) Nat.zero TT.undef (fun t => xCode P call round noHints f fn.ntmps none lf c ⟨t, [], .na⟩ (leaveK P call round noHints lf fn k kp)) = _ := ht
      rw [ht']
      have hz : ZS [] (padT fn.ntmps args) (⟨t, [], .na⟩ : St) := by
        refine ⟨fun s hs => ?_, rfl, rfl⟩
        show t.at s = _
        rw [zget_padT, hat s hs]
        by_cases e : 0 ≤ s ∧ s < 0 + args.length
        · rw [if_pos e, Nat.sub_zero]
        · rw [if_neg e, TT.at_undef, zget_over (by omega)]; simp
      have fin : ∀ z st h', h'.inf = true → ZS [] z st → (zResults P fn.results.toList z h' fun vs => K (zRes1 vs) h') → (endK P fn st.tmps k kp .returning).sat p h' := by
        intro z st h' hi s hr
        show (resultsK P st.tmps fn.results.toList fun vs => results1 vs k).sat p h'
        refine zResults_sound s _ _ _ hr fun vs hv => ?_
        have := hp _ _ hi hv
        cases vs with
        | nil =>
          show (k (.tuple [])).sat p h'
          simpa [zRes1] using this
        | cons v r =>
          cases r with
          | nil => exact this
          | cons w r =>
            show (k (.tuple (avs (v :: w :: r)))).sat p h'
            simpa [zRes1] using this
      have leave : ∀ (e : XExit) z st h', e = .normal ∨ e = .ret → h'.inf = true → ZS [] z st → (zResults P fn.results.toList z h' fun vs => K (zRes1 vs) h') → (leaveK P call round noHints lf fn k kp e st).sat p h' := by
        intro e z st h' he hi s hr
        have : leaveK P call round noHints lf fn k kp e st = xDefers P call round noHints lf st.defers .returning (endK P fn st.tmps k kp) := by
          rcases he with rfl | rfl <;> rfl
        rw [this, s.defers]
        exact fin z st h' hi s hr
      refine zCode_sound hC hN c (padT fn.ntmps args) _ _ h _ _ hinf hz ⟨?_, ?_, ?_⟩ hs
      · exact fun z st h' hi s hr => leave .normal z st h' (.inl rfl) hi s hr
      · exact fun id z st h' hi s hr => False.elim hr
      · exact fun z st h' hi s hr => leave .ret z st h' (.inr rfl) hi s hr
    · exact hs.elim
  · exact hs.elim
theorem zLook_exits {f : Nat → ZT → Heap → Prop} {id : Nat} {z : ZT} {h : Heap} : ∀ {l : List Nat}, zLook (zExits l f) id z h → f id z h
  | [], hs => False.elim hs
  | i :: r, hs => by
    have hs1 : (match Nat.beq id i with | true => f i z h | false => zLook (zExits r f) id z h) := hs
    cases hb : Nat.beq id i with
    | true => rw [hb] at hs1; have := Nat.eq_of_beq_eq_true hb; subst this; exact hs1
    | false => rw [hb] at hs1; exact zLook_exits hs1
theorem zBind_sound {Df : List ADef} {N : Nat} (hN : N ≤ 4096) {u : AMode} (hu : u = .na) : ∀ (ps : List Tmp) (args : List ZV) (z : ZT) (t : TT) (K : ZT → Prop), Agr t z → zBind N ps args z K → ∃ z' t', ZS Df z' ⟨t', Df, u⟩ ∧ K z' ∧ ∀ k : TT → FM, bindK N ps (avs args) t k = k t'
  | [], [], z, t, K, ha, hs => ⟨z, t, ⟨ha, rfl, hu⟩, hs, fun k => rfl⟩
  | [], _ :: _, _, _, _, _, hs => False.elim hs
  | _ :: _, [], _, _, _, _, hs => False.elim hs
  | p :: ps, a :: as, z, t, K, ha, hs => by
    have hs1 : (match ltb p N with | true => zBind N ps as (zset z p a) K | false => False) := hs
    cases hb : ltb p N with
    | false => rw [hb] at hs1; exact hs1.elim
    | true =>
      rw [hb] at hs1
      have hp := ltb_iff.1 hb
      have ha' : Agr (TT.put p a.av t) (zset z p a) := fun s hs => by
        rw [TT.at_put (by omega) hs, zget_zset]
        by_cases e : s = p
        · rw [if_pos e, if_pos e]
        · rw [if_neg e, if_neg e]; exact ha s hs
      obtain ⟨z', t', h1, h2, h3⟩ := zBind_sound hN hu ps as _ _ K ha' hs1
      refine ⟨z', t', h1, h2, fun k => ?_⟩
      show cnd (ltb p N) (TT.putK p a.av t fun t' => bindK N ps (avs as) t' k) (.fail 174) = _
      rw [hb, cnd_true, TT.putK_eq]
      exact h3 k
theorem zEndR_sound {l : Nat} {K : ZK} {k : KV} {p : Post} (hp : ∀ v h', h'.inf = true → K v h' → (k v.av).sat p h') : ∀ (e : XExit) (h : Heap), h.inf = true → zEndR l K e h → (endRoundK l k e).sat p h
  | .normal, h, hi, hs => by
    obtain ⟨r, e, lt, hk⟩ := hs
    have := hp _ _ (by exact hi) hk
    rw [av_bool] at this
    exact ⟨_, e, lt, this⟩
  | .exit i, h, hi, hs => by
    obtain ⟨r, e, lt, hk⟩ := hs
    have := hp _ _ (by exact hi) hk
    rw [av_bool] at this
    exact ⟨_, e, lt, this⟩
  | .goto _, _, _, hs => False.elim hs
  | .ret, h, hi, hs => by
    obtain ⟨r, e, lt, hk⟩ := hs
    have := hp _ _ (by exact hi) hk
    rw [av_bool] at this
    exact ⟨_, e, lt, this⟩
  | .panic _, _, _, hs => False.elim hs
theorem zRound_sound (hC : CZ P call round C) {lf l : Nat} {args : List ZV} {K : ZK} {h : Heap} (hinf : h.inf = true) (hs : ZRnd P C lf l args K h) : EfOk h K (fun k => xRound P call round noHints lf l (avs args) k) := by
  obtain ⟨r, N, ps, z, e, eps, hN, ag, hs⟩ := hs
  intro k p hp
  refine ⟨_, e, ?_⟩
  show (List.rec (motive := fun _ => FM) (.fail 178) (fun N ps _ =>
    bindK N ps (avs args) r.tmps fun t =>
    xCode P call round noHints r.fn N (some l) lf r.assign ⟨t, [], .na⟩ fun e st => onNormal e st
      (fun st' => .get l fun o' => o'.onLoop (fun r' =>
        LSt.rec (motive := fun _ => FM)
          (.set l (r'.with .busy r'.pending) (xCode P call round noHints r.fn N (some l) lf r.body st' fun e2 _ => endRoundK l k e2))
          (.fail 170) (.fail 170) (.fail 170) r'.state) (.fail 171)) (fun _ _ => .fail 172)) r.params : FM).sat p h
  rw [eps]
  show (bindK N ps (avs args) r.tmps fun t =>
    xCode P call round noHints r.fn N (some l) lf r.assign ⟨t, [], .na⟩ fun e st => onNormal e st
      (fun st' => .get l fun o' => o'.onLoop (fun r' =>
        LSt.rec (motive := fun _ => FM)
          (.set l (r'.with .busy r'.pending) (xCode P call round noHints r.fn N (some l) lf r.body st' fun e2 _ => endRoundK l k e2))
          (.fail 170) (.fail 170) (.fail 170) r'.state) (.fail 171)) (fun _ _ => .fail 172)).sat p h
  obtain ⟨z', t', h1, h2, h3⟩ := zBind_sound (Df := []) hN (u := .na) rfl ps args z r.tmps _ ag hs
  rw [h3]
  refine zCode_sound hC hN r.assign z' _ ⟨[], fun _ _ => False⟩ h _ _ hinf h1 ⟨fun z2 st2 h2' hi2 s2 hk => ?_, fun id z2 st2 h2' hi2 s2 hk => False.elim hk, fun z2 st2 h2' hi2 s2 hk => False.elim hk⟩ h2
  obtain ⟨r', e', lt', hst, hk⟩ := hk
  refine ⟨_, e', ?_⟩
  show (LSt.rec (motive := fun _ => FM)
          (.set l (r'.with .busy r'.pending) (xCode P call round noHints r.fn N (some l) lf r.body st2 fun e2 _ => endRoundK l k e2))
          (.fail 170) (.fail 170) (.fail 170) r'.state : FM).sat p h2'
  rw [hst]
  refine ⟨lt', ?_⟩
  refine zCode_sound hC hN r.body z2 _ _ _ (fun e2 _ => endRoundK l k e2) st2 (by exact hi2) s2 ⟨fun z3 st3 h3' hi3 s3 hk3 => ?_, fun id z3 st3 h3' hi3 s3 hk3 => ?_, fun z3 st3 h3' hi3 s3 hk3 => ?_⟩ hk
  · exact zEndR_sound hp .normal h3' hi3 hk3
  · exact zEndR_sound hp (.exit id) h3' hi3 (zLook_exits hk3)
  · exact zEndR_sound hp .ret h3' hi3 hk3
theorem zRange_sound (hC : CZ P call round C) {fn N : Nat} {D : List ADef} {g : Operand} {params : Array Tmp} {assign body : Code} {z : ZT} {st : St} {h : Heap} (hinf : h.inf = true) (s : ZS D z st) {K : XExit → Heap → Prop} {kk : KC} {p : Post}
    (hs : zRange P C fn N g params assign body z h K) (hk : ∀ e st' h', h'.inf = true → ZS (⟨.yield h.next, []⟩ :: D) z st' → K e h' → (kk e st').sat p h') : (xRange P call round N fn none g params assign body st kk).sat p h := by
  have av_anys : ∀ l : List AV, avs (zOfs l) = l := zOfs_av
  have key : ∀ (f : FuncId) (fs cap : List ZV), bodied P f = true → (∀ t, Agr t z → C f ((fs ++ [.fn (.yield (h.next + 1)) [] []]) ++ cap) (fun _ h' => ZAfter h' (h.next + 1) K) ((h.newO (.deferred (some []))).newO (loopO fn N params.toList assign body h.next t))) →
      (FM.new (.deferred (some [])) fun b => goLoop P call round N fn (.plain (.func f)) (avs fs) (avs cap) params assign body st.tmps b ⟨st.tmps, ⟨.yield b, []⟩ :: st.defers, st.u⟩ kk).sat p h := by
    intro f fs cap hb hz
    refine new_sat hinf ?_
    show (FM.new (.loop ⟨.ready, .normal, fn, st.tmps, N :: params.toList, assign, body, h.next⟩) fun l => appK (avs fs) [.func (.yield l) [] []] fun args => appK args (avs cap) fun as => cnd (bodied P f) (call f as (fun _ => endLoopK l ⟨st.tmps, ⟨.yield h.next, []⟩ :: st.defers, st.u⟩ kk) (fun _ => .fail 204)) (.fail 204)).sat p (h.newO (.deferred (some [])))
    refine new_sat (by exact hinf) ?_
    rw [appK_eq, appK_eq, hb, cnd_true]
    have he : avs fs ++ [AV.func (.yield (h.newO (.deferred (some []))).next) [] []] ++ avs cap = avs ((fs ++ [.fn (.yield (h.next + 1)) [] []]) ++ cap) := by
      simp [avs_append]
    rw [he]
    refine hC.call f _ _ _ (bodied_lt hb) (by exact hinf) (hz st.tmps s.at') (fun _ => .fail 204) (fun _ => endLoopK (h.newO (.deferred (some []))).next ⟨st.tmps, ⟨.yield h.next, []⟩ :: st.defers, st.u⟩ kk) p fun v h' hi ⟨r, e, lt, hst, hka⟩ => ?_
    refine ⟨_, e, ?_⟩
    show (LSt.rec (motive := fun _ => FM) (.set (h.next + 1) .tomb (kk r.pending ⟨st.tmps, ⟨.yield h.next, []⟩ :: st.defers, st.u⟩)) (.fail 202) (.set (h.next + 1) .tomb (kk r.pending ⟨st.tmps, ⟨.yield h.next, []⟩ :: st.defers, st.u⟩)) (.fail 202) r.state : FM).sat p h'
    have fin : (kk r.pending ⟨st.tmps, ⟨.yield h.next, []⟩ :: st.defers, st.u⟩).sat p (h'.put (h.next + 1) (some .tomb)) := hk _ _ _ (by exact hi) ⟨s.at', by rw [s.defers], s.na⟩ hka
    rcases hst with hst | hst <;> rw [hst] <;> exact ⟨lt, fin⟩
  show ((evalO P.globals.size st.tmps g).onFunc (fun f first captured => FM.new (.deferred (some [])) fun b => goLoop P call round N fn f first captured params assign body st.tmps b ⟨st.tmps, ⟨.yield b, []⟩ :: st.defers, st.u⟩ kk) (.fail 201)).sat p h
  rw [zEv_ev (P := P) (t := st.tmps) s.at' g]
  unfold zRange at hs
  split at hs
  · rename_i f fs cap he
    obtain ⟨hb, hz⟩ := hs
    rw [he, av_fn]
    exact key f fs cap hb hz
  · rename_i a he
    obtain ⟨f, fs, cap, e, hb, hz⟩ := hs
    rw [he, av_any, e]
    have := key f (zOfs fs) (zOfs cap) hb hz
    rw [av_anys, av_anys] at this
    exact this
  · exact hs.elim
theorem zSpine_sound (hC : CZ P call round C) {fn : FuncId} {N lf : Nat} (hN : N ≤ 4096) {p : Post} (c : Code) : ∀ (D : List ADef) (z : ZT) (K : List ADef → ZT → Heap → Prop) (E : List ADef → KZ) (h : Heap) (kk : KC) (st : St), h.inf = true → ZS D z st → KRS K E kk p → zSpine P C fn N lf c D z K E h →
    (xCode P call round noHints fn N none lf c st kk).sat p h := by
  induction c with
  | skip => exact fun D z K E h kk st hi s kr hs => (kr.at' D).normal z st h hi s hs
  | region id ops draw =>
    exact fun D z K E h kk st hi s kr hs => zRegion_sound (k := fun st' => kk .normal st') (kp := fun st' ch => kk (.panic ch) st') hC hN hi s (fun z' st' h' hi' s' hk => (kr.at' D).normal z' st' h' hi' s' hk) hs
  | seq a b iha ihb =>
    intro D z K E h kk st hi s kr hs
    exact iha D z (fun D' z' h' => zSpine P C fn N lf b D' z' K E h') E h (fun e st' => onNormal e st' (fun st2 => xCode P call round noHints fn N none lf b st2 kk) kk) st hi s
      ⟨fun D' => ⟨fun z' st' h' hi' s' hk => ihb D' z' K E h' kk st' hi' s' kr hk, fun id z' st' h' hi' s' hk => (kr.at' D').exit id z' st' h' hi' s' hk, fun z' st' h' hi' s' hk => (kr.at' D').ret z' st' h' hi' s' hk⟩⟩ hs
  | cond x a b iha ihb =>
    intro D z K E h kk st hi s kr hs
    have hs1 : (match zEv P z x with | .bool b' => cnd b' (zSpine P C fn N lf a D (zConst x z true) K E h) (zSpine P C fn N lf b D (zConst x z false) K E h) | _ => False) := hs
    show ((evalO P.globals.size st.tmps x).onBool (fun b' => cnd b' (xCode P call round noHints fn N none lf a st kk) (xCode P call round noHints fn N none lf b st kk)) (.fail 206)).sat p h
    have hev := zEv_ev (P := P) (t := st.tmps) s.at' x
    rw [hev]
    split at hs1
    · rename_i t ht
      rw [ht, av_bool]
      have hc : ZS D (zConst x z t) st := by
        unfold zConst
        split
        · rename_i sl
          have hz : zEv P z (.tmp sl) = .bool t := ht
          by_cases hl : sl < 4096
          · have : zget z sl = .bool t := by
              have e : zEv P z (.tmp sl) = (match ltb sl 4096 with | true => zget z sl | false => .any .junk) := rfl
              rw [e, ltb_iff.2 hl] at hz; exact hz
            exact s.const this rfl
          · exfalso
            have e : zEv P z (.tmp sl) = (match ltb sl 4096 with | true => zget z sl | false => .any .junk) := rfl
            rw [e, ltb_false.2 (Nat.le_of_not_lt hl)] at hz; cases hz
        · exact s
      cases t with
      | true => exact iha D _ K E h kk st hi hc kr hs1
      | false => exact ihb D _ K E h kk st hi hc kr hs1
    · exact hs1.elim
  | block id body ih =>
    intro D z K E h kk st hi s kr hs
    refine ih D z K (fun D' => ⟨(id, K D') :: (E D').env, (E D').ret⟩) h (fun e st' => inBlockK id e st' kk) st hi s ⟨fun D' => ⟨fun z' st' h' hi' s' hk => (kr.at' D').normal z' st' h' hi' s' hk, fun id' z' st' h' hi' s' hk => ?_, fun z' st' h' hi' s' hk => (kr.at' D').ret z' st' h' hi' s' hk⟩⟩ hs
    show (cnd (Nat.beq id' id) (kk .normal st') (kk (.exit id') st')).sat p h'
    have hk' : (match Nat.beq id' id with | true => K D' z' h' | false => zLook (E D').env id' z' h') := hk
    cases hb : Nat.beq id' id with
    | true => rw [hb] at hk'; exact (kr.at' D').normal z' st' h' hi' s' hk'
    | false => rw [hb] at hk'; exact (kr.at' D').exit id' z' st' h' hi' s' hk'
  | loop body ih =>
    intro D z K E h kk st hi s kr hs
    exact zCode_sound (cur := none) hC hN (.loop body) z (K D) (E D) h kk st hi s (kr.at' D) hs
  | rangeFunc g params assign body iha ihb =>
    intro D z K E h kk st hi s kr hs
    refine zRange_sound hC hi s (show zRange P C fn N g params assign body z h _ from hs) fun e st' h' hi' s' hk => ?_
    cases e with
    | normal => exact (kr.at' _).normal z st' h' hi' s' hk
    | exit i => exact (kr.at' _).exit i z st' h' hi' s' hk
    | goto l => exact False.elim hk
    | ret => exact (kr.at' _).ret z st' h' hi' s' hk
    | panic ch => exact False.elim hk
  | exit id => exact fun D z K E h kk st hi s kr hs => (kr.at' D).exit id z st h hi s hs
  | scope body => exact fun D z K E h kk st hi s kr hs => hs.elim
  | label l => exact fun D z K E h kk st hi s kr hs => (kr.at' D).normal z st h hi s hs
  | goto l => exact fun D z K E h kk st hi s kr hs => hs.elim
  | ret => exact fun D z K E h kk st hi s kr hs => (kr.at' D).ret z st h hi s hs
  | refuse why => exact fun D z K E h kk st hi s kr hs => hs.elim
theorem zDefers_sound {lf : Nat} {u : AMode} {k : AMode → FM} {p : Post} {K : Heap → Prop} (hk : ∀ h', h'.inf = true → K h' → (k u).sat p h') : ∀ (D : List ADef) (h : Heap), h.inf = true → zDefers D h K → (xDefers P call round noHints lf D u k).sat p h
  | [], h, hi, hs => hk h hi hs
  | ⟨.yield b, as⟩ :: r, h, hi, hs => by
    obtain ⟨hg, hlt, hs2⟩ := (show h.get b = some (.deferred (some [])) ∧ b < h.next ∧ zDefers r (h.put b (some .tomb)) K from hs)
    exact ⟨_, hg, hlt, zDefers_sound hk r _ (by exact hi) hs2⟩
  | ⟨.plain f, as⟩ :: r, h, hi, hs => False.elim hs
theorem zBodyR_sound (hC : CZ P call round C) {lf : Nat} {f : FuncId} {args : List ZV} {K : ZK} {h : Heap} (hinf : h.inf = true) (hs : zBodyR P C lf f args K h) {kp : Chain → FM} : EfOk h K (fun k => xBody P noHints lf call round f (avs args) k kp) := by
  unfold zBodyR at hs
  split at hs
  · rename_i fn hf
    split at hs
    · rename_i c hbo hN hl
      have hN := Nat.le_of_ble_eq_true hN
      have hl := Nat.le_of_ble_eq_true hl
      intro k p hp
      show (optM P.funcs[f]? (.fail 160) fun fn => optM fn.body (.fail 160) fun c => argsK fn.ntmps (avs args) fun t => xCode P call round noHints f fn.ntmps none lf c ⟨t, [], .na⟩ (leaveK P call round noHints lf fn k kp)).sat p h
      rw [hf, optM_some, hbo, optM_some]
      unfold argsK
      rw [Nat.ble_eq_true_of_le hN, cnd_true, lenK_eq, avs_length, show Nat.zero + args.length = args.length from Nat.zero_add _, Nat.ble_eq_true_of_le hl, cnd_true]
      obtain ⟨t, ht, hat⟩ := targs_at args 0 TT.undef (fun t => xCode P call round noHints f fn.ntmps none lf c ⟨t, [], .na⟩ (leaveK P call round noHints lf fn k kp)) (by omega)
      have ht' : TT.args (avs args) Nat.zero TT.undef (fun t => xCode P call round noHints f fn.ntmps none lf c ⟨t, [], .na⟩ (leaveK P call round noHints lf fn k kp)) = _ := ht
      rw [ht']
      have hz : ZS [] (padT fn.ntmps args) (⟨t, [], .na⟩ : St) := by
        refine ⟨fun s hs => ?_, rfl, rfl⟩
        show t.at s = _
        rw [zget_padT, hat s hs]
        by_cases e : 0 ≤ s ∧ s < 0 + args.length
        · rw [if_pos e, Nat.sub_zero]
        · rw [if_neg e, TT.at_undef, zget_over (by omega)]; simp
      have leave : ∀ (e : XExit) D z st h', e = .normal ∨ e = .ret → h'.inf = true → ZS D z st → (zDefers D h' fun h2 => zResults P fn.results.toList z h2 fun vs => K (zRes1 vs) h2) → (leaveK P call round noHints lf fn k kp e st).sat p h' := by
        intro e D z st h' he hi s hr
        have : leaveK P call round noHints lf fn k kp e st = xDefers P call round noHints lf st.defers .returning (endK P fn st.tmps k kp) := by
          rcases he with rfl | rfl <;> rfl
        rw [this, s.defers]
        refine zDefers_sound (fun h2 hi2 hr => ?_) D h' hi hr
        show (resultsK P st.tmps fn.results.toList fun vs => results1 vs k).sat p h2
        refine zResults_sound s _ _ _ hr fun vs hv => ?_
        have := hp _ _ hi2 hv
        cases vs with
        | nil =>
          show (k (.tuple [])).sat p h2
          simpa [zRes1] using this
        | cons v r =>
          cases r with
          | nil => exact this
          | cons w r =>
            show (k (.tuple (avs (v :: w :: r)))).sat p h2
            simpa [zRes1] using this
      refine zSpine_sound hC hN c [] (padT fn.ntmps args) _ _ h _ _ hinf hz ⟨fun D => ⟨?_, ?_, ?_⟩⟩ hs
      · exact fun z st h' hi s hr => leave .normal D z st h' (.inl rfl) hi s hr
      · exact fun id z st h' hi s hr => False.elim hr
      · exact fun z st h' hi s hr => leave .ret D z st h' (.inr rfl) hi s hr
    · exact hs.elim
  · exact hs.elim
/-- summaries that fit -/
structure SumFit (S : ZSums) (sums : Sums) : Prop where
  none : ∀ f, S f = none → sums f = none
  some : ∀ f s, S f = some s → ∃ x, sums f = some x ∧ ∀ args K h, h.inf = true → s args K h → ∀ kp, EfOk h K (fun k => x (avs args) k kp)
theorem zCall_sound {S : ZSums} {sums : Sums} (hS : SumFit S sums) {lf : Nat} : ∀ n, CZ P (xCR P noHints sums lf n).call (xCR P noHints sums lf n).round (zCall P S lf n)
  | 0 => ⟨fun f args K h hf hi hs => hs.elim, fun l args K h hi hs => hs.elim⟩
  | n + 1 => by
    have ih := zCall_sound hS (lf := lf) n
    refine ⟨fun f args K h hf hi hs kp => ?_, fun l args K h hi hs => ?_⟩
    · have hs1 : cnd (ltb f P.funcs.size) (Option.rec (motive := fun _ => Prop) (cnd (rangesF P f) (zBodyR P (zCall P S lf n) lf f args K h) (zBody P (zCall P S lf n) lf f args K h)) (fun s => s args K h) (S f)) (ZRnd P (zCall P S lf n) lf (f - P.funcs.size) args K h) := hs
      rw [ltb_iff.2 hf, cnd_true] at hs1
      have e : ∀ k, (xCR P noHints sums lf (n + 1)).call f (avs args) k kp = Option.rec (motive := fun _ => FM) (xBody P noHints lf (xCR P noHints sums lf n).call (xCR P noHints sums lf n).round f (avs args) k kp) (fun s => s (avs args) k kp) (sums f) := fun k => by
        show xLevel P noHints sums lf (xCR P noHints sums lf n).call (xCR P noHints sums lf n).round f (avs args) k kp = _
        unfold xLevel
        cases sums f <;> rfl
      cases hf : S f with
      | none =>
        rw [hf] at hs1
        cases hr : rangesF P f with
        | false =>
          simp only [hr, cnd_false] at hs1
          refine .eq (fun k => ?_) (zBody_sound (round := (xCR P noHints sums lf n).round) ih hi hs1 (kp := kp))
          rw [e, hS.none f hf]
        | true =>
          simp only [hr, cnd_true] at hs1
          refine .eq (fun k => ?_) (zBodyR_sound (round := (xCR P noHints sums lf n).round) ih hi hs1 (kp := kp))
          rw [e, hS.none f hf]
      | some s =>
        rw [hf] at hs1
        obtain ⟨x, hx, hok⟩ := hS.some f s hf
        refine .eq (fun k => ?_) (hok args K h hi hs1 kp)
        rw [e, hx]
    · have hs1 : cnd (ltb (P.funcs.size + l) P.funcs.size) (Option.rec (motive := fun _ => Prop) (cnd (rangesF P (P.funcs.size + l)) (zBodyR P (zCall P S lf n) lf (P.funcs.size + l) args K h) (zBody P (zCall P S lf n) lf (P.funcs.size + l) args K h)) (fun s => s args K h) (S (P.funcs.size + l))) (ZRnd P (zCall P S lf n) lf (P.funcs.size + l - P.funcs.size) args K h) := hs
      rw [ltb_false.2 (by omega), cnd_false, Nat.add_sub_cancel_left] at hs1
      exact zRound_sound ih hi hs1
end
end Go.X

namespace Go.X
open Go Go.RowKit
/-! ### from a world: every block by its own number, read only -/
noncomputable def absV (n : Nat) : Value → AV
  | .bool b => .bool b
  | .int k m => .int k m
  | .string s => .str (bs s)
  | .pointer none => .nilp
  | .pointer (some a) => match a with | ⟨b, x, none⟩ => if b < n then .ptr b x else .junk | _ => .junk
  | .slice none 0 0 => .nils
  | .slice (some a) l c => match c with
    | 0 => (match l with | 0 => .emp | _ => .junk)
    | _ => match a with | ⟨b, x, none⟩ => if b < n then .slice b x l c false else .junk | _ => .junk
  | .map none => .nilMap
  | .nilFunc => .nilFunc
  | .nilIface => .nilIface
  | _ => .junk
def absE (n : Nat) : Env := ⟨fun i => if i < n then some i else none, fun _ => 0, fun _ => 0⟩
theorem absV_VR (n : Nat) (v : Value) : VR (absE n) (absV n v) v := by
  unfold absV
  split
  · exact .bool _
  · exact .int _ _
  · exact .str _ _ rfl
  · exact .nilp
  · split
    · rename_i b x
      by_cases h : b < n
      · rw [if_pos h]; exact .ptr _ _ _ _ (if_pos h) (by simp [absE])
      · rw [if_neg h]; exact .junk _
    · exact .junk _
  · exact .nils
  · rename_i l c
    split
    · split
      · exact .emp _ _
      · exact .junk _
    · split
      · rename_i b x
        by_cases h : b < n
        · rw [if_pos h]; exact .slice _ _ _ _ _ _ _ _ (if_pos h) (by simp [absE]) (by simp [cnd])
        · rw [if_neg h]; exact .junk _
      · exact .junk _
  · exact .nilMap
  · exact .nilFunc
  · exact .nilIface
  · exact .junk _
noncomputable def absH (W : World) : Heap := ⟨fun i => match W.heap[i]? with
  | some (.cells cs _ _) => some (.ro (cs.toList.map (absV W.heap.size)))
  | _ => none, W.heap.size, 0, true⟩
theorem absVs (n : Nat) : ∀ l : List Value, VRs (absE n) (l.map (absV n)) l
  | [] => .nil
  | v :: l => .cons _ _ _ _ (absV_VR n v) (absVs n l)
theorem absH_get {W : World} {i : Nat} {ao : AObj} (h : (absH W).get i = some ao) : ∃ cs t fr, W.heap[i]? = some (.cells cs t fr) ∧ ao = .ro (cs.toList.map (absV W.heap.size)) := by
  have h' : (match W.heap[i]? with | some (.cells cs _ _) => some (AObj.ro (cs.toList.map (absV W.heap.size))) | _ => none) = some ao := h
  split at h'
  · rename_i cs t fr hw
    simp only [Option.some.injEq] at h'
    exact ⟨cs, t, fr, hw, h'.symm⟩
  · cases h'
theorem abs_rel {P : Program} {W : World} (hG : P.globals.size ≤ W.heap.size) : Rel P W (absE W.heap.size) (absH W) W := by
  refine ⟨fun i ao hi => ?_, fun i j x y b hi hj _ _ ei ej => ?_, fun i h1 h2 => ?_, fun i b hb => ?_, Below.refl _ _, fun i ao b hi _ _ => ?_, fun g hg => ⟨if_pos (by omega), rfl⟩, .inl rfl, .inl rfl⟩
  · obtain ⟨cs, t, fr, hw, e⟩ := absH_get hi
    subst e
    have hlt : i < W.heap.size := (Array.getElem?_eq_some_iff.1 hw).1
    exact ⟨i, _, if_pos hlt, hw, .ro _ _ _ _ [] cs.toList [] (by simp) rfl (absVs _ _)⟩
  · simp only [absE] at ei ej
    split at ei
    · split at ej
      · cases ei; cases ej; rfl
      · cases ej
    · cases ei
  · exact if_neg (by have : W.heap.size ≤ i := h1; omega)
  · simp only [absE] at hb
    split at hb
    · cases hb; assumption
    · cases hb
  · obtain ⟨cs, t, fr, hw, e⟩ := absH_get hi
    exact .inr ⟨_, e⟩
/-- a law over values that may be anything is true -/
theorem law_true {P : Program} {W : World} {S : ZSums} {sums : Sums} (hsum : SumsSound P W sums) (hS : SumFit S sums) (hmo : P.follows .mixedOrders = true) (hG : P.globals.size ≤ W.heap.size) {lf n : Nat} {f : FuncId} (hb : bodied P f = true)
    {args : List ZV} {vs : Array Value} (hv : VRs (absE W.heap.size) (avs args) vs.toList) (hz : zCall P S lf n f args (fun v _ => v.av = .bool true) (absH W)) :
    Calls P f vs W fun e W' => e = .returned (.bool true) ∧ Below W.heap.size W W' := by
  have hs : (xCall P noHints sums lf n f (avs args)).sat (fun r _ => r = .val (.bool true)) (absH W) :=
    (zCall_sound hS (lf := lf) n).call f args _ (absH W) (bodied_lt hb) rfl hz (fun _ => .fail 163) (fun v => .ret (.val v)) (fun r _ => r = .val (.bool true)) fun v h' _ hv => by
      show Res.val v.av = _
      rw [hv]
  refine Calls.mono (xCall_sound hsum (.inr fun f => Nat.zero_le _) hmo hb hs (abs_rel hG) hv) fun e w' ⟨v, E', h', av, e1, s, r, hv, hp⟩ => ?_
  subst e1
  cases hp
  cases hv
  exact ⟨rfl, r.below⟩
theorem noFit : SumFit (fun _ => none) (fun _ => none) := ⟨fun _ _ => rfl, fun _ _ h => by cases h⟩

/-! ### rules -/
/-- a loop: what holds at each round's head, by a number that goes down -/
theorem ZLoop.inv {lf : Nat} {body : ZT → (ZT → Heap → Prop) → KZ → Heap → Prop} {z : ZT} {E : KZ} {h : Heap} (I : Nat → ZT → Heap → Prop) {n : Nat} (hn : n < lf) (h0 : I n z h)
    (step : ∀ m z h (k : ZT → Heap → Prop), m ≤ n → I m z h → (∀ m' z' h', m' < m → I m' z' h' → k z' h') → body z k E h) : ZLoop lf body z E h := by
  have key : ∀ m, ∀ z h, m ≤ n → ∀ m', m' < m → I m' z h → zRounds body E m z h := by
    intro m
    induction m with
    | zero => exact fun z h _ m' hm _ => absurd hm (Nat.not_lt_zero _)
    | succ m ih =>
      intro z h hmn m' hm hI
      exact step m' z h _ (by omega) hI fun m'' z' h' hlt hI' => ih z' h' (by omega) m'' (by omega) hI'
  exact ⟨n + 1, hn, step n z h _ (Nat.le_refl _) h0 fun m' z' h' hlt hI' => key n z' h' (Nat.le_refl _) m' hlt hI'⟩
/-! ### parts of a function's code, by their places -/
def subCode : Code → List Nat → Code
  | c, [] => c
  | .seq a b, 0 :: p => subCode a p
  | .seq a b, _ :: p => subCode b p
  | .cond _ a b, 0 :: p => subCode a p
  | .cond _ a b, _ :: p => subCode b p
  | .block _ c, _ :: p => subCode c p
  | .loop c, _ :: p => subCode c p
  | .rangeFunc _ _ a _, 0 :: p => subCode a p
  | .rangeFunc _ _ _ b, _ :: p => subCode b p
  | c, _ => c
/-- the code at a place is another -/
def replC : Code → List Nat → Code → Code
  | _, [], x => x
  | .seq a b, 0 :: p, x => .seq (replC a p x) b
  | .seq a b, _ :: p, x => .seq a (replC b p x)
  | .cond u a b, 0 :: p, x => .cond u (replC a p x) b
  | .cond u a b, _ :: p, x => .cond u a (replC b p x)
  | .block i c, _ :: p, x => .block i (replC c p x)
  | .loop c, _ :: p, x => .loop (replC c p x)
  | .rangeFunc g ps a b, 0 :: p, x => .rangeFunc g ps (replC a p x) b
  | .rangeFunc g ps a b, _ :: p, x => .rangeFunc g ps a (replC b p x)
  | c, _, _ => c
theorem replC_self : ∀ (p : List Nat) (c : Code), replC c p (subCode c p) = c
  | [], c => by cases c <;> rfl
  | i :: p, c => by
    cases c with
    | seq a b => cases i with
      | zero => show Code.seq (replC a p (subCode a p)) b = _; rw [replC_self p a]
      | succ i => show Code.seq a (replC b p (subCode b p)) = _; rw [replC_self p b]
    | cond u a b => cases i with
      | zero => show Code.cond u (replC a p (subCode a p)) b = _; rw [replC_self p a]
      | succ i => show Code.cond u a (replC b p (subCode b p)) = _; rw [replC_self p b]
    | block j c => cases i <;> (show Code.block j (replC c p (subCode c p)) = _; rw [replC_self p c])
    | loop c => cases i <;> (show Code.loop (replC c p (subCode c p)) = _; rw [replC_self p c])
    | rangeFunc g ps a b => cases i with
      | zero => show Code.rangeFunc g ps (replC a p (subCode a p)) b = _; rw [replC_self p a]
      | succ i => show Code.rangeFunc g ps a (replC b p (subCode b p)) = _; rw [replC_self p b]
    | _ => cases i <;> rfl
theorem subCode_append : ∀ (p q : List Nat) (c : Code), subCode c (p ++ q) = subCode (subCode c p) q
  | [], q, c => by
    have : subCode c [] = c := by cases c <;> rfl
    rw [this]; rfl
  | i :: p, q, c => by
    cases c with
    | seq a b => cases i with
      | zero => exact subCode_append p q a
      | succ i => exact subCode_append p q b
    | cond u a b => cases i with
      | zero => exact subCode_append p q a
      | succ i => exact subCode_append p q b
    | block j c => cases i <;> exact subCode_append p q c
    | loop c => cases i <;> exact subCode_append p q c
    | rangeFunc g ps a b => cases i with
      | zero => exact subCode_append p q a
      | succ i => exact subCode_append p q b
    | skip =>
      have key : ∀ l : List Nat, subCode (Code.skip) l = Code.skip := fun l => by
        cases l with
        | nil => rfl
        | cons i l => cases i <;> rfl
      rw [key, key, key]
    | region a b d =>
      have key : ∀ l : List Nat, subCode (Code.region a b d) l = Code.region a b d := fun l => by
        cases l with
        | nil => rfl
        | cons i l => cases i <;> rfl
      rw [key, key, key]
    | exit a =>
      have key : ∀ l : List Nat, subCode (Code.exit a) l = Code.exit a := fun l => by
        cases l with
        | nil => rfl
        | cons i l => cases i <;> rfl
      rw [key, key, key]
    | scope a =>
      have key : ∀ l : List Nat, subCode (Code.scope a) l = Code.scope a := fun l => by
        cases l with
        | nil => rfl
        | cons i l => cases i <;> rfl
      rw [key, key, key]
    | label a =>
      have key : ∀ l : List Nat, subCode (Code.label a) l = Code.label a := fun l => by
        cases l with
        | nil => rfl
        | cons i l => cases i <;> rfl
      rw [key, key, key]
    | goto a =>
      have key : ∀ l : List Nat, subCode (Code.goto a) l = Code.goto a := fun l => by
        cases l with
        | nil => rfl
        | cons i l => cases i <;> rfl
      rw [key, key, key]
    | ret =>
      have key : ∀ l : List Nat, subCode (Code.ret) l = Code.ret := fun l => by
        cases l with
        | nil => rfl
        | cons i l => cases i <;> rfl
      rw [key, key, key]
    | refuse a =>
      have key : ∀ l : List Nat, subCode (Code.refuse a) l = Code.refuse a := fun l => by
        cases l with
        | nil => rfl
        | cons i l => cases i <;> rfl
      rw [key, key, key]
def codeOf (P : Program) (f : FuncId) (p : List Nat) : Code := match P.funcs[f]? with
  | some fn => match fn.body with | some c => subCode c p | none => .skip
  | none => .skip
def ntOf (P : Program) (f : FuncId) : Nat := match P.funcs[f]? with | some fn => fn.ntmps | none => 0
noncomputable def zFin (P : Program) (f : FuncId) (K : ZK) (z : ZT) (h : Heap) : Prop := match P.funcs[f]? with
  | some fn => zResults P fn.results.toList z h fun vs => K (zRes1 vs) h
  | none => False
/-- a function's body, from one of its places on -/
noncomputable def zAt (P : Program) (C : ZCall) (lf : Nat) (f : FuncId) (p : List Nat) : ZT → (ZT → Heap → Prop) → KZ → Heap → Prop := zCode P C (ntOf P f) lf (codeOf P f p)
def entB (P : Program) (f : FuncId) (n : Nat) : Bool := match P.funcs[f]? with
  | some fn => match fn.body with | some c => (Nat.ble fn.ntmps 4096 && Nat.ble n fn.ntmps) && !hasRange c | none => false
  | none => false
def entBR (P : Program) (f : FuncId) (n : Nat) : Bool := match P.funcs[f]? with
  | some fn => match fn.body with | some c => (Nat.ble fn.ntmps 4096 && Nat.ble n fn.ntmps) && hasRange c | none => false
  | none => false
theorem entB_lt {P : Program} {f : FuncId} {n : Nat} (h : entB P f n = true) : f < P.funcs.size ∧ rangesF P f = false := by
  unfold entB at h
  unfold rangesF
  cases hf : P.funcs[f]? with
  | none => rw [hf] at h; cases h
  | some fn =>
    rw [hf] at h
    simp only at h ⊢
    refine ⟨(Array.getElem?_eq_some_iff.1 hf).1, ?_⟩
    cases hb : fn.body with
    | none => rfl
    | some c =>
      simp only [hb, Bool.and_eq_true, Bool.not_eq_true'] at h
      exact h.2
theorem entBR_lt {P : Program} {f : FuncId} {n : Nat} (h : entBR P f n = true) : f < P.funcs.size ∧ rangesF P f = true := by
  unfold entBR at h
  unfold rangesF
  cases hf : P.funcs[f]? with
  | none => rw [hf] at h; cases h
  | some fn =>
    rw [hf] at h
    simp only at h ⊢
    refine ⟨(Array.getElem?_eq_some_iff.1 hf).1, ?_⟩
    cases hb : fn.body with
    | none => simp only [hb] at h; cases h
    | some c =>
      simp only [hb, Bool.and_eq_true] at h
      exact h.2
theorem zBody_at {P : Program} {C : ZCall} {lf : Nat} {f : FuncId} {args : List ZV} {K : ZK} {h : Heap} (he : entB P f args.length = true) (hs : zAt P C lf f [] (padT (ntOf P f) args) (zFin P f K) ⟨[], zFin P f K⟩ h) : zBody P C lf f args K h := by
  unfold entB at he
  unfold zBody
  unfold zAt codeOf ntOf at hs
  cases hf : P.funcs[f]? with
  | none => rw [hf] at he; cases he
  | some fn =>
    have e : zFin P f K = fun z h => zResults P fn.results.toList z h fun vs => K (zRes1 vs) h := by
      funext z h; unfold zFin; rw [hf]
    rw [e] at hs
    simp only [hf] at he hs ⊢
    cases hb : fn.body with
    | none => simp only [hb] at he; cases he
    | some c =>
      simp only [hb, Bool.and_eq_true] at he hs ⊢
      have e2 : subCode c [] = c := by cases c <;> rfl
      rw [e2] at hs
      rw [he.1.1, he.1.2]
      exact hs
/-- a function's contract is its body's, one level up -/
theorem zCall_at {P : Program} {S : ZSums} {lf n : Nat} {f : FuncId} {args : List ZV} {K : ZK} {h : Heap} (hS : S f = none) (he : entB P f args.length = true) (hs : zAt P (zCall P S lf n) lf f [] (padT (ntOf P f) args) (zFin P f K) ⟨[], zFin P f K⟩ h) : zCall P S lf (n + 1) f args K h := by
  obtain ⟨h1, h2⟩ := entB_lt he
  show cnd (ltb f P.funcs.size) (Option.rec (motive := fun _ => Prop) (cnd (rangesF P f) (zBodyR P (zCall P S lf n) lf f args K h) (zBody P (zCall P S lf n) lf f args K h)) (fun s => s args K h) (S f)) (ZRnd P (zCall P S lf n) lf (f - P.funcs.size) args K h)
  rw [ltb_iff.2 h1, cnd_true, hS, h2, cnd_false]
  exact zBody_at he hs
/-- a summary's call -/
theorem zCall_sum {P : Program} {S : ZSums} {lf n : Nat} {f : FuncId} {s : List ZV → ZK → Heap → Prop} {args : List ZV} {K : ZK} {h : Heap} (hf : ltb f P.funcs.size = true) (hS : S f = some s) (hs : s args K h) : zCall P S lf (n + 1) f args K h := by
  show cnd (ltb f P.funcs.size) (Option.rec (motive := fun _ => Prop) (cnd (rangesF P f) (zBodyR P (zCall P S lf n) lf f args K h) (zBody P (zCall P S lf n) lf f args K h)) (fun s => s args K h) (S f)) (ZRnd P (zCall P S lf n) lf (f - P.funcs.size) args K h)
  rw [hf, cnd_true, hS]
  exact hs
/-- a body with ranges over functions, from one of its places on -/
noncomputable def zAtR (P : Program) (C : ZCall) (lf : Nat) (f : FuncId) (p : List Nat) : List ADef → ZT → (List ADef → ZT → Heap → Prop) → (List ADef → KZ) → Heap → Prop := zSpine P C f (ntOf P f) lf (codeOf P f p)
noncomputable def zFinR (P : Program) (f : FuncId) (K : ZK) (D : List ADef) (z : ZT) (h : Heap) : Prop := zDefers D h fun h' => zFin P f K z h'
theorem zBodyR_at {P : Program} {C : ZCall} {lf : Nat} {f : FuncId} {args : List ZV} {K : ZK} {h : Heap} (he : entBR P f args.length = true) (hs : zAtR P C lf f [] [] (padT (ntOf P f) args) (zFinR P f K) (fun D => ⟨[], zFinR P f K D⟩) h) : zBodyR P C lf f args K h := by
  unfold entBR at he
  unfold zBodyR
  unfold zAtR codeOf ntOf at hs
  cases hf : P.funcs[f]? with
  | none => rw [hf] at he; cases he
  | some fn =>
    have e : zFinR P f K = fun D z h => zDefers D h fun h' => zResults P fn.results.toList z h' fun vs => K (zRes1 vs) h' := by
      funext D z h; unfold zFinR zFin; rw [hf]
    rw [e] at hs
    simp only [hf] at he hs ⊢
    cases hb : fn.body with
    | none => simp only [hb] at he; cases he
    | some c =>
      simp only [hb, Bool.and_eq_true] at he hs ⊢
      have e2 : subCode c [] = c := by cases c <;> rfl
      rw [e2] at hs
      rw [he.1.1, he.1.2]
      exact hs
theorem zCallR_at {P : Program} {S : ZSums} {lf n : Nat} {f : FuncId} {args : List ZV} {K : ZK} {h : Heap} (hS : S f = none) (he : entBR P f args.length = true) (hs : zAtR P (zCall P S lf n) lf f [] [] (padT (ntOf P f) args) (zFinR P f K) (fun D => ⟨[], zFinR P f K D⟩) h) : zCall P S lf (n + 1) f args K h := by
  obtain ⟨h1, h2⟩ := entBR_lt he
  show cnd (ltb f P.funcs.size) (Option.rec (motive := fun _ => Prop) (cnd (rangesF P f) (zBodyR P (zCall P S lf n) lf f args K h) (zBody P (zCall P S lf n) lf f args K h)) (fun s => s args K h) (S f)) (ZRnd P (zCall P S lf n) lf (f - P.funcs.size) args K h)
  rw [ltb_iff.2 h1, cnd_true, hS, h2, cnd_true]
  exact zBodyR_at he hs
/-- a round -/
theorem zRound_at {P : Program} {S : ZSums} {lf n l : Nat} {args : List ZV} {K : ZK} {h : Heap} (hs : ZRnd P (zCall P S lf n) lf l args K h) : zCall P S lf (n + 1) (rndId P l) args K h := by
  show cnd (ltb (P.funcs.size + l) P.funcs.size) (Option.rec (motive := fun _ => Prop) (cnd (rangesF P (P.funcs.size + l)) (zBodyR P (zCall P S lf n) lf (P.funcs.size + l) args K h) (zBody P (zCall P S lf n) lf (P.funcs.size + l) args K h)) (fun s => s args K h) (S (P.funcs.size + l))) (ZRnd P (zCall P S lf n) lf (P.funcs.size + l - P.funcs.size) args K h)
  rw [ltb_false.2 (by omega), cnd_false, Nat.add_sub_cancel_left]
  exact hs
/-! ### temporaries, known in part -/
def ztFrom (d : Nat → ZV) : Nat → Nat → ZT
  | _, 0 => []
  | i, n + 1 => d i :: ztFrom d (i + 1) n
/-- n of them -/
def zt (n : Nat) (d : Nat → ZV) : ZT := ztFrom d 0 n
/-- some of them known -/
def ov (l : List (Nat × ZV)) (d : Nat → ZV) (i : Nat) : ZV := match l with
  | [] => d i
  | p :: r => match Nat.beq p.1 i with | true => p.2 | false => ov r d i
def ovOk (z : ZT) (l : List (Nat × ZV)) : Prop := match l with
  | [] => True
  | p :: r => zget z p.1 = p.2 ∧ ovOk z r
/-- n temporaries, those of l known -/
def ZAt (n : Nat) (l : List (Nat × ZV)) (z : ZT) : Prop := z.length = n ∧ ovOk z l
theorem ov_ok {z : ZT} : ∀ {l : List (Nat × ZV)}, ovOk z l → ov l (zget z) = zget z
  | [], _ => rfl
  | p :: r, h => by
    funext i
    show (match Nat.beq p.1 i with | true => p.2 | false => ov r (zget z) i) = _
    cases hb : Nat.beq p.1 i with
    | true => have := Nat.eq_of_beq_eq_true hb; subst this; exact h.1.symm
    | false => exact congrFun (ov_ok h.2) i
theorem ztFrom_len (d : Nat → ZV) : ∀ (n i : Nat), (ztFrom d i n).length = n
  | 0, _ => rfl
  | n + 1, i => by simp [ztFrom, ztFrom_len d n]
theorem ztFrom_get (d : Nat → ZV) : ∀ (n i s : Nat), s < n → zget (ztFrom d i n) s = d (i + s)
  | n + 1, i, 0, _ => rfl
  | n + 1, i, s + 1, h => by
    show zget (ztFrom d (i + 1) n) s = _
    rw [ztFrom_get d n (i + 1) s (by omega)]; congr 1; omega
theorem zget_ext : ∀ {a b : ZT}, a.length = b.length → (∀ s, s < a.length → zget a s = zget b s) → a = b
  | [], [], _, _ => rfl
  | [], _ :: _, h, _ => by cases h
  | _ :: _, [], h, _ => by cases h
  | v :: a, w :: b, h, e => by
    have e0 : v = w := e 0 (by simp)
    have := zget_ext (a := a) (b := b) (by simpa using h) fun s hs => e (s + 1) (by simpa using hs)
    rw [e0, this]
theorem ZAt.tab {n : Nat} {l : List (Nat × ZV)} {z : ZT} (h : ZAt n l z) : ∃ d, z = zt n (ov l d) := by
  refine ⟨zget z, zget_ext ?_ fun s hs => ?_⟩
  · rw [zt, ztFrom_len]; exact h.1
  · rw [h.1] at hs
    rw [ov_ok h.2, zt, ztFrom_get _ _ _ _ hs, Nat.zero_add]
/-! ### pieces whose ends are left as they are -/
theorem skipAt (l : List Nat) : subCode Code.skip l = Code.skip := by
  cases l with
  | nil => rfl
  | cons i l => cases i <;> rfl
theorem zAt_stop {P : Program} {C : ZCall} {lf : Nat} {f : FuncId} {p r : List Nat} {z : ZT} {k : ZT → Heap → Prop} {E : KZ} {h : Heap} (q : List Nat) (R : (ZT → (ZT → Heap → Prop) → KZ → Heap → Prop) → Prop) (e : p ++ q = r)
    (H : ∀ x : Code, zCode P C (ntOf P f) lf (replC (codeOf P f p) q x) z k E h = R (zCode P C (ntOf P f) lf x)) : zAt P C lf f p z k E h = R (zAt P C lf f r) := by
  subst e
  have := H (codeOf P f (p ++ q))
  have e2 : codeOf P f (p ++ q) = subCode (codeOf P f p) q := by
    unfold codeOf
    cases P.funcs[f]? with
    | none => exact (skipAt q).symm
    | some fn => cases hb : fn.body with
      | none => simp only [hb]; exact (skipAt q).symm
      | some c => simp only [hb]; exact subCode_append p q c
  have e3 : replC (codeOf P f p) q (codeOf P f (p ++ q)) = codeOf P f p := by rw [e2, replC_self]
  rw [e3] at this
  exact this
end Go.X

namespace Go.X
/-! ## laws of what is asked for -/
section
variable {h : Heap} {A B : Prop}
@[simp] theorem zAnd_iff : ZAnd A B ↔ A ∧ B := ⟨fun s => ⟨s.1, s.2⟩, fun s => ⟨s.1, s.2⟩⟩
@[simp] theorem zW_iff {q : IntKind} {e : Int} {K : Int → Prop} : ZW q e K ↔ K (q.wrap e) := ⟨fun ⟨k⟩ => k, fun k => ⟨k⟩⟩
theorem zIdx_iff {n : Int} {len : Nat} {K : Nat → Prop} : ZIdx n len K ↔ ∃ m : Nat, n = m ∧ m < len ∧ K m := ⟨fun ⟨m, e, l, k⟩ => ⟨m, e, l, k⟩, fun ⟨m, e, l, k⟩ => ⟨m, e, l, k⟩⟩
@[simp] theorem zIdx_nat {j len : Nat} {K : Nat → Prop} : ZIdx (j : Int) len K ↔ j < len ∧ K j :=
  ⟨fun ⟨m, e, l, k⟩ => by have : j = m := by omega
                          subst this; exact ⟨l, k⟩, fun ⟨l, k⟩ => ⟨j, rfl, l, k⟩⟩
@[simp] theorem zIdx_ofNat {j len : Nat} {K : Nat → Prop} : ZIdx (Int.ofNat j) len K ↔ j < len ∧ K j := zIdx_nat
@[simp] theorem zIdx_zero {len : Nat} {K : Nat → Prop} : ZIdx 0 len K ↔ 0 < len ∧ K 0 := zIdx_nat (j := 0)
@[simp] theorem zNat_nat {j : Nat} {K : Nat → Prop} : ZNat (j : Int) K ↔ K j :=
  ⟨fun ⟨m, e, k⟩ => by have : j = m := by omega
                       subst this; exact k, fun k => ⟨j, rfl, k⟩⟩
@[simp] theorem zLdI_iff {i o : Nat} {q : IntKind} {K : Int → Prop} : ZLdI h i o q K ↔ ∃ n, cellAt h i o = some (.int q n) ∧ K n := ⟨fun ⟨n, e, k⟩ => ⟨n, e, k⟩, fun ⟨n, e, k⟩ => ⟨n, e, k⟩⟩
@[simp] theorem zLdB_iff {i o : Nat} {K : Bool → Prop} : ZLdB h i o K ↔ ∃ n, cellAt h i o = some (.bool n) ∧ K n := ⟨fun ⟨n, e, k⟩ => ⟨n, e, k⟩, fun ⟨n, e, k⟩ => ⟨n, e, k⟩⟩
@[simp] theorem zLdS_iff {i o : Nat} {K : List Nat → Prop} : ZLdS h i o K ↔ ∃ n, cellAt h i o = some (.str n) ∧ K n := ⟨fun ⟨n, e, k⟩ => ⟨n, e, k⟩, fun ⟨n, e, k⟩ => ⟨n, e, k⟩⟩
theorem zLdP_of {i o j p : Nat} {nil : Bool} {K : Bool → Nat → Nat → Prop} (e : cellAt h i o = some (ZV.pv nil j p).av) (k : K nil j p) : ZLdP h i o K := ⟨nil, j, p, e, k⟩
theorem zLdL_of {i o : Nat} {s : SL} {K : SL → Prop} (e : cellAt h i o = some s.av) (k : K s) : ZLdL h i o K := ⟨s, e, k⟩
theorem zLdM_of {i o j : Nat} {nil : Bool} {K : Bool → Nat → Prop} (e : cellAt h i o = some (ZV.mp nil j).av) (k : K nil j) : ZLdM h i o K := ⟨nil, j, e, k⟩
@[simp] theorem zRI_av {q : IntKind} {n : Int} {K : Int → Prop} : ZRI (.int q n) q K ↔ K n := ⟨fun ⟨m, e, k⟩ => by cases e; exact k, fun k => ⟨n, rfl, k⟩⟩
@[simp] theorem zRB_av {b : Bool} {K : Bool → Prop} : ZRB (.bool b) K ↔ K b := ⟨fun ⟨m, e, k⟩ => by cases e; exact k, fun k => ⟨b, rfl, k⟩⟩
@[simp] theorem zRS_av {l : List Nat} {K : List Nat → Prop} : ZRS (.str l) K ↔ K l := ⟨fun ⟨m, e, k⟩ => by cases e; exact k, fun k => ⟨l, rfl, k⟩⟩
theorem zRP_of {nil : Bool} {i o : Nat} {K : Bool → Nat → Nat → Prop} (k : K nil i o) : ZRP (ZV.pv nil i o).av K := ⟨nil, i, o, rfl, k⟩
theorem zRP_nil {K : Bool → Nat → Nat → Prop} (k : K true 0 0) : ZRP .nilp K := ⟨true, 0, 0, by simp, k⟩
theorem zRP_ptr {i o : Nat} {K : Bool → Nat → Nat → Prop} (k : K false i o) : ZRP (.ptr i o) K := ⟨false, i, o, by simp, k⟩
theorem zRL_of {s : SL} {K : SL → Prop} (k : K s) : ZRL s.av K := ⟨s, rfl, k⟩
theorem zRM_map {i : Nat} {K : Bool → Nat → Prop} (k : K false i) : ZRM (.map i) K := ⟨false, i, by simp, k⟩
/-- two values -/
def two (a b : AV) : Nat → AV := fun i => match i with | 0 => a | _ => b
@[simp] theorem two0 (a b : AV) : two a b 0 = a := rfl
@[simp] theorem two1 (a b : AV) : two a b 1 = b := rfl
theorem zRT_two {a b : AV} {K : (Nat → AV) → Prop} (k : K (two a b)) : ZRT (.tuple [a, b]) 2 K := ⟨two a b, rfl, k⟩
theorem cnd_dec {p : Prop} [Decidable p] : cnd (decide p) A B ↔ (p → A) ∧ (¬ p → B) := by
  by_cases hp : p <;> simp [hp, cnd]
@[simp] theorem cnd_t {β : Type} (t e : β) : cnd true t e = t := rfl
@[simp] theorem cnd_f {β : Type} (t e : β) : cnd false t e = e := rfl
@[simp] theorem cnd_tP (t e : Prop) : @cnd Prop true t e = t := rfl
@[simp] theorem cnd_fP (t e : Prop) : @cnd Prop false t e = e := rfl
theorem zPut_of {i o n : Nat} (c : canPut h i (o + n)) (k : A) : ZPut h i o n A := ⟨c, k⟩
theorem zFunc_of {P : Program} {C : ZCall} {f : FuncId} {args : List ZV} {K : ZK} (hb : bodied P f = true) (k : C f args K h) : zFunc P C f args h K := by
  unfold zFunc; rw [hb]; exact k
end
/-- numbers that fit -/
theorem i64_fit {e : Int} (h1 : -9223372036854775808 ≤ e) (h2 : e ≤ 9223372036854775807) : IntKind.i64.wrap e = e := by rw [IntKind.wrap_i64]; omega
theorem zAt_of {P : Program} {C : ZCall} {lf : Nat} {f : FuncId} {p : List Nat} {n : Nat} (l : List (Nat × ZV)) {z : ZT} {k : ZT → Heap → Prop} {E : KZ} {h : Heap} (hz : ZAt n l z) (hk : ∀ d, zAt P C lf f p (zt n (ov l d)) k E h) : zAt P C lf f p z k E h := by
  obtain ⟨d, rfl⟩ := hz.tab
  exact hk d
/-! ### heaps -/
/-- names below h's next are as they were, but those of S -/
structure Fram (S : Nat → Prop) (h h' : Heap) : Prop where
  next : h.next ≤ h'.next
  same : ∀ i, i < h.next → ¬ S i → h'.get i = h.get i
theorem Fram.refl (S : Nat → Prop) (h : Heap) : Fram S h h := ⟨Nat.le_refl _, fun _ _ _ => rfl⟩
theorem Fram.trans {S : Nat → Prop} {a b c : Heap} (x : Fram S a b) (y : Fram S b c) : Fram S a c :=
  ⟨Nat.le_trans x.next y.next, fun i hi hs => (y.same i (Nat.lt_of_lt_of_le hi x.next) hs).trans (x.same i hi hs)⟩
theorem Fram.mono {S T : Nat → Prop} {a b : Heap} (x : Fram S a b) (h : ∀ i, i < a.next → S i → T i) : Fram T a b := ⟨x.next, fun i hi ht => x.same i hi fun hs => ht (h i hi hs)⟩
theorem Fram.newO (S : Nat → Prop) (h : Heap) (o : AObj) : Fram S h (h.newO o) := ⟨Nat.le_succ _, fun i hi _ => if_neg (Nat.ne_of_lt hi)⟩
theorem Fram.put {S : Nat → Prop} (h : Heap) {i : Nat} (o : Option AObj) (hs : i < h.next → S i) : Fram S h (h.put i o) :=
  ⟨Nat.le_refl _, fun j hj hn => if_neg fun e => by subst e; exact hn (hs hj)⟩
theorem newO_get_self (h : Heap) (o : AObj) : (h.newO o).get h.next = some o := if_pos rfl
theorem newO_get_ne {h : Heap} {o : AObj} {i : Nat} (hi : i ≠ h.next) : (h.newO o).get i = h.get i := if_neg hi
theorem put_get_self (h : Heap) (i : Nat) (o : Option AObj) : (h.put i o).get i = o := if_pos rfl
theorem put_get_ne {h : Heap} {o : Option AObj} {i j : Nat} (hi : j ≠ i) : (h.put i o).get j = h.get j := if_neg hi
theorem Fram.hput {S : Nat → Prop} (h : Heap) {i : Nat} (o : Nat) (vs : List AV) (hs : i < h.next → S i) : Fram S h (hput h i o vs) := by
  unfold Go.X.hput; split
  · exact Fram.put _ _ hs
  · exact Fram.refl _ _
theorem hput_get {h : Heap} {i o : Nat} {vs c : List AV} {e : Nat} {g m : Bool} (hg : h.get i = some (.cells c e g m)) : (hput h i o vs).get i = some (.cells (c.take o ++ (vs ++ c.drop (o + vs.length))) e g m) := by
  unfold hput; rw [hg]; exact put_get_self _ _ _
theorem cellAt_of {h : Heap} {i o : Nat} {c : List AV} {e : Nat} {g m : Bool} (hg : h.get i = some (.cells c e g m)) : cellAt h i o = c[o]? := by
  unfold cellAt cellsAt; rw [hg]; rfl
theorem cellAt_ro {h : Heap} {i o : Nat} {c : List AV} (hg : h.get i = some (.ro c)) : cellAt h i o = c[o]? := by
  unfold cellAt cellsAt; rw [hg]; rfl
theorem cellAt_eq {h h' : Heap} {i o : Nat} (hg : h'.get i = h.get i) : cellAt h' i o = cellAt h i o := by
  unfold cellAt cellsAt; rw [hg]
theorem hmap_newO (h : Heap) (es : List (AV × AV)) (v : Nat) (f : List (AV × AV) → List (AV × AV)) : hmap (h.newO (.map es v)) h.next f = h.newO (.map (f es) (v + 1)) := by
  unfold hmap
  rw [newO_get_self]
  refine Heap.ext (fun i => ?_) rfl rfl rfl
  by_cases e : i = h.next
  · subst e; rw [newO_get_self]; exact put_get_self _ _ _
  · rw [newO_get_ne e]; exact (put_get_ne e).trans (newO_get_ne e)
theorem zMap_newO {h : Heap} {es : List (AV × AV)} {v : Nat} {key : AV} {A : Prop} (hk : keysFit es key = true) (k : A) : ZMap (h.newO (.map es v)) false h.next key A :=
  ⟨rfl, Nat.lt_succ_self _, ⟨es, v, newO_get_self _ _, hk⟩, k⟩
/-! ### slices of numbers -/
/-- a slice's elements, whole numbers -/
structure Ints (h : Heap) (s : SL) (l : List Int) : Prop where
  len : s.n = l.length
  lt : s.nil = false → s.i < h.next
  src : s.nil = false → ∃ c, cellsAt h s.i = some c ∧ (c.drop s.o).take s.len = l.map (AV.int .i64) ∧ s.len ≤ (c.drop s.o).length
theorem cellsAt_eq {h h' : Heap} {i : Nat} (hg : h'.get i = h.get i) : cellsAt h' i = cellsAt h i := by
  unfold cellsAt; rw [hg]
theorem cellsAt_of {h : Heap} {i : Nat} {c : List AV} {e : Nat} {g m : Bool} (hg : h.get i = some (.cells c e g m)) : cellsAt h i = some c := by
  unfold cellsAt; rw [hg]
theorem Ints.at' {h : Heap} {s : SL} {l : List Int} (x : Ints h s l) (e : s.nil = false) (j : Nat) (y : Int) (hy : l[j]? = some y) : cellAt h s.i (s.o + j) = some (.int .i64 y) := by
  obtain ⟨c, hc, h1, h2⟩ := x.src e
  unfold cellAt; rw [hc]
  show c[s.o + j]? = _
  have hj : j < l.length := (List.getElem?_eq_some_iff.1 hy).1
  have hl := x.len
  unfold SL.n at hl; rw [e] at hl; simp only at hl
  have : ((c.drop s.o).take s.len)[j]? = some (.int .i64 y) := by rw [h1]; simp [hy]
  rw [List.getElem?_take] at this
  split at this
  · rw [List.getElem?_drop] at this; exact this
  · cases this
theorem Ints.fr {S : Nat → Prop} {h h' : Heap} {s : SL} {l : List Int} (x : Ints h s l) (f : Fram S h h') (hs : s.nil = false → ¬ S s.i) : Ints h' s l :=
  ⟨x.len, fun e => Nat.lt_of_lt_of_le (x.lt e) f.next, fun e => by rw [cellsAt_eq (f.same _ (x.lt e) (hs e))]; exact x.src e⟩
theorem Ints.nil_of {h : Heap} {s : SL} {l : List Int} (x : Ints h s l) {j : Nat} (hj : j < l.length) : s.nil = false := by
  have := x.len
  cases e : s.nil with
  | false => rfl
  | true => unfold SL.n at this; rw [e] at this; simp only at this; omega
theorem Ints.len' {h : Heap} {s : SL} {l : List Int} (x : Ints h s l) (e : s.nil = false) : s.len = l.length := by
  have := x.len
  unfold SL.n at this; rw [e] at this; exact this
theorem Fram.behind {h a b : Heap} (x : Fram (fun _ => False) h a) (y : Fram (fun i => h.next ≤ i) a b) : Fram (fun _ => False) h b :=
  ⟨Nat.le_trans x.next y.next, fun i hi _ => (y.same i (Nat.lt_of_lt_of_le hi x.next) (Nat.not_le_of_lt hi)).trans (x.same i hi id)⟩
theorem allPlain_ints (l : List Int) : allPlain (l.map (AV.int .i64)) = true := by
  induction l with
  | nil => rfl
  | cons x l ih => exact ih
theorem Ints.zsrc {h : Heap} {s : SL} {l : List Int} {K : List AV → Prop} (x : Ints h s l) (k : K (l.map (AV.int .i64))) : ZSrc h s 1 K := by
  refine ⟨_, fun e => ?_, fun e => ?_, k⟩
  · have := x.len
    unfold SL.n at this; rw [e] at this
    rw [List.eq_nil_of_length_eq_zero this.symm]; rfl
  · rw [Nat.mul_one]; exact x.src e
/-- a slice of its own name, laid out whole -/
theorem Ints.own {h : Heap} {i n cap : Nat} {ext : Bool} {l : List Int} {e : Nat} {g m : Bool} (hl : n = l.length) (hi : i < h.next) (hg : h.get i = some (.cells (l.map (AV.int .i64)) e g m)) : Ints h ⟨false, i, 0, n, cap, ext⟩ l :=
  ⟨hl, fun _ => hi, fun _ => ⟨_, cellsAt_of hg, by rw [List.drop_zero]; show List.take n _ = _; rw [hl, ← List.length_map (as := l) (f := AV.int .i64), List.take_length], by rw [List.drop_zero, List.length_map]; exact Nat.le_of_eq hl⟩⟩
/-! ### slices that grow by appends alone -/
def nilSL : SL := ⟨true, 0, 0, 0, 0, false⟩
/-- a slice of its own name, behind h0's names; its cells -/
def Grown (h0 h : Heap) (s : SL) (sz : Nat) (n : Nat) (cs : List AV) : Prop :=
  cs.length = n * sz ∧ ((n = 0 ∧ s = nilSL) ∨ (s.nil = false ∧ s.o = 0 ∧ s.len = n ∧ s.cap = n ∧ s.ext = true ∧ h0.next ≤ s.i ∧ s.i < h.next ∧ h.get s.i = some (.cells cs sz true false)))
theorem Grown.start (h0 h : Heap) (sz : Nat) : Grown h0 h nilSL sz 0 [] := ⟨by simp, .inl ⟨rfl, rfl⟩⟩
theorem Grown.append1 {P : Program} {h0 h : Heap} {s : SL} {sz n k e : Nat} {cs ds : List AV} {A : Prop} (g : Grown h0 h s sz n cs) (hn : h0.next ≤ h.next) (hk : k ≠ 0) (hd : ds.length = k * sz) (hp : allPlain ds = true) (hr : roomB P e (n + k) = true)
    (ha : Grown h0 (happ h s sz k ds) (s.app h.next k) sz (n + k) (cs ++ ds) → Fram (fun i => s.nil = false ∧ i = s.i) h (happ h s sz k ds) → h.next ≤ (s.app h.next k).i → A) : ZApp P h s e sz k ds A := by
  obtain ⟨hl, g⟩ := g
  have hkb : Nat.beq k 0 = false := by cases k with | zero => exact absurd rfl hk | succ k => rfl
  rcases g with ⟨rfl, rfl⟩ | ⟨h1, h2, h3, h4, h5, h6, h7, h8⟩
  · have hc : cs = [] := List.eq_nil_of_length_eq_zero (by simpa using hl)
    subst hc
    have e1 : happ h nilSL sz k ds = h.newO (.cells ds sz true false) := by unfold happ; rw [hkb]; rfl
    have e2 : nilSL.app h.next k = ⟨false, h.next, 0, k, k, true⟩ := by unfold SL.app; rw [hkb]; rfl
    refine ⟨⟨fun e => (by cases e), fun _ _ => rfl, fun _ e => (by cases e), fun _ _ => ?_, fun _ e => (by cases e), fun _ e => (by cases e)⟩, hp, ha ?_ ?_ ?_⟩
    · exact hr
    · rw [e1, e2]
      refine ⟨by simpa using hd, .inr ⟨rfl, rfl, ?_, ?_, rfl, hn, Nat.lt_succ_self _, newO_get_self _ _⟩⟩ <;> exact (Nat.zero_add k).symm
    · rw [e1]; exact Fram.newO _ _ _
    · rw [e2]; exact Nat.le_refl _
  · have hb : Nat.ble (s.len + k) s.cap = false := by
      rw [h3, h4]
      cases hx : Nat.ble (n + k) n with
      | false => rfl
      | true => have := Nat.le_of_ble_eq_true hx; omega
    have e1 : happ h s sz k ds = (h.put s.i (some .tomb)).newO (.cells (cs ++ ds) sz true false) := by
      unfold happ; rw [hkb, h1, hb, h8, h5, h2, h3]
      simp only [List.drop_zero]
      rw [← hl, List.take_length]
    have e2 : s.app h.next k = ⟨false, h.next, 0, n + k, n + k, true⟩ := by unfold SL.app; rw [hkb, h1, hb, h3]
    have hlen : s.len * sz ≤ (cs.drop s.o).length := by rw [h2, h3, List.drop_zero, hl]; exact Nat.le_refl _
    refine ⟨⟨fun _ => (by omega), fun _ e => (by rw [h1] at e; cases e), fun _ _ hle => (by omega), fun _ _ => ?_, fun _ _ _ _ => ⟨h7, cs, false, h8, (by rw [h2, h4, hl]; omega), hlen⟩, fun _ _ _ hx => (by rw [h5] at hx; cases hx)⟩, hp, ha ?_ ?_ ?_⟩
    · have : s.n = n := by unfold SL.n; rw [h1]; exact h3
      rw [this]; exact hr
    · rw [e1, e2]
      refine ⟨by rw [List.length_append, hl, hd, Nat.add_mul], .inr ⟨rfl, rfl, rfl, rfl, rfl, hn, Nat.lt_succ_self _, newO_get_self _ _⟩⟩
    · rw [e1]
      exact (Fram.put h (i := s.i) _ fun _ => ⟨h1, rfl⟩).trans (Fram.newO _ _ _)
    · rw [e2]; exact Nat.le_refl _
theorem Grown.append {P : Program} {h0 h : Heap} {s : SL} {sz n k e : Nat} {cs ds : List AV} {A : Prop} (g : Grown h0 h s sz n cs) (hn : h0.next ≤ h.next) (hk : k ≠ 0) (hd : ds.length = k * sz) (hp : allPlain ds = true) (hr : roomB P e (n + k) = true)
    (ha : Grown h0 (happ h s sz k ds) (s.app h.next k) sz (n + k) (cs ++ ds) → Fram (fun i => h0.next ≤ i) h (happ h s sz k ds) → A) : ZApp P h s e sz k ds A := by
  refine g.append1 hn hk hd hp hr fun g2 f _ => ha g2 (f.mono fun i _ ⟨e1, e2⟩ => ?_)
  obtain ⟨_, g⟩ := g
  rcases g with ⟨_, rfl⟩ | ⟨_, _, _, _, _, h6, _⟩
  · cases e1
  · rw [e2]; exact h6
theorem Grown.ints {h0 h : Heap} {s : SL} {n : Nat} {l : List Int} (g : Grown h0 h s 1 n (l.map (AV.int .i64))) : Ints h s l := by
  obtain ⟨hl, g⟩ := g
  simp only [List.length_map, Nat.mul_one] at hl
  rcases g with ⟨rfl, rfl⟩ | ⟨h1, h2, h3, h4, h5, h6, h7, h8⟩
  · have : l = [] := List.eq_nil_of_length_eq_zero hl
    subst this
    exact ⟨rfl, fun e => (by cases e), fun e => (by cases e)⟩
  · obtain ⟨nil, i, o, len, cap, ext⟩ := s
    simp only at h1 h2 h3 h4 h5 h6 h7 h8
    subst h1; subst h2; subst h3
    exact Ints.own hl.symm h7 h8
end Go.X

namespace Go.X
open Go Go.RowKit
/-! ### calls that leave nothing behind -/
theorem Rel.garbage {P : Program} {W0 : World} {E : Env} {h : Heap} {w w' : World} (r : Rel P W0 E h w) (b : Below w.heap.size w w') : Rel P W0 E h w' := by
  refine ⟨fun i ao hi => ?_, r.inj, r.free, fun i x hx => Nat.lt_of_lt_of_le (r.bound i x hx) b.size, r.below.trans (b.mono r.below.size), r.old, r.glob, r.lim, r.room⟩
  obtain ⟨x, o, hx, ho, hr⟩ := r.obj i ao hi
  refine ⟨x, o, hx, (b.block x (r.bound i x hx)).trans ho, ?_⟩
  cases hr with
  | cells c esz grown mark cs e fr pre c1 rest h1 h2 h3 h4 h5 => exact .cells c esz grown mark cs e fr pre c1 rest h1 h2 h3 h4 h5
  | ro c cs e fr pre c1 rest h1 h2 h3 => exact .ro c cs e fr pre c1 rest h1 h2 h3
  | map es ver xs clock h => exact .map es ver xs clock h
  | mapIter m ver left cur y since stepped seen h0 hb h =>
    refine .mapIter m ver left cur y since stepped seen h0 hb fun es v hm => ?_
    obtain ⟨h1, h2⟩ := h es v hm
    refine ⟨h1, fun e => ?_⟩
    obtain ⟨xs, clock, h3, h4⟩ := h2 e
    exact ⟨xs, clock, (b.block y (r.bound m y hb)).trans h3, h4⟩
  | nilIter since stepped seen h0 => exact .nilIter since stepped seen h0
  | tomb o => exact .tomb o
  | strIter s pos b h0 h => exact .strIter s pos b h0 h
  | loop l r hs hp N ht hps ha hb hd => exact .loop l r hs hp N ht hps ha hb hd
  | deferred ds cs h => exact .deferred ds cs h
/-- a function without arguments that returns true and leaves nothing behind -/
def trueZ (f : FuncId) : ZSums := fun g => match Nat.beq g f with | true => some (fun args K h => args = [] ∧ K (.bool true) h) | false => none
def trueX (f : FuncId) : Sums := fun g => match Nat.beq g f with | true => some (fun args k _ => match args with | [] => k (.bool true) | _ => .fail 170) | false => none
theorem trueZ_ne {f : FuncId} : ∀ g, g ≠ f → trueZ f g = none := fun g hg => by
  unfold trueZ
  cases hb : Nat.beq g f with
  | true => exact absurd (Nat.eq_of_beq_eq_true hb) hg
  | false => rfl
theorem true_fit (f : FuncId) : SumFit (trueZ f) (trueX f) := by
  constructor
  · intro g hg
    unfold trueZ at hg; unfold trueX
    cases hb : Nat.beq g f with
    | true => rw [hb] at hg; cases hg
    | false => rfl
  · intro g s hg
    unfold trueZ at hg; unfold trueX
    cases hb : Nat.beq g f with
    | false => rw [hb] at hg; cases hg
    | true =>
      rw [hb] at hg
      cases hg
      refine ⟨_, rfl, ?_⟩
      rintro args K h hi ⟨rfl, hk⟩ kp k p hp
      have := hp _ h hi hk
      rwa [av_bool] at this
theorem true_sound {P : Program} {W0 : World} {f : FuncId} (hc : ∀ w, Below W0.heap.size W0 w → Calls P f #[] w fun e w' => e = .returned (.bool true) ∧ Below w.heap.size w w') : SumsSound P W0 (trueX f) := by
  intro g s hg args k kp p E h w vs hb hs r hv
  unfold trueX at hg
  cases hbq : Nat.beq g f with
  | false => rw [hbq] at hg; cases hg
  | true =>
    rw [hbq] at hg
    have := Nat.eq_of_beq_eq_true hbq
    subst this
    cases hg
    cases args with
    | cons a l => exact (show False from hs).elim
    | nil =>
      have hs : (k (.bool true)).sat p h := hs
      have e : vs = #[] := by
        have hv' : VRs E [] vs.toList := hv
        generalize hl : vs.toList = l at hv'
        cases hv'
        exact Array.toList_eq_nil_iff.1 hl
      subst e
      refine (hc w r.below).mono fun e w' ⟨he, hbw⟩ => ?_
      subst he
      exact ⟨E, h, _, Stp.refl _ _, r.garbage hbw, .bool true, hs⟩
end Go.X

namespace Go.X
open Go Go.RowKit Go.ChangeShapes Go.WideShapes
/-! ### from what is read of a world -/
theorem cell_block {W : World} {a : Addr} {v : Value} (h : W.cell? a = some v) : a.spot = none ∧ ∃ c t f, W.heap[a.block]? = some (.cells c t f) ∧ c[a.off]? = some v := by
  unfold World.cell? at h
  split at h
  · rename_i c t f hc
    split at h
    · cases h
    · rename_i hs
      exact ⟨by simpa using hs, c, t, f, hc, h⟩
  · cases h
theorem cell_add {W : World} {b off j : Nat} {spot : Option Nat} {v : Value} (h : W.cell? ((Addr.mk b off spot).add j) = some v) : ∃ c t f, W.heap[b]? = some (.cells c t f) ∧ c[off + j]? = some v := by
  obtain ⟨_, c, t, f, h1, h2⟩ := cell_block h
  unfold Addr.add at h1 h2
  split at h1
  · rename_i e; subst e; exact ⟨c, t, f, h1, h2⟩
  · rename_i e; rw [if_neg e] at h2; exact ⟨c, t, f, h1, h2⟩
theorem absH_cells {W : World} {b : Nat} {c : Array Value} {t : TypeId} {f : Nat × Nat} (h : W.heap[b]? = some (.cells c t f)) : (absH W).get b = some (.ro (c.toList.map (absV W.heap.size))) := by
  show (match W.heap[b]? with | some (.cells cs _ _) => some (AObj.ro (cs.toList.map (absV W.heap.size))) | _ => none) = _
  rw [h]
theorem take_drop_of {α : Type} {c l : List α} {o : Nat} (h : ∀ j x, l[j]? = some x → c[o + j]? = some x) : (c.drop o).take l.length = l ∧ l.length ≤ (c.drop o).length := by
  have key : ∀ j, j < l.length → ((c.drop o))[j]? = l[j]? := fun j hj => by
    rw [List.getElem?_drop, h j l[j] (List.getElem?_eq_getElem hj), List.getElem?_eq_getElem hj]
  have hlen : l.length ≤ (c.drop o).length := by
    by_cases h0 : l.length = 0
    · omega
    · have := key (l.length - 1) (by omega)
      rw [List.getElem?_eq_getElem (show l.length - 1 < l.length by omega)] at this
      have := (List.getElem?_eq_some_iff.1 this).1
      omega
  refine ⟨List.ext_getElem? fun j => ?_, hlen⟩
  by_cases hj : j < l.length
  · rw [List.getElem?_take, if_pos hj, key j hj]
  · rw [List.getElem?_take, if_neg hj, List.getElem?_eq_none (by omega)]
theorem list_choose {α β : Type} {Q : α → β → Prop} : ∀ {rows : List α}, (∀ r, r ∈ rows → ∃ y, Q r y) → ∃ l : List β, l.length = rows.length ∧ ∀ (j : Nat) r, rows[j]? = some r → ∃ y, l[j]? = some y ∧ Q r y
  | [], _ => ⟨[], rfl, fun j r h => by cases h⟩
  | r :: rows, h => by
    obtain ⟨y, hy⟩ := h r (by simp)
    obtain ⟨l, h1, h2⟩ := list_choose (rows := rows) fun r hr => h r (by simp [hr])
    refine ⟨y :: l, by simp [h1], fun j r' hj => ?_⟩
    cases j with
    | zero => cases hj; exact ⟨y, rfl, hy⟩
    | succ j => exact h2 j r' (by simpa using hj)
section
variable {H : Type} {enc : TypeId × Value → H} {P : Program} {W : World} {base : Nat} {sp : Nat → Bool} {held : Bool}
theorem add_add (a : Addr) (i q : Nat) : (a.add i).add q = a.add (i + q) := by
  unfold Addr.add
  by_cases h1 : i = 0
  · subst h1; simp
  · by_cases h2 : q = 0
    · subst h2; simp
    · have : i + q ≠ 0 := by omega
      simp [h1, h2, this, Nat.add_assoc]
theorem absV_slice {n : Nat} {b off len cap : Nat} (hb : b < n) (hc : cap ≠ 0) : absV n (.slice (some ⟨b, off, none⟩) len cap) = .slice b off len cap false := by
  unfold absV
  cases cap with
  | zero => exact absurd rfl hc
  | succ c =>
    show (if b < n then AV.slice b off len (c + 1) false else _) = _
    rw [if_pos hb]
/-- a slice of rows of sz cells that is read -/
theorem abs_rows {t e : TypeId} {sz : Nat} (ht : P.underlying t = some (.slice e)) (hc : P.cellsOf e = sz) (hsz : 0 < sz) {v : Value} {fuel : Nat} {x : DataW H × List MemPlace}
    (h : DataW.trod enc P W 0 (fun _ => true) held fuel t [v] = some x) :
    ∃ (s : SL) (rows : List (List Value × DataW H)) (m : Nat), absV W.heap.size v = s.av ∧ s.n = rows.length ∧ (s.nil = false → s.i < W.heap.size ∧ ∃ c el f, W.heap[s.i]? = some (.cells c el f) ∧ ∀ j r, rows[j]? = some r → ∀ q, q < sz → ∃ u, r.1[q]? = some u ∧ c[s.o + j * sz + q]? = some u) ∧
      (∀ r, r ∈ rows → r.1.length = sz ∧ ∃ p, DataW.trod enc P W 0 (fun _ => true) held m e r.1 = some (r.2, p)) ∧ ((x.1 = .nil ∧ rows = []) ∨ ∃ sp, x.1 = .slice (rows.map (·.2)) sp) := by
  rcases DataW.trod_slice ht h with ⟨hcs, hx⟩ | ⟨a, len, cap, elems, rest, m, _, hcs, hx, _, hle, hmax, hlen, hel, hsp, _⟩
  · simp only [List.cons.injEq, and_true] at hcs
    subst hcs
    exact ⟨nilSL, [], 0, rfl, rfl, fun e => (by cases e), fun r hr => (by cases hr), .inl ⟨by rw [hx], rfl⟩⟩
  · simp only [List.cons.injEq, and_true] at hcs
    subst hcs
    rw [hc] at hel
    obtain ⟨hrl, hrest⟩ := hsp rfl
    rw [hc] at hrest
    -- the rows
    have each : ∀ i, i < len → ∃ cs y, W.cells? 0 (a.add (i * sz)) sz = some cs ∧ elems[i]? = some y ∧ DataW.trod enc P W 0 (fun _ => true) held m e cs = some y := fun i hi => by
      have h1 := hel i hi
      have h2 : elems[i]? = some elems[i] := List.getElem?_eq_getElem (by omega)
      rw [h2] at h1
      obtain ⟨cs, h3, h4⟩ := Option.bind_eq_some_iff.1 h1
      exact ⟨cs, _, h3, h2, h4⟩
    obtain ⟨f, hf⟩ : ∃ f : Nat → List Value × DataW H, ∀ i, i < len → W.cells? 0 (a.add (i * sz)) sz = some (f i).1 ∧ elems[i]?.map (·.1) = some (f i).2 ∧ ∃ p, DataW.trod enc P W 0 (fun _ => true) held m e (f i).1 = some ((f i).2, p) := by
      refine ⟨fun i => ((W.cells? 0 (a.add (i * sz)) sz).getD [], (elems[i]?.map (·.1)).getD .nil), fun i hi => ?_⟩
      obtain ⟨cs, y, h1, h2, h3⟩ := each i hi
      refine ⟨by simp [h1], by simp [h2], y.2, ?_⟩
      simp only [h1, h2, Option.getD_some, Option.map_some]
      exact h3
    have hrows : ∀ j r, ((List.range len).map f)[j]? = some r → j < len ∧ r = f j := fun j r hj => by
      obtain ⟨h3, h4⟩ := List.getElem?_eq_some_iff.1 hj
      simp only [List.length_map, List.length_range] at h3
      simp only [List.getElem_map, List.getElem_range] at h4
      exact ⟨h3, h4.symm⟩
    have hdata : elems.map (·.1) = ((List.range len).map f).map (·.2) := by
      apply List.ext_getElem?
      intro i
      rw [List.map_map, List.getElem?_map, List.getElem?_map]
      by_cases hi : i < len
      · rw [(hf i hi).2.1, List.getElem?_range hi]; rfl
      · rw [List.getElem?_eq_none (by omega), List.getElem?_eq_none (by rw [List.length_range]; omega)]; rfl
    have htrod : ∀ r, r ∈ (List.range len).map f → r.1.length = sz ∧ ∃ p, DataW.trod enc P W 0 (fun _ => true) held m e r.1 = some (r.2, p) := fun r hr => by
      obtain ⟨i, hi, rfl⟩ := List.mem_map.1 hr
      have hi := List.mem_range.1 hi
      exact ⟨(World.cells?_some (hf i hi).1).2.1, (hf i hi).2.2⟩
    by_cases hcap : cap = 0
    · subst hcap
      have : len = 0 := by omega
      subst this
      refine ⟨⟨true, 0, 0, 0, 0, true⟩, (List.range 0).map f, m, rfl, rfl, fun e => (by cases e), htrod, .inr ⟨_, by rw [hx, hdata]⟩⟩
    · -- the block
      obtain ⟨cs0, h0⟩ : ∃ cs, W.cells? 0 (a.add (0 * sz)) sz = some cs := by
        by_cases hl0 : 0 < len
        · exact ⟨_, (hf 0 hl0).1⟩
        · have hl : len = 0 := by omega
          have h1 := hrest 0 (by omega)
          obtain ⟨y, h2⟩ : ∃ y, rest[0]? = some y := ⟨_, List.getElem?_eq_getElem (by omega)⟩
          rw [h2] at h1
          obtain ⟨cs, h3, _⟩ := Option.bind_eq_some_iff.1 h1
          rw [hl] at h3
          exact ⟨cs, h3⟩
      rw [Nat.zero_mul] at h0
      obtain ⟨_, hl0, hg0⟩ := World.cells?_some h0
      have hc0 := hg0 0 hsz
      obtain ⟨u0, hu0⟩ : ∃ u, cs0[0]? = some u := ⟨_, List.getElem?_eq_getElem (by omega)⟩
      rw [hu0] at hc0
      obtain ⟨b, off, spot⟩ := a
      have hc0 : W.cell? ⟨b, off, spot⟩ = some u0 := hc0
      obtain ⟨hspot, c, el, fz, hb, _⟩ := cell_block hc0
      have hspot : spot = none := hspot
      subst hspot
      have hb : W.heap[b]? = some (.cells c el fz) := hb
      have hlt : b < W.heap.size := (Array.getElem?_eq_some_iff.1 hb).1
      refine ⟨⟨false, b, off, len, cap, false⟩, (List.range len).map f, m, absV_slice hlt hcap, by show len = _; simp, fun _ => ⟨hlt, c, el, fz, hb, fun j r hj q hq => ?_⟩, htrod, .inr ⟨_, by rw [hx, hdata]⟩⟩
      obtain ⟨hjl, rfl⟩ := hrows j r hj
      obtain ⟨_, hl1, hg1⟩ := World.cells?_some (hf j hjl).1
      have h5 := hg1 q hq
      obtain ⟨u, hu⟩ : ∃ u, (f j).1[q]? = some u := ⟨_, List.getElem?_eq_getElem (by omega)⟩
      rw [hu, add_add] at h5
      obtain ⟨c2, t2, f2, h6, h7⟩ := cell_add h5
      rw [hb] at h6
      cases h6
      exact ⟨u, hu, by show c[off + j * sz + q]? = _; rw [Nat.add_assoc]; exact h7⟩
theorem trod_i64 {e : TypeId} (he : P.underlying e = some (.int .i64)) {u : Value} {fuel : Nat} {x : DataW H × List MemPlace} (h : DataW.trod enc P W 0 (fun _ => true) held fuel e [u] = some x) :
    ∃ n, u = .int .i64 n ∧ (-9223372036854775808 ≤ n ∧ n ≤ 9223372036854775807) ∧ x.1 = .lit (.int .i64 n) := by
  cases fuel with
  | zero => simp [DataW.trod] at h
  | succ m =>
    unfold DataW.trod at h
    rw [he] at h
    cases u <;> simp at h
    rename_i q n
    obtain ⟨⟨rfl, hw⟩, rfl⟩ := h
    exact ⟨n, rfl, bounds_i64 hw, rfl⟩
def valI : List Value → Int
  | [.int _ n] => n
  | _ => 0
theorem absV_int (n : Nat) (q : IntKind) (m : Int) : absV n (.int q m) = .int q m := by unfold absV; rfl
/-- a slice of whole numbers that is read -/
theorem abs_ints {t e : TypeId} (ht : P.underlying t = some (.slice e)) (he : P.underlying e = some (.int .i64)) (hc : P.cellsOf e = 1) {v : Value} {fuel : Nat} {x : DataW H × List MemPlace}
    (h : DataW.trod enc P W 0 (fun _ => true) held fuel t [v] = some x) :
    ∃ (s : SL) (ws : List Int), absV W.heap.size v = s.av ∧ Ints (absH W) s ws ∧ (∀ m, m ∈ ws → -9223372036854775808 ≤ m ∧ m ≤ 9223372036854775807) ∧ ((x.1 = .nil ∧ ws = []) ∨ ∃ es r, x.1 = .slice es r ∧ es.length = ws.length) := by
  obtain ⟨s, rows, m, hv, hn, hcell, hrow, hx⟩ := abs_rows ht hc (by decide) h
  have hone : ∀ r, r ∈ rows → ∃ n, r.1 = [.int .i64 n] ∧ (-9223372036854775808 ≤ n ∧ n ≤ 9223372036854775807) := fun r hr => by
    obtain ⟨h1, p, h2⟩ := hrow r hr
    match hr1 : r.1, h1 with
    | [u], _ =>
      rw [hr1] at h2
      obtain ⟨n, rfl, h3, _⟩ := trod_i64 he h2
      exact ⟨n, rfl, h3⟩
  refine ⟨s, rows.map fun r => valI r.1, hv, ⟨by rw [List.length_map]; exact hn, fun e => (hcell e).1, fun e => ?_⟩, ?_, ?_⟩
  · obtain ⟨hlt, c, el, f, hb, hq⟩ := hcell e
    refine ⟨c.toList.map (absV W.heap.size), by unfold cellsAt; rw [absH_cells hb], ?_⟩
    have hlen : s.len = rows.length := by unfold SL.n at hn; rw [e] at hn; exact hn
    have := take_drop_of (c := c.toList.map (absV W.heap.size)) (l := (rows.map fun r => valI r.1).map (AV.int .i64)) (o := s.o) fun j y hy => by
      rw [List.getElem?_map, List.getElem?_map, Option.map_map] at hy
      obtain ⟨r, hr, rfl⟩ := Option.map_eq_some_iff.1 hy
      obtain ⟨u, hu, hcu⟩ := hq j r hr 0 (by decide)
      obtain ⟨n, h1, _⟩ := hone r (List.mem_of_getElem? hr)
      rw [h1] at hu
      cases hu
      rw [Nat.mul_one, Nat.add_zero] at hcu
      rw [List.getElem?_map, Array.getElem?_toList, hcu]
      show some (absV W.heap.size (.int .i64 n)) = some (AV.int .i64 (valI r.1))
      rw [absV_int, h1]; rfl
    rw [List.length_map, List.length_map, ← hlen] at this
    exact this
  · intro n hn
    obtain ⟨r, hr, rfl⟩ := List.mem_map.1 hn
    obtain ⟨n, h1, h2⟩ := hone r hr
    rw [h1]; exact h2
  · rcases hx with ⟨h1, h2⟩ | ⟨sp, h1⟩
    · exact .inl ⟨h1, by rw [h2]; rfl⟩
    · exact .inr ⟨_, _, h1, by rw [List.length_map, List.length_map]⟩
end
/-- what a law that returns true and touches nothing owes its row -/
theorem post_below {H : Type} {enc : TypeId × Value → H} {P : Program} {f : Func} {s : ChangeSpec} {apart fresh handsOn again : Bool} {W W' : World} {args : Array Value} {v : Value} {ds : List (DataW H)} {before : List MemPlace}
    (hvs : s.vars = []) (hW : DataW.Whole enc P f.params.toList s.vars apart W args.toList ds [] before) (hb : Below W.heap.size W W')
    (hres : ∀ (b : Nat) (sp : Nat → Bool) (hd : Bool), DataW.TrodAll enc P W' b sp hd f.resultTypes.toList (v.resultList f.resultTypes.size) (s.fn H (ds ++ [])).results [])
    (hv2 : (s.fn H (ds ++ [])).vars = [])
    (hargs : ∀ sp : Nat → Bool, (∀ p ∈ before, sp p.block = true) → DataW.TrodAll enc P W' 0 sp true f.params.toList args.toList (s.fn H (ds ++ [])).args before)
    (hok : ∀ (j : Nat) (t : TypeId) (r : Value), f.resultTypes[j]? = some t → (v.resultList f.resultTypes.size)[j]? = some r → Value.okWide P W' .any 0 t r) :
    s.post enc P f apart fresh handsOn again W args v W' := by
  have hlt : ∀ p ∈ before, p.block < W.heap.size := fun p hp => hW.lt p hp
  have hold : ∀ p ∈ before, (fun b => decide (b < W.heap.size)) p.block = true := fun p hp => by simpa using hlt p hp
  have hvars : ∀ sp : Nat → Bool, DataW.TrodVars enc P W' sp s.vars (s.fn H (ds ++ [])).vars [] := fun sp => by rw [hvs, hv2]; exact rfl
  refine ⟨ds, [], before, [], before, [], hW, hres _ _ _, hargs _ hold, hvars _, hb.frame _, fun _ => ⟨hok, _, _, ([] ++ before) ++ [], ⟨[] ++ before, [], trodAll_append (hargs _ (fun _ _ => rfl)) (hres _ _ _), hvars _, rfl, ?_, ?_⟩, ?_⟩⟩
  · intro b off hp
    simp only [List.nil_append, List.append_nil] at hp
    obtain ⟨_, _, _, _, _, hz, _⟩ := hW
    rw [hb.frozen (p := ⟨b, off, none⟩) (hlt _ hp)]
    exact hz b off hp
  · intro ha
    simp only [List.nil_append, List.append_nil]
    obtain ⟨_, _, _, _, _, _, hn⟩ := hW
    exact hn ha
  · intro p hp _
    simpa using hp
end Go.X
