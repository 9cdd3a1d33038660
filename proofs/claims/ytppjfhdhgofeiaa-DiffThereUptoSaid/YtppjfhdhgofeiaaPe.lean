/-
  PROVED: sorted keys, Apply, rising, and 'banyanlaw19.DiffThere' over heaps is true. Condition: its arguments read as slices of entries.
-/
import Derived.Test.YtppjfhdhgofeiaaPd
set_option linter.unusedVariables false
set_option linter.unusedSimpArgs false
namespace DfN
open Go Go.X Go.X.Df Go.Proofs
set_option maxRecDepth 100000
section
variable {lf n : Nat} {h : Heap} {K : ZK}
structure YS (L o : Nat) (r0 : ALoop) (gB h : Heap) (ss : List Ky) : Prop where
  loop : h.get L = some (.loop r0)
  lt : L < h.next
  ne : L ≠ o
  below : L < gB.next ∧ o < gB.next
  at' : ∃ s, Var h o [s.av] ∧ Grown gB h s 1 ss.length (ss.map AV.str) ∧ (s.nil = true → s.ext = false)
theorem room9 {k : Nat} (h : k ≤ 8589934592) : roomB Try.prog 9 k = true := by
  have e0 : bytesO Try.prog 9 = some 16 := by kernel_rfl
  unfold roomB; rw [e0]
  show cnd (Nat.ble (Nat.mul k 16) most) (Nat.ble k most) false = true
  have e1 : Nat.ble (Nat.mul k 16) most = true := Nat.ble_eq_true_of_le (by show k * 16 ≤ 1099511627776; omega)
  have e2 : Nat.ble k most = true := Nat.ble_eq_true_of_le (by show k ≤ 1099511627776; omega)
  rw [e1, e2]; rfl
variable {L o : Nat} {gB : Heap} {r0 : ALoop} {ss : List Ky}
theorem YS.fr (y : YS L o r0 gB h ss) {S : Nat → Prop} {h' : Heap} (f : Fram S h h') (hs : ∀ i, S i → i < gB.next ∧ i ≠ L ∧ i ≠ o) : YS L o r0 gB h' ss := by
  obtain ⟨s, v, g, he⟩ := y.at'
  refine ⟨(f.same _ y.lt fun e => (hs _ e).2.1 rfl).trans y.loop, Nat.lt_of_lt_of_le y.lt f.next, y.ne, y.below, ⟨s, v.fr f fun e => (hs _ e).2.2 rfl, ?_, he⟩⟩
  refine g.fr f fun e1 e2 => ?_
  rcases g.2 with ⟨_, rfl⟩ | ⟨_, _, _, _, _, h6, _⟩
  · cases e1
  · have := (hs _ e2).1; omega
noncomputable def seqR (t : TT) (d : Nat) : ALoop := ⟨.ready, .normal, 53, t, [13, 7], codeOf Try.prog 53 [1, 0, 1, 0, 0], codeOf Try.prog 53 [1, 0, 1, 0, 1], d⟩
theorem yieldS_ok {t : TT} {z : ZT} {dd : Nat} (y : YS L o (seqR t dd) gB h ss) (ag : Agr t z) (hz : ZAt 13 [(2, .pv false o 0)] z) {x : Ky} (hl : ss.length < 8589934592) (hgn : gB.next ≤ h.next)
    (hk : ∀ h', Fram (fun i => i = L ∨ i = o ∨ gB.next ≤ i) h h' → (∀ i, gB.next ≤ i → i < h.next → (∃ a b, h.get i = some (.map a b)) ∨ (∃ a b c d, h.get i = some (.mapIter a b c d)) → h'.get i = h.get i) → YS L o (seqR t dd) gB h' (ss ++ [x]) → K (.bool true) h') :
    zCall Try.prog SD lf (n + 1) (93 + L) [.str x] K h := by
  have e93 : (93 + L : Nat) = rndId Try.prog L := by
    unfold rndId; rw [show Try.prog.funcs.size = 93 by kernel_rfl]
  rw [e93]
  obtain ⟨d, rfl⟩ := hz.tab
  refine zRound_at ⟨seqR t dd, 13, [7], _, y.loop, rfl, by decide, ag, ?_⟩
  have e16 : ntOf Try.prog 53 = 13 := by kernel_rfl
  have hr := appseq_r (zCall Try.prog SD lf n) lf L K h o x d
  rw [e16] at hr
  refine hr.mpr ?_
  clear hr
  obtain ⟨s, vo, g, he⟩ := y.at'
  obtain ⟨b1, b2⟩ := y.below
  have hyl := y.lt
  refine ⟨seqR t dd, y.loop, y.lt, rfl, rfl, ?_⟩
  generalize hh3 : h.put L _ = h3
  have f3 : Fram (fun i => i = L) h h3 := by rw [← hh3]; exact Fram.put h _ fun _ => rfl
  have hn3 : h3.next = h.next := by rw [← hh3]; rfl
  have l3 : h3.get L = some (.loop ⟨.busy, .normal, 53, t, [13, 7], codeOf Try.prog 53 [1, 0, 1, 0, 0], codeOf Try.prog 53 [1, 0, 1, 0, 1], dd⟩) := by rw [← hh3]; exact put_get_self _ _ _
  clear hh3
  have hnl : s.nil = false → s.i < gB.next → False := fun e1 e2 => by
    rcases g.2 with ⟨_, rfl⟩ | ⟨_, _, _, _, _, h6, _⟩
    · cases e1
    · omega
  have vo3 := vo.fr f3 (Ne.symm y.ne)
  have g3 := g.fr f3 fun e1 e2 => hnl e1 (by omega)
  refine vo3.ldL s rfl ?_
  have f4 : Fram nowhere h3 (h3.newO (.cells [AV.str x] 1 false false)) := Fram.newO _ _ _
  have sg : Seg (h3.newO (.cells [AV.str x] 1 false false)) ⟨false, h3.next, 0, 1, 1, false⟩ 1 [AV.str x] := Seg.own (more := []) rfl (Nat.lt_succ_self _) (by rw [List.append_nil]; exact newO_get_self _ _)
  refine sg.zsrc ?_
  have g4 := g3.fr f4 fun _ => id
  have vo4 := vo3.fr f4 id
  have l4 := (f4.same L (by omega) id).trans l3
  have hn4 : (h3.newO (.cells [AV.str x] 1 false false)).next = h3.next + 1 := rfl
  generalize hh4 : h3.newO (.cells [AV.str x] 1 false false) = h4 at f4 g4 vo4 l4 hn4 ⊢
  refine g4.append1 (by omega) (by decide) rfl rfl (room9 (by omega)) fun g5 f5 hi5 => ?_
  have hcell : s.nil = false → ∃ c e g m, h4.get s.i = some (.cells c e g m) := fun e1 => by
    rcases g4.2 with ⟨_, rfl⟩ | ⟨_, _, _, _, _, _, _, h8⟩
    · cases e1
    · exact ⟨_, _, _, _, h8⟩
  generalize happ h4 s 1 1 [AV.str x] = h5 at g5 f5 ⊢
  have vo5 := vo4.fr f5 fun ⟨e1, e2⟩ => hnl e1 (by omega)
  refine ⟨rfl, vo5.zput (by simp) ?_⟩
  generalize hs' : s.app _ 1 = s' at g5 hi5 ⊢
  have vo6 : Var (hput h5 o 0 [s'.av]) o [s'.av] := Var.put_all vo5 rfl
  have f6 := vo5.put_fr 0 [s'.av]
  have hn6 : (hput h5 o 0 [s'.av]).next = h5.next := hput_next _ _ _ _
  generalize hput h5 o 0 [s'.av] = h6 at vo6 f6 hn6 ⊢
  have hn5 := f5.next
  have l5 := (f5.same L (by omega) fun ⟨e1, e2⟩ => hnl e1 (by omega)).trans l4
  have l6 := (f6.same L (by omega) y.ne).trans l5
  refine ⟨_, l6, by omega, ?_⟩
  show K (.bool true) (h6.put L (some (.loop (seqR t dd))))
  have f7 : Fram (fun i => i = L) h6 (h6.put L (some (.loop (seqR t dd)))) := Fram.put h6 _ fun _ => rfl
  have hsi' : s'.nil = false → gB.next ≤ s'.i := fun e => by
    rcases g5.2 with ⟨_, rfl⟩ | ⟨_, _, _, _, _, h6', _⟩
    · cases e
    · exact h6'
  have hs0 : s'.nil = true → s'.ext = false := fun e => by
    rcases g5.2 with ⟨h0, _⟩ | ⟨h1, _⟩
    · omega
    · rw [h1] at e; cases e
  have same : ∀ i, i < h.next → i ≠ L → i ≠ o → (s.nil = false → i ≠ s.i) → (h6.put L (some (.loop (seqR t dd)))).get i = h.get i := fun i hi h1 h2 h3' => by
    rw [f7.same i (by omega) h1, f6.same i (by omega) h2, f5.same i (by omega) fun ⟨e1, e2⟩ => h3' e1 e2, f4.same i (by omega) id, f3.same i (by omega) h1]
  refine hk _ ?_ (fun i hi hin hm => ?_) ⟨put_get_self _ _ _, by show L < h6.next; omega, y.ne, y.below, ⟨s', vo6.fr f7 (Ne.symm y.ne), ?_, hs0⟩⟩
  · refine ⟨?_, fun i hi ht => ?_⟩
    · show h.next ≤ h6.next
      omega
    · have ht3 : i < gB.next := Nat.lt_of_not_le fun e => ht (.inr (.inr e))
      exact same i hi (fun e => ht (.inl e)) (fun e => ht (.inr (.inl e))) fun e1 e2 => hnl e1 (by omega)
  · refine same i hin (by omega) (by omega) fun e1 e2 => ?_
    obtain ⟨c, e, g', m, hc⟩ := hcell e1
    have hsl : s.i < h.next := by omega
    have : h4.get s.i = h.get s.i := by
      rw [f4.same _ (by omega) id, f3.same _ hsl (by omega)]
    rw [this, ← e2] at hc
    rcases hm with ⟨a, b, hm⟩ | ⟨a, b, c', d', hm⟩ <;> rw [hm] at hc <;> cases hc
  · rw [List.length_append, List.map_append]
    exact (g5.fr f6 fun e1 e2 => by have := hsi' e1; omega).fr f7 fun e1 e2 => by have := hsi' e1; omega
theorem fin46 (K : ZK) (z : ZT) (h : Heap) : zFin Try.prog 46 K z h = K (.tup []) h := by kernel_rfl
theorem mrows_at {β : Type} {av : β → AV} {m : List (Ky × β)} {j : Nat} {x : AV × AV} (h : (mrows av m)[j]? = some x) : ∃ e, m[j]? = some e ∧ x = (.str e.1, av e.2) := by
  unfold mrows at h
  rw [List.getElem?_map] at h
  obtain ⟨e, h1, h2⟩ := Option.map_eq_some_iff.1 h
  exact ⟨e, h1, h2.symm⟩
theorem mrows_erase {β : Type} {av : β → AV} (m : List (Ky × β)) (j : Nat) : (mrows av m).eraseIdx j = mrows av (m.eraseIdx j) := by
  unfold mrows
  induction m generalizing j with
  | nil => rfl
  | cons e m ih => cases j with
    | zero => rfl
    | succ j => rw [List.map_cons, List.eraseIdx_cons_succ, List.eraseIdx_cons_succ, List.map_cons, ih]
theorem erase_perm {α : Type} : ∀ {l : List α} {j : Nat} {e : α}, l[j]? = some e → (e :: l.eraseIdx j).Perm l
  | [], _, _, h => by cases h
  | a :: l, 0, e, h => by cases h; exact List.Perm.refl _
  | a :: l, j + 1, e, h => by
    rw [List.eraseIdx_cons_succ]
    exact (List.Perm.swap a e _).trans ((erase_perm (by simpa using h)).cons a)
theorem keysr_ok {β : Type} {av : β → AV} {m : List (Ky × β)} {t : TT} {zL : ZT} {dd p M ver : Nat} (ag : Agr t zL) (hzL : ZAt 13 [(2, .pv false o 0)] zL) (y : YS L o (seqR t dd) gB h []) (hg : gB.next ≤ h.next)
    (vp : Var h p [AV.map M]) (hM : h.get M = some (.map (mrows av m) ver)) (hMl : M < gB.next) (nM : M ≠ L ∧ M ≠ o) (hlen : m.length < 8589934592) (hlf : m.length < lf)
    (hk : ∀ h' ss, Fram (fun i => i = L ∨ i = o ∨ gB.next ≤ i) h h' → YS L o (seqR t dd) gB h' ss → ss.Perm (m.map Prod.fst) → K (.tup []) h') :
    zCall Try.prog SD lf (n + 2) 46 [.fn (.yield L) [] [], .pv false p 0] K h := by
  refine zCall_at (hSD (by decide) (by decide)) (by kernel_rfl) ?_
  rw [keysr_nf]
  refine ⟨rfl, vp.ldM false M (by simp) ⟨rfl, ⟨mrows av m, ver, hM, ?_⟩⟩⟩
  have f1 : Fram nowhere h (h.newO (.mapIter M ver (mrows av m) .junk)) := Fram.newO _ _ _
  refine ZLoop.inv (fun q z h' => ∃ (left : List (Ky × β)) (cur : AV) (ss : List Ky), ZAt 14 [(0, .fn (.yield L) [] []), (5, .pv false h.next 0)] z ∧ Fram (fun i => i = L ∨ i = o ∨ gB.next ≤ i) h h' ∧ YS L o (seqR t dd) gB h' ss ∧ h'.get h.next = some (.mapIter M ver (mrows av left) cur) ∧ h.next < h'.next ∧
      left.length = q ∧ (ss ++ left.map Prod.fst).Perm (m.map Prod.fst)) (n := m.length) hlf
    ⟨m, .junk, [], ⟨rfl, rfl, rfl, trivial⟩, f1.mono fun _ _ e => e.elim, y.fr f1 fun _ e => e.elim, newO_get_self _ _, Nat.lt_succ_self _, rfl, by simp⟩ ?_
  rintro q z h2 kk hq ⟨left, cur, ss, hz, f, ys, hit, hin, hl, hp⟩ ih
  refine zAt_of _ hz fun d => (keysr_l _ _ _ _ _ _ _ _ _ _).mpr ?_
  have hM2 : h2.get M = some (.map (mrows av m) ver) := (f.same M (by omega) (by rintro (e | e | e); exact nM.1 e; exact nM.2 e; omega)).trans hM
  have hpl := hp.length_eq
  simp only [List.length_append, List.length_map] at hpl
  obtain ⟨b1, b2⟩ := ys.below
  refine ⟨rfl, rfl, ⟨M, ver, mrows av left, cur, mrows av m, hit, hin, hM2, fun e0 => ?_, fun j x hx => ?_⟩⟩
  · rw [fin46]
    have : left = [] := by
      cases left with
      | nil => rfl
      | cons a l => cases e0
    subst this
    have f3 : Fram (fun i => i = h.next) h2 (h2.put h.next (some .tomb)) := Fram.put h2 _ fun _ => rfl
    refine hk _ ss (f.back f3 fun i hi e => by omega) ?_ (by simpa using hp)
    obtain ⟨s, v, g, he⟩ := ys.at'
    have hsi : s.nil = false → s.i ≠ h.next := fun e1 e2 => by
      rcases g.2 with ⟨_, rfl⟩ | ⟨_, _, _, _, _, _, _, h8⟩
      · cases e1
      · rw [e2, hit] at h8; cases h8
    exact ⟨(f3.same L ys.lt (by omega)).trans ys.loop, ys.lt, ys.ne, ys.below, s, v.fr f3 (by omega), g.fr f3 fun e1 e2 => hsi e1 e2, he⟩
  · obtain ⟨e, he, rfl⟩ := mrows_at hx
    rw [mrows_erase]
    have hjl : j < left.length := (List.getElem?_eq_some_iff.1 he).1
    have f3 : Fram (fun i => i = h.next) h2 (h2.put h.next (some (.mapIter M ver (mrows av (left.eraseIdx j)) (.tuple [.str e.1, av e.2])))) := Fram.put h2 _ fun _ => rfl
    have i3 : (h2.put h.next (some (.mapIter M ver (mrows av (left.eraseIdx j)) (.tuple [.str e.1, av e.2])))).get h.next = some (.mapIter M ver (mrows av (left.eraseIdx j)) (.tuple [.str e.1, av e.2])) := put_get_self _ _ _
    have hn3 : (h2.put h.next (some (.mapIter M ver (mrows av (left.eraseIdx j)) (.tuple [.str e.1, av e.2])))).next = h2.next := rfl
    obtain ⟨s, v, g, hse⟩ := ys.at'
    have hsi : s.nil = false → s.i ≠ h.next := fun e1 e2 => by
      rcases g.2 with ⟨_, rfl⟩ | ⟨_, _, _, _, _, _, _, h8⟩
      · cases e1
      · rw [e2, hit] at h8; cases h8
    generalize h2.put h.next (some (.mapIter M ver (mrows av (left.eraseIdx j)) (.tuple [.str e.1, av e.2]))) = h3 at f3 i3 hn3 ⊢
    have ys3 : YS L o (seqR t dd) gB h3 ss := ⟨(f3.same L ys.lt (by omega)).trans ys.loop, by have := ys.lt; omega, ys.ne, ys.below, s, v.fr f3 (by omega), g.fr f3 fun e1 e2 => hsi e1 e2, hse⟩
    have hM3 : h3.get M = some (.map (mrows av m) ver) := (f3.same M (by omega) (by omega)).trans hM2
    refine ⟨rfl, rfl, ⟨M, ver, mrows av (left.eraseIdx j), .str e.1, av e.2, mrows av m, i3, hM3, zRS_av.2 ?_⟩⟩
    have fn := f.next
    refine yieldS_ok ys3 ag hzL (by omega) (by omega) fun h4 f4 keep y4 => ?_
    rw [av_bool]
    refine zRB_av.2 ?_
    rw [Bool.not_true, cnd_fP]
    have f4n := f4.next
    refine ih (q - 1) _ _ (by omega) ⟨left.eraseIdx j, .tuple [.str e.1, av e.2], ss ++ [e.1], ⟨rfl, rfl, rfl, trivial⟩, (f.back f3 fun i hi e => by omega).back f4 fun i hi e => e, y4, ?_, by omega, ?_, ?_⟩
    · rw [keep h.next hg (by omega) (.inr ⟨_, _, _, _, i3⟩)]; exact i3
    · rw [List.length_eraseIdx, if_pos hjl]; omega
    · have h5 : (e :: left.eraseIdx j).Perm left := erase_perm he
      have h6 := (h5.map Prod.fst).symm
      refine List.Perm.trans ?_ hp
      rw [List.append_assoc]
      exact List.Perm.append_left ss h6.symm
end
end DfN
namespace DfN
open Go Go.X Go.X.Df Go.Proofs
set_option maxRecDepth 100000
section
variable {lf n : Nat} {h : Heap} {K : ZK}
theorem appseq_ok {β : Type} {av : β → AV} {m : List (Ky × β)} {p M ver : Nat} (vp : Var h p [AV.map M]) (hM : h.get M = some (.map (mrows av m) ver)) (hMl : M < h.next) (hlen : m.length < 8589934592) (hlf : m.length < lf)
    (hk : ∀ h' s (ss : List Ky) gB, Fram nowhere h h' → h.next ≤ gB.next → Grown gB h' s 1 ss.length (ss.map AV.str) → (s.nil = true → s.ext = false) → ss.Perm (m.map Prod.fst) → K (.sl s) h') :
    zCall Try.prog SD lf (n + 3) 53 [.sl nilSL, .any (.func (.plain (.func 46)) [] [.ptr p 0])] K h := by
  refine zCallR_at (hSD (by decide) (by decide)) (by kernel_rfl) ?_
  rw [appseq_nf]
  refine ⟨46, [], [.ptr p 0], rfl, by kernel_rfl, fun t ag => ?_⟩
  show zCall Try.prog SD lf (n + 2) 46 [.fn (.yield (h.next + 1 + 1)) [] [], .pv false p 0] _ _
  have f1 : Fram nowhere h (h.newO (.cells [nilSL.av] 0 false false)) := Fram.newO _ _ _
  have v1 := Var.new h [nilSL.av]
  have hn1 : (h.newO (.cells [nilSL.av] 0 false false)).next = h.next + 1 := rfl
  generalize h.newO (.cells [nilSL.av] 0 false false) = h1 at f1 v1 hn1 ⊢
  have f2 : Fram nowhere h1 (h1.newO (.deferred (some []))) := Fram.newO _ _ _
  have d2 : (h1.newO (.deferred (some []))).get (h.next + 1) = some (.deferred (some [])) := by rw [← hn1]; exact newO_get_self _ _
  have hn2 : (h1.newO (.deferred (some []))).next = h.next + 2 := by show h1.next + 1 = _; omega
  generalize h1.newO (.deferred (some [])) = h2 at f2 d2 hn2 ⊢
  show zCall Try.prog SD lf (n + 2) 46 _ _ (h2.newO (.loop (seqR t h1.next)))
  have f3 : Fram nowhere h2 (h2.newO (.loop (seqR t h1.next))) := Fram.newO _ _ _
  have l3 : (h2.newO (.loop (seqR t h1.next))).get (h.next + 1 + 1) = some (.loop (seqR t h1.next)) := by rw [show h.next + 1 + 1 = h2.next by omega]; exact newO_get_self _ _
  have hn3 : (h2.newO (.loop (seqR t h1.next))).next = h2.next + 1 := rfl
  generalize h2.newO (.loop (seqR t h1.next)) = h3 at f3 l3 hn3 ⊢
  have F3 := (f1.trans f2).trans f3
  have v3 := (v1.fr f2 id).fr f3 id
  have y0 : YS (h.next + 1 + 1) h.next (seqR t h1.next) h3 h3 [] := ⟨l3, by omega, by omega, ⟨by omega, by omega⟩, nilSL, v3, Grown.start _ _ _, fun _ => rfl⟩
  have hpl := vp.lt
  refine keysr_ok ag ⟨rfl, rfl, trivial⟩ y0 (Nat.le_refl _) (vp.fr F3 id) ((F3.same M hMl id).trans hM) (by omega) ⟨by omega, by omega⟩ hlen hlf fun h4 ss f4 y4 hp => ?_
  have f4n := f4.next
  have F4 : Fram nowhere h h4 := F3.back f4 fun i hi e => by rcases e with e | e | e <;> omega
  refine ⟨seqR t h1.next, (by have := y4.loop; rwa [← hn1] at this), (by have := y4.lt; rwa [← hn1] at this), .inl rfl, ?_⟩
  show zAtR Try.prog (zCall Try.prog SD lf (n + 2)) lf 53 [1, 1] [⟨.yield (h.next + 1), []⟩] _ (zFinR Try.prog 53 K) (fun D => ⟨[], zFinR Try.prog 53 K D⟩) (h4.put (h1.next + 1) (some .tomb))
  rw [hn1]
  refine zAtR_of (n := 13) [(2, .pv false h.next 0)] ⟨rfl, rfl, trivial⟩ fun d => (appseq_a11 _ _ _ _ _ _ _).mpr ?_
  have f5 : Fram (fun i => i = h.next + 1 + 1) h4 (h4.put (h.next + 1 + 1) (some .tomb)) := Fram.put h4 _ fun _ => rfl
  have hn5 : (h4.put (h.next + 1 + 1) (some .tomb)).next = h4.next := rfl
  obtain ⟨s, vs, g, he⟩ := y4.at'
  generalize h4.put (h.next + 1 + 1) (some .tomb) = h5 at f5 hn5 ⊢
  have vs5 := vs.fr f5 (by omega)
  refine ⟨rfl, vs5.ldL s rfl ⟨?_, by show h.next + 1 + 1 ≤ h5.next; omega, ?_⟩⟩
  · rw [f5.same _ (by omega) (by omega), f4.same _ (by omega) (by rintro (e | e | e) <;> omega), f3.same _ (by omega) id]; exact d2
  · have f6 : Fram (fun i => i = h.next + 1) h5 (h5.put (h.next + 1) (some .tomb)) := Fram.put h5 _ fun _ => rfl
    generalize h5.put (h.next + 1) (some .tomb) = h6 at f6 ⊢
    have hsi : s.nil = false → h3.next ≤ s.i := fun e => by
      rcases g.2 with ⟨_, rfl⟩ | ⟨_, _, _, _, _, h6', _⟩
      · cases e
      · exact h6'
    exact hk h6 s ss h3 ((F4.back f5 fun i hi e => by omega).back f6 fun i hi e => by omega) (by omega) ((g.fr f5 fun e1 e2 => by have := hsi e1; omega).fr f6 fun e1 e2 => by have := hsi e1; omega) he hp
theorem collect_ok {β : Type} {av : β → AV} {m : List (Ky × β)} {p M ver : Nat} (vp : Var h p [AV.map M]) (hM : h.get M = some (.map (mrows av m) ver)) (hMl : M < h.next) (hlen : m.length < 8589934592) (hlf : m.length < lf)
    (hk : ∀ h' s (ss : List Ky) gB, Fram nowhere h h' → h.next ≤ gB.next → Grown gB h' s 1 ss.length (ss.map AV.str) → (s.nil = true → s.ext = false) → ss.Perm (m.map Prod.fst) → K (.sl s) h') :
    zCall Try.prog SD lf (n + 4) 44 [.any (.func (.plain (.func 46)) [] [.ptr p 0])] K h := by
  refine zCall_at (hSD (by decide) (by decide)) (by kernel_rfl) ?_
  rw [collect_nf]
  refine appseq_ok vp hM hMl hlen hlf fun h' s ss gB h1 h2 h3 h4 h5 => ?_
  rw [av_sl]
  exact zRL_of (hk h' s ss gB h1 h2 h3 h4 h5)
theorem SD45 : SD 45 = some sortZ := by
  unfold SD orZ
  rw [trueZ_ne 45 (by decide)]; rfl
theorem sorted_ok {β : Type} {av : β → AV} {m : List (Ky × β)} {p M ver : Nat} (vp : Var h p [AV.map M]) (hM : h.get M = some (.map (mrows av m) ver)) (hMl : M < h.next) (hlen : m.length < 8589934592) (hlf : m.length < lf)
    (hr : Rise Prod.fst m) (hb : ∀ e, e ∈ m → ∀ x, x ∈ e.1 → x < 256)
    (hk : ∀ h' s, Fram nowhere h h' → Seg h' s 1 ((m.map Prod.fst).map AV.str) → K (.sl s) h') :
    zCall Try.prog SD lf (n + 5) 36 [.any (.func (.plain (.func 46)) [] [.ptr p 0])] K h := by
  refine zCall_at (hSD (by decide) (by decide)) (by kernel_rfl) ?_
  rw [sorted_nf]
  refine collect_ok vp hM hMl hlen hlf fun h1 s ss gB f1 hg g he hp => ?_
  rw [av_sl]
  refine zRL_of ?_
  have hs : strSort ss = m.map Prod.fst := strSort_eq hp (by rw [List.pairwise_map]; exact hr) fun s hs x hx => by
    obtain ⟨e, he, rfl⟩ := List.mem_map.1 hs
    exact hb e he x hx
  have hl := hp.length_eq
  simp only [List.length_map] at hl
  refine zCall_sum (by kernel_rfl) SD45 ?_
  rcases g.2 with ⟨h0, rfl⟩ | ⟨a1, a2, a3, a4, a5, a6, a7, a8⟩
  · refine .inl ⟨rfl, rfl, zRT_0 fun _ => hk h1 _ f1 ?_⟩
    have : m = [] := List.eq_nil_of_length_eq_zero (by omega)
    subst this
    exact Seg.nil _ _ _
  · have hst : strs ((ss.map AV.str).drop s.o |>.take s.len) = ss := by
      rw [a2, a3, List.drop_zero, List.take_of_length_le (by simp), strs_map]
    refine .inr ⟨a1, ss.map AV.str, 1, true, false, a8, a7, ⟨?_, ?_, by omega, by rw [a2, a3]; simp⟩, zRT_0 fun _ => ?_⟩
    · rw [hst, a2, a3, List.drop_zero, List.take_of_length_le (by simp)]
    · rw [hst]; exact a3.symm
    · rw [hst, hs]
      have e1 : (ss.map AV.str).take s.o ++ ((m.map Prod.fst).map AV.str ++ (ss.map AV.str).drop (s.o + s.len)) = (m.map Prod.fst).map AV.str := by
        rw [a2, a3, List.take_zero, List.nil_append, Nat.zero_add, List.drop_of_length_le (by simp), List.append_nil]
      rw [e1]
      have f2 : Fram (fun i => i = s.i) h1 (h1.put s.i (some (.cells ((m.map Prod.fst).map AV.str) 1 true false))) := Fram.put h1 _ fun _ => rfl
      refine hk _ s (f1.back f2 fun i hi e => by omega) ?_
      obtain ⟨sn, si, so, sl, sc, se⟩ := s
      simp only at a1 a2 a3
      subst a1; subst a2; subst a3
      exact Seg.own (more := []) (by simp; omega) a7 (by rw [List.append_nil]; exact put_get_self _ _ _)
end
end DfN
namespace DfN
open Go Go.X Go.X.Df Go.Proofs
set_option maxRecDepth 100000
abbrev SV := SL × Ky
def sav (b : SV) : AV := b.1.av
def cont (m : List (Ky × SV)) : List (Ky × Ky) := m.map fun e => (e.1, e.2.2)
theorem cont_look (m : List (Ky × SV)) (k : Ky) : Df.look (cont m) k = (Df.look m k).map (·.2) := by
  induction m with
  | nil => rfl
  | cons e m ih =>
    show (if e.1 = k then some e.2.2 else Df.look (cont m) k) = (if e.1 = k then some e.2 else Df.look m k).map (·.2)
    split
    · rfl
    · exact ih
theorem cont_put (m : List (Ky × SV)) (k : Ky) (b : SV) : cont (Df.put m k b) = Df.put (cont m) k b.2 := by
  induction m with
  | nil => rfl
  | cons e m ih =>
    show cont (if e.1 = k then (k, b) :: m else if bytesLt k e.1 then (k, b) :: e :: m else e :: Df.put m k b) = (if e.1 = k then (k, b.2) :: cont m else if bytesLt k e.1 then (k, b.2) :: (e.1, e.2.2) :: cont m else (e.1, e.2.2) :: Df.put (cont m) k b.2)
    split
    · rfl
    · split
      · rfl
      · show (e.1, e.2.2) :: cont (Df.put m k b) = _
        rw [ih]
theorem cont_del (m : List (Ky × SV)) (k : Ky) : cont (Df.del m k) = Df.del (cont m) k := by
  induction m with
  | nil => rfl
  | cons e m ih =>
    show cont (if e.1 = k then m else e :: Df.del m k) = (if e.1 = k then cont m else (e.1, e.2.2) :: Df.del (cont m) k)
    split
    · rfl
    · show (e.1, e.2.2) :: cont (Df.del m k) = _
      rw [ih]
theorem del_none {β : Type} {m : List (Ky × β)} {k : Ky} (h : Df.look m k = none) : Df.del m k = m := by
  induction m with
  | nil => rfl
  | cons e m ih =>
    have h1 : (if e.1 = k then some e.2 else Df.look m k) = none := h
    show (if e.1 = k then m else e :: Df.del m k) = e :: m
    split
    · rename_i hk; rw [if_pos hk] at h1; cases h1
    · rename_i hk; rw [if_neg hk] at h1; rw [ih h1]
theorem look_mem {β : Type} {m : List (Ky × β)} {k : Ky} {b : β} (h : Df.look m k = some b) : (k, b) ∈ m := by
  induction m with
  | nil => cases h
  | cons e m ih =>
    have h1 : (if e.1 = k then some e.2 else Df.look m k) = some b := h
    split at h1
    · rename_i hk
      cases h1
      rw [← hk]; exact List.mem_cons_self
    · exact List.mem_cons_of_mem _ (ih h1)
def MOk (h : Heap) (m : List (Ky × SV)) : Prop := ∀ e, e ∈ m → (∀ x, x ∈ e.1 → x < 256) ∧ Byts h e.2.1 e.2.2
theorem MOk.fr {h h' : Heap} {m : List (Ky × SV)} (a : MOk h m) (f : Fram nowhere h h') : MOk h' m := fun e he => ⟨(a e he).1, (a e he).2.fr f fun _ => id⟩
theorem MOk.put {h : Heap} {m : List (Ky × SV)} {k : Ky} {b : SV} (a : MOk h m) (hk : ∀ x, x ∈ k → x < 256) (hb : Byts h b.1 b.2) : MOk h (Df.put m k b) := fun e he => by
  rcases put_mem he with rfl | he
  · exact ⟨hk, hb⟩
  · exact a e he
theorem MOk.del {h : Heap} {m : List (Ky × SV)} {k : Ky} (a : MOk h m) : MOk h (Df.del m k) := fun e he => a e ((del_sub m k).subset he)
structure MapAt (h : Heap) (M : Nat) (m : List (Ky × SV)) : Prop where
  lt : M < h.next
  get : ∃ ver, h.get M = some (.map (mrows sav m) ver)
theorem MapAt.fr {h h' : Heap} {M : Nat} {m : List (Ky × SV)} {S : Nat → Prop} (a : MapAt h M m) (f : Fram S h h') (hs : ¬ S M) : MapAt h' M m :=
  ⟨Nat.lt_of_lt_of_le a.lt f.next, by obtain ⟨v, hv⟩ := a.get; exact ⟨v, (f.same M a.lt hs).trans hv⟩⟩
theorem MapAt.zmap {h : Heap} {M : Nat} {m : List (Ky × SV)} {k : Ky} {A : Prop} (a : MapAt h M m) (hA : A) : ZMap h false M (.str k) A := by
  obtain ⟨v, hv⟩ := a.get
  exact ⟨rfl, a.lt, ⟨_, _, hv, mrows_fit m k⟩, hA⟩
theorem MapAt.upd {h : Heap} {M : Nat} {m m' : List (Ky × SV)} {f : List (AV × AV) → List (AV × AV)} (a : MapAt h M m) (hf : f (mrows sav m) = mrows sav m') : MapAt (hmap h M f) M m' ∧ Fram (fun i => i = M) h (hmap h M f) := by
  obtain ⟨v, hv⟩ := a.get
  have e : hmap h M f = h.put M (some (.map (mrows sav m') (v + 1))) := by unfold hmap; rw [hv]; show h.put M _ = _; rw [hf]
  rw [e]
  exact ⟨⟨a.lt, _, put_get_self _ _ _⟩, Fram.put h _ fun _ => rfl⟩
theorem MapAt.zlook {h : Heap} {M : Nat} {m : List (Ky × SV)} {k : Ky} {A : AV → Prop} {B : Prop} (a : MapAt h M m) (hA : ∀ b, Df.look m k = some b → A b.1.av) (hB : Df.look m k = none → B) : ZLook h false M (.str k) A B := by
  obtain ⟨v, hv⟩ := a.get
  refine ⟨fun e => (by cases e), fun _ => ⟨_, _, hv, mrows_fit m k, fun w hw => ?_, fun hw => ?_⟩⟩
  · rw [mlook_rows] at hw
    obtain ⟨b, h1, h2⟩ := Option.map_eq_some_iff.1 hw
    rw [← h2]; exact hA b h1
  · rw [mlook_rows] at hw
    exact hB (Option.map_eq_none_iff.1 hw)
section
variable {lf n : Nat} {h : Heap} {K : ZK} {X : List ER} {Y : List CR} {a c : SL}
structure Ap (h0 h : Heap) (M : Nat) (m : List (Ky × SV)) : Prop where
  at' : MapAt h M m
  ok : MOk h m
  rise : Rise Prod.fst m
  fr : Fram nowhere h0 h
  le : h0.next ≤ M
theorem Ap.go {h0 h h' : Heap} {M : Nat} {m : List (Ky × SV)} (s : Ap h0 h M m) (f : Fram nowhere h h') : Ap h0 h' M m := ⟨s.at'.fr f id, s.ok.fr f, s.rise, s.fr.trans f, s.le⟩
theorem byts_ne {h : Heap} {s : SL} {k : Ky} {M : Nat} {es : List (AV × AV)} {v : Nat} (b : Byts h s k) (hM : h.get M = some (.map es v)) (e : s.nil = false) : s.i ≠ M := fun e2 => by
  obtain ⟨c, hc, _⟩ := b.seg.src e
  unfold cellsAt at hc
  rw [e2, hM] at hc
  cases hc
theorem byts_map {h : Heap} {M : Nat} {s : SL} {k : Ky} (b : Byts h s k) {h' : Heap} (f : Fram (fun i => i = M) h h') {m : List (Ky × SV)} (a : MapAt h M m) : Byts h' s k := by
  obtain ⟨v, hv⟩ := a.get
  exact b.fr f fun e => byts_ne b hv e
theorem Ap.put {h0 h : Heap} {M : Nat} {m : List (Ky × SV)} {k : Ky} {b : SV} (s : Ap h0 h M m) (hk : ∀ x, x ∈ k → x < 256) (hb : Byts h b.1 b.2) : Ap h0 (hmap h M (mset (.str k) b.1.av)) M (Df.put m k b) := by
  obtain ⟨a1, f1⟩ := s.at'.upd (m' := Df.put m k b) (f := mset (.str k) b.1.av) (mset_rows (av := sav) s.rise)
  exact ⟨a1, fun e he => ⟨((s.ok.put hk hb) e he).1, byts_map ((s.ok.put hk hb) e he).2 f1 s.at'⟩, put_rise s.rise, s.fr.back f1 fun i hi e => by have := s.le; omega, s.le⟩
theorem Ap.del {h0 h : Heap} {M : Nat} {m : List (Ky × SV)} {k : Ky} (s : Ap h0 h M m) : Ap h0 (hmap h M (mdelete (.str k))) M (Df.del m k) := by
  obtain ⟨a1, f1⟩ := s.at'.upd (m' := Df.del m k) (f := mdelete (.str k)) mdelete_rows
  exact ⟨a1, fun e he => ⟨(s.ok.del e he).1, byts_map (s.ok.del e he).2 f1 s.at'⟩, del_rise s.rise, s.fr.back f1 fun i hi e => by have := s.le; omega, s.le⟩
structure OwM (h0 h : Heap) (s : SL) (k : Ky) : Prop where
  byts : Byts h s k
  own : s.nil = false → h0.next ≤ s.i ∧ s.o = 0 ∧ ∃ e g m, h.get s.i = some (.cells (ofBytes k) e g m)
theorem OwM.fr {h0 h h' : Heap} {s : SL} {k : Ky} {S : Nat → Prop} (x : OwM h0 h s k) (f : Fram S h h') (hs : s.nil = false → ¬ S s.i) : OwM h0 h' s k :=
  ⟨x.byts.fr f hs, fun e => by
    obtain ⟨h1, h2, a, b, c, h3⟩ := x.own e
    exact ⟨h1, h2, a, b, c, (f.same _ (x.byts.seg.lt e) (hs e)).trans h3⟩⟩
theorem own_om {h0 h : Heap} {s : SL} {k : Ky} (x : Own h0 h s k) : OwM h0 h s k := ⟨x.byts, fun e => by obtain ⟨a, b, c, d, e⟩ := x.own e; exact ⟨a, b, c, d, false, e⟩⟩
theorem OwM.of {h0 h1 h : Heap} {s : SL} {k : Ky} (x : OwM h1 h s k) (hn : h0.next ≤ h1.next) : OwM h0 h s k := ⟨x.byts, fun e => by obtain ⟨a, b, c⟩ := x.own e; exact ⟨Nat.le_trans hn a, b, c⟩⟩
theorem row_neM {h0 gB : Heap} {s t : SL} {k : Ky} {q : Nat} {R : List ER} (g : Grown gB h s 2 q (R.flatMap ER.row)) (hy : R ≠ []) (w : OwM h0 h t k) (hs : s.nil = false) (ht : t.nil = false) : t.i ≠ s.i := by
  intro e
  obtain ⟨_, _, e1, g1, m1, hg⟩ := w.own ht
  rcases g.2 with ⟨_, rfl⟩ | ⟨_, _, _, _, _, _, _, h8⟩
  · cases hs
  · rw [e, h8] at hg
    cases R with
    | nil => exact hy rfl
    | cons y ys =>
      simp only [Option.some.injEq, AObj.cells.injEq] at hg
      have h1 := hg.1
      rw [List.flatMap_cons, ofBytes_eq] at h1
      cases k with
      | nil => cases h1
      | cons b k =>
        simp only [ER.row, List.cons_append, List.map_cons, List.cons.injEq] at h1
        have h2 := h1.1
        unfold SL.av at h2
        cases hn : y.ks.nil <;> rw [hn] at h2
        · cases h2
        · cases he : y.ks.ext <;> rw [he] at h2 <;> cases h2
def ER.Om (h0 h : Heap) (x : ER) : Prop := OwM h0 h x.ks x.e.1 ∧ OwM h0 h x.vs x.e.2
theorem ER.Om.ok {h0 h : Heap} {x : ER} (a : x.Om h0 h) : x.Ok h := ⟨a.1.byts, a.2.byts⟩
theorem tail_ok {h0 : Heap} {M : Nat} {m : List (Ky × SV)} {z : ZT} (hz : ZAt 91 [(6, .mp false M)] z) (s : Ap h0 h M m) (hlen : m.length < 8589934592) (hlf : m.length < lf) (hsm : ∀ e, e ∈ m → e.1.length ≤ 4294967296 ∧ e.2.2.length ≤ 4294967296)
    (hk : ∀ h' s R gB, Fram nowhere h0 h' → h0.next ≤ gB.next → Grown gB h' s 2 R.length (R.flatMap ER.row) → (∀ x, x ∈ R → x.Om gB h') → ents R = cont m → K (.tup [.sl s, .int .i64 0]) h') :
    zAt Try.prog (zCall Try.prog SD lf (n + 5)) lf 19 [1, 1, 1, 1] z (zFin Try.prog 19 K) ⟨[], zFin Try.prog 19 K⟩ h := by
  refine zAt_of _ hz fun d => (apply_a1111 _ _ _ _ _ _ _).mpr ?_
  refine zCall_at (f := 37) (n := n + 4) (hSD (by decide) (by decide)) (by kernel_rfl) ?_
  rw [keys_nf]
  have f1 : Fram nowhere h (h.newO (.cells [AV.map M] 0 false false)) := Fram.newO _ _ _
  have v1 := Var.new h [AV.map M]
  have s1 := s.go f1
  show zCall Try.prog SD lf (n + 5) 36 [.any (ZV.fn (.plain (.func 46)) [] [.pv false h.next 0]).av] _ (h.newO (.cells [AV.map M] 0 false false))
  have eav : (ZV.fn (.plain (.func 46)) [] [.pv false h.next 0]).av = .func (.plain (.func 46)) [] [.ptr h.next 0] := by simp
  rw [eav]
  generalize h.newO (.cells [AV.map M] 0 false false) = h1 at f1 v1 s1 ⊢
  obtain ⟨ver, hM⟩ := s1.at'.get
  refine sorted_ok v1 hM s1.at'.lt hlen hlf s1.rise (fun e he => (s1.ok e he).1) fun h2 ks f2 sg => ?_
  rw [av_sl]
  refine zRL_of ?_
  have s2 := s1.go f2
  have kl := sg.len
  simp only [List.length_map, Nat.mul_one] at kl
  have ek : (Int.ofNat ks.n : Int) = ks.n := rfl
  refine ZLoop.inv (fun q z h' => ∃ (j : Nat) (o : SL) (R : List ER), ZAt 91 [(6, .mp false M), (13, .sl o), (73, .sl ks), (74, .int .i64 (Int.ofNat ks.n)), (75, .int .i64 (j : Int))] z ∧ Fram nowhere h2 h' ∧ Grown h2 h' o 2 R.length (R.flatMap ER.row) ∧ (∀ x, x ∈ R → x.Om h2 h') ∧ (o.nil = false → R ≠ []) ∧ j + q = m.length ∧ ents R = (cont m).take j) (n := m.length) hlf
    ⟨0, nilSL, [], ⟨rfl, rfl, rfl, rfl, rfl, rfl, trivial⟩, Fram.refl _ _, Grown.start _ _ _, fun x hx => (by cases hx), fun e => (by cases e), by omega, rfl⟩ ?_
  rintro q z h3 kk hq ⟨j, o, R, hz, f3, g, hR, hne, hj, heq⟩ ih
  refine zAt_of _ hz fun d => (apply_l111110100 _ _ _ _ _ _ _ _ _ _ _ _ _ _).mpr ?_
  have f3n := f3.next
  rw [cnd_dec]
  refine ⟨fun e => ?_, fun e => ?_⟩
  · have hjm : j < m.length := by omega
    obtain ⟨e1, he1⟩ : ∃ e, m[j]? = some e := ⟨_, List.getElem?_eq_getElem hjm⟩
    have hem := List.mem_of_getElem? he1
    have hRl : R.length = j := by
      have := congrArg List.length heq
      simp only [ents, cont, List.length_map, List.length_take] at this; omega
    have kn : ks.nil = false := by
      cases hn : ks.nil with
      | false => rfl
      | true => rw [SL.n_nil hn] at kl; omega
    have kl2 := SL.n_of kn
    have sg3 := sg.fr f3 fun _ => id
    have hcell : cellAt h3 ks.i (ks.o + j * 1) = some (.str e1.1) := by
      rw [Nat.mul_one]
      exact sg3.at' kn (by rw [List.getElem?_map, List.getElem?_map, he1]; rfl)
    refine ⟨kn, zIdx_nat.2 ⟨by omega, rfl, ⟨e1.1, hcell, ?_⟩⟩⟩
    have f4 : Fram nowhere h3 (h3.newO (.cells (ofBytes e1.1) 1 true true)) := Fram.newO _ _ _
    have s4 := (s2.go f3).go f4
    have hb1 := (s4.ok e1 hem).1
    have kb : Byts (h3.newO (.cells (ofBytes e1.1) 1 true true)) ⟨false, h3.next, 0, e1.1.length, e1.1.length, true⟩ e1.1 :=
      ⟨Seg.own (more := []) (by rw [ofBytes_length, Nat.mul_one]) (Nat.lt_succ_self _) (by rw [List.append_nil]; exact newO_get_self _ _), hb1⟩
    have hlk : Df.look m e1.1 = some e1.2 := by
      obtain ⟨p, r, hpr, hpl⟩ : ∃ p r, m = p ++ e1 :: r ∧ p.length = j := by
        refine ⟨m.take j, m.drop (j + 1), ?_, by simp; omega⟩
        have : m.drop j = e1 :: m.drop (j + 1) := by
          rw [List.drop_eq_getElem_cons hjm]; congr 1; exact (List.getElem?_eq_some_iff.1 he1).2
        rw [← this, List.take_append_drop]
      have hr := s.rise
      rw [hpr] at hr ⊢
      rw [look_mid fun x hx => (List.pairwise_append.1 hr).2.2 x hx e1 List.mem_cons_self]
      show (if e1.1 = e1.1 then some e1.2 else _) = _
      rw [if_pos rfl]
    have hn4 : (h3.newO (.cells (ofBytes e1.1) 1 true true)).next = h3.next + 1 := rfl
    have kbg : (h3.newO (.cells (ofBytes e1.1) 1 true true)).get h3.next = some (.cells (ofBytes e1.1) 1 true true) := newO_get_self _ _
    generalize h3.newO (.cells (ofBytes e1.1) 1 true true) = h4 at f4 s4 kb hn4 kbg ⊢
    refine s4.at'.zlook (fun b hb => ?_) fun h0 => by rw [h0] at hlk; cases hlk
    rw [hlk] at hb
    cases hb
    refine zRL_of (clone_ok (s4.ok e1 hem).2 (hsm e1 hem).2 fun h5 s5 f5 w5 => ?_)
    rw [av_sl]
    refine zRL_of ?_
    let y : ER := ⟨⟨false, h3.next, 0, e1.1.length, e1.1.length, true⟩, s5, (e1.1, e1.2.2)⟩
    have hn5 := f5.next
    have yo : y.Om h2 h5 := ⟨(show OwM h2 h4 y.ks y.e.1 from ⟨kb, fun _ => ⟨by show h2.next ≤ h3.next; omega, rfl, 1, true, true, kbg⟩⟩).fr f5 fun _ => id, (own_om w5).of (by omega)⟩
    show ZSrc (h5.newO (.cells y.row 2 false false)) _ 2 fun ds_1 => ZApp Try.prog (h5.newO (.cells y.row 2 false false)) o 51 2 1 ds_1 _
    have f6 : Fram nowhere h5 (h5.newO (.cells y.row 2 false false)) := Fram.newO _ _ _
    have sg6 : Seg (h5.newO (.cells y.row 2 false false)) ⟨false, h5.next, 0, 1, 1, false⟩ 2 y.row := Seg.own (more := []) rfl (Nat.lt_succ_self _) (by rw [List.append_nil]; exact newO_get_self _ _)
    have hn6 : (h5.newO (.cells y.row 2 false false)).next = h5.next + 1 := rfl
    have F6 := (f4.trans f5).trans f6
    have g6 := g.fr F6 fun _ => id
    refine sg6.zsrc (g6.append1 (by omega) (by decide) rfl y.plain (room51 (by omega)) fun g7 f7 _ => zW_iff.2 ?_)
    rw [i64_fit (e := (j : Int) + 1) (by omega) (by omega)]
    have hoi : o.nil = false → h2.next ≤ o.i ∧ o.i < h3.next := fun e => by
      rcases g.2 with ⟨_, rfl⟩ | ⟨_, _, _, _, _, h6', h7', _⟩
      · cases e
      · exact ⟨h6', h7'⟩
    -- bytes' blocks are not the row's
    have keep : ∀ {t : SL} {k : Ky}, OwM h2 (h5.newO (.cells y.row 2 false false)) t k → OwM h2 (happ (h5.newO (.cells y.row 2 false false)) o 2 1 y.row) t k := fun {t k} b => b.fr f7 fun e1' ⟨e2, e3⟩ => row_neM g6 (hne e2) b e2 e1' e3
    refine ih (q - 1) _ _ (by omega) ⟨j + 1, o.app (h5.newO (.cells y.row 2 false false)).next 1, R ++ [y], ⟨rfl, rfl, rfl, rfl, rfl, rfl, trivial⟩, (f3.trans F6).back f7 fun i hi ⟨e1, e2⟩ => ?_, ?_, fun w hw => ?_, fun _ => by simp, by omega, ?_⟩
    · have := hoi e1; omega
    · rw [List.length_append, List.flatMap_append]
      have : List.flatMap ER.row [y] = y.row := by simp
      rw [this]; exact g7
    · rcases List.mem_append.1 hw with h8 | h8
      · exact ⟨keep (((hR w h8).1.fr F6 fun _ => id)), keep (((hR w h8).2.fr F6 fun _ => id))⟩
      · rw [List.mem_singleton.1 h8]
        exact ⟨keep (yo.1.fr f6 fun _ => id), keep (yo.2.fr f6 fun _ => id)⟩
    · have : (cont m)[j]? = some (e1.1, e1.2.2) := by unfold cont; rw [List.getElem?_map, he1]; rfl
      rw [List.take_add_one, this]
      show (R ++ [y]).map ER.e = _
      rw [List.map_append]
      show ents R ++ _ = _
      rw [heq]; rfl
  · refine zAt_of (n := 91) [(13, .sl o)] ⟨rfl, rfl, trivial⟩ fun d' => (apply_a111111 _ _ _ _ _ _).mpr ?_
    rw [List.take_of_length_le (by unfold cont; simp; omega)] at heq
    exact hk h3 o R h2 (s2.fr.trans f3) s2.fr.next g hR heq
end
end DfN
namespace DfN
open Go Go.X Go.X.Df Go.Proofs
set_option maxRecDepth 100000
section
variable {lf n : Nat} {h : Heap} {K : ZK} {X : List ER} {Y : List CR} {a c : SL}
theorem changes_ok {h0 : Heap} {M : Nat} {m : List (Ky × SV)} {z : ZT} (hz : ZAt 91 [(1, .sl c), (6, .mp false M)] z) (s : Ap h0 h M m) (hc : Chgs h0 c Y) (hs : ∀ y, y ∈ Y → SmallC y.c) (hlen : m.length + Y.length < 8589934592) (hlf : m.length + Y.length < lf) (hsm : ∀ e, e ∈ m → e.1.length ≤ 4294967296 ∧ e.2.2.length ≤ 4294967296)
    (hno : steps (cont m) (Y.map CR.c) = none → ∀ h', Fram nowhere h0 h' → K (.tup [.sl nilSL, .int .i64 1]) h')
    (hk : ∀ r, steps (cont m) (Y.map CR.c) = some r → ∀ h' s R gB, Fram nowhere h0 h' → h0.next ≤ gB.next → Grown gB h' s 2 R.length (R.flatMap ER.row) → (∀ x, x ∈ R → x.Om gB h') → ents R = r → K (.tup [.sl s, .int .i64 0]) h') :
    zAt Try.prog (zCall Try.prog SD lf (n + 5)) lf 19 [1, 1, 1] z (zFin Try.prog 19 K) ⟨[], zFin Try.prog 19 K⟩ h := by
  refine zAt_of _ hz fun d => (apply_a111 _ _ _ _ _ _ _ _).mpr ?_
  have lc := hc.len (by decide)
  have ec : (Int.ofNat c.n : Int) = c.n := rfl
  have LM := s.le
  refine ZLoop.inv (fun q z h' => ∃ (j : Nat) (m' : List (Ky × SV)), ZAt 91 [(6, .mp false M), (30, .sl c), (31, .int .i64 (Int.ofNat c.n)), (32, .int .i64 (j : Int))] z ∧ Ap h0 h' M m' ∧ j + q = Y.length ∧ m'.length ≤ m.length + j ∧ (∀ e, e ∈ m' → e.1.length ≤ 4294967296 ∧ e.2.2.length ≤ 4294967296) ∧
      steps (cont m') ((Y.map CR.c).drop j) = steps (cont m) (Y.map CR.c)) (n := Y.length) (by omega)
    ⟨0, m, ⟨rfl, rfl, rfl, rfl, rfl, trivial⟩, s, by omega, by omega, hsm, rfl⟩ ?_
  clear s hz hsm
  rintro q z h1 kk hq ⟨j, m', hz, s, hj, hml, hsm, heq⟩ ih
  refine zAt_of _ hz fun d => (apply_l1110100 _ _ _ _ _ _ _ _ _ _ _ _ _).mpr ?_
  rw [cnd_dec]
  refine ⟨fun e => ?_, fun e => ?_⟩
  · have hjy : j < Y.length := by omega
    have hc1 := hc.fr s.fr
    have na := hc.nil_of (by decide) hjy
    have a1 := hc.len' (by decide) na
    obtain ⟨x, hx⟩ : ∃ x, Y[j]? = some x := ⟨_, List.getElem?_eq_getElem hjy⟩
    have hxm := List.mem_of_getElem? hx
    obtain ⟨sk, so, sn⟩ := hs x hxm
    obtain ⟨rk, ro, rn⟩ := hc1.ok x hxm
    have c0 := hc1.at' na hx (q := 0) (by decide) (v := x.ks.av) rfl
    have c1 := hc1.at' na hx (q := 1) (by decide) (v := .bool x.c.had) rfl
    have c2 := hc1.at' na hx (q := 2) (by decide) (v := .bool x.c.has) rfl
    have c3 := hc1.at' na hx (q := 3) (by decide) (v := x.os.av) rfl
    have c4 := hc1.at' na hx (q := 4) (by decide) (v := x.ns.av) rfl
    have hdrop : (Y.map CR.c).drop j = x.c :: (Y.map CR.c).drop (j + 1) := by
      rw [List.drop_eq_getElem_cons (by simpa using hjy)]
      congr 1
      rw [List.getElem_map]
      congr 1
      exact (List.getElem?_eq_some_iff.1 hx).2
    rw [hdrop] at heq
    have hst : steps (cont m') (x.c :: (Y.map CR.c).drop (j + 1)) = (step (cont m') x.c).bind fun m2 => steps m2 ((Y.map CR.c).drop (j + 1)) := rfl
    rw [hst] at heq
    refine ⟨na, zIdx_nat.2 ⟨by omega, rfl, zLdL_of c0 ⟨_, c1, ⟨_, c2, zLdL_of c3 (zLdL_of c4 ⟨rfl, ?_⟩)⟩⟩⟩⟩
    have v1 := Var.new h1 [AV.nils, AV.bool false, AV.bool false, AV.nils, AV.nils]
    have f1 : Fram nowhere h1 (h1.newO (.cells [AV.nils, AV.bool false, AV.bool false, AV.nils, AV.nils] 0 false false)) := Fram.newO _ _ _
    refine v1.zput (by simp) ?_
    rw [show [x.ks.av, AV.bool x.c.had, AV.bool x.c.has, x.os.av, x.ns.av] = x.row from rfl]
    have v2 : Var (hput (h1.newO (.cells [AV.nils, AV.bool false, AV.bool false, AV.nils, AV.nils] 0 false false)) h1.next 0 x.row) h1.next x.row := Var.put_all v1 rfl
    have f2 := Fram.back f1 (v1.put_fr 0 x.row) fun i hi e => by omega
    generalize hput (h1.newO (.cells [AV.nils, AV.bool false, AV.bool false, AV.nils, AV.nils] 0 false false)) h1.next 0 x.row = h2 at v2 f2 ⊢
    clear v1 f1
    have s2 := s.go f2
    have rk2 := rk.fr f2 fun _ => id
    have ro2 := ro.fr f2 fun _ => id
    have rn2 := rn.fr f2 fun _ => id
    have hl := cont_look m' x.c.k
    have hw : IntKind.i64.wrap ((j : Int) + 1) = (j : Int) + 1 := i64_fit (by omega) (by omega)
    have putlen : ∀ b : SV, (Df.put m' x.c.k b).length ≤ m'.length + 1 := fun b => by
      have : ∀ m : List (Ky × SV), (Df.put m x.c.k b).length ≤ m.length + 1 := fun m => by
        induction m with
        | nil => exact Nat.le_refl _
        | cons e m ih =>
          show (if e.1 = x.c.k then (x.c.k, b) :: m else if bytesLt x.c.k e.1 then (x.c.k, b) :: e :: m else e :: Df.put m x.c.k b).length ≤ _
          split
          · simp
          · split
            · simp
            · simp; exact ih
      exact this m'
    -- a value is put, or a key goes
    have goput : ∀ h3, Ap h0 h3 M m' → Byts h3 x.ns x.c.new → step (cont m') x.c = some (Df.put (cont m') x.c.k x.c.new) → ∀ z, ZAt 91 [(6, .mp false M), (30, .sl c), (31, .int .i64 (Int.ofNat c.n)), (32, .int .i64 ((j : Int) + 1))] z → kk z (hmap h3 M (mset (.str x.c.k) x.ns.av)) := by
      intro h3 s3 b3 hstep z hz
      rw [hstep, Option.bind_some] at heq
      refine ih (q - 1) _ _ (by omega) ⟨j + 1, Df.put m' x.c.k (x.ns, x.c.new), hz, s3.put (b := (x.ns, x.c.new)) rk.byte b3, by omega, by have := putlen (x.ns, x.c.new); omega, fun e he => ?_, ?_⟩
      · rcases put_mem he with rfl | he
        · exact ⟨sk, sn⟩
        · exact hsm e he
      · rw [cont_put]; exact heq
    have godel : ∀ h3, Ap h0 h3 M m' → step (cont m') x.c = some (Df.del (cont m') x.c.k) → ∀ z, ZAt 91 [(6, .mp false M), (30, .sl c), (31, .int .i64 (Int.ofNat c.n)), (32, .int .i64 ((j : Int) + 1))] z → kk z (hmap h3 M (mdelete (.str x.c.k))) := by
      intro h3 s3 hstep z hz
      rw [hstep, Option.bind_some] at heq
      refine ih (q - 1) _ _ (by omega) ⟨j + 1, Df.del m' x.c.k, hz, s3.del, by omega, ?_, fun e he => hsm e ((del_sub m' x.c.k).subset he), ?_⟩
      · have := (del_sub m' x.c.k).length_le; omega
      · rw [cont_del]; exact heq
    have fail : step (cont m') x.c = none → ∀ h3, Fram nowhere h0 h3 → K (.tup [.sl nilSL, .int .i64 1]) h3 := fun hstep h3 f3 => by
      rw [hstep, Option.bind_none] at heq
      exact hno heq.symm h3 f3
    refine ⟨rfl, rfl, v2.ldL x.ks rfl (rk2.zbytes (s2.at'.zlook (fun b hb => ?_) fun hb => ?_))⟩
    · rw [hb, Option.map_some] at hl
      refine zRL_of ⟨rfl, rfl, v2.ldB x.c.had rfl ?_⟩
      have hstep : step (cont m') x.c = if x.c.had = true ∧ b.2 = x.c.old then some (if x.c.has = true then Df.put (cont m') x.c.k x.c.new else Df.del (cont m') x.c.k) else none := by
        unfold Df.step; rw [hl]
      cases hh : x.c.had with
      | false =>
        rw [decide_eq_false (by simp), Bool.not_false, cnd_tP]
        exact fail (by rw [hstep, if_neg (by rw [hh]; simp)]) _ s2.fr
      | true =>
        rw [decide_eq_true rfl, Bool.not_true, cnd_fP]
        have hbm := look_mem hb
        refine ⟨rfl, rfl, v2.ldL x.os rfl (equal_ok (s2.ok _ hbm).2 ro2 ?_)⟩
        rw [av_bool]
        refine zRB_av.2 ?_
        rw [cnd_f, cnd_t]
        by_cases hv : b.2 = x.c.old
        · rw [decide_eq_true hv, Bool.not_true, cnd_fP]
          rw [if_pos ⟨hh, hv⟩] at hstep
          refine ⟨rfl, rfl, v2.ldB x.c.has rfl ?_⟩
          cases ha : x.c.has with
          | true =>
            rw [ha, if_pos rfl] at hstep
            rw [cnd_tP]
            refine ⟨rfl, rfl, v2.ldL x.ks rfl (rk2.zbytes ⟨rfl, rfl, v2.ldL x.ns rfl (s2.at'.zmap (zW_iff.2 ?_))⟩)⟩
            rw [hw]
            exact goput h2 s2 rn2 hstep _ ⟨rfl, rfl, rfl, rfl, rfl, trivial⟩
          | false =>
            rw [ha, if_neg (by simp)] at hstep
            rw [cnd_fP]
            refine ⟨rfl, rfl, v2.ldL x.ks rfl (rk2.zbytes (s2.at'.zmap (zW_iff.2 ?_)))⟩
            rw [hw]
            exact godel h2 s2 hstep _ ⟨rfl, rfl, rfl, rfl, rfl, trivial⟩
        · rw [decide_eq_false hv, Bool.not_false, cnd_tP]
          exact fail (by rw [hstep, if_neg fun e => hv e.2]) _ s2.fr
    · rw [hb, Option.map_none] at hl
      refine ⟨rfl, rfl, v2.ldB x.c.had rfl ?_⟩
      have hstep : step (cont m') x.c = if x.c.had = true then none else some (if x.c.has = true then Df.put (cont m') x.c.k x.c.new else cont m') := by
        unfold Df.step; rw [hl]
      cases hh : x.c.had with
      | true =>
        rw [decide_eq_false (by simp), Bool.not_false, cnd_tP]
        exact fail (by rw [hstep, if_pos hh]) _ s2.fr
      | false =>
        rw [decide_eq_true rfl, Bool.not_true, cnd_fP]
        rw [if_neg (by rw [hh]; simp)] at hstep
        refine ⟨rfl, rfl, v2.ldB x.c.has rfl ?_⟩
        cases ha : x.c.has with
        | true =>
          rw [ha, if_pos rfl] at hstep
          rw [cnd_tP]
          refine ⟨rfl, rfl, v2.ldL x.ks rfl (rk2.zbytes ⟨rfl, rfl, v2.ldL x.ns rfl (s2.at'.zmap (zW_iff.2 ?_))⟩)⟩
          rw [hw]
          exact goput h2 s2 rn2 hstep _ ⟨rfl, rfl, rfl, rfl, rfl, trivial⟩
        | false =>
          rw [ha, if_neg (by simp)] at hstep
          rw [cnd_fP]
          refine ⟨rfl, rfl, v2.ldL x.ks rfl (rk2.zbytes (s2.at'.zmap (zW_iff.2 ?_)))⟩
          rw [hw]
          exact godel h2 s2 (by rw [hstep, del_none hl]) _ ⟨rfl, rfl, rfl, rfl, rfl, trivial⟩
  · rw [List.drop_of_length_le (by simp; omega)] at heq
    exact tail_ok ⟨rfl, rfl, trivial⟩ s (by omega) (by omega) hsm fun h' s' R gB f1 f2 f3 f4 f5 => hk _ heq.symm h' s' R gB f1 f2 f3 f4 f5
theorem apply_ok (ha : Ents h a X) (up : Up (ents X)) (sX : ∀ x, x ∈ X → Small x.e) (hc : Chgs h c Y) (hs : ∀ y, y ∈ Y → SmallC y.c) (hlen : X.length + Y.length < 8589934592) (hlf : X.length + Y.length < lf)
    (hno : steps (ents X) (Y.map CR.c) = none → ∀ h', Fram nowhere h h' → K (.tup [.sl nilSL, .int .i64 1]) h')
    (hk : ∀ r, steps (ents X) (Y.map CR.c) = some r → ∀ h' s R gB, Fram nowhere h h' → h.next ≤ gB.next → Grown gB h' s 2 R.length (R.flatMap ER.row) → (∀ x, x ∈ R → x.Om gB h') → ents R = r → K (.tup [.sl s, .int .i64 0]) h') :
    zCall Try.prog SD lf (n + 6) 19 [.sl a, .sl c] K h := by
  refine zCall_at (hSD (by decide) (by decide)) (by kernel_rfl) ?_
  rw [apply_nf]
  have la := ha.len (by decide)
  have ea : (Int.ofNat a.n : Int) = a.n := rfl
  have f0 : Fram nowhere h (h.newO (.map [] 0)) := Fram.newO _ _ _
  refine ZLoop.inv (fun q z h' => ∃ (j : Nat) (m : List (Ky × SV)), ZAt 91 [(1, .sl c), (6, .mp false h.next), (17, .sl a), (18, .int .i64 (Int.ofNat a.n)), (19, .int .i64 (j : Int))] z ∧ Ap h h' h.next m ∧ j + q = X.length ∧ cont m = (ents X).take j) (n := X.length) (by omega)
    ⟨0, [], ⟨rfl, rfl, rfl, rfl, rfl, rfl, trivial⟩, ⟨⟨Nat.lt_succ_self _, 0, newO_get_self _ _⟩, fun e he => (by cases he), List.Pairwise.nil, f0, Nat.le_refl _⟩, by omega, rfl⟩ ?_
  rintro q z h1 kk hq ⟨j, m, hz, s, hj, heq⟩ ih
  refine zAt_of _ hz fun d => (apply_l110100 _ _ _ _ _ _ _ _ _ _ _ _ _ _).mpr ?_
  have hml : m.length = j := by
    have := congrArg List.length heq
    simp only [cont, ents, List.length_map, List.length_take] at this; omega
  rw [cnd_dec]
  refine ⟨fun e => ?_, fun e => ?_⟩
  · have hjx : j < X.length := by omega
    have na := ha.nil_of (by decide) hjx
    have a1 := ha.len' (by decide) na
    obtain ⟨x, hx⟩ : ∃ x, X[j]? = some x := ⟨_, List.getElem?_eq_getElem hjx⟩
    have ha1 := ha.fr s.fr
    obtain ⟨xk, xv⟩ := ha1.ok x (List.mem_of_getElem? hx)
    refine ⟨na, zIdx_nat.2 ⟨by omega, rfl, zLdL_of (ha1.key na hx) (zLdL_of (ha1.val na hx) ⟨rfl, ?_⟩)⟩⟩
    have v1 := Var.new h1 [AV.nils, AV.nils]
    have f1 : Fram nowhere h1 (h1.newO (.cells [AV.nils, AV.nils] 0 false false)) := Fram.newO _ _ _
    refine v1.zput (by simp) ?_
    have v2 : Var (hput (h1.newO (.cells [AV.nils, AV.nils] 0 false false)) h1.next 0 [x.ks.av, x.vs.av]) h1.next [x.ks.av, x.vs.av] := Var.put_all v1 rfl
    have f2 := Fram.back f1 (v1.put_fr 0 [x.ks.av, x.vs.av]) fun i hi e => by omega
    generalize hput (h1.newO (.cells [AV.nils, AV.nils] 0 false false)) h1.next 0 [x.ks.av, x.vs.av] = h2 at v2 f2 ⊢
    clear v1 f1
    have s2 := s.go f2
    refine ⟨rfl, rfl, v2.ldL x.ks rfl ((xk.fr f2 fun _ => id).zbytes ⟨rfl, rfl, v2.ldL x.vs rfl (s2.at'.zmap (zW_iff.2 ?_))⟩)⟩
    rw [i64_fit (e := (j : Int) + 1) (by omega) (by omega), av_sl]
    refine ih (q - 1) _ _ (by omega) ⟨j + 1, Df.put m x.e.1 (x.vs, x.e.2), ⟨rfl, rfl, rfl, rfl, rfl, rfl, trivial⟩, s2.put (b := (x.vs, x.e.2)) xk.byte (xv.fr f2 fun _ => id), by omega, ?_⟩
    rw [cont_put, heq]
    have hxe : (ents X)[j]? = some x.e := by unfold ents; rw [List.getElem?_map, hx]; rfl
    have hsp : ents X = (ents X).take j ++ x.e :: (ents X).drop (j + 1) := by
      have h1 : (ents X).drop j = x.e :: (ents X).drop (j + 1) := by
        rw [List.drop_eq_getElem_cons (by unfold ents; simpa using hjx)]
        congr 1
        exact (List.getElem?_eq_some_iff.1 hxe).2
      rw [← h1, List.take_append_drop]
    have hb : ∀ e, e ∈ (ents X).take j → bytesLt e.1 x.e.1 = true := by
      rw [hsp] at up
      exact Up.below up
    have := put_mid (r := ([] : List (Ky × Ky))) (v := x.e.2) hb
    rw [List.append_nil] at this
    show Df.put ((ents X).take j) x.e.1 x.e.2 = _
    rw [this, List.take_add_one, hxe]
    rfl
  · have ht : cont m = ents X := by rw [heq]; exact List.take_of_length_le (by unfold ents; simp; omega)
    have hsm : ∀ e, e ∈ m → e.1.length ≤ 4294967296 ∧ e.2.2.length ≤ 4294967296 := fun e he => by
      have h2 : (e.1, e.2.2) ∈ cont m := List.mem_map_of_mem (f := fun e : Ky × SV => (e.1, e.2.2)) he
      rw [ht] at h2
      obtain ⟨x, hx, e3⟩ := List.mem_map.1 h2
      have := sX x hx
      rw [e3] at this; exact this
    refine changes_ok ⟨rfl, rfl, rfl, trivial⟩ s hc hs (by omega) (by omega) hsm (fun h5 => ?_) fun r h5 => ?_
    · rw [ht] at h5; exact hno h5
    · rw [ht] at h5; exact hk r h5
end
end DfN
namespace DfN
open Go Go.X Go.X.Df Go.Proofs
set_option maxRecDepth 100000
section
variable {lf n : Nat} {h : Heap} {K : ZK} {Y : List CR} {c : SL}
theorem rising_ok (hc : Chgs h c Y) (hr : Rise Ch.k (Y.map CR.c)) (hg : ∀ y, y ∈ Y → Good y.c) (hlen : Y.length < 8589934592) (hlf : Y.length < lf)
    (hk : ∀ h', Fram nowhere h h' → K (.bool true) h') : zCall Try.prog SD lf (n + 1) 25 [.sl c] K h := by
  refine zCall_at (hSD (by decide) (by decide)) (by kernel_rfl) ?_
  rw [rising_nf]
  have lc := hc.len (by decide)
  have ec : (Int.ofNat c.n : Int) = c.n := rfl
  refine ZLoop.inv (fun q z h' => ∃ j : Nat, ZAt 79 [(0, .sl c), (3, .int .i64 (j : Int))] z ∧ Fram nowhere h h' ∧ j + q = Y.length) (n := Y.length) hlf ⟨0, ⟨rfl, rfl, rfl, trivial⟩, Fram.refl _ _, by omega⟩ ?_
  rintro q z h1 kk hq ⟨j, hz, f, hj⟩ ih
  refine zAt_of _ hz fun d => (rising_l10100 _ _ _ _ _ _ _ _ _ _).mpr ?_
  rw [cnd_dec]
  refine ⟨fun e => ?_, fun e => ?_⟩
  · have hjy : j < Y.length := by omega
    have hc1 := hc.fr f
    have na := hc.nil_of (by decide) hjy
    have a1 := hc.len' (by decide) na
    obtain ⟨x, hx⟩ : ∃ x, Y[j]? = some x := ⟨_, List.getElem?_eq_getElem hjy⟩
    have hxm := List.mem_of_getElem? hx
    have gx := hg x hxm
    obtain ⟨rk, ro, rn⟩ := hc1.ok x hxm
    have c0 := hc1.at' na hx (q := 0) (by decide) (v := x.ks.av) rfl
    have c1 := hc1.at' na hx (q := 1) (by decide) (v := .bool x.c.had) rfl
    have c2 := hc1.at' na hx (q := 2) (by decide) (v := .bool x.c.has) rfl
    have c3 := hc1.at' na hx (q := 3) (by decide) (v := x.os.av) rfl
    have c4 := hc1.at' na hx (q := 4) (by decide) (v := x.ns.av) rfl
    have hprev : ∀ i y, i < j → Y[i]? = some y → bytesLt y.c.k x.c.k = true := fun i y hi hy => by
      have h1 : (Y.map CR.c)[i]? = some y.c := by rw [List.getElem?_map, hy]; rfl
      have h2 : (Y.map CR.c)[j]? = some x.c := by rw [List.getElem?_map, hx]; rfl
      obtain ⟨hi1, e1⟩ := List.getElem?_eq_some_iff.1 h1
      obtain ⟨hj1, e2⟩ := List.getElem?_eq_some_iff.1 h2
      have := List.pairwise_iff_getElem.1 hr i j hi1 hj1 hi
      rwa [e1, e2] at this
    refine ⟨na, zIdx_nat.2 ⟨by omega, rfl, zLdL_of c0 ⟨_, c1, ⟨_, c2, zLdL_of c3 (zLdL_of c4 ⟨rfl, ?_⟩)⟩⟩⟩⟩
    have v1 := Var.new h1 [AV.nils, AV.bool false, AV.bool false, AV.nils, AV.nils]
    have f1 : Fram nowhere h1 (h1.newO (.cells [AV.nils, AV.bool false, AV.bool false, AV.nils, AV.nils] 0 false false)) := Fram.newO _ _ _
    refine v1.zput (by simp) ?_
    have v2 : Var (hput (h1.newO (.cells [AV.nils, AV.bool false, AV.bool false, AV.nils, AV.nils] 0 false false)) h1.next 0 [x.ks.av, AV.bool x.c.had, AV.bool x.c.has, x.os.av, x.ns.av]) h1.next [x.ks.av, AV.bool x.c.had, AV.bool x.c.has, x.os.av, x.ns.av] := Var.put_all v1 rfl
    have f2 := Fram.back f1 (v1.put_fr 0 [x.ks.av, AV.bool x.c.had, AV.bool x.c.has, x.os.av, x.ns.av]) fun i hi e => by omega
    generalize hput (h1.newO (.cells [AV.nils, AV.bool false, AV.bool false, AV.nils, AV.nils] 0 false false)) h1.next 0 [x.ks.av, AV.bool x.c.had, AV.bool x.c.has, x.os.av, x.ns.av] = h2 at v2 f2 ⊢
    clear v1 f1
    have F2 := f.trans f2
    have rk2 := rk.fr f2 fun _ => id
    have ro2 := ro.fr f2 fun _ => id
    have rn2 := rn.fr f2 fun _ => id
    have lo := ro.len
    have ln := rn.len
    have eo : (Int.ofNat x.os.n : Int) = x.os.n := rfl
    have en : (Int.ofNat x.ns.n : Int) = x.ns.n := rfl
    have go : ∀ z, ZAt 79 [(0, .sl c), (3, .int .i64 ((j : Int) + 1))] z → kk z h2 := fun z hz => ih (q - 1) _ _ (by omega) ⟨j + 1, hz, F2, by omega⟩
    have hw : IntKind.i64.wrap ((j : Int) + 1) = (j : Int) + 1 := i64_fit (by omega) (by omega)
    clear ih hz c0 c1 c2 c3 c4
    rw [cnd_dec]
    refine ⟨fun e0 => ?_, fun e0 => ?_⟩
    · have hj1 : j - 1 < Y.length := by omega
      obtain ⟨y, hy⟩ : ∃ y, Y[j - 1]? = some y := ⟨_, List.getElem?_eq_getElem hj1⟩
      have hlt := hprev (j - 1) y (by omega) hy
      have hc2 := hc1.fr f2
      have d0 := hc2.at' na hy (q := 0) (by decide) (v := y.ks.av) rfl
      have yk := (hc2.ok y (List.mem_of_getElem? hy)).1
      refine ⟨rfl, rfl, v2.ldL x.ks rfl (rk2.zbytes (zW_iff.2 ?_))⟩
      rw [i64_fit (e := (j : Int) - 1) (by omega) (by omega), show (j : Int) - 1 = ((j - 1 : Nat) : Int) by omega]
      refine ⟨na, zIdx_nat.2 ⟨by omega, rfl, rfl, zLdL_of d0 (yk.zbytes ?_)⟩⟩
      rw [hlt, Bool.not_true, cnd_t, cnd_fP]
      clear d0 yk hlt
      obtain ⟨ks, os, ns, ⟨kx, had, has, old, new⟩⟩ := x
      cases had with
      | true =>
        refine ⟨rfl, rfl, v2.ldB true rfl ?_⟩
        rw [Bool.not_true, cnd_fP]
        refine ⟨rfl, rfl, v2.ldB true rfl ?_⟩
        rw [cnd_tP]
        cases has with
        | true =>
          refine ⟨rfl, rfl, v2.ldB true rfl ?_⟩
          rw [cnd_tP]
          refine ⟨rfl, rfl, v2.ldL os rfl (ro2.zbytes ⟨rfl, rfl, v2.ldL ns rfl (rn2.zbytes ?_)⟩)⟩
          have hne : ¬ old = new := gx.2.1 rfl rfl
          rw [cnd_f, cnd_t, decide_eq_false hne, cnd_fP]
          refine ⟨rfl, rfl, v2.ldB true rfl ?_⟩
          rw [Bool.not_true, cnd_fP]
          refine ⟨rfl, rfl, v2.ldB true rfl ?_⟩
          rw [Bool.not_true, cnd_fP]
          refine zW_iff.2 ?_
          rw [hw]
          exact go _ ⟨rfl, rfl, rfl, trivial⟩
        | false =>
          have hnew : new = [] := gx.2.2.2 rfl
          subst hnew
          refine ⟨rfl, rfl, v2.ldB false rfl ?_⟩
          rw [cnd_fP]
          refine ⟨rfl, rfl, v2.ldB true rfl ?_⟩
          rw [Bool.not_true, cnd_fP]
          refine ⟨rfl, rfl, v2.ldB false rfl ?_⟩
          rw [Bool.not_false, cnd_tP]
          refine ⟨rfl, rfl, v2.ldL ns rfl ?_⟩
          rw [cnd_f, cnd_t, decide_eq_false (show ¬ (0 : Int) < Int.ofNat ns.n by have h0 : ns.n = 0 := ln; rw [h0]; decide), cnd_fP]
          refine zW_iff.2 ?_
          rw [hw]
          exact go _ ⟨rfl, rfl, rfl, trivial⟩
      | false =>
        have hhas : has = true := by rcases gx.1 with h | h; cases h; exact h
        subst hhas
        have hold : old = [] := gx.2.2.1 rfl
        subst hold
        refine ⟨rfl, rfl, v2.ldB false rfl ?_⟩
        rw [Bool.not_false, cnd_tP]
        refine ⟨rfl, rfl, v2.ldB true rfl ?_⟩
        rw [cnd_f, cnd_t, Bool.not_true, cnd_fP]
        refine ⟨rfl, rfl, v2.ldB false rfl ?_⟩
        rw [cnd_fP]
        refine ⟨rfl, rfl, v2.ldB false rfl ?_⟩
        rw [Bool.not_false, cnd_tP]
        refine ⟨rfl, rfl, v2.ldL os rfl ?_⟩
        rw [cnd_f, cnd_t, decide_eq_false (show ¬ (0 : Int) < Int.ofNat os.n by have h0 : os.n = 0 := lo; rw [h0]; decide), cnd_fP]
        refine ⟨rfl, rfl, v2.ldB true rfl ?_⟩
        rw [Bool.not_true, cnd_fP]
        refine zW_iff.2 ?_
        rw [hw]
        exact go _ ⟨rfl, rfl, rfl, trivial⟩
    · obtain ⟨ks, os, ns, ⟨kx, had, has, old, new⟩⟩ := x
      cases had with
      | true =>
        refine ⟨rfl, rfl, v2.ldB true rfl ?_⟩
        rw [Bool.not_true, cnd_fP]
        refine ⟨rfl, rfl, v2.ldB true rfl ?_⟩
        rw [cnd_tP]
        cases has with
        | true =>
          refine ⟨rfl, rfl, v2.ldB true rfl ?_⟩
          rw [cnd_tP]
          refine ⟨rfl, rfl, v2.ldL os rfl (ro2.zbytes ⟨rfl, rfl, v2.ldL ns rfl (rn2.zbytes ?_)⟩)⟩
          have hne : ¬ old = new := gx.2.1 rfl rfl
          rw [cnd_f, cnd_t, decide_eq_false hne, cnd_fP]
          refine ⟨rfl, rfl, v2.ldB true rfl ?_⟩
          rw [Bool.not_true, cnd_fP]
          refine ⟨rfl, rfl, v2.ldB true rfl ?_⟩
          rw [Bool.not_true, cnd_fP]
          refine zW_iff.2 ?_
          rw [hw]
          exact go _ ⟨rfl, rfl, rfl, trivial⟩
        | false =>
          have hnew : new = [] := gx.2.2.2 rfl
          subst hnew
          refine ⟨rfl, rfl, v2.ldB false rfl ?_⟩
          rw [cnd_fP]
          refine ⟨rfl, rfl, v2.ldB true rfl ?_⟩
          rw [Bool.not_true, cnd_fP]
          refine ⟨rfl, rfl, v2.ldB false rfl ?_⟩
          rw [Bool.not_false, cnd_tP]
          refine ⟨rfl, rfl, v2.ldL ns rfl ?_⟩
          rw [cnd_f, cnd_t, decide_eq_false (show ¬ (0 : Int) < Int.ofNat ns.n by have h0 : ns.n = 0 := ln; rw [h0]; decide), cnd_fP]
          refine zW_iff.2 ?_
          rw [hw]
          exact go _ ⟨rfl, rfl, rfl, trivial⟩
      | false =>
        have hhas : has = true := by rcases gx.1 with h | h; cases h; exact h
        subst hhas
        have hold : old = [] := gx.2.2.1 rfl
        subst hold
        refine ⟨rfl, rfl, v2.ldB false rfl ?_⟩
        rw [Bool.not_false, cnd_tP]
        refine ⟨rfl, rfl, v2.ldB true rfl ?_⟩
        rw [cnd_f, cnd_t, Bool.not_true, cnd_fP]
        refine ⟨rfl, rfl, v2.ldB false rfl ?_⟩
        rw [cnd_fP]
        refine ⟨rfl, rfl, v2.ldB false rfl ?_⟩
        rw [Bool.not_false, cnd_tP]
        refine ⟨rfl, rfl, v2.ldL os rfl ?_⟩
        rw [cnd_f, cnd_t, decide_eq_false (show ¬ (0 : Int) < Int.ofNat os.n by have h0 : os.n = 0 := lo; rw [h0]; decide), cnd_fP]
        refine ⟨rfl, rfl, v2.ldB true rfl ?_⟩
        rw [Bool.not_true, cnd_fP]
        refine zW_iff.2 ?_
        rw [hw]
        exact go _ ⟨rfl, rfl, rfl, trivial⟩
  · exact zAt_of (n := 79) [] ⟨rfl, trivial⟩ fun d' => (rising_a11 _ _ _ _ _).mpr (hk _ f)
end
end DfN
namespace DfN
open Go Go.X Go.X.Df Go.Proofs
set_option maxRecDepth 100000
theorem diff_len : ∀ (a b : List (Ky × Ky)), (diff a b).length ≤ a.length + b.length
  | [], [] => by rw [diff]; simp
  | x :: a, [] => by
    rw [diff]
    have := diff_len a []
    simp only [List.length_cons, List.length_nil] at this ⊢; omega
  | [], y :: b => by
    rw [diff]
    have := diff_len [] b
    simp only [List.length_cons, List.length_nil] at this ⊢; omega
  | x :: a, y :: b => by
    rw [diff]
    have h1 := diff_len a (y :: b)
    have h2 := diff_len a b
    have h3 := diff_len (x :: a) b
    simp only [List.length_cons] at h1 h2 h3 ⊢
    split
    · simp only [List.length_cons]; omega
    · split
      · split
        · omega
        · simp only [List.length_cons]; omega
      · simp only [List.length_cons]; omega
termination_by a b => a.length + b.length
theorem diff_all {P : Ky → Prop} (p0 : P []) : ∀ (a b : List (Ky × Ky)), (∀ x, x ∈ a → P x.1 ∧ P x.2) → (∀ x, x ∈ b → P x.1 ∧ P x.2) → ∀ c, c ∈ diff a b → P c.k ∧ P c.old ∧ P c.new
  | [], [], _, _, c, h => by rw [diff] at h; cases h
  | x :: a, [], ha, hb, c, h => by
    rw [diff] at h
    have hx := ha x List.mem_cons_self
    rcases List.mem_cons.1 h with h | h
    · subst h; exact ⟨hx.1, hx.2, p0⟩
    · exact diff_all p0 a [] (fun z hz => ha z (List.mem_cons_of_mem _ hz)) hb c h
  | [], y :: b, ha, hb, c, h => by
    rw [diff] at h
    have hy := hb y List.mem_cons_self
    rcases List.mem_cons.1 h with h | h
    · subst h; exact ⟨hy.1, p0, hy.2⟩
    · exact diff_all p0 [] b ha (fun z hz => hb z (List.mem_cons_of_mem _ hz)) c h
  | x :: a, y :: b, ha, hb, c, h => by
    rw [diff] at h
    have hx := ha x List.mem_cons_self
    have hy := hb y List.mem_cons_self
    have ha' := fun z hz => ha z (List.mem_cons_of_mem x hz)
    have hb' := fun z hz => hb z (List.mem_cons_of_mem y hz)
    split at h
    · rcases List.mem_cons.1 h with h | h
      · subst h; exact ⟨hx.1, hx.2, p0⟩
      · exact diff_all p0 a (y :: b) ha' hb c h
    · split at h
      · split at h
        · exact diff_all p0 a b ha' hb' c h
        · rcases List.mem_cons.1 h with h | h
          · subst h; exact ⟨hx.1, hx.2, hy.2⟩
          · exact diff_all p0 a b ha' hb' c h
      · rcases List.mem_cons.1 h with h | h
        · subst h; exact ⟨hy.1, p0, hy.2⟩
        · exact diff_all p0 (x :: a) b ha hb' c h
termination_by a b => a.length + b.length
section
variable {lf n : Nat} {h : Heap} {K : ZK} {X Y : List ER} {a b : SL}
theorem SD7 : SD 7 = some (fun args K h => args = [] ∧ K (.bool true) h) := by
  unfold SD orZ trueZ; rfl
theorem shown_ok (k : K (.bool true) h) : zCall Try.prog SD lf (n + 1) 7 [] K h := zCall_sum (by kernel_rfl) SD7 ⟨rfl, k⟩
theorem zRT_li {s : SL} {i : Int} {Q : SL → Int → Prop} (k : Q s i) : ZRT (ZV.tup [.sl s, .int .i64 i]).av 2 fun f => ZRL (f 0) fun s => ZRI (f 1) .i64 fun m => Q s m := by
  rw [av_tup, avs_cons, avs_cons, avs_nil, av_int, av_sl]
  exact zRT_two (zRL_of (zRI_av.2 k))
theorem ents_small {X : List ER} (h : ∀ x, x ∈ X → Small x.e) : ∀ x, x ∈ ents X → x.1.length ≤ 4294967296 ∧ x.2.length ≤ 4294967296 := fun x hx => by
  obtain ⟨e, he, rfl⟩ := List.mem_map.1 hx
  exact h e he
theorem small_ents {X Y : List ER} (e : ents X = ents Y) (h : ∀ x, x ∈ Y → Small x.e) : ∀ x, x ∈ X → Small x.e := fun x hx => by
  have : x.e ∈ ents X := List.mem_map_of_mem hx
  rw [e] at this
  exact ents_small h _ this
theorem law_ok (ha : Ents h a X) (hb : Ents h b Y) (wX : ∀ x, x ∈ X → Wide x.e) (wY : ∀ x, x ∈ Y → Wide x.e) (lX : X.length ≤ 281474976710656) (lY : Y.length ≤ 281474976710656) (hlf : 1125899906842624 < lf) :
    zCall Try.prog SD lf (n + 7) 6 [.sl a, .sl b] (fun v _ => v.av = .bool true) h := by
  refine zCall_at (hSD (by decide) (by decide)) (by kernel_rfl) ?_
  rw [there_nf]
  refine shown_ok ?_
  rw [av_bool]
  refine zRB_av.2 (weight_ok ha wX lX (by omega) fun w1 w10 w11 fX => ?_)
  rw [av_int]
  refine zRI_av.2 (weight_ok hb wY lY (by omega) fun w2 w20 w21 fY => ?_)
  rw [av_int]
  refine zRI_av.2 (zW_iff.2 ?_)
  rw [i64_fit (e := w1 + w2) (by omega) (by omega), cnd_dec]
  refine ⟨fun _ => av_bool true, fun hw => ?_⟩
  obtain ⟨nX, sX⟩ := fX (by omega)
  obtain ⟨nY, sY⟩ := fY (by omega)
  have sX : ∀ x, x ∈ X → Small x.e := fun x hx => by have := sX x hx; exact ⟨by omega, by omega⟩
  have sY : ∀ x, x ∈ Y → Small x.e := fun x hx => by have := sY x hx; exact ⟨by omega, by omega⟩
  refine risen_ok ha (by omega) (by omega) fun h1 s1 f1 e1 o1 => ?_
  rw [av_sl]
  refine zRL_of (risen_ok (hb.fr f1) (by omega) (by omega) fun h2 s2 f2 e2 o2 => ?_)
  rw [av_sl]
  refine zRL_of ?_
  have e1' := e1.fr f2
  have uA : Up (ents (risenR none X)) := by rw [risenR_ents]; exact risen_up _
  have uB : Up (ents (risenR none Y)) := by rw [risenR_ents]; exact risen_up _
  have lA := (risenR_sub X none).length_le
  have lB := (risenR_sub Y none).length_le
  have sA : ∀ x, x ∈ risenR none X → Small x.e := fun x hx => sX x ((risenR_sub X none).subset hx)
  have sB : ∀ x, x ∈ risenR none Y → Small x.e := fun x hx => sY x ((risenR_sub Y none).subset hx)
  generalize risenR none X = A at e1' uA lA sA
  generalize risenR none Y = B at e2 uB lB sB
  have lE : ∀ Z : List ER, (ents Z).length = Z.length := fun Z => by unfold ents; simp
  have smD : ∀ c, c ∈ diff (ents A) (ents B) → SmallC c := fun c hc => diff_all (P := fun k => k.length ≤ 4294967296) (by simp) _ _ (ents_small sA) (ents_small sB) c hc
  have dl := diff_len (ents A) (ents B)
  rw [lE, lE] at dl
  refine lists_ok e1' e2 o1 o2 sA sB (by omega) (by omega) fun h3 s3 ys g3 f3 n3 gr3 ok3 hd => ?_
  rw [av_sl]
  refine zRL_of ?_
  have yl : ys.length ≤ A.length + B.length := by
    have := congrArg List.length hd
    rw [List.length_map] at this; omega
  have c3 : Chgs h3 s3 ys := gr3.rws (fun x _ => rfl) fun x hx => (ok3 x hx).rd
  have ymem : ∀ y, y ∈ ys → y.c ∈ diff (ents A) (ents B) := fun y hy => by rw [← hd]; exact List.mem_map_of_mem hy
  have sc3 : ∀ y, y ∈ ys → SmallC y.c := fun y hy => smD _ (ymem y hy)
  refine rising_ok c3 (by rw [hd]; exact diff_rise _ _ uA uB) (fun y hy => diff_good _ _ _ (ymem y hy)) (by omega) (by omega) fun h4 f4 => ?_
  rw [av_bool]
  refine zRB_av.2 ?_
  have a4 := (e1'.fr f3).fr f4
  have b4 := (e2.fr f3).fr f4
  have c4 := c3.fr f4
  have st1 : steps (ents A) (ys.map CR.c) = some (ents B) := by
    rw [hd]
    have := steps_diff (ents A) (ents B) [] uA uB
    exact this
  refine apply_ok a4 uA sA c4 sc3 (by omega) (by omega) (fun hn => by rw [st1] at hn; cases hn) fun r hr h5 s5 R gB f5 n5 gr5 ok5 hR => ?_
  rw [st1] at hr
  cases hr
  refine zRT_li ?_
  have r5 : Ents h5 s5 R := gr5.rws (fun x _ => rfl) fun x hx => (ok5 x hx).ok
  have lR : R.length = B.length := by rw [← lE R, hR, lE]
  have a5 := a4.fr f5
  have b5 := b4.fr f5
  have c5 := c4.fr f5
  refine back_ok c5 sc3 (by omega) (by omega) fun h6 s6 W f6 gr6 ok6 hW => ?_
  rw [av_sl]
  refine zRL_of ?_
  have lW : W.length = ys.length := by
    have := congrArg List.length hW
    simpa using this
  have hWd : W.map CR.c = diff (ents B) (ents A) := by
    rw [hW, ← back_diff, ← hd, List.map_map]; rfl
  have c6 : Chgs h6 s6 W := gr6.rws (fun x _ => rfl) fun x hx => (ok6 x hx).rd
  have sc6 : ∀ y, y ∈ W → SmallC y.c := fun y hy => by
    have : y.c ∈ diff (ents B) (ents A) := by rw [← hWd]; exact List.mem_map_of_mem hy
    exact diff_all (P := fun k => k.length ≤ 4294967296) (by simp) _ _ (ents_small sB) (ents_small sA) _ this
  have r6 := r5.fr f6
  have uR : Up (ents R) := by rw [hR]; exact uB
  have st2 : steps (ents R) (W.map CR.c) = some (ents A) := by
    rw [hR, hWd]
    exact steps_diff (ents B) (ents A) [] uB uA
  refine apply_ok r6 uR (small_ents hR sB) c6 sc6 (by omega) (by omega) (fun hn => by rw [st2] at hn; cases hn) fun r hr h7 s7 T gB7 f7 n7 gr7 ok7 hT => ?_
  rw [st2] at hr
  cases hr
  refine zRT_li ?_
  have t7 : Ents h7 s7 T := gr7.rws (fun x _ => rfl) fun x hx => (ok7 x hx).ok
  have lT : T.length = A.length := by rw [← lE T, hT, lE]
  have a7 := (a5.fr f6).fr f7
  have b7 := (b5.fr f6).fr f7
  have r7 := r6.fr f7
  refine same_ok r7 b7 (by omega) (by omega) ?_
  rw [av_bool]
  refine zRB_av.2 (same_ok t7 a7 (by omega) (by omega) ?_)
  rw [av_bool]
  refine zRB_av.2 (lists_ok a7 a7 o1 o1 sA sA (by omega) (by omega) fun h8 s8 ys8 g8 f8 n8 gr8 ok8 hd8 => ?_)
  rw [av_sl]
  refine zRL_of ?_
  rw [decide_eq_true hR, decide_eq_true hT]
  have y0 : ys8 = [] := by
    rw [diff_self] at hd8
    exact List.map_eq_nil_iff.1 hd8
  subst y0
  have n0 : s8.n = 0 := gr8.n_eq
  rw [n0]
  simp [cnd]
end
end DfN
