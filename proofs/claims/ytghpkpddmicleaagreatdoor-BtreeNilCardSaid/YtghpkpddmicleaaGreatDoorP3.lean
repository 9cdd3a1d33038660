/-
  PROVED: 'banyanlaw14.BtreeNil' is true from every world in which shown answers true. Condition: its payload reads as bytes.
-/
import Derived.Test.YtghpkpddmicleaaGreatDoorP2
set_option linter.unusedVariables false
set_option linter.unusedSimpArgs false
set_option maxRecDepth 1000000
namespace BnB
open Go Go.X Go.Proofs Go.RowKit BnN
/-! ### from a world: the table, the payload -/
theorem absV_ext {n : Nat} {v : Value} {i o l c : Nat} {e : Bool} (h : absV n v = .slice i o l c e) : e = false := by
  unfold absV at h
  repeat' (split at h)
  all_goals first | (cases h; done) | (injection h with h1 h2 h3 h4 h5; exact h5.symm)
theorem absV_cap {n l c : Nat} {a : Option Addr} {s : SL} (h : absV n (.slice a l c) = s.av) (hn : s.nil = false) : s.len = l ∧ s.cap = c := by
  obtain ⟨sn, si, so, sl, sc, se⟩ := s
  simp only at hn
  subst hn
  have h' : ∃ e, absV n (.slice a l c) = .slice si so sl sc e := by cases se <;> exact ⟨_, h⟩
  clear h
  obtain ⟨e, h⟩ := h'
  unfold absV at h
  repeat' (split at h)
  all_goals first | (cases h; done) | (rename_i hx _ ; cases hx; cases h; exact ⟨rfl, rfl⟩)
theorem VRs_bytes {E E' : Env} : ∀ (k : List Nat) (l : List Value), VRs E (ofBytes k) l → VRs E' (ofBytes k) l := fun k l h => by
  have e := map_ofBytes_inj h
  subst e
  rw [ofBytes_eq]
  clear h
  induction k with
  | nil => exact .nil
  | cons x k ih => exact .cons _ _ _ _ (.int _ _) ih
def zsT : List Int := [0, 1, 56, 2, 57, 49, 28, 3, 61, 58, 42, 50, 38, 29, 17, 4, 62, 47, 59, 36, 45, 43, 51, 22, 53, 39, 33, 30, 24, 18, 12, 5, 63, 55, 48, 27, 60, 41, 37, 16, 46, 35, 44, 21, 52, 32, 23, 11, 54, 26, 40, 15, 34, 20, 31, 10, 25, 14, 19, 9, 13, 8, 7, 6]
theorem tabA_eq : tabA = zsT.map fun z => AV.int .u8 z := by kernel_rfl
noncomputable def envB (b x : Nat) : Env := ⟨fun i => match i with | 0 => some 0 | 1 => some b | _ => none, fun i => match i with | 1 => x | _ => 0, fun _ => 0⟩
section
variable {W : World}
theorem startB_rel (hG : Tryz.prog.globals.size = 1) (hsz : 1 ≤ W.heap.size) {b x : Nat} {o : Option AObj} (hb : b < W.heap.size) {t : TypeId} {fr : Nat × Nat} (hw : W.heap[0]? = some (.cells (zsT.map fun z => Value.int .u8 z).toArray t fr))
    (ho : ∀ ao, o = some ao → b ≠ 0 ∧ (∃ c, ao = .ro c) ∧ ∃ ob, W.heap[b]? = some ob ∧ OR (envB b x) (H2 o).get (fun b => W.heap[b]?) 1 ao ob) : Rel Tryz.prog W (envB b x) (H2 o) W := by
  have hget : ∀ {i ao}, (H2 o).get i = some ao → (i = 0 ∧ ao = .ro tabA) ∨ (i = 1 ∧ o = some ao) := by
    intro i ao h
    match i, h with
    | 0, h =>
      have h : some (AObj.ro tabA) = some ao := h
      cases h; exact .inl ⟨rfl, rfl⟩
    | 1, h => exact .inr ⟨rfl, h⟩
    | n + 2, h =>
      have h : (none : Option AObj) = some ao := h
      cases h
  refine ⟨fun i ao hi => ?_, fun i j p q c hi hj _ _ h1 h2 => ?_, fun i h1 _ => ?_, fun i c hc => ?_, Below.refl _ _, fun i ao c hi _ _ => ?_, fun i hi => ?_, .inl rfl, .inl rfl⟩
  · rcases hget hi with ⟨rfl, rfl⟩ | ⟨rfl, h⟩
    · exact ⟨0, _, rfl, hw, .ro _ _ _ _ [] (zsT.map fun z => Value.int .u8 z) [] (by simp) rfl (by rw [tabA_eq]; exact VRs_ints _ _)⟩
    · obtain ⟨_, _, ob, e1, e2⟩ := ho ao h
      exact ⟨b, ob, rfl, e1, e2⟩
  · rcases hget hi with ⟨rfl, _⟩ | ⟨rfl, hp⟩
    · rcases hget hj with ⟨rfl, _⟩ | ⟨rfl, hq⟩
      · rfl
      · obtain ⟨hb0, _⟩ := ho q hq
        have h1 : some 0 = some c := h1
        have h2 : some b = some c := h2
        cases h1; cases h2; exact absurd rfl hb0
    · rcases hget hj with ⟨rfl, _⟩ | ⟨rfl, _⟩
      · obtain ⟨hb0, _⟩ := ho p hp
        have h1 : some b = some c := h1
        have h2 : some 0 = some c := h2
        cases h1; cases h2; exact absurd rfl hb0
      · rfl
  · have h1 : 2 ≤ i := h1
    match i, h1 with
    | n + 2, _ => rfl
  · match i, hc with
    | 0, hc => have hc : some 0 = some c := hc; cases hc; omega
    | 1, hc => have hc : some b = some c := hc; cases hc; exact hb
    | n + 2, hc => have hc : (none : Option Nat) = some c := hc; cases hc
  · rcases hget hi with ⟨_, rfl⟩ | ⟨_, h⟩
    · exact .inr ⟨_, rfl⟩
    · obtain ⟨_, ⟨c, rfl⟩, _⟩ := ho ao h
      exact .inr ⟨_, rfl⟩
  · have : i = 0 := by omega
    subst this
    exact ⟨rfl, rfl⟩
theorem lawB_true {S : ZSums} {sums : Sums} (hsum : SumsSound Tryz.prog W sums) (hS : SumFit S sums) (hmo : Tryz.prog.follows .mixedOrders = true) (hG : Tryz.prog.globals.size = 1) (hsz : 1 ≤ W.heap.size)
    (gTab : Tryz.prog.globalNamed "math/bits.deBruijn64tab" = some 0) (htab : Lib.TabIs Tryz.prog W "math/bits.deBruijn64tab" .u8 zsT) {z : Int} {v : Value} {s : SL} {l : List Nat} (hv : absV W.heap.size v = s.av) (hb : Byts (absH W) s l) (hcap : s.nil = false → s.len ≤ s.cap) {lf n : Nat}
    (hz : ∀ o s', Byts (H2 o) s' l → (s'.nil = false → s'.i = 0 ∨ s'.i = 1) → (s'.nil = false → s'.ext = false) → (s'.nil = false → s'.len ≤ s'.cap) → zCall Tryz.prog S lf n 3 [.int .i64 z, .sl s'] (fun v _ => v.av = .bool true) (H2 o)) :
    Calls Tryz.prog 3 #[.int .i64 z, v] W fun e W' => e = .returned (.bool true) ∧ Below W.heap.size W W' := by
  have hrow : ∃ t fr, W.heap[0]? = some (.cells (zsT.map fun z => Value.int .u8 z).toArray t fr) := by
    unfold Lib.TabIs World.var? at htab
    rw [gTab, Option.bind_some] at htab
    split at htab
    · rename_i cs t fr hw
      exact ⟨t, fr, by rw [hw, Option.some.inj htab]⟩
    · cases htab
  obtain ⟨t, fr, hw⟩ := hrow
  have fin : ∀ (o : Option AObj) (s' : SL) (b x : Nat), Byts (H2 o) s' l → (s'.nil = false → s'.i = 0 ∨ s'.i = 1) → (s'.nil = false → s'.ext = false) → (s'.nil = false → s'.len ≤ s'.cap) → VR (envB b x) s'.av v → Rel Tryz.prog W (envB b x) (H2 o) W →
      Calls Tryz.prog 3 #[.int .i64 z, v] W fun e W' => e = .returned (.bool true) ∧ Below W.heap.size W W' := by
    intro o s' b x h1 h2 h3 h4 hvr r
    have hs : (xCall Tryz.prog noHints sums lf n 3 (avs [.int .i64 z, .sl s'])).sat (fun r _ => r = .val (.bool true)) (H2 o) :=
      (zCall_sound hS (lf := lf) n).call 3 _ _ (H2 o) (bodied_lt (by kernel_rfl)) rfl (hz o s' h1 h2 h3 h4) (fun _ => .fail 163) (fun v => .ret (.val v)) (fun r _ => r = .val (.bool true)) fun v h' _ hv => by
        show Res.val v.av = _
        rw [hv]
    have vs : VRs (envB b x) (avs [.int .i64 z, .sl s']) (#[.int .i64 z, v] : Array Value).toList := by
      rw [avs_cons, avs_cons, avs_nil, av_int, av_sl]
      exact .cons _ _ _ _ (.int _ _) (.cons _ _ _ _ hvr .nil)
    refine Calls.mono (xCall_sound hsum (.inr fun _ => Nat.zero_le _) hmo (by kernel_rfl) hs r (vs := #[.int .i64 z, v]) vs) fun e w' ⟨v, E', h', av, e1, s, r, hv, hp⟩ => ?_
    subst e1
    cases hp
    cases hv
    exact ⟨rfl, r.below⟩
  have r0 := absV_VR W.heap.size v
  rw [hv] at r0
  cases hn : s.nil with
  | true =>
    have el := hb.len
    rw [SL.n_nil hn] at el
    refine fin none s 0 0 ⟨⟨by have := hb.seg.len; exact this, fun e => Bool.noConfusion (hn.symm.trans e), fun e => Bool.noConfusion (hn.symm.trans e)⟩, hb.byte⟩ (fun e => Bool.noConfusion (hn.symm.trans e)) (fun e => Bool.noConfusion (hn.symm.trans e)) (fun e => Bool.noConfusion (hn.symm.trans e)) ?_ (startB_rel hG hsz (by omega) hw fun ao h => by cases h)
    obtain ⟨sn, si, so, sl, sc, se⟩ := s
    simp only at hn
    subst hn
    cases se with
    | true =>
      have r0 : VR (absE W.heap.size) .emp v := r0
      cases r0; exact .emp _ _
    | false =>
      have r0 : VR (absE W.heap.size) .nils v := r0
      cases r0; exact .nils
  | false =>
    have hext : s.ext = false := by
      refine absV_ext (n := W.heap.size) (v := v) (i := s.i) (o := s.o) (l := s.len) (c := s.cap) ?_
      rw [hv]
      obtain ⟨sn, si, so, sl, sc, se⟩ := s
      simp only at hn
      subst hn
      cases se <;> rfl
    have hlt : s.i < W.heap.size := hb.seg.lt hn
    obtain ⟨c, c1, c2, c3⟩ := hb.seg.src hn
    have hs' : s = ⟨false, s.i, s.o, s.len, s.cap, false⟩ := by
      obtain ⟨sn, si, so, sl, sc, se⟩ := s
      simp only at hn hext
      subst hn; subst hext; rfl
    have r1 : VR (absE W.heap.size) (.slice s.i s.o s.len s.cap false) v := by
      rw [hs'] at r0; exact r0
    cases r1 with
    | slice _ _ _ _ _ b x cc hbb hx hc =>
    have hbb : (if s.i < W.heap.size then some s.i else none) = some b := hbb
    rw [if_pos hlt] at hbb
    cases hbb
    have hx : x = 0 + s.o := hx
    by_cases h0 : s.i = 0
    · refine fin none ⟨false, 0, s.o, s.len, s.cap, false⟩ 0 0 ⟨⟨by rw [ofBytes_length]; have := hb.len; rw [SL.n_of hn] at this; show l.length = s.len * 1; omega, fun _ => by show 0 < 2; omega, fun _ => ⟨tabA, rfl, ?_⟩⟩, hb.byte⟩ (fun _ => .inl rfl) (fun _ => rfl) (fun _ => hcap hn) ?_ (startB_rel hG hsz (by omega) hw fun ao h => by cases h)
      · have e : c = tabA := by
          unfold cellsAt at c1
          rw [h0] at c1
          rw [absH_cells hw] at c1
          have c1 : some _ = some c := c1
          cases c1
          rw [tabA_eq]
          simp [absV]
        rw [← e]; exact ⟨c2, c3⟩
      · exact .slice _ _ _ _ _ s.i x cc (by rw [h0]; rfl) hx hc
    · have hrd : ∃ cs t fr, W.heap[s.i]? = some (.cells cs t fr) ∧ c = cs.toList.map (absV W.heap.size) := by
        unfold cellsAt at c1
        cases hg : (absH W).get s.i with
        | none => rw [hg] at c1; cases c1
        | some ao =>
          obtain ⟨cs, t, fr, h1, rfl⟩ := absH_get hg
          rw [hg] at c1
          have c1 : some _ = some c := c1
          cases c1
          exact ⟨cs, t, fr, h1, rfl⟩
      obtain ⟨cs, t2, fr2, hw2, rfl⟩ := hrd
      have ln := hb.len
      rw [SL.n_of hn] at ln
      by_cases hl0 : s.len = 0
      · have el : l = [] := List.eq_nil_of_length_eq_zero (by omega)
        subst el
        refine fin (some (.ro [])) ⟨false, 1, s.o, s.len, s.cap, false⟩ s.i 0 ⟨⟨by rw [ofBytes_length]; show 0 = s.len * 1; omega, fun _ => by show 1 < 2; omega, fun _ => ⟨[], rfl, ?_, ?_⟩⟩, hb.byte⟩ (fun _ => .inr rfl) (fun _ => rfl) (fun _ => hcap hn) ?_ (startB_rel hG hsz hlt hw fun ao h => ?_)
        · simp [ofBytes_eq]
        · show s.len * 1 ≤ _
          omega
        · exact .slice _ _ _ _ _ s.i x cc rfl (by show x = 0 + s.o; omega) hc
        · cases h
          exact ⟨h0, ⟨_, rfl⟩, _, hw2, .ro [] cs t2 fr2 [] [] cs.toList rfl rfl .nil⟩
      refine fin (some (.ro (ofBytes l))) ⟨false, 1, 0, s.len, s.cap, false⟩ s.i s.o ⟨⟨by rw [ofBytes_length]; show l.length = s.len * 1; omega, fun _ => by show 1 < 2; omega, fun _ => ⟨ofBytes l, rfl, ?_, ?_⟩⟩, hb.byte⟩ (fun _ => .inr rfl) (fun _ => rfl) (fun _ => hcap hn) ?_ (startB_rel hG hsz hlt hw fun ao h => ?_)
      · show ((ofBytes l).drop 0).take (s.len * 1) = _
        rw [List.drop_zero, List.take_of_length_le (by rw [ofBytes_length]; omega)]
      · show s.len * 1 ≤ ((ofBytes l).drop 0).length
        rw [List.drop_zero, ofBytes_length]; omega
      · exact .slice _ _ _ _ _ s.i x cc rfl (by show x = s.o + 0; omega) hc
      · cases h
        refine ⟨h0, ⟨_, rfl⟩, _, hw2, ?_⟩
        refine .ro (ofBytes l) cs t2 fr2 (cs.toList.take s.o) ((cs.toList.drop s.o).take s.len) ((cs.toList.drop s.o).drop s.len) ?_ ?_ ?_
        · rw [List.take_append_drop, List.take_append_drop]
        · rw [List.length_drop, List.length_map] at c3
          show (cs.toList.take s.o).length = s.o
          rw [List.length_take]
          omega
        · refine VRs_bytes (E := absE W.heap.size) _ _ ?_
          rw [← c2, Nat.mul_one]
          exact ((absVs W.heap.size cs.toList).drop s.o).take s.len
end
end BnB
namespace BnB
open Go Go.X Go.Proofs Go.RowKit BnN
noncomputable def Xs (kd : Nat) (y : Nat → Nat) : Sums := addX 5 [E5_2, E5_159] (addX 7 [E7_2] (addX 8 [E8_4] (addX 23 [E23_136] (addX 22 [E22_140 y] (addX 28 [E28_136] (addX 45 [E45_148] (addX 17 [E17_135, E17_148] (addX 26 [E26_136] (addX 57 [E57_136] (addX 58 [E58_136] (addX 11 [E11_145 kd] (addX 46 [E46_149 y] (byteX 119 SuN.moreK (trueX 4))))))))))))))
theorem ent1 {P : Program} {H : Hints} {S : Sums} {lf n : Nat} {f : FuncId} {a : Ent} (h : entOk P H S lf n f a = true) : ∀ e, e ∈ [a] → entOk P H S lf n f e = true := fun e he => by rw [List.mem_singleton.1 he]; exact h
theorem ent2 {P : Program} {H : Hints} {S : Sums} {lf n : Nat} {f : FuncId} {a b : Ent} (h : entOk P H S lf n f a = true) (k : entOk P H S lf n f b = true) : ∀ e, e ∈ [a, b] → entOk P H S lf n f e = true := fun e he => by
  rcases List.mem_cons.1 he with rfl | he
  · exact h
  · rw [List.mem_singleton.1 he]; exact k
theorem soundB {W : World} (hsz : 1 ≤ W.heap.size) (hmo : Tryz.prog.follows .mixedOrders = true) (ht : SumsSound Tryz.prog W (trueX 4)) (kd : Nat) (y : Nat → Nat) : SumsSound Tryz.prog W (Xs kd y) :=
  have h0 : SumsSound Tryz.prog W S0 := SuN.more_sound noSums hsz
  have hW : 0 < W.heap.size ∨ ∀ f, hints.join f ≤ 1 := .inl (by omega)
  (SumsSound.addI (SumsSound.addI (SumsSound.addI (SumsSound.addI (SumsSound.addI (SumsSound.addI (SumsSound.addI (SumsSound.addI (SumsSound.addI (SumsSound.addI (SumsSound.addI (SumsSound.addI (SumsSound.addI (SuN.more_sound ht hsz) h0 hW hmo (ent1 (ok46_149 y))) h0 hW hmo (ent1 (ok11_145 kd))) h0 hW hmo (ent1 (ok58_136))) h0 hW hmo (ent1 (ok57_136))) h0 hW hmo (ent1 (ok26_136))) h0 hW hmo (ent2 (ok17_135) (ok17_148))) h0 hW hmo (ent1 (ok45_148))) h0 hW hmo (ent1 (ok28_136))) h0 hW hmo (ent1 (ok22_140 y))) h0 hW hmo (ent1 (ok23_136))) h0 hW hmo (ent1 (ok8_4))) h0 hW hmo (ent1 (ok7_2))) h0 hW hmo (ent2 (ok5_2) (ok5_159)))
theorem fitB (kd : Nat) (y : Nat → Nat) : SumFit (Zs kd y) (Xs kd y) := (sumFit_addI (sumFit_addI (sumFit_addI (sumFit_addI (sumFit_addI (sumFit_addI (sumFit_addI (sumFit_addI (sumFit_addI (sumFit_addI (sumFit_addI (sumFit_addI (sumFit_addI (sumFit_byte (true_fit 4) 119 (fun a l k => SuN.moreK_eq a l k)) 46 [E46_149 y]) 11 [E11_145 kd]) 58 [E58_136]) 57 [E57_136]) 26 [E26_136]) 17 [E17_135, E17_148]) 45 [E45_148]) 28 [E28_136]) 22 [E22_140 y]) 23 [E23_136]) 8 [E8_4]) 7 [E7_2]) 5 [E5_2, E5_159])
/-- the law, from every world -/
theorem law_world {W : World} (hsz : 1 ≤ W.heap.size) (hmo : Tryz.prog.follows .mixedOrders = true) (hG : Tryz.prog.globals.size = 1) (ht : SumsSound Tryz.prog W (trueX 4))
    (gTab : Tryz.prog.globalNamed "math/bits.deBruijn64tab" = some 0) (htab : Lib.TabIs Tryz.prog W "math/bits.deBruijn64tab" .u8 zsT) {z : Int} {v : Value} {s : SL} {l : List Nat} (hv : absV W.heap.size v = s.av) (hb : Byts (absH W) s l) (hcap : s.nil = false → s.len ≤ s.cap) :
    Calls Tryz.prog 3 #[.int .i64 z, v] W fun e W' => e = .returned (.bool true) ∧ Below W.heap.size W W' :=
  lawB_true (S := Sx (kdOf z) (Y (kdOf z) (l.take 480)) 5000 10) (sums := addDX Tryz.prog 5000 10 10 (Xs (kdOf z) (Y (kdOf z) (l.take 480))))
    ((soundB hsz hmo ht _ _).addD hmo 5000 10 10) (sumFit_addD (fitB _ _) 5000 10 10) hmo hG hsz gTab htab hv hb hcap (lf := 5000) (n := 15)
    (fun o s' h1 h2 h3 h4 => law_ok (n := 0) h1 h2 h3 h4 (by decide))
end BnB
