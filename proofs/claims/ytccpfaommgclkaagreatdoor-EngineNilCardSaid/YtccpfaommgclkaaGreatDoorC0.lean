/-
  PROVED: EngineNil's call, from every world that has the program's table. Conditions: the picks are read as a list of whole numbers; awake returns true.
-/
import Derived.Test.YtccpfaommgclkaaGreatDoorL0
import Derived.OpenShut
import Derived.WalkKit
import Derived.RowKitTokens
import Derived.LaidEql
set_option linter.unusedVariables false
set_option linter.unusedSimpArgs false
set_option maxRecDepth 1000000
namespace Go
theorem run_eql_iface_int_same {P : Program} (w : World) {ti tp : TypeId} {ms : Array (String × TypeId)} {i : TypeInfo} {q k : IntKind} (e : Int)
    (hi : P.underlying ti = some (.interface ms)) (hp : P.underlying tp = some (.int q)) (hinfo : P.info? tp = some i) (hcomp : i.comparable = true) :
    (binOp .eql ti (.iface tp (.int k e)) (.iface tp (.int k e))).run P w = .ok (.bool true) w := by
  have h : ∀ d, (Op.equalIn (d + 2) ti (.iface tp (.int k e)) (.iface tp (.int k e))).run P w = .ok true w := fun d => by
    simp [Op.equalIn, run_underlying hi, run_underlying hp, typeInfo, hinfo, hcomp]
  simp only [binOp]
  simp [Op.equal, Op.maxDepth, h 9998]
end Go
namespace EnB
open Go Go.RowKit Go.Extern.Stop Go.Stop Go.Extern Go.Proofs
theorem isTypeOf (v : Value) (w : World) : (Extern.ReflectliteType.typeOf #[.iface 43 v]).run Tryz.prog w = .ok (.iface 223 (.agg #[.pointer (some ⟨3, 43, none⟩)])) w := by kernel_rfl
theorem isComparable (w : World) : ((Extern.ReflectliteType.method fun t => do Extern.Rtype.noPackHeld "Comparable" t; (fun a => Value.bool a.comparable) <$> typeInfo t) #[.agg #[.pointer (some ⟨3, 43, none⟩)]]).run Tryz.prog w = .ok (.bool true) w := by kernel_rfl
theorem isMethodComparable (v : Value) (w : World) : (Go.method 678 223 v "Comparable").run Tryz.prog w = .ok (468, v) w := by kernel_rfl
theorem isComp : (Tryz.prog.info? 43).map (·.comparable) = some true := by kernel_rfl
theorem is_same (e : Int) (w : World) :
    Calls Tryz.prog 24 #[.iface 43 (.int .i64 e), .iface 43 (.int .i64 e)] w fun en w' => en = .returned (.bool true) ∧ w' = w := by
  obtain ⟨i, hi, hcmp⟩ := Option.map_eq_some_iff.1 isComp
  have h8 := @run_callFunc_extern Tryz.prog 60 _ Extern.ReflectliteType.typeOf Tryz.func60 (by kernel_rfl) (by kernel_rfl) (by kernel_rfl) (by kernel_rfl)
  have h32 := @run_callFunc_extern Tryz.prog 468 _ (Extern.ReflectliteType.method fun t => do Extern.Rtype.noPackHeld "Comparable" t; pure (.bool (← typeInfo t).comparable)) Tryz.func468 (by kernel_rfl) (by kernel_rfl) (by kernel_rfl) (by kernel_rfl)
  have tT := isTypeOf
  have cT := isComparable
  have mR := isMethodComparable
  have heq := run_eql_iface_int_same (P := Tryz.prog) w (k := .i64) e Tryz.underlying34 Tryz.underlying43 hi hcmp
  go_enter Tryz.func24, Tryz.ntmps24
  go_wp2
  refine wp_loop_rounds 1 ?_
  rw [rounds_succ]
  go_wp2
  go_ret
  exact ⟨rfl, rfl⟩
end EnB
namespace EnB
open Go Go.X Go.Proofs EnN Go.RowKit
theorem hG : Tryz.prog.globals.size = 3 := by kernel_rfl
theorem hmo : Tryz.prog.follows .mixedOrders = true := by kernel_rfl
theorem gTab : Tryz.prog.globalNamed "math/bits.deBruijn64tab" = some 1 := by kernel_rfl
abbrev tabZ : List Int := [0, 1, 56, 2, 57, 49, 28, 3, 61, 58, 42, 50, 38, 29, 17, 4, 62, 47, 59, 36, 45, 43, 51, 22, 53, 39, 33, 30, 24, 18, 12, 5, 63, 55, 48, 27, 60, 41, 37, 16, 46, 35, 44, 21, 52, 32, 23, 11, 54, 26, 40, 15, 34, 20, 31, 10, 25, 14, 19, 9, 13, 8, 7, 6]
inductive Picks (W : World) (v : Value) : SL → Nat → Nat → Option (List AV) → Prop where
  | none (b : Nat) (hb : b < W.heap.size) (e : v = .slice none 0 0) : Picks W v ⟨true, 0, 0, 0, 0, false⟩ b 0 Option.none
  | emp (b : Nat) (hb : b < W.heap.size) (a : Addr) (c : Nat) (e : v = .slice (some a) 0 c) : Picks W v ⟨true, 0, 0, 0, 0, true⟩ b 0 Option.none
  | ints (b off cap : Nat) (l : List Int) (hl : l ≠ []) (hb : b < W.heap.size) (e : v = .slice (some ⟨b, off, Option.none⟩) l.length cap) (hc : ∃ arr t fr, W.heap[b]? = some (.cells arr t fr) ∧ (arr.toList.drop off).take l.length = l.map (Value.int .i64) ∧ l.length ≤ (arr.toList.drop off).length) :
      Picks W v ⟨false, 3, 0, l.length, cap, false⟩ b off (some (l.map (AV.int .i64)))
theorem picks_of {W : World} (hsz : 3 ≤ W.heap.size) {H : Type} {enc : TypeId × Value → H} {t e : TypeId} {held : Bool} (ht : Tryz.prog.underlying t = some (.slice e)) (he : Tryz.prog.underlying e = some (.int .i64)) (hc : Tryz.prog.cellsOf e = 1) {v : Value} {fuel : Nat} {x : DataW H × List MemPlace}
    (h : DataW.trod enc Tryz.prog W 0 (fun _ => true) held fuel t [v] = some x) : ∃ s b off o, Picks W v s b off o := by
  obtain ⟨s, rows, m, hv, hn, hcell, hrow, hx⟩ := abs_rows ht hc (by decide) h
  have r := absV_VR W.heap.size v
  rw [hv] at r
  obtain ⟨nil, i, o, len, cap, ext⟩ := s
  cases nil with
  | true =>
    cases ext with
    | true =>
      have r : VR (absE W.heap.size) .emp v := r
      cases r with
      | emp a c => exact ⟨_, _, _, _, .emp 0 (by omega) a c rfl⟩
    | false =>
      have r : VR (absE W.heap.size) .nils v := r
      cases r
      exact ⟨_, _, _, _, .none 0 (by omega) rfl⟩
  | false =>
    obtain ⟨hlt, c, el, f, hb, hq⟩ := hcell rfl
    have hlt : i < W.heap.size := hlt
    have hb : W.heap[i]? = some (.cells c el f) := hb
    have hn : len = rows.length := hn
    have key : ∃ c, v = .slice (some ⟨i, o, Option.none⟩) len c := by
      have go : ∀ ext, VR (absE W.heap.size) (.slice i o len cap ext) v → ∃ c, v = .slice (some ⟨i, o, Option.none⟩) len c := by
        intro ext r
        cases r with
        | slice _ _ _ _ _ b x c hb hx hc =>
          have hb : (if i < W.heap.size then some i else Option.none) = some b := hb
          rw [if_pos hlt] at hb
          cases hb
          have hx : x = 0 + o := hx
          rw [Nat.zero_add] at hx
          exact ⟨c, by rw [hx]⟩
      cases ext with
      | true => exact go true r
      | false => exact go false r
    obtain ⟨cc, hvv⟩ := key
    have hone : ∀ r, r ∈ rows → ∃ n, r.1 = [.int .i64 n] := fun r hr => by
      obtain ⟨h1, p, h2⟩ := hrow r hr
      match hr1 : r.1, h1 with
      | [u], _ =>
        rw [hr1] at h2
        obtain ⟨n, rfl, h3, _⟩ := trod_i64 he h2
        exact ⟨n, rfl⟩
    by_cases h0 : rows = []
    · rw [h0] at hn
      have hn : len = 0 := hn
      rw [hn] at hvv
      exact ⟨_, _, _, _, .emp 0 (by omega) _ cc hvv⟩
    · have hll : len = (rows.map fun r => valI r.1).length := by rw [List.length_map]; exact hn
      rw [hll] at hvv
      refine ⟨_, _, _, _, .ints i o cc (rows.map fun r => valI r.1) (fun h => h0 (List.map_eq_nil_iff.1 h)) hlt hvv ⟨c, el, f, hb, ?_⟩⟩
      have := take_drop_of (c := c.toList) (l := (rows.map fun r => valI r.1).map (Value.int .i64)) (o := o) fun j y hy => by
        rw [List.getElem?_map, List.getElem?_map, Option.map_map] at hy
        obtain ⟨r, hr, rfl⟩ := Option.map_eq_some_iff.1 hy
        obtain ⟨u, hu, hcu⟩ := hq j r hr 0 (by decide)
        obtain ⟨n, h1⟩ := hone r (List.mem_of_getElem? hr)
        rw [h1] at hu
        cases hu
        rw [Nat.mul_one, Nat.add_zero] at hcu
        rw [Array.getElem?_toList, hcu]
        show some (Value.int .i64 n) = some (Value.int .i64 (valI r.1))
        rw [h1]; rfl
      rw [List.length_map] at this
      exact this
theorem Picks.vr {W : World} {v : Value} {s : SL} {b off : Nat} {o : Option (List AV)} (p : Picks W v s b off o) : VR (startEk 3 b off) s.av v := by
  cases p with
  | none b hb e => subst e; exact .nils
  | emp b hb a c e => subst e; exact .emp _ _
  | ints b off cap l hl hb e hc =>
    subst e
    exact .slice _ _ _ _ _ b off cap rfl (Nat.add_zero _).symm rfl
theorem Picks.ok {W : World} {v : Value} {s : SL} {b off : Nat} {o : Option (List AV)} (p : Picks W v s b off o) (htab : ∃ t fr, W.heap[1]? = some (.cells (tabZ.map fun z => Value.int .u8 z).toArray t fr)) : KOk W 3 1 b off o := by
  cases p with
  | none b hb e => exact ⟨hb, fun c h => (by cases h), fun c h => (by cases h)⟩
  | emp b hb a c e => exact ⟨hb, fun c h => (by cases h), fun c h => (by cases h)⟩
  | ints b off cap l hl hb e hc =>
    obtain ⟨arr, t, fr, h1, h2, h3⟩ := hc
    have hoff : off ≤ arr.toList.length := by
      rw [List.length_drop] at h3
      have : 0 < l.length := List.length_pos_iff.2 hl
      omega
    refine ⟨hb, fun c _ hb1 => ?_, fun c h => ?_⟩
    · subst hb1
      obtain ⟨t', fr', h4⟩ := htab
      rw [h4] at h1
      cases h1
      match l, hl with
      | n :: l, _ =>
        have h5 : Value.int .i64 n ∈ (((tabZ.map fun z => Value.int .u8 z).toArray.toList.drop off).take (n :: l).length) := by rw [h2]; exact List.mem_cons_self
        have h6 := List.mem_of_mem_drop (List.mem_of_mem_take h5)
        have h7 : Value.int .i64 n ∈ tabZ.map fun z => Value.int .u8 z := h6
        obtain ⟨z, _, h8⟩ := List.mem_map.1 h7
        cases h8
    · cases h
      refine ⟨arr, t, fr, arr.toList.take off, l.map (Value.int .i64), (arr.toList.drop off).drop l.length, h1, ?_, by rw [List.length_take]; omega, VRs_ints .i64 l⟩
      rw [← h2, List.take_append_drop, List.take_append_drop]
theorem law_calls {W : World} (hsz : 3 ≤ W.heap.size) (htab : Lib.TabIs Tryz.prog W "math/bits.deBruijn64tab" .u8 tabZ) (ht : SumsSound Tryz.prog W (trueX 5)) {k pk c : Int} {v : Value} {s : SL} {b off : Nat} {o : Option (List AV)} (p : Picks W v s b off o) :
    Calls Tryz.prog 4 #[.agg #[.int .i64 k, .int .i64 pk, v, .int .i64 c]] W fun e W' => e = .returned (.bool true) ∧ Below W.heap.size W W' := by
  have hrow : ∃ t fr, W.heap[1]? = some (.cells (tabZ.map fun z => Value.int .u8 z).toArray t fr) := by
    have h := htab
    unfold Lib.TabIs World.var? at h
    rw [gTab, Option.bind_some] at h
    split at h
    · rename_i cs t fr hw
      exact ⟨t, fr, by rw [hw, Option.some.inj h]⟩
    · cases h
  have vs : VRs (startEk 3 b off) (avs [.agg [.int .i64 k, .int .i64 pk, .sl s, .int .i64 c]]) (#[.agg #[.int .i64 k, .int .i64 pk, v, .int .i64 c]] : Array Value).toList := by
    rw [avs_cons, avs_nil, av_agg, avs_cons, avs_cons, avs_cons, avs_cons, avs_nil, av_int, av_int, av_int, av_sl]
    exact .cons _ _ _ _ (.agg _ _ (.cons _ _ _ _ (.int _ _) (.cons _ _ _ _ (.int _ _) (.cons _ _ _ _ p.vr (.cons _ _ _ _ (.int _ _) .nil))))) .nil
  have fin : zCall Tryz.prog (Zs pk s.av) 5000 (0 + 12) 4 [.agg [.int .i64 k, .int .i64 pk, .sl s, .int .i64 c]] (fun v _ => v.av = .bool true) (startK 3 1 tabA o) →
      Calls Tryz.prog 4 #[.agg #[.int .i64 k, .int .i64 pk, v, .int .i64 c]] W fun e W' => e = .returned (.bool true) ∧ Below W.heap.size W W' := fun z =>
    lawK_true (G := 3) (g := 1) (sound pk s.av hsz hmo ht is_same) (fits pk s.av) hmo hG (by decide) hsz (by decide) gTab htab (by rfl) (by kernel_rfl) (p.ok hrow) vs z
  by_cases h1 : k = 1
  · by_cases hb : cacB c = true ∧ polB pk s.n = true
    · subst h1; exact fin (law_e pk s o c hb.1 hb.2 5000 0)
    · exact fin (law_bad pk s k c (.inl h1) hb o 5000 0)
  · by_cases h2 : k = 2
    · by_cases hb : cacB c = true ∧ polB pk s.n = true
      · subst h2
        cases p with
        | none b hb0 e => exact fin (law_l0 pk c hb.1 hb.2 5000 0)
        | emp b hb0 a cc e => exact fin (law_l1 pk c hb.1 hb.2 5000 0)
        | ints b off cap l hl hb0 e hc =>
          have hn : l.length ≤ 65536 := by
            have h := hb.2
            unfold polB at h
            have hn : decide (l.length ≤ 65536) = true := by
              cases hd : decide (l.length ≤ 65536) with
              | true => rfl
              | false => rw [show SL.n ⟨false, 3, 0, l.length, cap, false⟩ = l.length from rfl, hd, Bool.and_false, Bool.false_and] at h; cases h
            exact of_decide_eq_true hn
          exact fin (law_l2 pk l cap hl hn c hb.1 hb.2 5000 0)
      · exact fin (law_bad pk s k c (.inr h2) hb o 5000 0)
    · exact fin (law_kind pk s k c h1 h2 o 5000 0)
end EnB
