/-
  PROVED: 'banyanlaw16.PolicyPlays' returns true, and its arguments read behind the call as they read before, from every world that fits the row and whose arguments are of bulk at most 1048576. Conditions: none but the row's own.
-/
import Derived.Test.YtinihpeddhboeaaPe
import Derived.Test.YtinihpeddhboeaaRows
import Derived.WalkKit
import Derived.ProofKit
import Derived.OpenShut
import Derived.HandedShaped
import Derived.Carry
import Derived.ReadAgain
import Derived.JoinedCond
namespace Go.Proofs.Ytinihpeddhboeaa.policyPlays
open Go.ChangeShapes Go.WideShapes Go.ChangeAt Go.RowKit
set_option linter.unusedVariables false
noncomputable def hints : Go.X.Hints := ⟨fun _ => none, fun _ => 0⟩
theorem runs : Go.X.allTrue ((Go.X.xCall Try.prog hints (fun _ => none) 1000 50 7 []).run 0 (Go.X.startH 0) Go.X.Log.nil) = true := by decide +kernel
theorem shown_calls (W : World) : Calls Try.prog 7 #[] W fun e W' => e = .returned (.bool true) ∧ Below W.heap.size W W' :=
  Go.X.closed_true (G := 0) (by kernel_rfl) (by kernel_rfl) (Nat.zero_le _) (Nat.zero_le _) (by kernel_rfl) Go.X.noSums (.inr fun _ => Nat.zero_le _) runs
theorem law_calls {W : World} {v0 v1 : Value} {p a : Go.X.SL} {pl al : List (Int × List Int)} (h0 : Go.X.absV W.heap.size v0 = p.av) (h1 : Go.X.absV W.heap.size v1 = a.av)
    (hp : PolN.Asks (Go.X.absH W) p pl) (ha : PolN.Asks (Go.X.absH W) a al) (hb : PolN.Small pl) (hb2 : PolN.Small al) :
    Calls Try.prog 6 #[v0, v1] W fun e W' => e = .returned (.bool true) ∧ Below W.heap.size W W' := by
  refine Go.X.law_true (S := PolN.S7) (sums := Go.X.trueX 7) (Go.X.true_sound fun w _ => shown_calls w) (Go.X.true_fit 7) (by kernel_rfl) (by rw [show Try.prog.globals.size = 0 by kernel_rfl]; exact Nat.zero_le _) (lf := 1048590) (n := 6) (by kernel_rfl)
    (args := [.sl p, .sl a]) ?_ (PolN.plays_ok hp ha hb hb2 (Nat.le_refl _))
  have e0 := Go.X.absV_VR W.heap.size v0
  have e1 := Go.X.absV_VR W.heap.size v1
  rw [h0] at e0; rw [h1] at e1
  exact .cons _ _ _ _ (by rw [Go.X.av_sl]; exact e0) (.cons _ _ _ _ (by rw [Go.X.av_sl]; exact e1) .nil)
/-! bulks -/
theorem bulk_all {H : Type} : ∀ {ds : List (DataW H)} {d : DataW H}, d ∈ ds → Rows.uptoBulk d ≤ Rows.uptoBulkAll ds
  | [], _, h => by cases h
  | x :: r, d, h => by
    rw [Rows.uptoBulkAll]
    rcases List.mem_cons.1 h with rfl | h
    · omega
    · have := bulk_all h; omega
theorem bulk_pos {H : Type} (d : DataW H) : 1 ≤ Rows.uptoBulk d := by
  unfold Rows.uptoBulk
  split <;> omega
theorem bulk_len {H : Type} : ∀ (ds : List (DataW H)), ds.length ≤ Rows.uptoBulkAll ds
  | [] => Nat.zero_le _
  | x :: r => by
    rw [Rows.uptoBulkAll]
    have := bulk_pos x
    have := bulk_len r
    simp only [List.length_cons]; omega
theorem bulk_slice {H : Type} (es sp : List (DataW H)) : Rows.uptoBulkAll es ≤ Rows.uptoBulk (.slice es sp) := by
  rw [Rows.uptoBulk]; omega
theorem bulk_agg {H : Type} (es : List (DataW H)) : Rows.uptoBulkAll es ≤ Rows.uptoBulk (.agg es) := by
  rw [Rows.uptoBulk]; omega
theorem cells23 : Try.prog.cellsOf 23 = 1 := by kernel_rfl
theorem cells35 : Try.prog.cellsOf 35 = 2 := by kernel_rfl
theorem cells29 : Try.prog.cellsOf 29 = 1 := by kernel_rfl
theorem cells31 : Try.prog.cellsOf 31 = 2 := by kernel_rfl
theorem cells3 : Try.prog.cellsOf 3 = 1 := by kernel_rfl
section
variable {H : Type} {enc : TypeId × Value → H} {W : World}
/-- an ask: two cells -/
theorem one_ask {m : Nat} {cs : List Value} {d : DataW H} {p : List MemPlace} (hl : cs.length = 2) (h : DataW.trod enc Try.prog W 0 (fun _ => true) true m 35 cs = some (d, p)) :
    ∃ (y : Int × List Int) (wv : Value) (w : Go.X.SL), cs = [.int .i64 y.1, wv] ∧ Go.X.absV W.heap.size wv = w.av ∧ Go.X.Ints (Go.X.absH W) w y.2 ∧ y.2.length ≤ Rows.uptoBulk d ∧ (-9223372036854775808 ≤ y.1 ∧ y.1 ≤ 9223372036854775807) ∧ (∀ m, m ∈ y.2 → -9223372036854775808 ≤ m ∧ m ≤ 9223372036854775807) := by
  match cs, hl with
  | [a, b], _ =>
    obtain ⟨xs, k, _, hx, _, hxl, hxs⟩ := DataW.trod_struct Try.underlying35 h
    have h0 := hxs 0 _ rfl
    have h1 := hxs 1 _ rfl
    obtain ⟨x0, hx0⟩ : ∃ x, xs[0]? = some x := ⟨_, List.getElem?_eq_getElem (by rw [hxl]; decide)⟩
    obtain ⟨x1, hx1⟩ : ∃ x, xs[1]? = some x := ⟨_, List.getElem?_eq_getElem (by rw [hxl]; decide)⟩
    rw [hx0] at h0
    rw [hx1] at h1
    have h0 : DataW.trod enc Try.prog W 0 (fun _ => true) true k 3 [a] = some x0 := by
      have e : (([a, b].drop 0).take (Try.prog.cellsOf 3)) = [a] := by rw [cells3]; rfl
      rw [← e]; exact h0
    have h1 : DataW.trod enc Try.prog W 0 (fun _ => true) true k 23 [b] = some x1 := by
      have e : (([a, b].drop 1).take (Try.prog.cellsOf 23)) = [b] := by rw [cells23]; rfl
      rw [← e]; exact h1
    obtain ⟨n, rfl, hn, _⟩ := Go.X.trod_i64 Try.underlying3 h0
    obtain ⟨w, ws, e1, hw, hwr, hb⟩ := Go.X.abs_ints Try.underlying23 Try.underlying3 cells3 h1
    refine ⟨(n, ws), b, w, rfl, e1, hw, ?_, hn, hwr⟩
    have hd : d = .agg (xs.map (·.1)) := congrArg Prod.fst hx
    have hm : x1.1 ∈ xs.map (·.1) := List.mem_map_of_mem (List.mem_of_getElem? hx1)
    have b1 := bulk_all hm
    have b2 := bulk_agg (xs.map (·.1))
    rw [hd]
    rcases hb with ⟨_, h2⟩ | ⟨es, r, h2, h3⟩
    · show ws.length ≤ _
      rw [h2]; exact Nat.zero_le _
    · show ws.length ≤ _
      rw [h2] at b1
      have b3 := bulk_slice es r
      have b4 := bulk_len es
      omega
/-- a slice of asks -/
theorem abs_asks {v : Value} {fuel : Nat} {x : DataW H × List MemPlace} (h : DataW.trod enc Try.prog W 0 (fun _ => true) true fuel 24 [v] = some x) :
    ∃ (s : Go.X.SL) (al : List (Int × List Int)), Go.X.absV W.heap.size v = s.av ∧ PolN.Asks (Go.X.absH W) s al ∧ al.length ≤ Rows.uptoBulk x.1 ∧ ∀ y, y ∈ al → y.2.length ≤ Rows.uptoBulk x.1 ∧ (-9223372036854775808 ≤ y.1 ∧ y.1 ≤ 9223372036854775807) ∧ (∀ m, m ∈ y.2 → -9223372036854775808 ≤ m ∧ m ≤ 9223372036854775807) := by
  obtain ⟨s, rows, m, hv, hn, hcell, hrow, hx⟩ := Go.X.abs_rows Try.underlying24 cells35 (by decide) h
  obtain ⟨al, hal, hq⟩ := Go.X.list_choose (rows := rows) (Q := fun r (y : Int × List Int) => ∃ (wv : Value) (w : Go.X.SL), r.1 = [.int .i64 y.1, wv] ∧ Go.X.absV W.heap.size wv = w.av ∧ Go.X.Ints (Go.X.absH W) w y.2 ∧ y.2.length ≤ Rows.uptoBulk r.2 ∧ (-9223372036854775808 ≤ y.1 ∧ y.1 ≤ 9223372036854775807) ∧ (∀ m, m ∈ y.2 → -9223372036854775808 ≤ m ∧ m ≤ 9223372036854775807)) fun r hr => by
    obtain ⟨h1, p, h2⟩ := hrow r hr
    exact one_ask h1 h2
  have hd : (rows.map (·.2)).length ≤ Rows.uptoBulk x.1 ∧ ∀ r, r ∈ rows → Rows.uptoBulk r.2 ≤ Rows.uptoBulk x.1 := by
    rcases hx with ⟨h1, h2⟩ | ⟨sp, h1⟩
    · subst h2
      exact ⟨Nat.zero_le _, fun r hr => by cases hr⟩
    · rw [h1]
      have b1 := bulk_slice (rows.map (·.2)) sp
      have b2 := bulk_len (rows.map (·.2))
      refine ⟨by omega, fun r hr => ?_⟩
      have b3 := bulk_all (List.mem_map_of_mem (f := (·.2)) hr)
      omega
  refine ⟨s, al, hv, ⟨hn.trans hal.symm, fun e => (hcell e).1, fun e j y hy => ?_⟩, ?_, fun y hy => ?_⟩
  · obtain ⟨_, c, el, f, hb, hc⟩ := hcell e
    obtain ⟨r, hr⟩ : ∃ r, rows[j]? = some r := ⟨_, List.getElem?_eq_getElem (by rw [← hal]; exact (List.getElem?_eq_some_iff.1 hy).1)⟩
    obtain ⟨y', hy', wv, w, h1, h2, h3, _⟩ := hq j r hr
    rw [hy] at hy'
    cases hy'
    obtain ⟨u0, hu0, hc0⟩ := hc j r hr 0 (by decide)
    obtain ⟨u1, hu1, hc1⟩ := hc j r hr 1 (by decide)
    rw [h1] at hu0 hu1
    cases hu0; cases hu1
    have key : ∀ (o : Nat) (u : Value), c[o]? = some u → Go.X.cellAt (Go.X.absH W) s.i o = some (Go.X.absV W.heap.size u) := fun o u hu => by
      rw [Go.X.cellAt_ro (Go.X.absH_cells hb), List.getElem?_map, Array.getElem?_toList, hu]; rfl
    exact ⟨by rw [← Go.X.absV_int W.heap.size]; exact key _ _ hc0, w, by rw [← h2]; exact key _ _ hc1, h3⟩
  · rw [hal]
    have := hd.1
    rwa [List.length_map] at this
  · obtain ⟨j, hj⟩ := List.mem_iff_getElem?.1 hy
    obtain ⟨r, hr⟩ : ∃ r, rows[j]? = some r := ⟨_, List.getElem?_eq_getElem (by rw [← hal]; exact (List.getElem?_eq_some_iff.1 hj).1)⟩
    obtain ⟨y', hy', wv, w, h1, h2, h3, h4, h5⟩ := hq j r hr
    rw [hj] at hy'
    cases hy'
    exact ⟨Nat.le_trans h4 (hd.2 r (List.mem_of_getElem? hr)), h5⟩
/-- a policy: two cells -/
theorem one_policy {m : Nat} {cs : List Value} {d : DataW H} {p : List MemPlace} (hl : cs.length = 2) (h : DataW.trod enc Try.prog W 0 (fun _ => true) true m 31 cs = some (d, p)) :
    ∃ (y : Int × List Int) (wv : Value) (w : Go.X.SL), cs = [.int .i64 y.1, wv] ∧ Go.X.absV W.heap.size wv = w.av ∧ Go.X.Ints (Go.X.absH W) w y.2 ∧ y.2.length ≤ Rows.uptoBulk d ∧ (-9223372036854775808 ≤ y.1 ∧ y.1 ≤ 9223372036854775807) ∧ (∀ m, m ∈ y.2 → -9223372036854775808 ≤ m ∧ m ≤ 9223372036854775807) := by
  match cs, hl with
  | [a, b], _ =>
    obtain ⟨xs, k, _, hx, _, hxl, hxs⟩ := DataW.trod_struct Try.underlying31 h
    have h0 := hxs 0 _ rfl
    have h1 := hxs 1 _ rfl
    obtain ⟨x0, hx0⟩ : ∃ x, xs[0]? = some x := ⟨_, List.getElem?_eq_getElem (by rw [hxl]; decide)⟩
    obtain ⟨x1, hx1⟩ : ∃ x, xs[1]? = some x := ⟨_, List.getElem?_eq_getElem (by rw [hxl]; decide)⟩
    rw [hx0] at h0
    rw [hx1] at h1
    have h0 : DataW.trod enc Try.prog W 0 (fun _ => true) true k 29 [a] = some x0 := by
      have e : (([a, b].drop 0).take (Try.prog.cellsOf 29)) = [a] := by rw [cells29]; rfl
      rw [← e]; exact h0
    have h1 : DataW.trod enc Try.prog W 0 (fun _ => true) true k 23 [b] = some x1 := by
      have e : (([a, b].drop 1).take (Try.prog.cellsOf 23)) = [b] := by rw [cells23]; rfl
      rw [← e]; exact h1
    obtain ⟨n, rfl, hn, _⟩ := Go.X.trod_i64 Try.underlying29 h0
    obtain ⟨w, ws, e1, hw, hwr, hb⟩ := Go.X.abs_ints Try.underlying23 Try.underlying3 cells3 h1
    refine ⟨(n, ws), b, w, rfl, e1, hw, ?_, hn, hwr⟩
    have hd : d = .agg (xs.map (·.1)) := congrArg Prod.fst hx
    have hm : x1.1 ∈ xs.map (·.1) := List.mem_map_of_mem (List.mem_of_getElem? hx1)
    have b1 := bulk_all hm
    have b2 := bulk_agg (xs.map (·.1))
    rw [hd]
    rcases hb with ⟨_, h2⟩ | ⟨es, r, h2, h3⟩
    · show ws.length ≤ _
      rw [h2]; exact Nat.zero_le _
    · show ws.length ≤ _
      rw [h2] at b1
      have b3 := bulk_slice es r
      have b4 := bulk_len es
      omega
/-- a slice of policies -/
theorem abs_policies {v : Value} {fuel : Nat} {x : DataW H × List MemPlace} (h : DataW.trod enc Try.prog W 0 (fun _ => true) true fuel 39 [v] = some x) :
    ∃ (s : Go.X.SL) (al : List (Int × List Int)), Go.X.absV W.heap.size v = s.av ∧ PolN.Asks (Go.X.absH W) s al ∧ al.length ≤ Rows.uptoBulk x.1 ∧ ∀ y, y ∈ al → y.2.length ≤ Rows.uptoBulk x.1 ∧ (-9223372036854775808 ≤ y.1 ∧ y.1 ≤ 9223372036854775807) ∧ (∀ m, m ∈ y.2 → -9223372036854775808 ≤ m ∧ m ≤ 9223372036854775807) := by
  obtain ⟨s, rows, m, hv, hn, hcell, hrow, hx⟩ := Go.X.abs_rows Try.underlying39 cells31 (by decide) h
  obtain ⟨al, hal, hq⟩ := Go.X.list_choose (rows := rows) (Q := fun r (y : Int × List Int) => ∃ (wv : Value) (w : Go.X.SL), r.1 = [.int .i64 y.1, wv] ∧ Go.X.absV W.heap.size wv = w.av ∧ Go.X.Ints (Go.X.absH W) w y.2 ∧ y.2.length ≤ Rows.uptoBulk r.2 ∧ (-9223372036854775808 ≤ y.1 ∧ y.1 ≤ 9223372036854775807) ∧ (∀ m, m ∈ y.2 → -9223372036854775808 ≤ m ∧ m ≤ 9223372036854775807)) fun r hr => by
    obtain ⟨h1, p, h2⟩ := hrow r hr
    exact one_policy h1 h2
  have hd : (rows.map (·.2)).length ≤ Rows.uptoBulk x.1 ∧ ∀ r, r ∈ rows → Rows.uptoBulk r.2 ≤ Rows.uptoBulk x.1 := by
    rcases hx with ⟨h1, h2⟩ | ⟨sp, h1⟩
    · subst h2
      exact ⟨Nat.zero_le _, fun r hr => by cases hr⟩
    · rw [h1]
      have b1 := bulk_slice (rows.map (·.2)) sp
      have b2 := bulk_len (rows.map (·.2))
      refine ⟨by omega, fun r hr => ?_⟩
      have b3 := bulk_all (List.mem_map_of_mem (f := (·.2)) hr)
      omega
  refine ⟨s, al, hv, ⟨hn.trans hal.symm, fun e => (hcell e).1, fun e j y hy => ?_⟩, ?_, fun y hy => ?_⟩
  · obtain ⟨_, c, el, f, hb, hc⟩ := hcell e
    obtain ⟨r, hr⟩ : ∃ r, rows[j]? = some r := ⟨_, List.getElem?_eq_getElem (by rw [← hal]; exact (List.getElem?_eq_some_iff.1 hy).1)⟩
    obtain ⟨y', hy', wv, w, h1, h2, h3, _⟩ := hq j r hr
    rw [hy] at hy'
    cases hy'
    obtain ⟨u0, hu0, hc0⟩ := hc j r hr 0 (by decide)
    obtain ⟨u1, hu1, hc1⟩ := hc j r hr 1 (by decide)
    rw [h1] at hu0 hu1
    cases hu0; cases hu1
    have key : ∀ (o : Nat) (u : Value), c[o]? = some u → Go.X.cellAt (Go.X.absH W) s.i o = some (Go.X.absV W.heap.size u) := fun o u hu => by
      rw [Go.X.cellAt_ro (Go.X.absH_cells hb), List.getElem?_map, Array.getElem?_toList, hu]; rfl
    exact ⟨by rw [← Go.X.absV_int W.heap.size]; exact key _ _ hc0, w, by rw [← h2]; exact key _ _ hc1, h3⟩
  · rw [hal]
    have := hd.1
    rwa [List.length_map] at this
  · obtain ⟨j, hj⟩ := List.mem_iff_getElem?.1 hy
    obtain ⟨r, hr⟩ : ∃ r, rows[j]? = some r := ⟨_, List.getElem?_eq_getElem (by rw [← hal]; exact (List.getElem?_eq_some_iff.1 hj).1)⟩
    obtain ⟨y', hy', wv, w, h1, h2, h3, h4, h5⟩ := hq j r hr
    rw [hj] at hy'
    cases hy'
    exact ⟨Nat.le_trans h4 (hd.2 r (List.mem_of_getElem? hr)), h5⟩
end
theorem own : ownKnob Try.prog.godebug = none := by kernel_rfl
theorem laidOut : laidOutB Try.prog = true := by kernel_rfl
set_option maxRecDepth 100000 in
theorem lifted (os : Os) (started : os.Started) (H : Type) (enc : TypeId × Value → H) (F : Stop.Interp) :
    ReturnsInHanded {} Try.checked os 6 .any ((Rows.OpenSpec.upto Rows.policyPlaysSpec).pre6 enc Try.prog Try.f6 [] false) (((Rows.OpenSpec.upto Rows.policyPlaysSpec).at F).post enc Try.prog Try.f6 false true false false) := by
  refine returnsInHanded_of_cond (C := Try.checked) (s := Rows.OpenSpec.upto Rows.policyPlaysSpec) (k := Rows.uptoSmall) rfl own started (by kernel_rfl) Try.func6
    (OpenSpec.witness (enc := enc) (C := Try.checked) (s := Rows.OpenSpec.upto Rows.policyPlaysSpec) (k := Rows.uptoSmall) rfl false ⟨#[], #[.slice none 0 0, .slice none 0 0], []⟩ 8 (by kernel_rfl) (by kernel_rfl) (by kernel_rfl)
      (x := ([.nil, .nil], [], [])) (by kernel_rfl) rfl rfl) ?_
  intro W base args ds gs before hval0 hW hcnd hk _
  have hval : ∀ (j : Nat) t v, Try.f6.params[j]? = some t → args[j]? = some v → Value.okWide Try.prog W .any base t v := hval0
  have hW' := hW
  obtain ⟨p, q, hA0, hV, rfl, hfz, hnd⟩ := hW
  have hA : DataW.TrodAll enc Try.prog W 0 (fun _ => true) true Try.f6.params.toList args.toList ds p := hA0
  rw [Try.params6] at hA hval
  obtain ⟨v0, v1, d0, d1, p0, p1, rfl, rfl, rfl, h0, h1⟩ := trodAll_two hA
  obtain ⟨rfl, rfl⟩ := trodVars_none hV
  simp only [List.append_nil] at hW' hk
  have k0 := hval 0 39 v0 rfl rfl
  have k1 := hval 1 24 v1 rfl rfl
  clear hval hval0 hA0 hA
  obtain ⟨a0, l0, c0, rfl⟩ := okWide_slice Try.underlying39 k0
  obtain ⟨a1, l1, c1, rfl⟩ := okWide_slice Try.underlying24 k1
  have h0' := h0
  obtain ⟨fu0, hf0⟩ := h0'
  obtain ⟨p, pl, e0, hp, hp1, hp2⟩ := abs_policies hf0
  have h1' := h1
  obtain ⟨fu1, hf1⟩ := h1'
  obtain ⟨s, al, e1, hs, ha1, ha2⟩ := abs_asks hf1
  have hk : Rows.uptoBulkAll [d0, d1] ≤ 1048576 := of_decide_eq_true hk
  have hb1 : Rows.uptoBulk d1 ≤ 1048576 := Nat.le_trans (bulk_all (by simp)) hk
  have hb0 : Rows.uptoBulk d0 ≤ 1048576 := Nat.le_trans (bulk_all (by simp)) hk
  refine (law_calls e0 e1 hp hs ⟨Nat.le_trans hp1 hb0, fun y hy => ⟨(hp2 y hy).2.1, Nat.le_trans (hp2 y hy).1 hb0, (hp2 y hy).2.2⟩⟩ ⟨Nat.le_trans ha1 hb1, fun y hy => ⟨(ha2 y hy).2.1, Nat.le_trans (ha2 y hy).1 hb1, (ha2 y hy).2.2⟩⟩).mono fun e W' ⟨he, hb⟩ => ?_
  subst he
  have hlt := hW'.lt
  refine ⟨_, rfl, Go.X.post_below rfl hW' hb (fun _ _ _ => (trodAll_cons_mk (shut_bool Try.underlying4 _) trodAll_mk0)) rfl (fun sp hsp => ?_) (ok_one (by kernel_rfl) rfl (okWide_bool_mk Try.underlying4 _))⟩
  have t0 := WideElems.Trod_stays laidOut (by kernel_rfl) (of_decide_eq_true (by kernel_rfl)) h0 (fun x hx => hb.same (hlt x (List.mem_append_left _ hx))) (fun x hx => hsp x (List.mem_append_left _ hx))
  have t1 := WideElems.Trod_stays laidOut (by kernel_rfl) (of_decide_eq_true (by kernel_rfl)) h1 (fun x hx => hb.same (hlt x (List.mem_append_right _ hx))) (fun x hx => hsp x (List.mem_append_right _ hx))
  have := trodAll_cons_mk t0 (trodAll_cons_mk t1 trodAll_mk0)
  rw [List.append_nil] at this
  exact this
theorem over : Rows.policyPlaysUptoRow.holds Try.pinned (Rows.OpenSpec.upto Rows.policyPlaysSpec) :=
  OpenClaim.holds_of_cond 6 Try.f6 rfl rfl rfl rfl rfl rfl rfl ⟨rfl, rfl, rfl, rfl, rfl⟩ rfl rfl rfl rfl rfl (by kernel_rfl) Try.func6 (by kernel_rfl)
    (of_decide_eq_true (by kernel_rfl)) (by unfold Func.isWrapper; first | (rw [if_pos (by decide +kernel)]; kernel_rfl) | (rw [if_neg (by decide +kernel)]; exact ⟨rfl, rfl⟩))
    (fun os started H enc _ F => lifted os started H enc F)
theorem proved : Rows.PolicyPlaysUptoSaid :=
  over
#print axioms proved
end Go.Proofs.Ytinihpeddhboeaa.policyPlays
