/-
  PROVED: the law 'BulkLeaves' returns true, and its arguments read as they did; its card. Condition: the row's own (what it reads is of bulk at most 1048576; the row lays the table math/bits.deBruijn64tab).
-/
import Derived.Test.YtjchcfiiijgmdaaGreatDoorP2
import Derived.Test.YtjchcfiiijgmdaaGreatDoorBulkLeavesR
import Derived.Test.YtjchcfiiijgmdaaGreatDoorBulkLeavesJ
import Derived.Test.YtjchcfiiijgmdaaGreatDoorCards
import Derived.ReadAgain
import Derived.Carry
import Derived.DataShut
import Derived.HandedShaped
import Derived.Test.YtjchcfiiijgmdaaGreatDoorTie
import Derived.WalkKit
import Derived.ProofKit
import Derived.OpenShut
import Derived.Deep.DeepHandedRow
import Derived.Lib.LaidTab
import Derived.LaidLaws
import Derived.LaidHandle
import Derived.JoinedCond
namespace Go.Proofs.YtjchcfiiijgmdaaGreatDoor.bulkLeaves
open Go.ChangeShapes Go.WideShapes Go.ChangeAt Go.RowKit
set_option linter.unusedVariables false
set_option maxRecDepth 100000
theorem own : ownKnob Tryz.prog.godebug = none := by kernel_rfl
theorem gTab : Tryz.prog.globalNamed "math/bits.deBruijn64tab" = some 1 := by kernel_rfl
theorem hG : Tryz.prog.globals.size = 3 := by kernel_rfl
theorem gType : ∃ t e, ((Tryz.prog.globals[1]?).map (·.type)) = some t ∧ Tryz.prog.underlying t = some (.array 64 e) ∧ Tryz.prog.underlying e = some (.int .u8) ∧ Tryz.prog.cellsOf e = 1 ∧ Tryz.prog.cellsOf t = 64 :=
  ⟨336, 5, by kernel_rfl, by kernel_rfl, by kernel_rfl, by kernel_rfl, by kernel_rfl⟩
theorem table {W : World} (h : laidMetH Tryz.prog Rows.bulkLeavesUptoRow.laid W) : Lib.TabIs Tryz.prog W "math/bits.deBruijn64tab" .u8 [0, 1, 56, 2, 57, 49, 28, 3, 61, 58, 42, 50, 38, 29, 17, 4, 62, 47, 59, 36, 45, 43, 51, 22, 53, 39, 33, 30, 24, 18, 12, 5, 63, 55, 48, 27, 60, 41, 37, 16, 46, 35, 44, 21, 52, 32, 23, 11, 54, 26, 40, 15, 34, 20, 31, 10, 25, 14, 19, 9, 13, 8, 7, 6] := by
  obtain ⟨t, e, h1, h2, h3, h4, h5⟩ := gType
  exact Lib.tabIs_of_head (rest := []) gTab h1 h2 h3 h4 h5 h.1
theorem et : Tryz.prog.globalNamed "errors.errorType" = some 0 := by kernel_rfl
theorem rt : (Tryz.prog.cutTypes.find? (·.1 == "internal/reflectlite.rtype")).map (·.2) = some 199 := by kernel_rfl
theorem oneRow : ((List.range 419).filter fun t => Tryz.prog.rowNamed t [101, 114, 114, 111, 114]) = [40] := by kernel_rfl
theorem size : Tryz.prog.types.size = 419 := by kernel_rfl
theorem handle {W : World} (h : laidMetH Tryz.prog Rows.bulkLeavesUptoRow.laid W) : W.cell? ⟨0, 0, none⟩ = some (.iface 199 (.agg #[.pointer (some ⟨3, 40, none⟩)])) := by
  have h' : laidMet Tryz.prog [("math/bits.deBruijn64tab", Rows.laid_math_bits_deBruijn64tab)] W ∧ handlesMet Tryz.prog [("errors.errorType", Rows.laid_errors_errorType)] W := h
  obtain ⟨name, u, ty, e1, e2, e3, e4, e5⟩ := h'.2 _ (List.mem_singleton.2 rfl)
  have en : name = [101, 114, 114, 111, 114] := (Option.some.inj e1).symm
  subst en
  obtain rfl := Option.some.inj (rt.symm.trans e2)
  have hm : ty ∈ (List.range 419).filter fun t => Tryz.prog.rowNamed t [101, 114, 114, 111, 114] := List.mem_filter.2 ⟨List.mem_range.2 (by rw [← size]; exact e3), e4⟩
  rw [oneRow] at hm
  obtain rfl := List.mem_singleton.1 hm
  have hh : typeHandle Tryz.prog 40 = .pointer (some ⟨3, 40, none⟩) := by kernel_rfl
  rw [hh] at e5
  simpa using World.var?_cell et e5 0
theorem alive_calls (W : World) (h3 : 3 ≤ W.heap.size) (hT : Lib.TabIs Tryz.prog W "math/bits.deBruijn64tab" .u8 [0, 1, 56, 2, 57, 49, 28, 3, 61, 58, 42, 50, 38, 29, 17, 4, 62, 47, 59, 36, 45, 43, 51, 22, 53, 39, 33, 30, 24, 18, 12, 5, 63, 55, 48, 27, 60, 41, 37, 16, 46, 35, 44, 21, 52, 32, 23, 11, 54, 26, 40, 15, 34, 20, 31, 10, 25, 14, 19, 9, 13, 8, 7, 6])
    (hg : W.cell? ⟨0, 0, none⟩ = some (.iface 199 (.agg #[.pointer (some ⟨3, 40, none⟩)]))) : Calls Tryz.prog 4 #[] W fun e W' => e = .returned (.bool true) ∧ Below W.heap.size W W' :=
  Go.X.closed_true_tab (G := 3) (g := 1) (by kernel_rfl) hG (by decide) h3 (by decide) (by kernel_rfl) gTab hT (by rfl) (Cut.ss h3 (by kernel_rfl) hg) alive_runs
theorem alive_true {W : World} (h3 : 3 ≤ W.heap.size) (hL : laidMetH Tryz.prog Rows.bulkLeavesUptoRow.laid W) : Go.X.SumsSound Tryz.prog W (Go.X.trueX 4) :=
  Go.X.true_sound fun w hb => alive_calls w (Nat.le_trans h3 hb.size)
    (by
      have := table hL
      unfold Lib.TabIs World.var? at this ⊢
      rw [gTab, Option.bind_some] at this ⊢
      rw [hb.block 1 (by omega)]; exact this)
    (by
      have := handle hL
      unfold World.cell? at this ⊢
      rw [hb.block 0 (by omega)]; exact this)
theorem law_calls {W : World} {z fill : Int} {v1 v3 : Value} {a b : Go.X.SL} {X Y : List BlN.ER} (h3 : 3 ≤ W.heap.size) (hL : laidMetH Tryz.prog Rows.bulkLeavesUptoRow.laid W) (h0 : Go.X.absV W.heap.size v1 = a.av) (h2 : Go.X.absV W.heap.size v3 = b.av)
    (ha : BlN.Ents (Go.X.absH W) a X) (hb : BlN.Ents (Go.X.absH W) b Y) (sX : BlN.Mb X) (sY : BlN.Mb Y) (lX : X.length ≤ 1048576) (lY : Y.length ≤ 1048576) :
    Calls Tryz.prog 3 #[.int .i64 z, v1, .int .i64 fill, v3] W fun e W' => e = .returned (.bool true) ∧ Below W.heap.size W W' := by
  have hmo : Tryz.prog.follows .mixedOrders = true := by kernel_rfl
  refine Go.X.law_true (S := BlN.SB) (alive_true h3 hL) (Go.X.true_fit 4) hmo (by rw [hG]; exact h3) (lf := 2000001) (n := 7) (by kernel_rfl) (args := [.int .i64 z, .sl a, .int .i64 fill, .sl b]) ?_ (BlN.law_ok (n := 0) ha hb sX sY lX lY (by decide))
  have e0 := Go.X.absV_VR W.heap.size v1
  have e1 := Go.X.absV_VR W.heap.size v3
  rw [h0] at e0; rw [h2] at e1
  rw [Go.X.avs_cons, Go.X.avs_cons, Go.X.avs_cons, Go.X.avs_cons, Go.X.avs_nil, Go.X.av_int, Go.X.av_int, Go.X.av_sl, Go.X.av_sl]
  exact .cons _ _ _ _ (.int _ _) (.cons _ _ _ _ e0 (.cons _ _ _ _ (.int _ _) (.cons _ _ _ _ e1 .nil)))
/-! bulks -/
theorem bulk_all {H : Type} : ∀ {ds : List (DataW H)} {d : DataW H}, d ∈ ds → Rows.uptoBulk d ≤ Rows.uptoBulkAll ds
  | [], _, h => by cases h
  | x :: r, d, h => by
    rw [Rows.uptoBulkAll]
    rcases List.mem_cons.1 h with rfl | h
    · omega
    · have := bulk_all h; omega
theorem bulk_pos {H : Type} (d : DataW H) : 1 ≤ Rows.uptoBulk d := by
  unfold Rows.uptoBulk
  split <;> omega
theorem bulk_len {H : Type} : ∀ (ds : List (DataW H)), ds.length ≤ Rows.uptoBulkAll ds
  | [] => Nat.zero_le _
  | x :: r => by
    rw [Rows.uptoBulkAll]
    have := bulk_pos x
    have := bulk_len r
    simp only [List.length_cons]; omega
theorem bulk_slice {H : Type} (es sp : List (DataW H)) : Rows.uptoBulkAll es ≤ Rows.uptoBulk (.slice es sp) := by
  rw [Rows.uptoBulk]; omega
theorem bulk_agg {H : Type} (es : List (DataW H)) : Rows.uptoBulkAll es ≤ Rows.uptoBulk (.agg es) := by
  rw [Rows.uptoBulk]; omega
theorem cells26 : Tryz.prog.cellsOf 26 = 1 := by kernel_rfl
theorem cells28 : Tryz.prog.cellsOf 28 = 2 := by kernel_rfl
theorem cells5 : Tryz.prog.cellsOf 5 = 1 := by kernel_rfl
section
variable {H : Type} {enc : TypeId × Value → H} {W : World}
theorem bytes_bulk {x : DataW H × List MemPlace} {k : List Nat} (hx : (x.1 = .nil ∧ k = []) ∨ ∃ es r, x.1 = .slice es r ∧ es.length = k.length) : k.length ≤ Rows.uptoBulk x.1 := by
  rcases hx with ⟨_, rfl⟩ | ⟨es, r, h2, h3⟩
  · exact Nat.zero_le _
  · rw [h2]
    have b3 := bulk_slice es r
    have b4 := bulk_len es
    omega
/-- an entry: two cells -/
theorem one_entry {m : Nat} {cs : List Value} {d : DataW H} {p : List MemPlace} (hl : cs.length = 2) (h : DataW.trod enc Tryz.prog W 0 (fun _ => true) true m 28 cs = some (d, p)) :
    ∃ (y : BlN.ER) (kv vv : Value), cs = [kv, vv] ∧ Go.X.absV W.heap.size kv = y.ks.av ∧ Go.X.absV W.heap.size vv = y.vs.av ∧ y.Ok (Go.X.absH W) ∧ y.e.1.length ≤ Rows.uptoBulk d ∧ y.e.2.length ≤ Rows.uptoBulk d := by
  match cs, hl with
  | [a, b], _ =>
    obtain ⟨xs, k, _, hx, _, hxl, hxs⟩ := DataW.trod_struct Tryz.underlying28 h
    have h0 := hxs 0 _ rfl
    have h1 := hxs 1 _ rfl
    obtain ⟨x0, hx0⟩ : ∃ x, xs[0]? = some x := ⟨_, List.getElem?_eq_getElem (by rw [hxl]; decide)⟩
    obtain ⟨x1, hx1⟩ : ∃ x, xs[1]? = some x := ⟨_, List.getElem?_eq_getElem (by rw [hxl]; decide)⟩
    rw [hx0] at h0
    rw [hx1] at h1
    have h0 : DataW.trod enc Tryz.prog W 0 (fun _ => true) true k 26 [a] = some x0 := by
      have e : (([a, b].drop 0).take (Tryz.prog.cellsOf 26)) = [a] := by rw [cells26]; rfl
      rw [← e]; exact h0
    have h1 : DataW.trod enc Tryz.prog W 0 (fun _ => true) true k 26 [b] = some x1 := by
      have e : (([a, b].drop 1).take (Tryz.prog.cellsOf 26)) = [b] := by rw [cells26]; rfl
      rw [← e]; exact h1
    obtain ⟨s0, k0, e0, hb0, q0⟩ := Go.X.abs_bytes Tryz.underlying26 Tryz.underlying5 cells5 h0
    obtain ⟨s1, k1, e1, hb1, q1⟩ := Go.X.abs_bytes Tryz.underlying26 Tryz.underlying5 cells5 h1
    have hd : d = .agg (xs.map (·.1)) := congrArg Prod.fst hx
    have b2 := bulk_agg (xs.map (·.1))
    have m0 : x0.1 ∈ xs.map (·.1) := List.mem_map_of_mem (List.mem_of_getElem? hx0)
    have m1 : x1.1 ∈ xs.map (·.1) := List.mem_map_of_mem (List.mem_of_getElem? hx1)
    have c0 := bulk_all m0
    have c1 := bulk_all m1
    have d0 := bytes_bulk q0
    have d1 := bytes_bulk q1
    rw [← hd] at b2
    exact ⟨⟨s0, s1, (k0, k1)⟩, a, b, rfl, e0, e1, ⟨hb0, hb1⟩, by show k0.length ≤ _; omega, by show k1.length ≤ _; omega⟩
/-- a slice of entries -/
theorem abs_ents {v : Value} {fuel : Nat} {x : DataW H × List MemPlace} (h : DataW.trod enc Tryz.prog W 0 (fun _ => true) true fuel 22 [v] = some x) :
    ∃ (s : Go.X.SL) (al : List BlN.ER), Go.X.absV W.heap.size v = s.av ∧ BlN.Ents (Go.X.absH W) s al ∧ al.length ≤ Rows.uptoBulk x.1 ∧ ∀ y, y ∈ al → y.e.1.length ≤ Rows.uptoBulk x.1 ∧ y.e.2.length ≤ Rows.uptoBulk x.1 := by
  obtain ⟨s, rows, m, hv, hn, hcell, hrow, hx⟩ := Go.X.abs_rows Tryz.underlying22 cells28 (by decide) h
  obtain ⟨al, hal, hq⟩ := Go.X.list_choose (rows := rows) (Q := fun r (y : BlN.ER) => ∃ (kv vv : Value), r.1 = [kv, vv] ∧ Go.X.absV W.heap.size kv = y.ks.av ∧ Go.X.absV W.heap.size vv = y.vs.av ∧ y.Ok (Go.X.absH W) ∧ y.e.1.length ≤ Rows.uptoBulk r.2 ∧ y.e.2.length ≤ Rows.uptoBulk r.2) fun r hr => by
    obtain ⟨h1, p, h2⟩ := hrow r hr
    exact one_entry h1 h2
  have hd : (rows.map (·.2)).length ≤ Rows.uptoBulk x.1 ∧ ∀ r, r ∈ rows → Rows.uptoBulk r.2 ≤ Rows.uptoBulk x.1 := by
    rcases hx with ⟨h1, h2⟩ | ⟨sp, h1⟩
    · subst h2
      exact ⟨Nat.zero_le _, fun r hr => by cases hr⟩
    · rw [h1]
      have b1 := bulk_slice (rows.map (·.2)) sp
      have b2 := bulk_len (rows.map (·.2))
      refine ⟨by omega, fun r hr => ?_⟩
      have b3 := bulk_all (List.mem_map_of_mem (f := (·.2)) hr)
      omega
  have each : ∀ y, y ∈ al → ∃ r, r ∈ rows ∧ y.Ok (Go.X.absH W) ∧ y.e.1.length ≤ Rows.uptoBulk r.2 ∧ y.e.2.length ≤ Rows.uptoBulk r.2 := fun y hy => by
    obtain ⟨j, hj⟩ := List.mem_iff_getElem?.1 hy
    obtain ⟨r, hr⟩ : ∃ r, rows[j]? = some r := ⟨_, List.getElem?_eq_getElem (by rw [← hal]; exact (List.getElem?_eq_some_iff.1 hj).1)⟩
    obtain ⟨y', hy', kv, vv, h1, h2, h3, h4, h5, h6⟩ := hq j r hr
    rw [hj] at hy'
    cases hy'
    exact ⟨r, List.mem_of_getElem? hr, h4, h5, h6⟩
  have rl : ∀ y, y ∈ al → (BlN.ER.row y).length = 2 := fun _ _ => rfl
  have fl := Go.X.flat_length rl
  refine ⟨s, al, hv, ⟨⟨by rw [fl, hal, hn], fun e => (hcell e).1, fun e => ?_⟩, rl, fun y hy => ?_⟩, ?_, fun y hy => ?_⟩
  · obtain ⟨_, c, el, f, hb, hc⟩ := hcell e
    refine ⟨c.toList.map (Go.X.absV W.heap.size), by unfold Go.X.cellsAt; rw [Go.X.absH_cells hb], ?_⟩
    have hlen : s.len = rows.length := by unfold Go.X.SL.n at hn; rw [e] at hn; exact hn
    have := Go.X.take_drop_of (c := c.toList.map (Go.X.absV W.heap.size)) (l := al.flatMap BlN.ER.row) (o := s.o) fun i u hu => by
      have hi := (List.getElem?_eq_some_iff.1 hu).1
      rw [fl] at hi
      have hj : i / 2 < al.length := by omega
      obtain ⟨y, hy⟩ : ∃ y, al[i / 2]? = some y := ⟨_, List.getElem?_eq_getElem hj⟩
      obtain ⟨r, hr⟩ : ∃ r, rows[i / 2]? = some r := ⟨_, List.getElem?_eq_getElem (by omega)⟩
      obtain ⟨y', hy', kv, vv, h1, h2, h3, _⟩ := hq (i / 2) r hr
      rw [hy] at hy'
      cases hy'
      have e1 := Go.X.flat_at rl hy (q := i % 2) (Nat.mod_lt _ (by decide))
      rw [show i / 2 * 2 + i % 2 = i by omega, hu] at e1
      obtain ⟨w, hw, hcw⟩ := hc (i / 2) r hr (i % 2) (Nat.mod_lt _ (by decide))
      rw [show s.o + i / 2 * 2 + i % 2 = s.o + i by omega] at hcw
      rw [List.getElem?_map, Array.getElem?_toList, hcw]
      rw [h1] at hw
      rcases Nat.mod_two_eq_zero_or_one i with e2 | e2
      · rw [e2] at hw e1
        cases hw
        rw [e1, Option.map_some, h2]; rfl
      · rw [e2] at hw e1
        cases hw
        rw [e1, Option.map_some, h3]; rfl
    rw [fl, hal, ← hlen] at this
    exact this
  · obtain ⟨r, _, h4, _⟩ := each y hy
    exact h4
  · rw [hal]
    have := hd.1
    rwa [List.length_map] at this
  · obtain ⟨r, hr, _, h5, h6⟩ := each y hy
    have := hd.2 r hr
    exact ⟨by omega, by omega⟩
end
theorem laidOut : laidOutB Tryz.prog = true := by kernel_rfl
set_option maxRecDepth 100000 in
theorem contract (H : Type) (enc : TypeId × Value → H) (W : World) (base : Nat) (args : Array Value) (ds gs : List (DataW H)) (before : List MemPlace)
    (hval : ∀ (j : Nat) t v, Tryz.f3.params[j]? = some t → args[j]? = some v → Value.okWide Tryz.prog W .any base t v)
    (hW : DataW.Whole enc Tryz.prog Tryz.f3.params.toList Rows.bulkLeavesSpec.vars false W args.toList ds gs before) (hk0 : Rows.uptoSmall H (ds ++ gs) = true) (hsh : W.ShapedOpen Tryz.prog) (hL : laidMetH Tryz.prog Rows.bulkLeavesUptoRow.laid W) :
    Calls Tryz.prog 3 args W fun e W' => ∃ v, e = .returned v ∧ Rows.bulkLeavesSpec.post enc Tryz.prog Tryz.f3 false true false false W args v W' := by
  have hW' := hW
  obtain ⟨p, q, hA0, hV, rfl, hfz, hnd⟩ := hW
  have hA : DataW.TrodAll enc Tryz.prog W 0 (fun _ => true) true Tryz.f3.params.toList args.toList ds p := hA0
  rw [Tryz.params3] at hA hval
  obtain ⟨v0, v1, v2, v3, d0, d1, d2, d3, p0, p1, p2, p3, rfl, rfl, rfl, h0, h1, h2, h3⟩ := trodAll_four hA
  obtain ⟨rfl, rfl⟩ := trodVars_none hV
  obtain ⟨z, rfl, rfl, rfl, w0⟩ := open_int Tryz.underlying3 (hval 0 3 v0 rfl rfl) h0
  obtain ⟨fill, rfl, rfl, rfl, w2⟩ := open_int Tryz.underlying3 (hval 2 3 v2 rfl rfl) h2
  obtain ⟨a1, l1, c1, rfl⟩ := okWide_slice Tryz.underlying22 (hval 1 22 v1 rfl rfl)
  obtain ⟨a3, l3, c3, rfl⟩ := okWide_slice Tryz.underlying22 (hval 3 22 v3 rfl rfl)
  simp only [List.append_nil] at hW' hk0
  have hk1 : Rows.uptoBulkAll _ ≤ 1048576 := of_decide_eq_true hk0
  have hb1 : Rows.uptoBulk (d1, p1).1 ≤ 1048576 := Nat.le_trans (bulk_all (by simp)) hk1
  have hb3 : Rows.uptoBulk (d3, p3).1 ≤ 1048576 := Nat.le_trans (bulk_all (by simp)) hk1
  have h1' := h1
  obtain ⟨fu1, hf1⟩ := h1'
  obtain ⟨a, X, e1, ha, ha1, ha2⟩ := abs_ents hf1
  have h3' := h3
  obtain ⟨fu3, hf3⟩ := h3'
  obtain ⟨b, Y, e3, hb, hbl, hb2⟩ := abs_ents hf3
  have hsz := Go.X.shaped_size (g := 2) hsh (by rw [hG]; exact Nat.lt_succ_self _) (by kernel_rfl)
  clear hA0
  refine (law_calls hsz hL e1 e3 ha hb (fun x hx => ?_) (fun x hx => ?_) (by omega) (by omega)).mono fun e W' ⟨he, hg⟩ => ?_
  · have := ha2 x hx; exact ⟨by omega, by omega⟩
  · have := hb2 x hx; exact ⟨by omega, by omega⟩
  subst he
  have hlt := hW'.lt
  refine ⟨_, rfl, Go.X.post_below rfl hW' hg (fun _ _ _ => (trodAll_cons_mk (shut_bool Tryz.underlying4 _) trodAll_mk0)) rfl (fun sp hsp => ?_) (ok_one (by kernel_rfl) rfl (okWide_bool_mk Tryz.underlying4 _))⟩
  have t1 := WideElems.Trod_stays laidOut (by kernel_rfl) (of_decide_eq_true (by kernel_rfl)) h1 (fun x hx => hg.same (hlt x (by simp [hx]))) (fun x hx => hsp x (by simp [hx]))
  have t3 := WideElems.Trod_stays laidOut (by kernel_rfl) (of_decide_eq_true (by kernel_rfl)) h3 (fun x hx => hg.same (hlt x (by simp [hx]))) (fun x hx => hsp x (by simp [hx]))
  have := trodAll_cons_mk (shut_int Tryz.underlying3 w0) (trodAll_cons_mk t1 (trodAll_cons_mk (shut_int Tryz.underlying3 w2) (trodAll_cons_mk t3 trodAll_mk0)))
  simp only [List.nil_append, List.append_nil] at this ⊢
  exact this

noncomputable def layE : Obj → Obj := fun
  | .cells _ t frozen => .cells #[.iface 199 (.agg #[.pointer (some ⟨3, 40, none⟩)])] t frozen
  | o => o
noncomputable def layT : Obj → Obj := fun
  | .cells _ t frozen => .cells #[.int .u8 0, .int .u8 1, .int .u8 56, .int .u8 2, .int .u8 57, .int .u8 49, .int .u8 28, .int .u8 3, .int .u8 61, .int .u8 58, .int .u8 42, .int .u8 50, .int .u8 38, .int .u8 29, .int .u8 17, .int .u8 4, .int .u8 62, .int .u8 47, .int .u8 59, .int .u8 36, .int .u8 45, .int .u8 43, .int .u8 51, .int .u8 22, .int .u8 53, .int .u8 39, .int .u8 33, .int .u8 30, .int .u8 24, .int .u8 18, .int .u8 12, .int .u8 5, .int .u8 63, .int .u8 55, .int .u8 48, .int .u8 27, .int .u8 60, .int .u8 41, .int .u8 37, .int .u8 16, .int .u8 46, .int .u8 35, .int .u8 44, .int .u8 21, .int .u8 52, .int .u8 32, .int .u8 23, .int .u8 11, .int .u8 54, .int .u8 26, .int .u8 40, .int .u8 15, .int .u8 34, .int .u8 20, .int .u8 31, .int .u8 10, .int .u8 25, .int .u8 14, .int .u8 19, .int .u8 9, .int .u8 13, .int .u8 8, .int .u8 7, .int .u8 6] t frozen
  | o => o
noncomputable def laidWorld (os : Os) : World :=
  { World.holding Tryz.prog os ⟨#[], #[.int .i64 0, .slice none 0 0, .int .i64 0, .slice none 0 0], []⟩ with heap := ((World.holding Tryz.prog os ⟨#[], #[.int .i64 0, .slice none 0 0, .int .i64 0, .slice none 0 0], []⟩).heap.modify 0 layE).modify 1 layT }
theorem laid_met (os : Os) : laidMetH Tryz.prog Rows.bulkLeavesUptoRow.laid ((laidWorld os).forCall (fun _ _ => 0) ⟨#[], #[.int .i64 0, .slice none 0 0, .int .i64 0, .slice none 0 0], []⟩).memory :=
  laidMetH_of_parts (laidMet_of_run' 8 (by kernel_rfl) (by kernel_rfl)) (by kernel_rfl)
theorem reads (os : Os) {H : Type} (enc : TypeId × Value → H) : ∃ places, DataW.whole enc Tryz.prog ((laidWorld os).forCall (fun _ _ => 0) ⟨#[], #[.int .i64 0, .slice none 0 0, .int .i64 0, .slice none 0 0], []⟩).memory Tryz.f3.params.toList Rows.bulkLeavesSpec.vars false #[.int .i64 0, .slice none 0 0, .int .i64 0, .slice none 0 0].toList 8 = some ([.lit (.int .i64 0), .nil, .lit (.int .i64 0), .nil], [], places) :=
  ⟨[], by kernel_rfl⟩
set_option maxRecDepth 100000 in
theorem lifted (os : Os) (started : os.Started) (H : Type) (enc : TypeId × Value → H) (F : Stop.Interp) :
    ReturnsInHanded {} Tryz.checked os 3 .any ((Rows.OpenSpec.upto Rows.bulkLeavesSpec).preRow enc Tryz.prog Tryz.f3 Rows.bulkLeavesUptoRow.domain false Rows.bulkLeavesUptoRow.laid) (((Rows.OpenSpec.upto Rows.bulkLeavesSpec).at F).post enc Tryz.prog Tryz.f3 false true false false) := by
  obtain ⟨places, hx⟩ := reads os enc
  refine returnsInHanded_of_row (C := Tryz.checked) (s := Rows.OpenSpec.upto Rows.bulkLeavesSpec) own started (by kernel_rfl) Tryz.func3
    (witness_row_at (enc := enc) (C := Tryz.checked) false (laidWorld os) #[.int .i64 0, .slice none 0 0, .int .i64 0, .slice none 0 0] rfl (by kernel_rfl) (by kernel_rfl) (by kernel_rfl)
      (OpenSpec.preRow_of_cond 8 hx (by kernel_rfl) (fun k hk => by cases hk; rfl) (by kernel_rfl) (laid_met os))) ?_
  intro W base args ds gs before hval hW _ hcond _ hL hsh _
  exact contract H enc W base args ds gs before hval hW (hcond _ rfl) hsh hL

theorem said : Rows.BulkLeavesUptoSaid :=
  OpenClaim.holds_of_cond 3 Tryz.f3 rfl rfl rfl rfl rfl rfl rfl ⟨rfl, rfl, rfl, rfl, rfl⟩ rfl rfl rfl rfl rfl (by kernel_rfl) Tryz.func3 closed
    (of_decide_eq_true (by kernel_rfl)) (by unfold Func.isWrapper; first | (rw [if_pos (by decide +kernel)]; kernel_rfl) | (rw [if_neg (by decide +kernel)]; exact ⟨rfl, rfl⟩))
    (fun os started H enc _ F => by rw [OpenClaim.pre_eq_preRow]; exact lifted os started H enc F)

theorem wants3 : Tryz.prog.wantsStandIn 3 = false := by kernel_rfl
theorem wants22 : Tryz.prog.wantsStandIn 22 = false := by kernel_rfl
theorem plain (f : FuncId) (fn : Func) (hf : Tryz.pinned.checked.prog.funcNamed "banyan/banyanlaw15.BulkLeaves" = some f) (hfn : Tryz.pinned.checked.prog.funcs[f]? = some fn) :
    true = Tryz.pinned.checked.prog.looks [] ∧ ∀ (j : Nat) t, fn.params[j]? = some t → Tryz.pinned.checked.prog.wantsStandIn t = false := by
  obtain rfl : f = 3 := Option.some.inj ((show Tryz.prog.funcNamed "banyan/banyanlaw15.BulkLeaves" = some 3 by kernel_rfl).symm.trans hf) |>.symm
  obtain rfl : fn = Tryz.f3 := (Option.some.inj (Tryz.func3.symm.trans hfn)).symm
  refine ⟨by kernel_rfl, fun j t ht => ?_⟩
  rw [Tryz.params3] at ht
  have : t = 3 ∨ t = 22 := by
    rcases j with _ | _ | _ | _ | j <;> simp at ht <;> simp [← ht]
  rcases this with rfl | rfl
  · exact wants3
  · exact wants22

theorem card : Rows.BulkLeavesUptoCardSaid :=
  Claim7.holds_tied_plain_at .later [] _ _ _ _ said (fun _ h => by cases h) (by kernel_rfl) (fun _ h => by cases h) bulkLeavesUpto_row_tie rfl ⟨rfl, rfl⟩ (by kernel_rfl) rfl plain (by kernel_rfl)
#print axioms card
end Go.Proofs.YtjchcfiiijgmdaaGreatDoor.bulkLeaves
