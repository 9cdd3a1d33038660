/-
  PROVED: the law 'BulkArgs' returns true, from every world that fits its row (the row lays the table math/bits.deBruijn64tab); its card. Conditions: none but the row's own.
-/
import Derived.Test.YtbhbiccfkkoanaaGreatDoorBulkArgsR
import Derived.Test.YtbhbiccfkkoanaaGreatDoorBulkArgsJ
import Derived.Test.YtbhbiccfkkoanaaGreatDoorL0
import Derived.Test.YtbhbiccfkkoanaaGreatDoorL1
import Derived.Test.YtbhbiccfkkoanaaGreatDoorL2
import Derived.Test.YtbhbiccfkkoanaaGreatDoorL3
import Derived.Test.YtbhbiccfkkoanaaGreatDoorCards
import Derived.ReadAgain
import Derived.Carry
import Derived.DataShut
import Derived.HandedShaped
import Derived.Test.YtbhbiccfkkoanaaGreatDoorTie
import Derived.WalkKit
import Derived.ProofKit
import Derived.OpenShut
import Derived.Deep.DeepHandedRow
import Derived.Lib.LaidTab
import Derived.LaidLaws
import Derived.LaidHandle
namespace Go.Proofs.YtbhbiccfkkoanaaGreatDoor.bulkArgs
open Go.ChangeShapes Go.WideShapes Go.ChangeAt Go.RowKit
set_option linter.unusedVariables false
set_option maxRecDepth 100000
theorem own : ownKnob Tryz.prog.godebug = none := by kernel_rfl
theorem gTab : Tryz.prog.globalNamed "math/bits.deBruijn64tab" = some 1 := by kernel_rfl
theorem hG : Tryz.prog.globals.size = 3 := by kernel_rfl
theorem gType : ∃ t e, ((Tryz.prog.globals[1]?).map (·.type)) = some t ∧ Tryz.prog.underlying t = some (.array 64 e) ∧ Tryz.prog.underlying e = some (.int .u8) ∧ Tryz.prog.cellsOf e = 1 ∧ Tryz.prog.cellsOf t = 64 :=
  ⟨252, 5, by kernel_rfl, by kernel_rfl, by kernel_rfl, by kernel_rfl, by kernel_rfl⟩
theorem table {W : World} (h : laidMetH Tryz.prog Rows.bulkArgsRow.laid W) : Lib.TabIs Tryz.prog W "math/bits.deBruijn64tab" .u8 [0, 1, 56, 2, 57, 49, 28, 3, 61, 58, 42, 50, 38, 29, 17, 4, 62, 47, 59, 36, 45, 43, 51, 22, 53, 39, 33, 30, 24, 18, 12, 5, 63, 55, 48, 27, 60, 41, 37, 16, 46, 35, 44, 21, 52, 32, 23, 11, 54, 26, 40, 15, 34, 20, 31, 10, 25, 14, 19, 9, 13, 8, 7, 6] := by
  obtain ⟨t, e, h1, h2, h3, h4, h5⟩ := gType
  exact Lib.tabIs_of_head (rest := []) gTab h1 h2 h3 h4 h5 h.1
theorem et : Tryz.prog.globalNamed "errors.errorType" = some 0 := by kernel_rfl
theorem rt : (Tryz.prog.cutTypes.find? (·.1 == "internal/reflectlite.rtype")).map (·.2) = some 189 := by kernel_rfl
theorem oneRow : ((List.range 423).filter fun t => Tryz.prog.rowNamed t [101, 114, 114, 111, 114]) = [30] := by kernel_rfl
theorem size : Tryz.prog.types.size = 423 := by kernel_rfl
theorem handle {W : World} (h : laidMetH Tryz.prog Rows.bulkArgsRow.laid W) : W.cell? ⟨0, 0, none⟩ = some (.iface 189 (.agg #[.pointer (some ⟨3, 30, none⟩)])) := by
  have h' : laidMet Tryz.prog [("math/bits.deBruijn64tab", Rows.laid_math_bits_deBruijn64tab)] W ∧ handlesMet Tryz.prog [("errors.errorType", Rows.laid_errors_errorType)] W := h
  obtain ⟨name, u, ty, e1, e2, e3, e4, e5⟩ := h'.2 _ (List.mem_singleton.2 rfl)
  have en : name = [101, 114, 114, 111, 114] := (Option.some.inj e1).symm
  subst en
  obtain rfl := Option.some.inj (rt.symm.trans e2)
  have hm : ty ∈ (List.range 423).filter fun t => Tryz.prog.rowNamed t [101, 114, 114, 111, 114] := List.mem_filter.2 ⟨List.mem_range.2 (by rw [← size]; exact e3), e4⟩
  rw [oneRow] at hm
  obtain rfl := List.mem_singleton.1 hm
  have hh : typeHandle Tryz.prog 30 = .pointer (some ⟨3, 30, none⟩) := by kernel_rfl
  rw [hh] at e5
  simpa using World.var?_cell et e5 0
theorem alive_calls (W : World) (h3 : 3 ≤ W.heap.size) (hT : Lib.TabIs Tryz.prog W "math/bits.deBruijn64tab" .u8 [0, 1, 56, 2, 57, 49, 28, 3, 61, 58, 42, 50, 38, 29, 17, 4, 62, 47, 59, 36, 45, 43, 51, 22, 53, 39, 33, 30, 24, 18, 12, 5, 63, 55, 48, 27, 60, 41, 37, 16, 46, 35, 44, 21, 52, 32, 23, 11, 54, 26, 40, 15, 34, 20, 31, 10, 25, 14, 19, 9, 13, 8, 7, 6])
    (hg : W.cell? ⟨0, 0, none⟩ = some (.iface 189 (.agg #[.pointer (some ⟨3, 30, none⟩)]))) : Calls Tryz.prog 5 #[] W fun e W' => e = .returned (.bool true) ∧ Below W.heap.size W W' :=
  Go.X.closed_true_tab (G := 3) (g := 1) (by kernel_rfl) hG (by decide) h3 (by decide) (by kernel_rfl) gTab hT (by rfl) (Cut.ss (Nat.lt_of_lt_of_le (by decide) h3) (by kernel_rfl) hg) alive_runs
theorem alive_true {W : World} (h3 : 3 ≤ W.heap.size) (hL : laidMetH Tryz.prog Rows.bulkArgsRow.laid W) : Go.X.SumsSound Tryz.prog W (Go.X.trueX 5) :=
  Go.X.true_sound fun w hb => alive_calls w (Nat.le_trans h3 hb.size)
    (by
      have := table hL
      unfold Lib.TabIs World.var? at this ⊢
      rw [gTab, Option.bind_some] at this ⊢
      rw [hb.block 1 (by omega)]; exact this)
    (by
      have := handle hL
      unfold World.cell? at this ⊢
      rw [hb.block 0 (by omega)]; exact this)
/-- a list that is handed in, by a name of its own -/
theorem arg_sl {W : World} {v : Value} {s : Go.X.SL} (h3 : 3 ≤ W.heap.size) (e : Go.X.absV W.heap.size v = s.av) (hi : s.nil = false → s.i < W.heap.size) :
    ∃ (l : Go.X.SL) (b : Nat), b < W.heap.size ∧ Go.X.VR (Go.X.startEb 3 [b]) l.av v := by
  have r := Go.X.absV_VR W.heap.size v
  rw [e] at r
  obtain ⟨nil, i, o, len, cap, ext⟩ := s
  cases nil with
  | true =>
    refine ⟨⟨true, i, o, len, cap, ext⟩, 0, by omega, ?_⟩
    cases ext with
    | true =>
      have r : Go.X.VR (Go.X.absE W.heap.size) .emp v := r
      cases r; exact .emp _ _
    | false =>
      have r : Go.X.VR (Go.X.absE W.heap.size) .nils v := r
      cases r; exact .nils
  | false =>
    have hi : i < W.heap.size := hi rfl
    refine ⟨⟨false, 3, o, len, cap, ext⟩, i, hi, ?_⟩
    have key : ∀ ext, Go.X.VR (Go.X.absE W.heap.size) (.slice i o len cap ext) v → Go.X.VR (Go.X.startEb 3 [i]) (.slice 3 o len cap ext) v := by
      intro ext r
      cases r with
      | slice _ _ _ _ _ b x c hb hx hc =>
        have hb : (if i < W.heap.size then some i else none) = some b := hb
        rw [if_pos hi] at hb
        cases hb
        exact .slice _ _ _ _ _ i x c rfl hx hc
    cases ext with
    | true => exact key true r
    | false => exact key false r
theorem law_calls (W : World) (hsh : W.ShapedOpen Tryz.prog) (hL : laidMetH Tryz.prog Rows.bulkArgsRow.laid W) {size fill : Int} (lz : Bool) (hw : (Lit.int .i64 size).wf = true) {v : Value} {s : Go.X.SL} (e : Go.X.absV W.heap.size v = s.av) (hi : s.nil = false → s.i < W.heap.size) :
    Calls Tryz.prog 4 #[.int .i64 size, .bool lz, v, .int .i64 fill] W fun e W' => e = .returned (.bool true) ∧ Below W.heap.size W W' := by
  have hsz := Go.X.shaped_size (g := 2) hsh (by rw [hG]; exact Nat.lt_succ_self _) (by kernel_rfl)
  obtain ⟨l, b, hb, hv⟩ := arg_sl hsz e hi
  have hr : -9223372036854775808 ≤ size ∧ size ≤ 9223372036854775807 := by
    have := (Lit.wf_int_iff .i64 size).1 hw
    simpa [IntKind.min, IntKind.max, IntKind.signed, IntKind.bits] using this
  have wrap : ∀ x : Int, -9223372036854775808 ≤ x → x ≤ 9223372036854775807 → IntKind.i64.wrap x = x := by
    intro x h1 h2
    unfold IntKind.wrap
    show (if (true && decide (x % (2 ^ 64 : Int) ≥ (2 ^ 63 : Int))) = true then x % (2 ^ 64 : Int) - (2 ^ 64 : Int) else x % (2 ^ 64 : Int)) = x
    rw [Bool.true_and]
    by_cases h : x % (2 ^ 64 : Int) ≥ (2 ^ 63 : Int)
    · rw [decide_eq_true h, if_pos rfl]; omega
    · rw [decide_eq_false h, if_neg (by decide)]; omega
  have hwr : size < 0 → IntKind.i64.wrap (size + 1) = size + 1 ∧ IntKind.i64.wrap (-(size + 1)) = -(size + 1) := fun h => ⟨wrap _ (by omega) (by omega), wrap _ (by omega) (by omega)⟩
  have vs : Go.X.VRs (Go.X.startEb 3 [b]) (Go.X.avs [.int .i64 size, .bool lz, .sl l, .int .i64 fill]) (#[.int .i64 size, .bool lz, v, .int .i64 fill] : Array Value).toList := by
    rw [Go.X.avs_cons, Go.X.avs_cons, Go.X.avs_cons, Go.X.avs_cons, Go.X.avs_nil, Go.X.av_int, Go.X.av_bool, Go.X.av_sl, Go.X.av_int]
    exact .cons _ _ _ _ (.int _ _) (.cons _ _ _ _ (.bool _) (.cons _ _ _ _ hv (.cons _ _ _ _ (.int _ _) .nil)))
  have hp : BaN.pickI size = 0 ∨ BaN.pickI size = 1 ∨ BaN.pickI size = 2 ∨ BaN.pickI size = 3 := by
    unfold BaN.pickI
    split
    · rw [Int.tmod_eq_emod_of_nonneg (by omega)]; omega
    · rw [Int.tmod_eq_emod_of_nonneg (by omega)]; omega
  have hbs : ∀ x, x ∈ [b] → x < W.heap.size := fun x hx => by rw [List.mem_singleton.1 hx]; exact hb
  have ht := alive_true hsz hL
  have hmo : Tryz.prog.follows .mixedOrders = true := by kernel_rfl
  by_cases hf : 50 ≤ fill ∧ fill ≤ 100
  · rcases hp with hp | hp | hp | hp
    · exact Go.X.lawJ_true (G := 3) (g := 1) (B0.soundg lz hf hsz hmo (handle hL) ht) (B0.fitg lz fill) hmo hG (by decide) hsz (by decide) gTab (table hL) (by rfl) (lf := 5000) (n := 3) (by kernel_rfl) (bs := [b]) hbs vs (B0.lawg lz hf hp hwr l 5000 0)
    · exact Go.X.lawJ_true (G := 3) (g := 1) (B1.soundg lz hf hsz hmo (handle hL) ht) (B1.fitg lz fill) hmo hG (by decide) hsz (by decide) gTab (table hL) (by rfl) (lf := 5000) (n := 3) (by kernel_rfl) (bs := [b]) hbs vs (B1.lawg lz hf hp hwr l 5000 0)
    · exact Go.X.lawJ_true (G := 3) (g := 1) (B2.soundg lz hf hsz hmo (handle hL) ht) (B2.fitg lz fill) hmo hG (by decide) hsz (by decide) gTab (table hL) (by rfl) (lf := 5000) (n := 3) (by kernel_rfl) (bs := [b]) hbs vs (B2.lawg lz hf hp hwr l 5000 0)
    · exact Go.X.lawJ_true (G := 3) (g := 1) (B3.soundg lz hf hsz hmo (handle hL) ht) (B3.fitg lz fill) hmo hG (by decide) hsz (by decide) gTab (table hL) (by rfl) (lf := 5000) (n := 3) (by kernel_rfl) (bs := [b]) hbs vs (B3.lawg lz hf hp hwr l 5000 0)
  · have hf : fill < 50 ∨ 100 < fill := by omega
    rcases hp with hp | hp | hp | hp
    · exact Go.X.lawJ_true (G := 3) (g := 1) (B0.soundd lz hf hsz hmo (handle hL) ht) (B0.fitd lz fill) hmo hG (by decide) hsz (by decide) gTab (table hL) (by rfl) (lf := 5000) (n := 3) (by kernel_rfl) (bs := [b]) hbs vs (B0.lawd lz hf hp hwr l 5000 0)
    · exact Go.X.lawJ_true (G := 3) (g := 1) (B1.soundd lz hf hsz hmo (handle hL) ht) (B1.fitd lz fill) hmo hG (by decide) hsz (by decide) gTab (table hL) (by rfl) (lf := 5000) (n := 3) (by kernel_rfl) (bs := [b]) hbs vs (B1.lawd lz hf hp hwr l 5000 0)
    · exact Go.X.lawJ_true (G := 3) (g := 1) (B2.soundd lz hf hsz hmo (handle hL) ht) (B2.fitd lz fill) hmo hG (by decide) hsz (by decide) gTab (table hL) (by rfl) (lf := 5000) (n := 3) (by kernel_rfl) (bs := [b]) hbs vs (B2.lawd lz hf hp hwr l 5000 0)
    · exact Go.X.lawJ_true (G := 3) (g := 1) (B3.soundd lz hf hsz hmo (handle hL) ht) (B3.fitd lz fill) hmo hG (by decide) hsz (by decide) gTab (table hL) (by rfl) (lf := 5000) (n := 3) (by kernel_rfl) (bs := [b]) hbs vs (B3.lawd lz hf hp hwr l 5000 0)
theorem laidOut : laidOutB Tryz.prog = true := by kernel_rfl
set_option maxRecDepth 100000 in
theorem contract (H : Type) (enc : TypeId × Value → H) (W : World) (base : Nat) (args : Array Value) (ds gs : List (DataW H)) (before : List MemPlace)
    (hval : ∀ (j : Nat) t v, Tryz.f4.params[j]? = some t → args[j]? = some v → Value.okWide Tryz.prog W .any base t v)
    (hW : DataW.Whole enc Tryz.prog Tryz.f4.params.toList Rows.bulkArgsSpec.vars false W args.toList ds gs before) (hsh : W.ShapedOpen Tryz.prog) (hL : laidMetH Tryz.prog Rows.bulkArgsRow.laid W) :
    Calls Tryz.prog 4 args W fun e W' => ∃ v, e = .returned v ∧ Rows.bulkArgsSpec.post enc Tryz.prog Tryz.f4 false true false false W args v W' := by
  have hW' := hW
  obtain ⟨p, q, hA0, hV, rfl, hfz, hnd⟩ := hW
  have hA : DataW.TrodAll enc Tryz.prog W 0 (fun _ => true) true Tryz.f4.params.toList args.toList ds p := hA0
  rw [Tryz.params4] at hA hval
  obtain ⟨v0, v1, v2, v3, d0, d1, d2, d3, p0, p1, p2, p3, rfl, rfl, rfl, h0, h1, h2, h3⟩ := trodAll_four hA
  obtain ⟨rfl, rfl⟩ := trodVars_none hV
  obtain ⟨size, rfl, rfl, rfl, w0⟩ := open_int Tryz.underlying3 (hval 0 3 v0 rfl rfl) h0
  obtain ⟨lz, rfl, rfl, rfl⟩ := open_bool Tryz.underlying4 (hval 1 4 v1 rfl rfl) h1
  obtain ⟨fill, rfl, rfl, rfl, w3⟩ := open_int Tryz.underlying3 (hval 3 3 v3 rfl rfl) h3
  obtain ⟨ad, ln, cp, rfl⟩ := okWide_slice Tryz.underlying23 (hval 2 23 v2 rfl rfl)
  obtain ⟨fu, hf2⟩ := h2
  obtain ⟨s, rows, m, e2, _, hcell, _, _⟩ := Go.X.abs_rows Tryz.underlying23 (show Tryz.prog.cellsOf 104 = 2 by kernel_rfl) (by decide) hf2
  have h2 : DataW.Trod enc Tryz.prog W 0 (fun _ => true) true 23 _ d2 p2 := ⟨fu, hf2⟩
  clear hA0
  simp only [List.append_nil] at hW'
  refine (law_calls W hsh hL lz w0 e2 fun hn => (hcell hn).1).mono fun e W' ⟨he, hg⟩ => ?_
  subst he
  have hlt := hW'.lt
  refine ⟨_, rfl, Go.X.post_below rfl hW' hg (fun _ _ _ => (trodAll_cons_mk (shut_bool Tryz.underlying4 _) trodAll_mk0)) rfl (fun sp hsp => ?_) (ok_one (by kernel_rfl) rfl (okWide_bool_mk Tryz.underlying4 _))⟩
  have t2 := WideElems.Trod_stays laidOut (by kernel_rfl) (of_decide_eq_true (by kernel_rfl)) h2 (fun x hx => hg.same (hlt x (by simpa using hx))) (fun x hx => hsp x (by simpa using hx))
  have := trodAll_cons_mk (shut_int Tryz.underlying3 w0) (trodAll_cons_mk (shut_bool Tryz.underlying4 lz) (trodAll_cons_mk t2 (trodAll_cons_mk (shut_int Tryz.underlying3 w3) trodAll_mk0)))
  simp only [List.nil_append, List.append_nil] at this ⊢
  exact this

noncomputable def layE : Obj → Obj := fun
  | .cells _ t frozen => .cells #[.iface 189 (.agg #[.pointer (some ⟨3, 30, none⟩)])] t frozen
  | o => o
noncomputable def layT : Obj → Obj := fun
  | .cells _ t frozen => .cells #[.int .u8 0, .int .u8 1, .int .u8 56, .int .u8 2, .int .u8 57, .int .u8 49, .int .u8 28, .int .u8 3, .int .u8 61, .int .u8 58, .int .u8 42, .int .u8 50, .int .u8 38, .int .u8 29, .int .u8 17, .int .u8 4, .int .u8 62, .int .u8 47, .int .u8 59, .int .u8 36, .int .u8 45, .int .u8 43, .int .u8 51, .int .u8 22, .int .u8 53, .int .u8 39, .int .u8 33, .int .u8 30, .int .u8 24, .int .u8 18, .int .u8 12, .int .u8 5, .int .u8 63, .int .u8 55, .int .u8 48, .int .u8 27, .int .u8 60, .int .u8 41, .int .u8 37, .int .u8 16, .int .u8 46, .int .u8 35, .int .u8 44, .int .u8 21, .int .u8 52, .int .u8 32, .int .u8 23, .int .u8 11, .int .u8 54, .int .u8 26, .int .u8 40, .int .u8 15, .int .u8 34, .int .u8 20, .int .u8 31, .int .u8 10, .int .u8 25, .int .u8 14, .int .u8 19, .int .u8 9, .int .u8 13, .int .u8 8, .int .u8 7, .int .u8 6] t frozen
  | o => o
noncomputable def laidWorld (os : Os) : World :=
  { World.holding Tryz.prog os ⟨#[], #[.int .i64 0, .bool false, .slice none 0 0, .int .i64 0], []⟩ with heap := ((World.holding Tryz.prog os ⟨#[], #[.int .i64 0, .bool false, .slice none 0 0, .int .i64 0], []⟩).heap.modify 0 layE).modify 1 layT }
theorem laid_met (os : Os) : laidMetH Tryz.prog Rows.bulkArgsRow.laid ((laidWorld os).forCall (fun _ _ => 0) ⟨#[], #[.int .i64 0, .bool false, .slice none 0 0, .int .i64 0], []⟩).memory :=
  laidMetH_of_parts (laidMet_of_run' 8 (by kernel_rfl) (by kernel_rfl)) (by kernel_rfl)
theorem reads (os : Os) {H : Type} (enc : TypeId × Value → H) : ∃ places, DataW.whole enc Tryz.prog ((laidWorld os).forCall (fun _ _ => 0) ⟨#[], #[.int .i64 0, .bool false, .slice none 0 0, .int .i64 0], []⟩).memory Tryz.f4.params.toList Rows.bulkArgsSpec.vars false #[.int .i64 0, .bool false, .slice none 0 0, .int .i64 0].toList 8 = some ([.lit (.int .i64 0), .lit (.bool false), .nil, .lit (.int .i64 0)], [], places) :=
  ⟨[], by kernel_rfl⟩
set_option maxRecDepth 100000 in
theorem lifted (os : Os) (started : os.Started) (H : Type) (enc : TypeId × Value → H) (F : Stop.Interp) :
    ReturnsInHanded {} Tryz.checked os 4 .any ((OpenSpec.ofChange Rows.bulkArgsSpec).preRow enc Tryz.prog Tryz.f4 Rows.bulkArgsRow.domain false Rows.bulkArgsRow.laid) (((OpenSpec.ofChange Rows.bulkArgsSpec).at F).post enc Tryz.prog Tryz.f4 false true false false) := by
  obtain ⟨places, hx⟩ := reads os enc
  refine returnsInHanded_of_row (C := Tryz.checked) (s := OpenSpec.ofChange Rows.bulkArgsSpec) own started (by kernel_rfl) Tryz.func4
    (witness_row_at (enc := enc) (C := Tryz.checked) false (laidWorld os) #[.int .i64 0, .bool false, .slice none 0 0, .int .i64 0] rfl (by kernel_rfl) (by kernel_rfl) (by kernel_rfl)
      (OpenSpec.preRow_of_cond 8 hx (by kernel_rfl) (fun k hk => by cases hk) (by kernel_rfl) (laid_met os))) ?_
  intro W base args ds gs before hval hW _ _ _ hL hsh _
  exact contract H enc W base args ds gs before hval hW hsh hL

theorem said : Rows.BulkArgsSaid :=
  OpenClaim.holds_of_cond 4 Tryz.f4 rfl rfl rfl rfl rfl rfl rfl ⟨rfl, rfl, rfl, rfl, rfl⟩ rfl rfl rfl rfl rfl (by kernel_rfl) Tryz.func4 closed
    (of_decide_eq_true (by kernel_rfl)) (by unfold Func.isWrapper; first | (rw [if_pos (by decide +kernel)]; kernel_rfl) | (rw [if_neg (by decide +kernel)]; exact ⟨rfl, rfl⟩))
    (fun os started H enc _ F => by rw [OpenClaim.pre_eq_preRow]; exact lifted os started H enc F)

theorem wants3 : Tryz.prog.wantsStandIn 3 = false := by kernel_rfl
theorem wants4 : Tryz.prog.wantsStandIn 4 = false := by kernel_rfl
theorem wants23 : Tryz.prog.wantsStandIn 23 = false := by kernel_rfl
theorem plain (f : FuncId) (fn : Func) (hf : Tryz.pinned.checked.prog.funcNamed "banyan/banyanlaw15.BulkArgs" = some f) (hfn : Tryz.pinned.checked.prog.funcs[f]? = some fn) :
    true = Tryz.pinned.checked.prog.looks [] ∧ ∀ (j : Nat) t, fn.params[j]? = some t → Tryz.pinned.checked.prog.wantsStandIn t = false := by
  obtain rfl : f = 4 := Option.some.inj ((show Tryz.prog.funcNamed "banyan/banyanlaw15.BulkArgs" = some 4 by kernel_rfl).symm.trans hf) |>.symm
  obtain rfl : fn = Tryz.f4 := (Option.some.inj (Tryz.func4.symm.trans hfn)).symm
  refine ⟨by kernel_rfl, fun j t ht => ?_⟩
  rw [Tryz.params4] at ht
  have : t = 3 ∨ t = 4 ∨ t = 23 := by
    rcases j with _ | _ | _ | _ | j <;> simp at ht <;> simp [← ht]
  rcases this with rfl | rfl | rfl
  · exact wants3
  · exact wants4
  · exact wants23

theorem card : Rows.BulkArgsCardSaid :=
  Claim7.holds_tied_plain_at .later [] _ _ _ _ said (fun _ h => by cases h) (by kernel_rfl) (fun _ h => by cases h) bulkArgs_row_tie rfl ⟨rfl, rfl⟩ (by kernel_rfl) rfl plain (by kernel_rfl)
#print axioms card
end Go.Proofs.YtbhbiccfkkoanaaGreatDoor.bulkArgs
