/-
  PROVED: the law 'EngineNil' returns true, from every world that fits its row (the row lays the table math/bits.deBruijn64tab); its card. Conditions: none but the row's own.
-/
import Derived.Test.YtccpfaommgclkaaGreatDoorC0
import Derived.Test.YtccpfaommgclkaaGreatDoorEngineNilR
import Derived.Test.YtccpfaommgclkaaGreatDoorEngineNilJ
import Derived.Test.YtccpfaommgclkaaGreatDoorCards
import Derived.Deep.Strs
import Derived.ReadAgain
import Derived.Carry
import Derived.DataShut
import Derived.HandedShaped
import Derived.Test.YtccpfaommgclkaaGreatDoorTie
import Derived.WalkKit
import Derived.ProofKit
import Derived.OpenShut
import Derived.Deep.DeepHandedRow
import Derived.Lib.LaidTab
import Derived.LaidLaws
import Derived.LaidHandle
namespace Go.Proofs.YtccpfaommgclkaaGreatDoor.engineNil
open Go.ChangeShapes Go.WideShapes Go.ChangeAt Go.RowKit
set_option linter.unusedVariables false
set_option linter.unusedSimpArgs false
set_option maxRecDepth 100000
theorem own : ownKnob Tryz.prog.godebug = none := by kernel_rfl
theorem gTab : Tryz.prog.globalNamed "math/bits.deBruijn64tab" = some 1 := by kernel_rfl
theorem hG : Tryz.prog.globals.size = 3 := by kernel_rfl
theorem gType : ∃ t e, ((Tryz.prog.globals[1]?).map (·.type)) = some t ∧ Tryz.prog.underlying t = some (.array 64 e) ∧ Tryz.prog.underlying e = some (.int .u8) ∧ Tryz.prog.cellsOf e = 1 ∧ Tryz.prog.cellsOf t = 64 :=
  ⟨333, 5, by kernel_rfl, by kernel_rfl, by kernel_rfl, by kernel_rfl, by kernel_rfl⟩
theorem table {W : World} (h : laidMetH Tryz.prog Rows.engineNilRow.laid W) : Lib.TabIs Tryz.prog W "math/bits.deBruijn64tab" .u8 [0, 1, 56, 2, 57, 49, 28, 3, 61, 58, 42, 50, 38, 29, 17, 4, 62, 47, 59, 36, 45, 43, 51, 22, 53, 39, 33, 30, 24, 18, 12, 5, 63, 55, 48, 27, 60, 41, 37, 16, 46, 35, 44, 21, 52, 32, 23, 11, 54, 26, 40, 15, 34, 20, 31, 10, 25, 14, 19, 9, 13, 8, 7, 6] := by
  obtain ⟨t, e, h1, h2, h3, h4, h5⟩ := gType
  exact Lib.tabIs_of_head (rest := []) gTab h1 h2 h3 h4 h5 h.1
theorem et : Tryz.prog.globalNamed "errors.errorType" = some 0 := by kernel_rfl
theorem rt : (Tryz.prog.cutTypes.find? (·.1 == "internal/reflectlite.rtype")).map (·.2) = some 223 := by kernel_rfl
theorem oneRow : ((List.range 578).filter fun t => Tryz.prog.rowNamed t [101, 114, 114, 111, 114]) = [34] := by kernel_rfl
theorem size : Tryz.prog.types.size = 578 := by kernel_rfl
theorem handle {W : World} (h : laidMetH Tryz.prog Rows.engineNilRow.laid W) : W.cell? ⟨0, 0, none⟩ = some (.iface 223 (.agg #[.pointer (some ⟨3, 34, none⟩)])) := by
  have h' : laidMet Tryz.prog [("math/bits.deBruijn64tab", Rows.laid_math_bits_deBruijn64tab)] W ∧ handlesMet Tryz.prog [("errors.errorType", Rows.laid_errors_errorType)] W := h
  obtain ⟨name, u, ty, e1, e2, e3, e4, e5⟩ := h'.2 _ (List.mem_singleton.2 rfl)
  have en : name = [101, 114, 114, 111, 114] := (Option.some.inj e1).symm
  subst en
  obtain rfl := Option.some.inj (rt.symm.trans e2)
  have hm : ty ∈ (List.range 578).filter fun t => Tryz.prog.rowNamed t [101, 114, 114, 111, 114] := List.mem_filter.2 ⟨List.mem_range.2 (by rw [← size]; exact e3), e4⟩
  rw [oneRow] at hm
  obtain rfl := List.mem_singleton.1 hm
  have hh : typeHandle Tryz.prog 34 = .pointer (some ⟨3, 34, none⟩) := by kernel_rfl
  rw [hh] at e5
  simpa using World.var?_cell et e5 0
theorem awake_calls (W : World) (h3 : 3 ≤ W.heap.size) (hT : Lib.TabIs Tryz.prog W "math/bits.deBruijn64tab" .u8 EnB.tabZ)
    (hg : W.cell? ⟨0, 0, none⟩ = some (.iface 223 (.agg #[.pointer (some ⟨3, 34, none⟩)]))) : Calls Tryz.prog 5 #[] W fun e W' => e = .returned (.bool true) ∧ Below W.heap.size W W' :=
  Go.X.closed_true_tab (G := 3) (g := 1) (by kernel_rfl) hG (by decide) h3 (by decide) (by kernel_rfl) gTab hT (by rfl) (Cut.ss h3 (by kernel_rfl) hg) awake_runs
theorem awake_true {W : World} (h3 : 3 ≤ W.heap.size) (hL : laidMetH Tryz.prog Rows.engineNilRow.laid W) : Go.X.SumsSound Tryz.prog W (Go.X.trueX 5) :=
  Go.X.true_sound fun w hb => awake_calls w (Nat.le_trans h3 hb.size)
    (by
      have := table hL
      unfold Lib.TabIs World.var? at this ⊢
      rw [gTab, Option.bind_some] at this ⊢
      rw [hb.block 1 (by omega)]; exact this)
    (by
      have := handle hL
      unfold World.cell? at this ⊢
      rw [hb.block 0 (by omega)]; exact this)
theorem kindT : ∃ f0 f1 f2 g0 g1 : Field, Tryz.prog.underlying 29 = some (.struct #[f0, f1, f2]) ∧ Tryz.prog.underlying f1.type = some (.struct #[g0, g1]) ∧ (f0.offset, Tryz.prog.cellsOf f0.type, f1.offset, Tryz.prog.cellsOf f1.type, f2.offset, Tryz.prog.cellsOf f2.type, g0.offset, Tryz.prog.cellsOf g0.type, g1.offset, Tryz.prog.cellsOf g1.type) = (0, 1, 1, 2, 3, 1, 0, 1, 1, 1) ∧
    Tryz.prog.underlying f0.type = some (.int .i64) ∧ Tryz.prog.underlying f2.type = some (.int .i64) ∧ Tryz.prog.underlying g0.type = some (.int .i64) ∧ Tryz.prog.underlying g1.type = some (.slice 3) :=
  ⟨_, _, _, _, _, Tryz.underlying29, Tryz.underlying27, by kernel_rfl, by kernel_rfl, by kernel_rfl, by kernel_rfl, by kernel_rfl⟩
theorem open_cfg {H : Type} {enc : TypeId × Value → H} {W : World} {b0 : Nat} {v : Value} {d : DataW H} {p : List MemPlace} (hv : Value.okWide Tryz.prog W .any b0 29 v) (h : DataW.Trod enc Tryz.prog W 0 (fun _ => true) true 29 v d p) :
    ∃ (k pk c : Int) (u : Value), v = .agg #[.int .i64 k, .int .i64 pk, u, .int .i64 c] ∧ (3 ≤ W.heap.size → ∃ s b off o, EnB.Picks W u s b off o) := by
  obtain ⟨f0, f1, f2, g0, g1, hs, hs1, hf, u0, u2, w0, w1⟩ := kindT
  simp only [Prod.mk.injEq] at hf
  obtain ⟨a1, a2, a3, a4, a5, a6, a7, a8, a9, a10⟩ := hf
  obtain ⟨cs, rfl, hsz⟩ := okWide_struct hs hv
  have hsz : cs.size = 4 := hsz.trans (by kernel_rfl)
  obtain ⟨l⟩ := cs
  match l, hsz with
  | [c0, c1, c2, c3], _ =>
    obtain ⟨fuel, hf⟩ := h
    obtain ⟨y0, y1, y2, n, _, _, h0, h1, h2⟩ := Go.Deep.trod_struct3 hs hf
    rw [a1, a2] at h0
    rw [a3, a4] at h1
    rw [a5, a6] at h2
    have h0 : DataW.trod enc Tryz.prog W 0 (fun _ => true) true n f0.type [c0] = some y0 := h0
    have h1 : DataW.trod enc Tryz.prog W 0 (fun _ => true) true n f1.type [c1, c2] = some y1 := h1
    have h2 : DataW.trod enc Tryz.prog W 0 (fun _ => true) true n f2.type [c3] = some y2 := h2
    obtain ⟨z0, z1, m, _, _, k0, k1⟩ := trod_struct2 hs1 h1
    rw [a7, a8] at k0
    rw [a9, a10] at k1
    have k0 : DataW.trod enc Tryz.prog W 0 (fun _ => true) true m g0.type [c1] = some z0 := k0
    have k1 : DataW.trod enc Tryz.prog W 0 (fun _ => true) true m g1.type [c2] = some z1 := k1
    obtain ⟨k, rfl, _⟩ := Go.X.trod_i64 u0 h0
    obtain ⟨pk, rfl, _⟩ := Go.X.trod_i64 w0 k0
    obtain ⟨c, rfl, _⟩ := Go.X.trod_i64 u2 h2
    exact ⟨k, pk, c, c2, rfl, fun hz => EnB.picks_of hz w1 (by kernel_rfl) (by kernel_rfl) k1⟩
theorem law_calls (W : World) (hsh : W.ShapedOpen Tryz.prog) (hL : laidMetH Tryz.prog Rows.engineNilRow.laid W) {k pk c : Int} {v : Value} (hp : 3 ≤ W.heap.size → ∃ s b off o, EnB.Picks W v s b off o) :
    Calls Tryz.prog 4 #[.agg #[.int .i64 k, .int .i64 pk, v, .int .i64 c]] W fun e W' => e = .returned (.bool true) ∧ Below W.heap.size W W' := by
  have hsz := Go.X.shaped_size (g := 2) hsh (by rw [hG]; exact Nat.lt_succ_self _) (by kernel_rfl)
  obtain ⟨s, b, off, o, p⟩ := hp hsz
  exact EnB.law_calls hsz (table hL) (awake_true hsz hL) p
theorem laidOut : laidOutB Tryz.prog = true := by kernel_rfl
set_option maxRecDepth 100000 in
theorem contract (H : Type) (enc : TypeId × Value → H) (W : World) (base : Nat) (args : Array Value) (ds gs : List (DataW H)) (before : List MemPlace)
    (hval : ∀ (j : Nat) t v, Tryz.f4.params[j]? = some t → args[j]? = some v → Value.okWide Tryz.prog W .any base t v)
    (hW : DataW.Whole enc Tryz.prog Tryz.f4.params.toList Rows.engineNilSpec.vars false W args.toList ds gs before) (hsh : W.ShapedOpen Tryz.prog) (hL : laidMetH Tryz.prog Rows.engineNilRow.laid W) :
    Calls Tryz.prog 4 args W fun e W' => ∃ v, e = .returned v ∧ Rows.engineNilSpec.post enc Tryz.prog Tryz.f4 false true false false W args v W' := by
  have hW' := hW
  obtain ⟨p, q, hA0, hV, rfl, hfz, hnd⟩ := hW
  have hA : DataW.TrodAll enc Tryz.prog W 0 (fun _ => true) true Tryz.f4.params.toList args.toList ds p := hA0
  rw [Tryz.params4] at hA hval
  obtain ⟨v0, d0, rfl, rfl, h0⟩ := trodAll_one hA
  obtain ⟨rfl, rfl⟩ := trodVars_none hV
  obtain ⟨k, pk, c, u, rfl, hp⟩ := open_cfg (hval 0 29 _ rfl rfl) h0
  clear hA0
  simp only [List.append_nil] at hW'
  refine (law_calls W hsh hL hp).mono fun e W' ⟨he, hg⟩ => ?_
  subst he
  have hlt := hW'.lt
  refine ⟨_, rfl, Go.X.post_below rfl hW' hg (fun _ _ _ => (trodAll_cons_mk (shut_bool Tryz.underlying4 _) trodAll_mk0)) rfl (fun sp hsp => ?_) (ok_one (by kernel_rfl) rfl (okWide_bool_mk Tryz.underlying4 _))⟩
  have t2 := WideElems.Trod_stays laidOut (by kernel_rfl) (of_decide_eq_true (by kernel_rfl)) h0 (fun x hx => hg.same (hlt x (by simpa using hx))) (fun x hx => hsp x (by simpa using hx))
  have := trodAll_cons_mk t2 trodAll_mk0
  simp only [List.nil_append, List.append_nil] at this ⊢
  exact this

noncomputable def layE : Obj → Obj := fun
  | .cells _ t frozen => .cells #[.iface 223 (.agg #[.pointer (some ⟨3, 34, none⟩)])] t frozen
  | o => o
noncomputable def layT : Obj → Obj := fun
  | .cells _ t frozen => .cells #[.int .u8 0, .int .u8 1, .int .u8 56, .int .u8 2, .int .u8 57, .int .u8 49, .int .u8 28, .int .u8 3, .int .u8 61, .int .u8 58, .int .u8 42, .int .u8 50, .int .u8 38, .int .u8 29, .int .u8 17, .int .u8 4, .int .u8 62, .int .u8 47, .int .u8 59, .int .u8 36, .int .u8 45, .int .u8 43, .int .u8 51, .int .u8 22, .int .u8 53, .int .u8 39, .int .u8 33, .int .u8 30, .int .u8 24, .int .u8 18, .int .u8 12, .int .u8 5, .int .u8 63, .int .u8 55, .int .u8 48, .int .u8 27, .int .u8 60, .int .u8 41, .int .u8 37, .int .u8 16, .int .u8 46, .int .u8 35, .int .u8 44, .int .u8 21, .int .u8 52, .int .u8 32, .int .u8 23, .int .u8 11, .int .u8 54, .int .u8 26, .int .u8 40, .int .u8 15, .int .u8 34, .int .u8 20, .int .u8 31, .int .u8 10, .int .u8 25, .int .u8 14, .int .u8 19, .int .u8 9, .int .u8 13, .int .u8 8, .int .u8 7, .int .u8 6] t frozen
  | o => o
noncomputable def laidWorld (os : Os) : World :=
  { World.holding Tryz.prog os ⟨#[], #[.agg #[.int .i64 0, .int .i64 0, .slice none 0 0, .int .i64 0]], []⟩ with heap := ((World.holding Tryz.prog os ⟨#[], #[.agg #[.int .i64 0, .int .i64 0, .slice none 0 0, .int .i64 0]], []⟩).heap.modify 0 layE).modify 1 layT }
theorem laid_met (os : Os) : laidMetH Tryz.prog Rows.engineNilRow.laid ((laidWorld os).forCall (fun _ _ => 0) ⟨#[], #[.agg #[.int .i64 0, .int .i64 0, .slice none 0 0, .int .i64 0]], []⟩).memory :=
  laidMetH_of_parts (laidMet_of_run' 8 (by kernel_rfl) (by kernel_rfl)) (by kernel_rfl)
theorem reads (os : Os) {H : Type} (enc : TypeId × Value → H) : ∃ places, DataW.whole enc Tryz.prog ((laidWorld os).forCall (fun _ _ => 0) ⟨#[], #[.agg #[.int .i64 0, .int .i64 0, .slice none 0 0, .int .i64 0]], []⟩).memory Tryz.f4.params.toList Rows.engineNilSpec.vars false #[.agg #[.int .i64 0, .int .i64 0, .slice none 0 0, .int .i64 0]].toList 8 = some ([.agg [.lit (.int .i64 0), .agg [.lit (.int .i64 0), .nil], .lit (.int .i64 0)]], [], places) :=
  ⟨[], by kernel_rfl⟩
set_option maxRecDepth 100000 in
theorem lifted (os : Os) (started : os.Started) (H : Type) (enc : TypeId × Value → H) (F : Stop.Interp) :
    ReturnsInHanded {} Tryz.checked os 4 .any ((OpenSpec.ofChange Rows.engineNilSpec).preRow enc Tryz.prog Tryz.f4 Rows.engineNilRow.domain false Rows.engineNilRow.laid) (((OpenSpec.ofChange Rows.engineNilSpec).at F).post enc Tryz.prog Tryz.f4 false true false false) := by
  obtain ⟨places, hx⟩ := reads os enc
  refine returnsInHanded_of_row (C := Tryz.checked) (s := OpenSpec.ofChange Rows.engineNilSpec) own started (by kernel_rfl) Tryz.func4
    (witness_row_at (enc := enc) (C := Tryz.checked) false (laidWorld os) #[.agg #[.int .i64 0, .int .i64 0, .slice none 0 0, .int .i64 0]] rfl (by kernel_rfl) (by kernel_rfl) (by kernel_rfl)
      (OpenSpec.preRow_of_cond 8 hx (by kernel_rfl) (fun k hk => by cases hk) (by kernel_rfl) (laid_met os))) ?_
  intro W base args ds gs before hval hW _ _ _ hL hsh _
  exact contract H enc W base args ds gs before hval hW hsh hL

theorem said : Rows.EngineNilSaid :=
  OpenClaim.holds_of_cond 4 Tryz.f4 rfl rfl rfl rfl rfl rfl rfl ⟨rfl, rfl, rfl, rfl, rfl⟩ rfl rfl rfl rfl rfl (by kernel_rfl) Tryz.func4 closed
    (of_decide_eq_true (by kernel_rfl)) (by unfold Func.isWrapper; first | (rw [if_pos (by decide +kernel)]; kernel_rfl) | (rw [if_neg (by decide +kernel)]; exact ⟨rfl, rfl⟩))
    (fun os started H enc _ F => by rw [OpenClaim.pre_eq_preRow]; exact lifted os started H enc F)

theorem wants29 : Tryz.prog.wantsStandIn 29 = false := by kernel_rfl
theorem plain (f : FuncId) (fn : Func) (hf : Tryz.pinned.checked.prog.funcNamed "banyan/banyanlaw22.EngineNil" = some f) (hfn : Tryz.pinned.checked.prog.funcs[f]? = some fn) :
    true = Tryz.pinned.checked.prog.looks [] ∧ ∀ (j : Nat) t, fn.params[j]? = some t → Tryz.pinned.checked.prog.wantsStandIn t = false := by
  obtain rfl : f = 4 := Option.some.inj ((show Tryz.prog.funcNamed "banyan/banyanlaw22.EngineNil" = some 4 by kernel_rfl).symm.trans hf) |>.symm
  obtain rfl : fn = Tryz.f4 := (Option.some.inj (Tryz.func4.symm.trans hfn)).symm
  refine ⟨by kernel_rfl, fun j t ht => ?_⟩
  rw [Tryz.params4] at ht
  have : t = 29 := by
    rcases j with _ | j <;> simp at ht <;> simp [← ht]
  subst this
  exact wants29

theorem card : Rows.EngineNilCardSaid :=
  Claim7.holds_tied_plain_at .later [] _ _ _ _ said (fun _ h => by cases h) (by kernel_rfl) (fun _ h => by cases h) engineNil_row_tie rfl ⟨rfl, rfl⟩ (by kernel_rfl) rfl plain (by kernel_rfl)
#print axioms card
end Go.Proofs.YtccpfaommgclkaaGreatDoor.engineNil
