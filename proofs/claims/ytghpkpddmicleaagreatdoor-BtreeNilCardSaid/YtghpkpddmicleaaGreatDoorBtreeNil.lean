/-
  PROVED: the law 'BtreeNil' returns true, and its arguments read as they did; its card. Condition: the row's own (the row lays the table math/bits.deBruijn64tab).
-/
import Derived.Test.YtghpkpddmicleaaGreatDoorP3
import Derived.Test.YtghpkpddmicleaaGreatDoorBtreeNilR
import Derived.Test.YtghpkpddmicleaaGreatDoorBtreeNilJ
import Derived.Test.YtghpkpddmicleaaGreatDoorCards
import Derived.ReadAgain
import Derived.Carry
import Derived.DataShut
import Derived.HandedShaped
import Derived.Test.YtghpkpddmicleaaGreatDoorTie
import Derived.WalkKit
import Derived.ProofKit
import Derived.OpenShut
import Derived.Deep.DeepHandedRow
import Derived.Lib.LaidTab
import Derived.LaidLaws
import Derived.LaidHandle
import Derived.JoinedCond
namespace Go.Proofs.YtghpkpddmicleaaGreatDoor.btreeNil
open Go.ChangeShapes Go.WideShapes Go.ChangeAt Go.RowKit
set_option linter.unusedVariables false
set_option maxRecDepth 100000
theorem own : ownKnob Tryz.prog.godebug = none := by kernel_rfl
theorem gTab : Tryz.prog.globalNamed "math/bits.deBruijn64tab" = some 0 := by kernel_rfl
theorem hG : Tryz.prog.globals.size = 1 := by kernel_rfl
theorem gType : ∃ t e, ((Tryz.prog.globals[0]?).map (·.type)) = some t ∧ Tryz.prog.underlying t = some (.array 64 e) ∧ Tryz.prog.underlying e = some (.int .u8) ∧ Tryz.prog.cellsOf e = 1 ∧ Tryz.prog.cellsOf t = 64 :=
  ⟨226, 5, by kernel_rfl, by kernel_rfl, by kernel_rfl, by kernel_rfl, by kernel_rfl⟩
theorem table {W : World} (h : laidMetH Tryz.prog Rows.btreeNilRow.laid W) : Lib.TabIs Tryz.prog W "math/bits.deBruijn64tab" .u8 [0, 1, 56, 2, 57, 49, 28, 3, 61, 58, 42, 50, 38, 29, 17, 4, 62, 47, 59, 36, 45, 43, 51, 22, 53, 39, 33, 30, 24, 18, 12, 5, 63, 55, 48, 27, 60, 41, 37, 16, 46, 35, 44, 21, 52, 32, 23, 11, 54, 26, 40, 15, 34, 20, 31, 10, 25, 14, 19, 9, 13, 8, 7, 6] := by
  obtain ⟨t, e, h1, h2, h3, h4, h5⟩ := gType
  exact Lib.tabIs_of_head (rest := []) gTab h1 h2 h3 h4 h5 h

theorem alive_calls (W : World) (h1 : 1 ≤ W.heap.size) (hT : Lib.TabIs Tryz.prog W "math/bits.deBruijn64tab" .u8 BnB.zsT) : Calls Tryz.prog 4 #[] W fun e W' => e = .returned (.bool true) ∧ Below W.heap.size W W' :=
  Go.X.closed_true_tab (G := 1) (g := 0) (by kernel_rfl) hG (by decide) h1 (by decide) (by kernel_rfl) gTab hT (by rfl) (Cut.ss h1 (by kernel_rfl)) alive_runs
theorem alive_true {W : World} (h1 : 1 ≤ W.heap.size) (hL : laidMetH Tryz.prog Rows.btreeNilRow.laid W) : Go.X.SumsSound Tryz.prog W (Go.X.trueX 4) :=
  Go.X.true_sound fun w hb => alive_calls w (Nat.le_trans h1 hb.size)
    (by
      have := table hL
      unfold Lib.TabIs World.var? at this ⊢
      rw [gTab, Option.bind_some] at this ⊢
      rw [hb.block 0 (by omega)]; exact this)
theorem cap_of {t e : TypeId} {W : World} {base : Nat} {a : Option Addr} {l c : Nat} (ht : Tryz.prog.underlying t = some (.slice e)) (h : Value.okWide Tryz.prog W .any base t (.slice a l c)) : l ≤ c := by
  simp only [Value.okWide, ht, Cell.okWide, Cell.ok] at h
  cases a with
  | some a => exact h.1
  | none =>
    match l, c, h with
    | 0, _, _ => exact Nat.zero_le _
theorem laidOut : laidOutB Tryz.prog = true := by kernel_rfl
set_option maxRecDepth 100000 in
theorem contract (H : Type) (enc : TypeId × Value → H) (W : World) (base : Nat) (args : Array Value) (ds gs : List (DataW H)) (before : List MemPlace)
    (hval : ∀ (j : Nat) t v, Tryz.f3.params[j]? = some t → args[j]? = some v → Value.okWide Tryz.prog W .any base t v)
    (hW : DataW.Whole enc Tryz.prog Tryz.f3.params.toList Rows.btreeNilSpec.vars false W args.toList ds gs before) (hsh : W.ShapedOpen Tryz.prog) (hL : laidMetH Tryz.prog Rows.btreeNilRow.laid W) :
    Calls Tryz.prog 3 args W fun e W' => ∃ v, e = .returned v ∧ Rows.btreeNilSpec.post enc Tryz.prog Tryz.f3 false true false false W args v W' := by
  have hW' := hW
  obtain ⟨p, q, hA0, hV, rfl, hfz, hnd⟩ := hW
  have hA : DataW.TrodAll enc Tryz.prog W 0 (fun _ => true) true Tryz.f3.params.toList args.toList ds p := hA0
  rw [Tryz.params3] at hA hval
  obtain ⟨v0, v1, d0, d1, p0, p1, rfl, rfl, rfl, h0, h1⟩ := trodAll_two hA
  obtain ⟨rfl, rfl⟩ := trodVars_none hV
  obtain ⟨z, rfl, rfl, rfl, w0⟩ := open_int Tryz.underlying3 (hval 0 3 v0 rfl rfl) h0
  obtain ⟨ad, ln, cp, rfl⟩ := okWide_slice Tryz.underlying22 (hval 1 22 v1 rfl rfl)
  have hcp := cap_of Tryz.underlying22 (hval 1 22 _ rfl rfl)
  simp only [List.append_nil] at hW'
  have h1' := h1
  obtain ⟨fu, hf⟩ := h1'
  obtain ⟨s, k, e1, hb, _⟩ := Go.X.abs_bytes Tryz.underlying22 Tryz.underlying5 (show Tryz.prog.cellsOf 5 = 1 by kernel_rfl) hf
  have hsz := Go.X.shaped_size (g := 0) hsh (by rw [hG]; exact Nat.lt_succ_self _) (by kernel_rfl)
  clear hA0
  refine (BnB.law_world hsz (by kernel_rfl) hG (alive_true hsz hL) gTab (table hL) e1 hb (fun hn => by have := BnB.absV_cap e1 hn; omega)).mono fun e W' ⟨he, hg⟩ => ?_
  subst he
  have hlt := hW'.lt
  refine ⟨_, rfl, Go.X.post_below rfl hW' hg (fun _ _ _ => (trodAll_cons_mk (shut_bool Tryz.underlying4 _) trodAll_mk0)) rfl (fun sp hsp => ?_) (ok_one (by kernel_rfl) rfl (okWide_bool_mk Tryz.underlying4 _))⟩
  have t1 := WideElems.Trod_stays laidOut (by kernel_rfl) (of_decide_eq_true (by kernel_rfl)) h1 (fun x hx => hg.same (hlt x (by simpa using hx))) (fun x hx => hsp x (by simpa using hx))
  have := trodAll_cons_mk (shut_int Tryz.underlying3 w0) (trodAll_cons_mk t1 trodAll_mk0)
  simp only [List.nil_append, List.append_nil] at this ⊢
  exact this

noncomputable def layT : Obj → Obj := fun
  | .cells _ t frozen => .cells #[.int .u8 0, .int .u8 1, .int .u8 56, .int .u8 2, .int .u8 57, .int .u8 49, .int .u8 28, .int .u8 3, .int .u8 61, .int .u8 58, .int .u8 42, .int .u8 50, .int .u8 38, .int .u8 29, .int .u8 17, .int .u8 4, .int .u8 62, .int .u8 47, .int .u8 59, .int .u8 36, .int .u8 45, .int .u8 43, .int .u8 51, .int .u8 22, .int .u8 53, .int .u8 39, .int .u8 33, .int .u8 30, .int .u8 24, .int .u8 18, .int .u8 12, .int .u8 5, .int .u8 63, .int .u8 55, .int .u8 48, .int .u8 27, .int .u8 60, .int .u8 41, .int .u8 37, .int .u8 16, .int .u8 46, .int .u8 35, .int .u8 44, .int .u8 21, .int .u8 52, .int .u8 32, .int .u8 23, .int .u8 11, .int .u8 54, .int .u8 26, .int .u8 40, .int .u8 15, .int .u8 34, .int .u8 20, .int .u8 31, .int .u8 10, .int .u8 25, .int .u8 14, .int .u8 19, .int .u8 9, .int .u8 13, .int .u8 8, .int .u8 7, .int .u8 6] t frozen
  | o => o
noncomputable def laidWorld (os : Os) : World :=
  { World.holding Tryz.prog os ⟨#[], #[.int .i64 0, .slice none 0 0], []⟩ with heap := ((World.holding Tryz.prog os ⟨#[], #[.int .i64 0, .slice none 0 0], []⟩).heap).modify 0 layT }
theorem laid_met (os : Os) : laidMet Tryz.prog Rows.btreeNilRow.laid ((laidWorld os).forCall (fun _ _ => 0) ⟨#[], #[.int .i64 0, .slice none 0 0], []⟩).memory :=
  laidMet_of_run' 8 (by kernel_rfl) (by kernel_rfl)
theorem reads (os : Os) {H : Type} (enc : TypeId × Value → H) : ∃ places, DataW.whole enc Tryz.prog ((laidWorld os).forCall (fun _ _ => 0) ⟨#[], #[.int .i64 0, .slice none 0 0], []⟩).memory Tryz.f3.params.toList Rows.btreeNilSpec.vars false #[.int .i64 0, .slice none 0 0].toList 8 = some ([.lit (.int .i64 0), .nil], [], places) :=
  ⟨[], by kernel_rfl⟩
set_option maxRecDepth 100000 in
theorem lifted (os : Os) (started : os.Started) (H : Type) (enc : TypeId × Value → H) (F : Stop.Interp) :
    ReturnsInHanded {} Tryz.checked os 3 .any ((OpenSpec.ofChange Rows.btreeNilSpec).preRow enc Tryz.prog Tryz.f3 Rows.btreeNilRow.domain false Rows.btreeNilRow.laid) (((OpenSpec.ofChange Rows.btreeNilSpec).at F).post enc Tryz.prog Tryz.f3 false true false false) := by
  obtain ⟨places, hx⟩ := reads os enc
  refine returnsInHanded_of_row (C := Tryz.checked) (s := OpenSpec.ofChange Rows.btreeNilSpec) own started (by kernel_rfl) Tryz.func3
    (witness_row_at (enc := enc) (C := Tryz.checked) false (laidWorld os) #[.int .i64 0, .slice none 0 0] rfl (by kernel_rfl) (by kernel_rfl) (by kernel_rfl)
      (OpenSpec.preRow_of_cond 8 hx (by kernel_rfl) (fun k hk => by cases hk) (by kernel_rfl) (laid_met os))) ?_
  intro W base args ds gs before hval hW _ _ _ hL hsh _
  exact contract H enc W base args ds gs before hval hW hsh hL

theorem said : Rows.BtreeNilSaid :=
  OpenClaim.holds_of_cond 3 Tryz.f3 rfl rfl rfl rfl rfl rfl rfl ⟨rfl, rfl, rfl, rfl, rfl⟩ rfl rfl rfl rfl rfl (by kernel_rfl) Tryz.func3 closed
    (of_decide_eq_true (by kernel_rfl)) (by unfold Func.isWrapper; first | (rw [if_pos (by decide +kernel)]; kernel_rfl) | (rw [if_neg (by decide +kernel)]; exact ⟨rfl, rfl⟩))
    (fun os started H enc _ F => by rw [OpenClaim.pre_eq_preRow]; exact lifted os started H enc F)

theorem wants3 : Tryz.prog.wantsStandIn 3 = false := by kernel_rfl
theorem wants22 : Tryz.prog.wantsStandIn 22 = false := by kernel_rfl
theorem plain (f : FuncId) (fn : Func) (hf : Tryz.pinned.checked.prog.funcNamed "banyan/banyanlaw14.BtreeNil" = some f) (hfn : Tryz.pinned.checked.prog.funcs[f]? = some fn) :
    true = Tryz.pinned.checked.prog.looks [] ∧ ∀ (j : Nat) t, fn.params[j]? = some t → Tryz.pinned.checked.prog.wantsStandIn t = false := by
  obtain rfl : f = 3 := Option.some.inj ((show Tryz.prog.funcNamed "banyan/banyanlaw14.BtreeNil" = some 3 by kernel_rfl).symm.trans hf) |>.symm
  obtain rfl : fn = Tryz.f3 := (Option.some.inj (Tryz.func3.symm.trans hfn)).symm
  refine ⟨by kernel_rfl, fun j t ht => ?_⟩
  rw [Tryz.params3] at ht
  have : t = 3 ∨ t = 22 := by
    rcases j with _ | _ | j <;> simp at ht <;> simp [← ht]
  rcases this with rfl | rfl
  · exact wants3
  · exact wants22

theorem card : Rows.BtreeNilCardSaid :=
  Claim7.holds_tied_plain_at .later [] _ _ _ _ said (fun _ h => by cases h) (by kernel_rfl) (fun _ h => by cases h) btreeNil_row_tie rfl ⟨rfl, rfl⟩ (by kernel_rfl) rfl plain (by kernel_rfl)
#print axioms card
end Go.Proofs.YtghpkpddmicleaaGreatDoor.btreeNil
