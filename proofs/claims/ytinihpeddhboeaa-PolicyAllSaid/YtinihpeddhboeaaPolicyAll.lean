/-
  PROVED: 'banyanlaw16.PolicyAll' returns true, and its arguments read behind the call as they read before, from every world that fits the row. Conditions: none but the row's own.
-/
import Derived.Test.YtinihpeddhboeaaPc
import Derived.Test.YtinihpeddhboeaaRows
import Derived.WalkKit
import Derived.ProofKit
import Derived.OpenShut
import Derived.HandedShaped
import Derived.Carry
import Derived.ReadAgain
namespace Go.Proofs.Ytinihpeddhboeaa.policyAll
open Go.ChangeShapes Go.WideShapes Go.ChangeAt Go.RowKit
set_option linter.unusedVariables false
noncomputable def hints : Go.X.Hints := ⟨fun _ => none, fun _ => 0⟩
theorem runs : Go.X.allTrue ((Go.X.xCall Try.prog hints (fun _ => none) 1000 50 7 []).run 0 (Go.X.startH 0) Go.X.Log.nil) = true := by decide +kernel
theorem shown_calls (W : World) : Calls Try.prog 7 #[] W fun e W' => e = .returned (.bool true) ∧ Below W.heap.size W W' :=
  Go.X.closed_true (G := 0) (by kernel_rfl) (by kernel_rfl) (Nat.zero_le _) (Nat.zero_le _) (by kernel_rfl) Go.X.noSums (.inr fun _ => Nat.zero_le _) runs
theorem law_calls {W : World} {v0 : Value} {cs : Array Value} {kd : Int} {v1 : Value} {s w : Go.X.SL} {ws ps : List Int} (h0 : Go.X.absV W.heap.size v0 = w.av) (h1 : Go.X.absV W.heap.size v1 = s.av) (hc : cs.toList = [.int .i64 kd, v1])
    (hw : Go.X.Ints (Go.X.absH W) w ws) (hs : Go.X.Ints (Go.X.absH W) s ps) (hr : ∀ p, p ∈ ps → -9223372036854775808 ≤ p ∧ p ≤ 9223372036854775807) :
    Calls Try.prog 5 #[v0, .agg cs] W fun e W' => e = .returned (.bool true) ∧ Below W.heap.size W W' := by
  refine Go.X.law_true (S := PolN.S7) (sums := Go.X.trueX 7) (Go.X.true_sound fun w _ => shown_calls w) (Go.X.true_fit 7) (by kernel_rfl) (by rw [show Try.prog.globals.size = 0 by kernel_rfl]; exact Nat.zero_le _) (lf := 46343) (n := 6) (by kernel_rfl)
    (args := [.sl w, .agg [.int .i64 kd, .sl s]]) ?_ (PolN.all_ok hw hs hr (by decide))
  have e0 := Go.X.absV_VR W.heap.size v0
  have e1 := Go.X.absV_VR W.heap.size v1
  rw [h0] at e0; rw [h1] at e1
  refine .cons _ _ _ _ (by rw [Go.X.av_sl]; exact e0) (.cons _ _ _ _ ?_ .nil)
  rw [Go.X.av_agg, Go.X.avs_cons, Go.X.avs_cons, Go.X.avs_nil, Go.X.av_int, Go.X.av_sl]
  exact .agg _ _ (by rw [hc]; exact .cons _ _ _ _ (.int _ _) (.cons _ _ _ _ e1 .nil))

theorem types31 : Try.prog.cellTypes Try.prog.depth 31 = some [29, 23] := by kernel_rfl
theorem cells31 : Try.prog.cellsOf 31 = 2 := by kernel_rfl
/-- a policy: its kind, its picks -/
theorem ok_policy {W : World} {base : Nat} {v : Value} (k1 : Value.okWide Try.prog W .any base 31 v) : ∃ kd y, v = .agg #[.int .i64 kd, y] ∧ Cell.okWide Try.prog W .any base 23 y := by
  unfold Value.okWide at k1
  rw [Try.underlying31] at k1
  obtain ⟨cs, rfl, hsz, ts, hts, _, hcs⟩ := k1
  rw [types31] at hts
  have ets := Option.some.inj hts
  subst ets
  rw [cells31] at hsz
  obtain ⟨l⟩ := cs
  match l, hsz, hcs with
  | [x, y], _, hcs =>
    obtain ⟨u, hu, kx⟩ := hcs 0 x rfl
    have hu : 29 = u := Option.some.inj hu
    subst hu
    obtain ⟨u, hu, ky⟩ := hcs 1 y rfl
    have hu : 23 = u := Option.some.inj hu
    subst hu
    have kv : Value.okWide Try.prog W .any base 29 x := by
      unfold Value.okWide
      rw [Try.underlying29]
      exact kx
    obtain ⟨m, rfl⟩ := okWide_int Try.underlying29 kv
    exact ⟨m, y, rfl, ky⟩
theorem own : ownKnob Try.prog.godebug = none := by kernel_rfl
theorem laidOut : laidOutB Try.prog = true := by kernel_rfl
theorem kids : Kids Try.prog (· < Try.prog.types.size) := kids_rows laidOut (by kernel_rfl)
theorem full : ∀ t e, t < Try.prog.types.size → Try.prog.underlying t = some (.slice e) → 0 < Try.prog.cellsOf e := slices_full_of Try.prog (by kernel_rfl)
set_option maxRecDepth 100000 in
theorem lifted (os : Os) (started : os.Started) (H : Type) (enc : TypeId × Value → H) :
    ReturnsInHanded {} Try.checked os 5 .any (Rows.policyAllSpec.pre6 enc Try.prog Try.f5 Rows.policyAllRow.domain false) (Rows.policyAllSpec.post enc Try.prog Try.f5 false true false false) := by
  refine returnsInHanded_of_change_shaped (C := Try.checked) own started (by kernel_rfl) Try.func5
    (ChangeSpec.witness6 (enc := enc) (C := Try.checked) false ⟨#[], #[.slice none 0 0, .agg #[.int .i64 0, .slice none 0 0]], []⟩ 8 (by kernel_rfl) (by kernel_rfl) (by kernel_rfl) (by kernel_rfl)) ?_
  intro W base args ds gs before hval0 hW hcnd _ _ _
  have hval : ∀ (j : Nat) t v, Try.f5.params[j]? = some t → args[j]? = some v → Value.okWide Try.prog W .any base t v := hval0
  have hW' := hW
  obtain ⟨p, q, hA0, hV, rfl, hfz, hnd⟩ := hW
  have hA : DataW.TrodAll enc Try.prog W 0 (fun _ => true) true Try.f5.params.toList args.toList ds p := hA0
  rw [Try.params5] at hA hval
  obtain ⟨v0, v1, d0, d1, p0, p1, rfl, rfl, rfl, h0, h1⟩ := trodAll_two hA
  obtain ⟨rfl, rfl⟩ := trodVars_none hV
  simp only [List.append_nil] at hW'
  have k0 := hval 0 23 v0 rfl rfl
  have k1 := hval 1 31 v1 rfl rfl
  clear hval hval0 hA0 hA
  obtain ⟨a0, l0, c0, rfl⟩ := okWide_slice Try.underlying23 k0
  have k0' : Cell.okWide Try.prog W .any base 23 (.slice a0 l0 c0) := by
    unfold Value.okWide at k0; rw [Try.underlying23] at k0; exact k0
  have h0' := h0
  obtain ⟨fu0, hf0⟩ := h0'
  obtain ⟨w, ws, e0, hw, _, _⟩ := Go.X.abs_ints Try.underlying23 Try.underlying3 (by kernel_rfl) k0' hf0
  obtain ⟨kd, y, rfl, ky⟩ := ok_policy k1
  have h1' := h1
  obtain ⟨fu1, hf1⟩ := h1'
  obtain ⟨xs, m, _, _, _, hxl, hxs⟩ := DataW.trod_struct Try.underlying31 hf1
  have hf2 := hxs 1 _ rfl
  have e23 : Try.prog.cellsOf 23 = 1 := by kernel_rfl
  obtain ⟨r, hr⟩ : ∃ r, xs[1]? = some r := ⟨_, List.getElem?_eq_getElem (by rw [hxl]; decide)⟩
  rw [hr] at hf2
  have hf2 : DataW.trod enc Try.prog W 0 (fun _ => true) true m 23 [y] = some r := by
    have : (([Value.int .i64 kd, y].drop 1).take (Try.prog.cellsOf 23)) = [y] := by rw [e23]; rfl
    rw [← this]; exact hf2
  obtain ⟨s, ps, e1, hs, hrg, _⟩ := Go.X.abs_ints Try.underlying23 Try.underlying3 (by kernel_rfl) ky hf2
  refine (law_calls e0 e1 rfl hw hs hrg).mono fun e W' ⟨he, hb⟩ => ?_
  subst he
  have hlt := hW'.lt
  refine ⟨_, rfl, Go.X.post_below rfl hW' hb (fun _ _ _ => (trodAll_cons_mk (shut_bool Try.underlying4 _) trodAll_mk0)) rfl (fun sp hsp => ?_) (ok_one (by kernel_rfl) rfl (okWide_bool_mk Try.underlying4 _))⟩
  have t0 := WideElems.Trod_stays laidOut (by kernel_rfl) (of_decide_eq_true (by kernel_rfl)) h0 (fun x hx => hb.same (hlt x (List.mem_append_left _ hx))) (fun x hx => hsp x (List.mem_append_left _ hx))
  have t1 := WideElems.Trod_stays laidOut (by kernel_rfl) (of_decide_eq_true (by kernel_rfl)) h1 (fun x hx => hb.same (hlt x (List.mem_append_right _ hx))) (fun x hx => hsp x (List.mem_append_right _ hx))
  have := trodAll_cons_mk t0 (trodAll_cons_mk t1 trodAll_mk0)
  rw [List.append_nil] at this
  exact this
theorem over : Rows.policyAllRow.holds Try.pinned (OpenSpec.ofChange Rows.policyAllSpec) :=
  OpenClaim.holds_of_wide 5 Try.f5 rfl rfl rfl rfl rfl rfl rfl ⟨rfl, rfl, rfl, rfl, rfl⟩ rfl rfl rfl rfl rfl (by kernel_rfl) Try.func5 (by kernel_rfl)
    (of_decide_eq_true (by kernel_rfl)) (by unfold Func.isWrapper; first | (rw [if_pos (by decide +kernel)]; kernel_rfl) | (rw [if_neg (by decide +kernel)]; exact ⟨rfl, rfl⟩))
    (fun os started H enc _ => lifted os started H enc)
theorem proved : Rows.PolicyAllSaid :=
  over
#print axioms proved
end Go.Proofs.Ytinihpeddhboeaa.policyAll
