/-
  PROVED: EngineNil over its calls: whatever the kind, the policy, the picks, the cache. Conditions: the picks' form.
-/
import Derived.Test.YtccpfaommgclkaaGreatDoorB0
set_option linter.unusedVariables false
set_option linter.unusedSimpArgs false
set_option maxRecDepth 1000000
namespace EnB
open Go Go.X Go.Proofs EnN
noncomputable def tabA : List AV := [.int .u8 (.ofNat 0), .int .u8 (.ofNat 1), .int .u8 (.ofNat 56), .int .u8 (.ofNat 2), .int .u8 (.ofNat 57), .int .u8 (.ofNat 49), .int .u8 (.ofNat 28), .int .u8 (.ofNat 3), .int .u8 (.ofNat 61), .int .u8 (.ofNat 58), .int .u8 (.ofNat 42), .int .u8 (.ofNat 50), .int .u8 (.ofNat 38), .int .u8 (.ofNat 29), .int .u8 (.ofNat 17), .int .u8 (.ofNat 4), .int .u8 (.ofNat 62), .int .u8 (.ofNat 47), .int .u8 (.ofNat 59), .int .u8 (.ofNat 36), .int .u8 (.ofNat 45), .int .u8 (.ofNat 43), .int .u8 (.ofNat 51), .int .u8 (.ofNat 22), .int .u8 (.ofNat 53), .int .u8 (.ofNat 39), .int .u8 (.ofNat 33), .int .u8 (.ofNat 30), .int .u8 (.ofNat 24), .int .u8 (.ofNat 18), .int .u8 (.ofNat 12), .int .u8 (.ofNat 5), .int .u8 (.ofNat 63), .int .u8 (.ofNat 55), .int .u8 (.ofNat 48), .int .u8 (.ofNat 27), .int .u8 (.ofNat 60), .int .u8 (.ofNat 41), .int .u8 (.ofNat 37), .int .u8 (.ofNat 16), .int .u8 (.ofNat 46), .int .u8 (.ofNat 35), .int .u8 (.ofNat 44), .int .u8 (.ofNat 21), .int .u8 (.ofNat 52), .int .u8 (.ofNat 32), .int .u8 (.ofNat 23), .int .u8 (.ofNat 11), .int .u8 (.ofNat 54), .int .u8 (.ofNat 26), .int .u8 (.ofNat 40), .int .u8 (.ofNat 15), .int .u8 (.ofNat 34), .int .u8 (.ofNat 20), .int .u8 (.ofNat 31), .int .u8 (.ofNat 10), .int .u8 (.ofNat 25), .int .u8 (.ofNat 14), .int .u8 (.ofNat 19), .int .u8 (.ofNat 9), .int .u8 (.ofNat 13), .int .u8 (.ofNat 8), .int .u8 (.ofNat 7), .int .u8 (.ofNat 6)]
def fnd0 : Nat → AV := fun i => match i with | 0 => .int .u64 0 | _ => .int .i64 0
def opn : Nat → AV := fun i => match i with | 0 => .nilp | 1 => .agg [.int .u64 0, .int .i64 0, .int .i64 0] | _ => .iface 43 (.int .i64 1)
theorem law_kind (pk : Int) (s : SL) (k c : Int) (h1 : k ≠ 1) (h2 : k ≠ 2) (o : Option (List AV)) (lf n : Nat) : zCall Tryz.prog (Zs pk s.av) lf (n + 12) 4 [.agg [.int .i64 k, .int .i64 pk, .sl s, .int .i64 c]] (fun v _ => v.av = .bool true) (startK 3 1 tabA o) := by
  refine zCall_at (by kernel_rfl) (by kernel_rfl) ?_
  rw [law_nf]
  refine zCall_sum (s := fun args K h => args = [] ∧ K (.bool true) h) (by kernel_rfl) (by kernel_rfl) ⟨rfl, ?_⟩
  refine ⟨true, by kernel_rfl, rfl, k, by kernel_rfl, pk, by kernel_rfl, s, by kernel_rfl, c, by kernel_rfl, ?_⟩
  refine may_ok (by kernel_rfl) k pk s c ?_
  refine ⟨two (.bool (cacB c)) (.bool (polB pk s.n)), by kernel_rfl, cacB c, by kernel_rfl, polB pk s.n, by kernel_rfl, rfl, k, by kernel_rfl, pk, by kernel_rfl, s, by kernel_rfl, c, by kernel_rfl, ?_⟩
  refine createN_bad (by kernel_rfl) k pk s c h1 h2 ?_
  refine ⟨two .nilp (.iface 43 (.int .i64 1)), by kernel_rfl, true, 0, 0, by kernel_rfl, rfl, k, by kernel_rfl, pk, by kernel_rfl, s, by kernel_rfl, c, by kernel_rfl, ?_⟩
  refine openN_ok (by kernel_rfl) (by kernel_rfl) k pk s c ?_
  refine ⟨opn, by kernel_rfl, true, 0, 0, by kernel_rfl, fnd0, by kernel_rfl, 0, by kernel_rfl, 0, by kernel_rfl, 0, by kernel_rfl, rfl, zPut_b (by kernel_rfl) ?_⟩
  refine hit 1 E9a T9 (by kernel_rfl) (by kernel_rfl) ?_
  refine ⟨two (.ptr 13 0) (.int .i64 0), by kernel_rfl, false, 13, 0, by kernel_rfl, 0, by kernel_rfl, ?_⟩
  refine nay ?_
  refine nay ?_
  refine nay ?_
  refine nay ?_
  refine nay ?_
  refine is_ok (by kernel_rfl) (by kernel_rfl) 1 (by decide) ?_
  refine ⟨true, by kernel_rfl, ?_⟩
  refine nay ?_
  refine is_ok (by kernel_rfl) (by kernel_rfl) 1 (by decide) ?_
  refine ⟨true, by kernel_rfl, ?_⟩
  refine nay ?_
  by_cases hc : cacB c = true
  · refine cndP_f (by rw [hc]; rfl) ?_
    refine ⟨rfl, rfl, k, by kernel_rfl, cndP_t (by rw [decide_eq_false h1]; rfl) ?_⟩
    refine ⟨rfl, rfl, k, by kernel_rfl, cndP_t (by rw [decide_eq_false h2]; rfl) ?_⟩
    refine ⟨rfl, k, by kernel_rfl, pk, by kernel_rfl, s, by kernel_rfl, c, by kernel_rfl, ?_⟩
    refine create_kind (by kernel_rfl) 13 k pk s c h1 h2 ?_
    refine ⟨two .nilp (.iface 43 (.int .i64 1)), by kernel_rfl, true, 0, 0, by kernel_rfl, ?_⟩
    refine is_ok (by kernel_rfl) (by kernel_rfl) 1 (by decide) ?_
    refine ⟨true, by kernel_rfl, ?_⟩
    exact yea (by kernel_rfl)
  · refine cndP_t (by rw [Bool.not_eq_true] at hc; rw [hc]; rfl) ?_
    refine ⟨rfl, k, by kernel_rfl, pk, by kernel_rfl, s, by kernel_rfl, c, by kernel_rfl, ?_⟩
    refine create_kind (by kernel_rfl) 13 k pk s c h1 h2 ?_
    refine ⟨two .nilp (.iface 43 (.int .i64 1)), by kernel_rfl, true, 0, 0, by kernel_rfl, ?_⟩
    refine is_ok (by kernel_rfl) (by kernel_rfl) 1 (by decide) ?_
    refine ⟨true, by kernel_rfl, ?_⟩
    exact yea (by kernel_rfl)
theorem law_bad (pk : Int) (s : SL) (k c : Int) (hk : k = 1 ∨ k = 2) (hb : ¬ (cacB c = true ∧ polB pk s.n = true)) (o : Option (List AV)) (lf n : Nat) : zCall Tryz.prog (Zs pk s.av) lf (n + 12) 4 [.agg [.int .i64 k, .int .i64 pk, .sl s, .int .i64 c]] (fun v _ => v.av = .bool true) (startK 3 1 tabA o) := by
  refine zCall_at (by kernel_rfl) (by kernel_rfl) ?_
  rw [law_nf]
  refine zCall_sum (s := fun args K h => args = [] ∧ K (.bool true) h) (by kernel_rfl) (by kernel_rfl) ⟨rfl, ?_⟩
  refine ⟨true, by kernel_rfl, rfl, k, by kernel_rfl, pk, by kernel_rfl, s, by kernel_rfl, c, by kernel_rfl, ?_⟩
  refine may_ok (by kernel_rfl) k pk s c ?_
  refine ⟨two (.bool (cacB c)) (.bool (polB pk s.n)), by kernel_rfl, cacB c, by kernel_rfl, polB pk s.n, by kernel_rfl, rfl, k, by kernel_rfl, pk, by kernel_rfl, s, by kernel_rfl, c, by kernel_rfl, ?_⟩
  refine createN_ok (by kernel_rfl) (by kernel_rfl) k pk s c hk ?_
  refine ⟨two .nilp (.iface 43 (.int .i64 1)), by kernel_rfl, true, 0, 0, by kernel_rfl, rfl, k, by kernel_rfl, pk, by kernel_rfl, s, by kernel_rfl, c, by kernel_rfl, ?_⟩
  refine openN_ok (by kernel_rfl) (by kernel_rfl) k pk s c ?_
  refine ⟨opn, by kernel_rfl, true, 0, 0, by kernel_rfl, fnd0, by kernel_rfl, 0, by kernel_rfl, 0, by kernel_rfl, 0, by kernel_rfl, rfl, zPut_b (by kernel_rfl) ?_⟩
  refine hit 0 E9 T9 (by kernel_rfl) (by kernel_rfl) ?_
  refine ⟨two (.ptr 14 0) (.int .i64 0), by kernel_rfl, false, 14, 0, by kernel_rfl, 0, by kernel_rfl, ?_⟩
  refine nay ?_
  refine nay ?_
  refine nay ?_
  refine nay ?_
  refine nay ?_
  refine is_ok (by kernel_rfl) (by kernel_rfl) 1 (by decide) ?_
  refine ⟨true, by kernel_rfl, ?_⟩
  refine nay ?_
  refine is_ok (by kernel_rfl) (by kernel_rfl) 1 (by decide) ?_
  refine ⟨true, by kernel_rfl, ?_⟩
  refine nay ?_
  by_cases hc : cacB c = true
  · have hp : polB pk s.n = false := Bool.eq_false_iff.2 fun hp => hb ⟨hc, hp⟩
    refine cndP_f (by rw [hc]; rfl) ?_
    refine ⟨rfl, rfl, k, by kernel_rfl, ?_⟩
    by_cases e1 : k = 1
    · refine cndP_f (by rw [decide_eq_true e1]; rfl) ?_
      refine cndP_t (by rw [hp]; rfl) ?_
      refine ⟨rfl, k, by kernel_rfl, pk, by kernel_rfl, s, by kernel_rfl, c, by kernel_rfl, ?_⟩
      refine create_bad (by kernel_rfl) (by kernel_rfl) (by kernel_rfl) (by kernel_rfl) (by kernel_rfl) 14 k pk s c hk (fun h => absurd hc (by rw [h]; decide)) (fun _ _ => ?_) hb
      refine ⟨two .nilp (.iface 43 (.int .i64 161)), by kernel_rfl, true, 0, 0, by kernel_rfl, ?_⟩
      refine is_ok (by kernel_rfl) (by kernel_rfl) 161 (by decide) ?_
      refine ⟨true, by kernel_rfl, ?_⟩
      exact yea (by kernel_rfl)
    · refine cndP_t (by rw [decide_eq_false e1]; rfl) ?_
      refine ⟨rfl, rfl, k, by kernel_rfl, cndP_f (by rw [decide_eq_true (hk.resolve_left e1)]; rfl) ?_⟩
      refine cndP_t (by rw [hp]; rfl) ?_
      refine ⟨rfl, k, by kernel_rfl, pk, by kernel_rfl, s, by kernel_rfl, c, by kernel_rfl, ?_⟩
      refine create_bad (by kernel_rfl) (by kernel_rfl) (by kernel_rfl) (by kernel_rfl) (by kernel_rfl) 14 k pk s c hk (fun h => absurd hc (by rw [h]; decide)) (fun _ _ => ?_) hb
      refine ⟨two .nilp (.iface 43 (.int .i64 161)), by kernel_rfl, true, 0, 0, by kernel_rfl, ?_⟩
      refine is_ok (by kernel_rfl) (by kernel_rfl) 161 (by decide) ?_
      refine ⟨true, by kernel_rfl, ?_⟩
      exact yea (by kernel_rfl)
  · have hc : cacB c = false := Bool.eq_false_iff.2 hc
    refine cndP_t (by rw [hc]; rfl) ?_
    refine ⟨rfl, k, by kernel_rfl, pk, by kernel_rfl, s, by kernel_rfl, c, by kernel_rfl, ?_⟩
    refine create_bad (by kernel_rfl) (by kernel_rfl) (by kernel_rfl) (by kernel_rfl) (by kernel_rfl) 14 k pk s c hk (fun _ => ?_) (fun h => absurd hc (by rw [h]; decide)) hb
    refine ⟨two .nilp (.iface 43 (.int .i64 1)), by kernel_rfl, true, 0, 0, by kernel_rfl, ?_⟩
    refine is_ok (by kernel_rfl) (by kernel_rfl) 1 (by decide) ?_
    refine ⟨true, by kernel_rfl, ?_⟩
    exact yea (by kernel_rfl)
theorem law_e (pk : Int) (s : SL) (o : Option (List AV)) (c : Int) (hc : cacB c = true) (hp : polB pk s.n = true) (lf n : Nat) : zCall Tryz.prog (Zs pk s.av) lf (n + 12) 4 [.agg [.int .i64 1, .int .i64 pk, .sl s, .int .i64 c]] (fun v _ => v.av = .bool true) (startK 3 1 tabA o) := by
  refine zCall_at (by kernel_rfl) (by kernel_rfl) ?_
  rw [law_nf]
  refine zCall_sum (s := fun args K h => args = [] ∧ K (.bool true) h) (by kernel_rfl) (by kernel_rfl) ⟨rfl, ?_⟩
  refine ⟨true, by kernel_rfl, rfl, 1, by kernel_rfl, pk, by kernel_rfl, s, by kernel_rfl, c, by kernel_rfl, ?_⟩
  refine may_ok (by kernel_rfl) 1 pk s c ?_
  refine ⟨two (.bool (cacB c)) (.bool (polB pk s.n)), by kernel_rfl, cacB c, by kernel_rfl, polB pk s.n, by kernel_rfl, rfl, 1, by kernel_rfl, pk, by kernel_rfl, s, by kernel_rfl, c, by kernel_rfl, ?_⟩
  refine createN_ok (by kernel_rfl) (by kernel_rfl) 1 pk s c (.inl rfl) ?_
  refine ⟨two .nilp (.iface 43 (.int .i64 1)), by kernel_rfl, true, 0, 0, by kernel_rfl, rfl, 1, by kernel_rfl, pk, by kernel_rfl, s, by kernel_rfl, c, by kernel_rfl, ?_⟩
  refine openN_ok (by kernel_rfl) (by kernel_rfl) 1 pk s c ?_
  refine ⟨opn, by kernel_rfl, true, 0, 0, by kernel_rfl, fnd0, by kernel_rfl, 0, by kernel_rfl, 0, by kernel_rfl, 0, by kernel_rfl, rfl, zPut_b (by kernel_rfl) ?_⟩
  refine hit 0 E9 T9 (by kernel_rfl) (by kernel_rfl) ?_
  refine ⟨two (.ptr 14 0) (.int .i64 0), by kernel_rfl, false, 14, 0, by kernel_rfl, 0, by kernel_rfl, ?_⟩
  refine nay ?_
  refine nay ?_
  refine nay ?_
  refine nay ?_
  refine nay ?_
  refine is_ok (by kernel_rfl) (by kernel_rfl) 1 (by decide) ?_
  refine ⟨true, by kernel_rfl, ?_⟩
  refine nay ?_
  refine is_ok (by kernel_rfl) (by kernel_rfl) 1 (by decide) ?_
  refine ⟨true, by kernel_rfl, ?_⟩
  refine nay ?_
  refine cndP_f (by rw [hc]; rfl) ?_
  refine ⟨rfl, rfl, 1, by kernel_rfl, ?_⟩
  refine nay ?_
  refine cndP_f (by rw [hp]; rfl) ?_
  refine ⟨rfl, 1, by kernel_rfl, pk, by kernel_rfl, s, by kernel_rfl, c, by kernel_rfl, ?_⟩
  refine zCall_at (by kernel_rfl) (by kernel_rfl) ?_
  rw [create_nf]
  refine ⟨rfl, rfl, 1, by kernel_rfl, nay ?_⟩
  refine ⟨rfl, 1, by kernel_rfl, pk, by kernel_rfl, s, by kernel_rfl, c, by kernel_rfl, ?_⟩
  refine emay_ok (by kernel_rfl) (by kernel_rfl) (by kernel_rfl) (by kernel_rfl) 14 1 pk s c (fun h => absurd hc (by rw [h]; decide)) (fun _ h => absurd hp (by rw [h]; decide)) (fun _ _ => ?_)
  refine ⟨by kernel_rfl, nay ?_⟩
  refine hit 0 E17 T17 (by kernel_rfl) (by kernel_rfl) ?_
  refine ⟨two (.ptr 149 0) (.int .i64 0), by kernel_rfl, false, 149, 0, by kernel_rfl, 0, by kernel_rfl, nay ?_⟩
  refine ⟨rfl, rfl, pk, by kernel_rfl, s, by kernel_rfl, rfl, rfl, 1, by kernel_rfl, rfl, rfl, 1, by kernel_rfl, ?_⟩
  refine yea ?_
  refine hit 0 Ee18 T18 (by kernel_rfl) (by kernel_rfl) ?_
  refine ⟨two (.ptr 165 0) (.int .i64 0), by kernel_rfl, false, 165, 0, by kernel_rfl, 0, by kernel_rfl, nay ?_⟩
  refine ⟨rfl, rfl, rfl, zPut_b (by kernel_rfl) ?_⟩
  refine hit 0 (Ee20 pk s.av) (T20 pk s.av) (by kernel_rfl) (by kernel_rfl) ?_
  refine ⟨by kernel_rfl, nay ?_⟩
  refine hit 0 Ee21 T21 (by kernel_rfl) (by kernel_rfl) ?_
  refine ⟨100, by kernel_rfl, ?_⟩
  refine ⟨two (.ptr 319 0) .nilIface, by kernel_rfl, false, 319, 0, by kernel_rfl, ?_⟩
  refine is_nil_ok (by kernel_rfl) ?_
  refine ⟨true, by kernel_rfl, ?_⟩
  exact yea (by kernel_rfl)
theorem law_l0 (pk : Int)  (c : Int) (hc : cacB c = true) (hp : polB pk (⟨true, 0, 0, 0, 0, false⟩ : SL).n = true) (lf n : Nat) : zCall Tryz.prog (Zs pk (⟨true, 0, 0, 0, 0, false⟩ : SL).av) lf (n + 12) 4 [.agg [.int .i64 2, .int .i64 pk, .sl (⟨true, 0, 0, 0, 0, false⟩ : SL), .int .i64 c]] (fun v _ => v.av = .bool true) (startK 3 1 tabA none) := by
  refine zCall_at (by kernel_rfl) (by kernel_rfl) ?_
  rw [law_nf]
  refine zCall_sum (s := fun args K h => args = [] ∧ K (.bool true) h) (by kernel_rfl) (by kernel_rfl) ⟨rfl, ?_⟩
  refine ⟨true, by kernel_rfl, rfl, 2, by kernel_rfl, pk, by kernel_rfl, (⟨true, 0, 0, 0, 0, false⟩ : SL), by kernel_rfl, c, by kernel_rfl, ?_⟩
  refine may_ok (by kernel_rfl) 2 pk (⟨true, 0, 0, 0, 0, false⟩ : SL) c ?_
  refine ⟨two (.bool (cacB c)) (.bool (polB pk (⟨true, 0, 0, 0, 0, false⟩ : SL).n)), by kernel_rfl, cacB c, by kernel_rfl, polB pk (⟨true, 0, 0, 0, 0, false⟩ : SL).n, by kernel_rfl, rfl, 2, by kernel_rfl, pk, by kernel_rfl, (⟨true, 0, 0, 0, 0, false⟩ : SL), by kernel_rfl, c, by kernel_rfl, ?_⟩
  refine createN_ok (by kernel_rfl) (by kernel_rfl) 2 pk (⟨true, 0, 0, 0, 0, false⟩ : SL) c (.inr rfl) ?_
  refine ⟨two .nilp (.iface 43 (.int .i64 1)), by kernel_rfl, true, 0, 0, by kernel_rfl, rfl, 2, by kernel_rfl, pk, by kernel_rfl, (⟨true, 0, 0, 0, 0, false⟩ : SL), by kernel_rfl, c, by kernel_rfl, ?_⟩
  refine openN_ok (by kernel_rfl) (by kernel_rfl) 2 pk (⟨true, 0, 0, 0, 0, false⟩ : SL) c ?_
  refine ⟨opn, by kernel_rfl, true, 0, 0, by kernel_rfl, fnd0, by kernel_rfl, 0, by kernel_rfl, 0, by kernel_rfl, 0, by kernel_rfl, rfl, zPut_b (by kernel_rfl) ?_⟩
  refine hit 0 E9 T9 (by kernel_rfl) (by kernel_rfl) ?_
  refine ⟨two (.ptr 14 0) (.int .i64 0), by kernel_rfl, false, 14, 0, by kernel_rfl, 0, by kernel_rfl, ?_⟩
  refine nay ?_
  refine nay ?_
  refine nay ?_
  refine nay ?_
  refine nay ?_
  refine is_ok (by kernel_rfl) (by kernel_rfl) 1 (by decide) ?_
  refine ⟨true, by kernel_rfl, ?_⟩
  refine nay ?_
  refine is_ok (by kernel_rfl) (by kernel_rfl) 1 (by decide) ?_
  refine ⟨true, by kernel_rfl, ?_⟩
  refine nay ?_
  refine cndP_f (by rw [hc]; rfl) ?_
  refine ⟨rfl, rfl, 2, by kernel_rfl, ?_⟩
  refine yea ⟨rfl, rfl, 2, by kernel_rfl, nay ?_⟩
  refine cndP_f (by rw [hp]; rfl) ?_
  refine ⟨rfl, 2, by kernel_rfl, pk, by kernel_rfl, (⟨true, 0, 0, 0, 0, false⟩ : SL), by kernel_rfl, c, by kernel_rfl, ?_⟩
  refine zCall_at (by kernel_rfl) (by kernel_rfl) ?_
  rw [create_nf]
  refine ⟨rfl, rfl, 2, by kernel_rfl, yea ⟨rfl, rfl, 2, by kernel_rfl, nay ?_⟩⟩
  refine ⟨rfl, 2, by kernel_rfl, pk, by kernel_rfl, (⟨true, 0, 0, 0, 0, false⟩ : SL), by kernel_rfl, c, by kernel_rfl, ?_⟩
  refine emay_ok (by kernel_rfl) (by kernel_rfl) (by kernel_rfl) (by kernel_rfl) 14 2 pk (⟨true, 0, 0, 0, 0, false⟩ : SL) c (fun h => absurd hc (by rw [h]; decide)) (fun _ h => absurd hp (by rw [h]; decide)) (fun _ _ => ?_)
  refine ⟨by kernel_rfl, nay ?_⟩
  refine hit 0 E17 T17 (by kernel_rfl) (by kernel_rfl) ?_
  refine ⟨two (.ptr 149 0) (.int .i64 0), by kernel_rfl, false, 149, 0, by kernel_rfl, 0, by kernel_rfl, nay ?_⟩
  refine ⟨rfl, rfl, pk, by kernel_rfl, (⟨true, 0, 0, 0, 0, false⟩ : SL), by kernel_rfl, rfl, rfl, 2, by kernel_rfl, rfl, rfl, 2, by kernel_rfl, ?_⟩
  refine nay ?_
  refine ⟨rfl, rfl, pk, by kernel_rfl, (⟨true, 0, 0, 0, 0, false⟩ : SL), by kernel_rfl, ?_⟩
  refine zCall_at (by kernel_rfl) (by kernel_rfl) ?_
  rw [bnew_nf]
  refine ⟨rfl, pk, by kernel_rfl, (⟨true, 0, 0, 0, 0, false⟩ : SL), by kernel_rfl, ?_⟩
  refine zCall_at (by kernel_rfl) (by kernel_rfl) ?_
  rw [pnew_nf]
  refine ⟨rfl, pk, by kernel_rfl, (⟨true, 0, 0, 0, 0, false⟩ : SL), by kernel_rfl, ?_⟩
  refine check_yes (by kernel_rfl) (by kernel_rfl) pk (⟨true, 0, 0, 0, 0, false⟩ : SL) hp ?_
  refine ⟨0, by kernel_rfl, nay ⟨rfl, rfl, (⟨true, 0, 0, 0, 0, false⟩ : SL), by kernel_rfl, ?_⟩⟩
  refine clone_nil (by kernel_rfl) (⟨true, 0, 0, 0, 0, false⟩ : SL) rfl ?_
  refine ⟨⟨true, 0, 0, 0, 0, false⟩, by kernel_rfl, rfl, rfl, zPut_b (by kernel_rfl) ⟨rfl, pk, by kernel_rfl, ⟨true, 0, 0, 0, 0, false⟩, by kernel_rfl, ?_⟩⟩
  refine ⟨two (.ptr 155 0) (.int .i64 0), by kernel_rfl, false, 155, 0, by kernel_rfl, 0, by kernel_rfl, nay ?_⟩
  refine hit 0 El0_41 T41 (by kernel_rfl) (by kernel_rfl) ?_
  refine ⟨0, by kernel_rfl, nay ?_⟩
  refine hit 0 El0_26 T26 (by kernel_rfl) (by kernel_rfl) ?_
  refine ⟨512, by kernel_rfl, ?_⟩
  refine hit 0 El0_45 T45 (by kernel_rfl) (by kernel_rfl) ?_
  refine ⟨two (.slice 156 0 2 2 false) (.int .i64 0), by kernel_rfl, ⟨false, 156, 0, 2, 2, false⟩, by kernel_rfl, 0, by kernel_rfl, ?_⟩
  refine hit 0 El0_42 T42 (by kernel_rfl) (by kernel_rfl) ?_
  refine ⟨two (.int .i64 2) (.int .i64 0), by kernel_rfl, 2, by kernel_rfl, 0, by kernel_rfl, yea ?_⟩
  refine hit 0 El0_43 T43 (by kernel_rfl) (by kernel_rfl) ?_
  refine ⟨0, by kernel_rfl, nay ?_⟩
  refine ⟨two (.ptr 171 0) (.int .i64 0), by kernel_rfl, false, 171, 0, by kernel_rfl, 0, by kernel_rfl, nay ?_⟩
  refine ⟨rfl, rfl, rfl, zPut_b (by kernel_rfl) ?_⟩
  refine hit 1 (El0_20 pk (⟨true, 0, 0, 0, 0, false⟩ : SL).av) (T20 pk (⟨true, 0, 0, 0, 0, false⟩ : SL).av) (by kernel_rfl) (by kernel_rfl) ?_
  refine ⟨by kernel_rfl, nay ?_⟩
  refine hit 1 El0_21 T21 (by kernel_rfl) (by kernel_rfl) ?_
  refine ⟨100, by kernel_rfl, ?_⟩
  refine ⟨two (.ptr 325 0) .nilIface, by kernel_rfl, false, 325, 0, by kernel_rfl, ?_⟩
  refine is_nil_ok (by kernel_rfl) ?_
  refine ⟨true, by kernel_rfl, ?_⟩
  exact yea (by kernel_rfl)
theorem law_l1 (pk : Int)  (c : Int) (hc : cacB c = true) (hp : polB pk (⟨true, 0, 0, 0, 0, true⟩ : SL).n = true) (lf n : Nat) : zCall Tryz.prog (Zs pk (⟨true, 0, 0, 0, 0, true⟩ : SL).av) lf (n + 12) 4 [.agg [.int .i64 2, .int .i64 pk, .sl (⟨true, 0, 0, 0, 0, true⟩ : SL), .int .i64 c]] (fun v _ => v.av = .bool true) (startK 3 1 tabA none) := by
  refine zCall_at (by kernel_rfl) (by kernel_rfl) ?_
  rw [law_nf]
  refine zCall_sum (s := fun args K h => args = [] ∧ K (.bool true) h) (by kernel_rfl) (by kernel_rfl) ⟨rfl, ?_⟩
  refine ⟨true, by kernel_rfl, rfl, 2, by kernel_rfl, pk, by kernel_rfl, (⟨true, 0, 0, 0, 0, true⟩ : SL), by kernel_rfl, c, by kernel_rfl, ?_⟩
  refine may_ok (by kernel_rfl) 2 pk (⟨true, 0, 0, 0, 0, true⟩ : SL) c ?_
  refine ⟨two (.bool (cacB c)) (.bool (polB pk (⟨true, 0, 0, 0, 0, true⟩ : SL).n)), by kernel_rfl, cacB c, by kernel_rfl, polB pk (⟨true, 0, 0, 0, 0, true⟩ : SL).n, by kernel_rfl, rfl, 2, by kernel_rfl, pk, by kernel_rfl, (⟨true, 0, 0, 0, 0, true⟩ : SL), by kernel_rfl, c, by kernel_rfl, ?_⟩
  refine createN_ok (by kernel_rfl) (by kernel_rfl) 2 pk (⟨true, 0, 0, 0, 0, true⟩ : SL) c (.inr rfl) ?_
  refine ⟨two .nilp (.iface 43 (.int .i64 1)), by kernel_rfl, true, 0, 0, by kernel_rfl, rfl, 2, by kernel_rfl, pk, by kernel_rfl, (⟨true, 0, 0, 0, 0, true⟩ : SL), by kernel_rfl, c, by kernel_rfl, ?_⟩
  refine openN_ok (by kernel_rfl) (by kernel_rfl) 2 pk (⟨true, 0, 0, 0, 0, true⟩ : SL) c ?_
  refine ⟨opn, by kernel_rfl, true, 0, 0, by kernel_rfl, fnd0, by kernel_rfl, 0, by kernel_rfl, 0, by kernel_rfl, 0, by kernel_rfl, rfl, zPut_b (by kernel_rfl) ?_⟩
  refine hit 0 E9 T9 (by kernel_rfl) (by kernel_rfl) ?_
  refine ⟨two (.ptr 14 0) (.int .i64 0), by kernel_rfl, false, 14, 0, by kernel_rfl, 0, by kernel_rfl, ?_⟩
  refine nay ?_
  refine nay ?_
  refine nay ?_
  refine nay ?_
  refine nay ?_
  refine is_ok (by kernel_rfl) (by kernel_rfl) 1 (by decide) ?_
  refine ⟨true, by kernel_rfl, ?_⟩
  refine nay ?_
  refine is_ok (by kernel_rfl) (by kernel_rfl) 1 (by decide) ?_
  refine ⟨true, by kernel_rfl, ?_⟩
  refine nay ?_
  refine cndP_f (by rw [hc]; rfl) ?_
  refine ⟨rfl, rfl, 2, by kernel_rfl, ?_⟩
  refine yea ⟨rfl, rfl, 2, by kernel_rfl, nay ?_⟩
  refine cndP_f (by rw [hp]; rfl) ?_
  refine ⟨rfl, 2, by kernel_rfl, pk, by kernel_rfl, (⟨true, 0, 0, 0, 0, true⟩ : SL), by kernel_rfl, c, by kernel_rfl, ?_⟩
  refine zCall_at (by kernel_rfl) (by kernel_rfl) ?_
  rw [create_nf]
  refine ⟨rfl, rfl, 2, by kernel_rfl, yea ⟨rfl, rfl, 2, by kernel_rfl, nay ?_⟩⟩
  refine ⟨rfl, 2, by kernel_rfl, pk, by kernel_rfl, (⟨true, 0, 0, 0, 0, true⟩ : SL), by kernel_rfl, c, by kernel_rfl, ?_⟩
  refine emay_ok (by kernel_rfl) (by kernel_rfl) (by kernel_rfl) (by kernel_rfl) 14 2 pk (⟨true, 0, 0, 0, 0, true⟩ : SL) c (fun h => absurd hc (by rw [h]; decide)) (fun _ h => absurd hp (by rw [h]; decide)) (fun _ _ => ?_)
  refine ⟨by kernel_rfl, nay ?_⟩
  refine hit 0 E17 T17 (by kernel_rfl) (by kernel_rfl) ?_
  refine ⟨two (.ptr 149 0) (.int .i64 0), by kernel_rfl, false, 149, 0, by kernel_rfl, 0, by kernel_rfl, nay ?_⟩
  refine ⟨rfl, rfl, pk, by kernel_rfl, (⟨true, 0, 0, 0, 0, true⟩ : SL), by kernel_rfl, rfl, rfl, 2, by kernel_rfl, rfl, rfl, 2, by kernel_rfl, ?_⟩
  refine nay ?_
  refine ⟨rfl, rfl, pk, by kernel_rfl, (⟨true, 0, 0, 0, 0, true⟩ : SL), by kernel_rfl, ?_⟩
  refine zCall_at (by kernel_rfl) (by kernel_rfl) ?_
  rw [bnew_nf]
  refine ⟨rfl, pk, by kernel_rfl, (⟨true, 0, 0, 0, 0, true⟩ : SL), by kernel_rfl, ?_⟩
  refine zCall_at (by kernel_rfl) (by kernel_rfl) ?_
  rw [pnew_nf]
  refine ⟨rfl, pk, by kernel_rfl, (⟨true, 0, 0, 0, 0, true⟩ : SL), by kernel_rfl, ?_⟩
  refine check_yes (by kernel_rfl) (by kernel_rfl) pk (⟨true, 0, 0, 0, 0, true⟩ : SL) hp ?_
  refine ⟨0, by kernel_rfl, nay ⟨rfl, rfl, (⟨true, 0, 0, 0, 0, true⟩ : SL), by kernel_rfl, ?_⟩⟩
  refine clone_none (by kernel_rfl) (⟨true, 0, 0, 0, 0, true⟩ : SL) rfl rfl ?_
  refine ⟨⟨false, 155, 0, 0, 0, false⟩, by kernel_rfl, rfl, rfl, zPut_b (by kernel_rfl) ⟨rfl, pk, by kernel_rfl, ⟨false, 155, 0, 0, 0, false⟩, by kernel_rfl, ?_⟩⟩
  refine ⟨two (.ptr 156 0) (.int .i64 0), by kernel_rfl, false, 156, 0, by kernel_rfl, 0, by kernel_rfl, nay ?_⟩
  refine hit 1 El1_41 T41 (by kernel_rfl) (by kernel_rfl) ?_
  refine ⟨0, by kernel_rfl, nay ?_⟩
  refine hit 1 El1_26 T26 (by kernel_rfl) (by kernel_rfl) ?_
  refine ⟨512, by kernel_rfl, ?_⟩
  refine hit 1 El1_45 T45 (by kernel_rfl) (by kernel_rfl) ?_
  refine ⟨two (.slice 157 0 2 2 false) (.int .i64 0), by kernel_rfl, ⟨false, 157, 0, 2, 2, false⟩, by kernel_rfl, 0, by kernel_rfl, ?_⟩
  refine hit 1 El1_42 T42 (by kernel_rfl) (by kernel_rfl) ?_
  refine ⟨two (.int .i64 2) (.int .i64 0), by kernel_rfl, 2, by kernel_rfl, 0, by kernel_rfl, yea ?_⟩
  refine hit 1 El1_43 T43 (by kernel_rfl) (by kernel_rfl) ?_
  refine ⟨0, by kernel_rfl, nay ?_⟩
  refine ⟨two (.ptr 172 0) (.int .i64 0), by kernel_rfl, false, 172, 0, by kernel_rfl, 0, by kernel_rfl, nay ?_⟩
  refine ⟨rfl, rfl, rfl, zPut_b (by kernel_rfl) ?_⟩
  refine hit 2 (El1_20 pk (⟨true, 0, 0, 0, 0, true⟩ : SL).av) (T20 pk (⟨true, 0, 0, 0, 0, true⟩ : SL).av) (by kernel_rfl) (by kernel_rfl) ?_
  refine ⟨by kernel_rfl, nay ?_⟩
  refine hit 2 El1_21 T21 (by kernel_rfl) (by kernel_rfl) ?_
  refine ⟨100, by kernel_rfl, ?_⟩
  refine ⟨two (.ptr 326 0) .nilIface, by kernel_rfl, false, 326, 0, by kernel_rfl, ?_⟩
  refine is_nil_ok (by kernel_rfl) ?_
  refine ⟨true, by kernel_rfl, ?_⟩
  exact yea (by kernel_rfl)
theorem law_l2 (pk : Int) (l : List Int) (cap : Nat) (hl : l ≠ []) (hn : l.length ≤ 65536) (c : Int) (hc : cacB c = true) (hp : polB pk (⟨false, 3, 0, l.length, cap, false⟩ : SL).n = true) (lf n : Nat) : zCall Tryz.prog (Zs pk (⟨false, 3, 0, l.length, cap, false⟩ : SL).av) lf (n + 12) 4 [.agg [.int .i64 2, .int .i64 pk, .sl (⟨false, 3, 0, l.length, cap, false⟩ : SL), .int .i64 c]] (fun v _ => v.av = .bool true) (startK 3 1 tabA (some (l.map (AV.int .i64)))) := by
  refine zCall_at (by kernel_rfl) (by kernel_rfl) ?_
  rw [law_nf]
  refine zCall_sum (s := fun args K h => args = [] ∧ K (.bool true) h) (by kernel_rfl) (by kernel_rfl) ⟨rfl, ?_⟩
  refine ⟨true, by kernel_rfl, rfl, 2, by kernel_rfl, pk, by kernel_rfl, (⟨false, 3, 0, l.length, cap, false⟩ : SL), by kernel_rfl, c, by kernel_rfl, ?_⟩
  refine may_ok (by kernel_rfl) 2 pk (⟨false, 3, 0, l.length, cap, false⟩ : SL) c ?_
  refine ⟨two (.bool (cacB c)) (.bool (polB pk (⟨false, 3, 0, l.length, cap, false⟩ : SL).n)), by kernel_rfl, cacB c, by kernel_rfl, polB pk (⟨false, 3, 0, l.length, cap, false⟩ : SL).n, by kernel_rfl, rfl, 2, by kernel_rfl, pk, by kernel_rfl, (⟨false, 3, 0, l.length, cap, false⟩ : SL), by kernel_rfl, c, by kernel_rfl, ?_⟩
  refine createN_ok (by kernel_rfl) (by kernel_rfl) 2 pk (⟨false, 3, 0, l.length, cap, false⟩ : SL) c (.inr rfl) ?_
  refine ⟨two .nilp (.iface 43 (.int .i64 1)), by kernel_rfl, true, 0, 0, by kernel_rfl, rfl, 2, by kernel_rfl, pk, by kernel_rfl, (⟨false, 3, 0, l.length, cap, false⟩ : SL), by kernel_rfl, c, by kernel_rfl, ?_⟩
  refine openN_ok (by kernel_rfl) (by kernel_rfl) 2 pk (⟨false, 3, 0, l.length, cap, false⟩ : SL) c ?_
  refine ⟨opn, by kernel_rfl, true, 0, 0, by kernel_rfl, fnd0, by kernel_rfl, 0, by kernel_rfl, 0, by kernel_rfl, 0, by kernel_rfl, rfl, zPut_b (by kernel_rfl) ?_⟩
  refine hit 0 E9 T9 (by kernel_rfl) (by kernel_rfl) ?_
  refine ⟨two (.ptr 14 0) (.int .i64 0), by kernel_rfl, false, 14, 0, by kernel_rfl, 0, by kernel_rfl, ?_⟩
  refine nay ?_
  refine nay ?_
  refine nay ?_
  refine nay ?_
  refine nay ?_
  refine is_ok (by kernel_rfl) (by kernel_rfl) 1 (by decide) ?_
  refine ⟨true, by kernel_rfl, ?_⟩
  refine nay ?_
  refine is_ok (by kernel_rfl) (by kernel_rfl) 1 (by decide) ?_
  refine ⟨true, by kernel_rfl, ?_⟩
  refine nay ?_
  refine cndP_f (by rw [hc]; rfl) ?_
  refine ⟨rfl, rfl, 2, by kernel_rfl, ?_⟩
  refine yea ⟨rfl, rfl, 2, by kernel_rfl, nay ?_⟩
  refine cndP_f (by rw [hp]; rfl) ?_
  refine ⟨rfl, 2, by kernel_rfl, pk, by kernel_rfl, (⟨false, 3, 0, l.length, cap, false⟩ : SL), by kernel_rfl, c, by kernel_rfl, ?_⟩
  refine zCall_at (by kernel_rfl) (by kernel_rfl) ?_
  rw [create_nf]
  refine ⟨rfl, rfl, 2, by kernel_rfl, yea ⟨rfl, rfl, 2, by kernel_rfl, nay ?_⟩⟩
  refine ⟨rfl, 2, by kernel_rfl, pk, by kernel_rfl, (⟨false, 3, 0, l.length, cap, false⟩ : SL), by kernel_rfl, c, by kernel_rfl, ?_⟩
  refine emay_ok (by kernel_rfl) (by kernel_rfl) (by kernel_rfl) (by kernel_rfl) 14 2 pk (⟨false, 3, 0, l.length, cap, false⟩ : SL) c (fun h => absurd hc (by rw [h]; decide)) (fun _ h => absurd hp (by rw [h]; decide)) (fun _ _ => ?_)
  refine ⟨by kernel_rfl, nay ?_⟩
  refine hit 0 E17 T17 (by kernel_rfl) (by kernel_rfl) ?_
  refine ⟨two (.ptr 149 0) (.int .i64 0), by kernel_rfl, false, 149, 0, by kernel_rfl, 0, by kernel_rfl, nay ?_⟩
  refine ⟨rfl, rfl, pk, by kernel_rfl, (⟨false, 3, 0, l.length, cap, false⟩ : SL), by kernel_rfl, rfl, rfl, 2, by kernel_rfl, rfl, rfl, 2, by kernel_rfl, ?_⟩
  refine nay ?_
  refine ⟨rfl, rfl, pk, by kernel_rfl, (⟨false, 3, 0, l.length, cap, false⟩ : SL), by kernel_rfl, ?_⟩
  refine zCall_at (by kernel_rfl) (by kernel_rfl) ?_
  rw [bnew_nf]
  refine ⟨rfl, pk, by kernel_rfl, (⟨false, 3, 0, l.length, cap, false⟩ : SL), by kernel_rfl, ?_⟩
  refine zCall_at (by kernel_rfl) (by kernel_rfl) ?_
  rw [pnew_nf]
  refine ⟨rfl, pk, by kernel_rfl, (⟨false, 3, 0, l.length, cap, false⟩ : SL), by kernel_rfl, ?_⟩
  refine check_yes (by kernel_rfl) (by kernel_rfl) pk (⟨false, 3, 0, l.length, cap, false⟩ : SL) hp ?_
  refine ⟨0, by kernel_rfl, nay ⟨rfl, rfl, (⟨false, 3, 0, l.length, cap, false⟩ : SL), by kernel_rfl, ?_⟩⟩
  refine clone_ints (by kernel_rfl) (⟨false, 3, 0, l.length, cap, false⟩ : SL) l ⟨rfl, fun _ => of_decide_eq_true (by kernel_rfl), fun _ => ⟨l.map (AV.int .i64), by kernel_rfl, by rw [List.drop_zero]; exact List.take_of_length_le (by rw [List.length_map]; exact Nat.le_refl _), by rw [List.drop_zero, List.length_map]; exact Nat.le_refl _⟩⟩ ⟨rfl, fun _ => of_decide_eq_true (by kernel_rfl), fun _ => ⟨l.map (AV.int .i64), by kernel_rfl, by rw [List.drop_zero]; exact List.take_of_length_le (by rw [List.length_map]; exact Nat.le_refl _), by rw [List.drop_zero, List.length_map]; exact Nat.le_refl _⟩⟩ hl hn rfl ?_
  refine ⟨⟨false, 156, 0, l.length, l.length, true⟩, by kernel_rfl, rfl, rfl, zPut_b (by kernel_rfl) ⟨rfl, pk, by kernel_rfl, ⟨false, 156, 0, l.length, l.length, true⟩, by kernel_rfl, ?_⟩⟩
  refine ⟨two (.ptr 157 0) (.int .i64 0), by kernel_rfl, false, 157, 0, by kernel_rfl, 0, by kernel_rfl, nay ?_⟩
  refine hit 2 El2_41 T41 (by kernel_rfl) (by kernel_rfl) ?_
  refine ⟨0, by kernel_rfl, nay ?_⟩
  refine hit 2 El2_26 T26 (by kernel_rfl) (by kernel_rfl) ?_
  refine ⟨512, by kernel_rfl, ?_⟩
  refine hit 2 El2_45 T45 (by kernel_rfl) (by kernel_rfl) ?_
  refine ⟨two (.slice 158 0 2 2 false) (.int .i64 0), by kernel_rfl, ⟨false, 158, 0, 2, 2, false⟩, by kernel_rfl, 0, by kernel_rfl, ?_⟩
  refine hit 2 El2_42 T42 (by kernel_rfl) (by kernel_rfl) ?_
  refine ⟨two (.int .i64 2) (.int .i64 0), by kernel_rfl, 2, by kernel_rfl, 0, by kernel_rfl, yea ?_⟩
  refine hit 2 El2_43 T43 (by kernel_rfl) (by kernel_rfl) ?_
  refine ⟨0, by kernel_rfl, nay ?_⟩
  refine ⟨two (.ptr 173 0) (.int .i64 0), by kernel_rfl, false, 173, 0, by kernel_rfl, 0, by kernel_rfl, nay ?_⟩
  refine ⟨rfl, rfl, rfl, zPut_b (by kernel_rfl) ?_⟩
  refine hit 3 (El2_20 pk (⟨false, 3, 0, l.length, cap, false⟩ : SL).av) (T20 pk (⟨false, 3, 0, l.length, cap, false⟩ : SL).av) (by kernel_rfl) (by kernel_rfl) ?_
  refine ⟨by kernel_rfl, nay ?_⟩
  refine hit 3 El2_21 T21 (by kernel_rfl) (by kernel_rfl) ?_
  refine ⟨100, by kernel_rfl, ?_⟩
  refine ⟨two (.ptr 327 0) .nilIface, by kernel_rfl, false, 327, 0, by kernel_rfl, ?_⟩
  refine is_nil_ok (by kernel_rfl) ?_
  refine ⟨true, by kernel_rfl, ?_⟩
  exact yea (by kernel_rfl)
end EnB
