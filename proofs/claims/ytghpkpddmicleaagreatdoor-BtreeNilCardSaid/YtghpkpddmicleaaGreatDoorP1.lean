/-
  PROVED: what page.Seal makes, page.Open reads again (contracts over heaps). Condition: each contract's own.
-/
import Derived.Test.YtghpkpddmicleaaGreatDoorP0
import Derived.Test.YtghpkpddmicleaaGreatDoorSu
set_option linter.unusedVariables false
set_option linter.unusedSimpArgs false
set_option maxRecDepth 1000000
namespace BnN
open Go Go.X Go.Proofs
def bnF : List Nat := [138, 116, 118, 91, 117, 56, 47, 76, 77, 6, 9, 18, 59, 29, 60, 27, 21, 90, 3]
structure SB (S : ZSums) : Prop where
  none : ∀ f, f ∈ bnF → S f = none
  more : S 119 = some (zByte SuN.more)
theorem wrap_i64 {a : Int} (h1 : -9223372036854775808 ≤ a) (h2 : a ≤ 9223372036854775807) : IntKind.i64.wrap a = a := by
  unfold IntKind.wrap
  show (if (true && decide (a % (2 ^ 64 : Int) ≥ (2 ^ 63 : Int))) = true then a % (2 ^ 64 : Int) - (2 ^ 64 : Int) else a % (2 ^ 64 : Int)) = _
  rw [Bool.true_and]
  by_cases h : a % (2 ^ 64 : Int) ≥ (2 ^ 63 : Int)
  · rw [decide_eq_true h, if_pos rfl]; omega
  · rw [decide_eq_false h, if_neg (by decide)]; omega
theorem wrap_u8 (m : Nat) : IntKind.u8.wrap (Int.ofNat m) = Int.ofNat (m % 256) := by
  unfold IntKind.wrap
  show (if (false && _) = true then _ else (Int.ofNat m) % (2 ^ 8 : Int)) = _
  rw [Bool.false_and, if_neg (by decide)]
  show ((m : Int)) % (2 ^ 8 : Int) = ((m % 256 : Nat) : Int)
  omega
theorem fdiv_pow {s j : Nat} (hj : j ≤ 64) : Int.fdiv (Int.ofNat s) (Int.ofNat (Nat.pow 2 (cnd (Nat.ble j 64) j 64))) = Int.ofNat (s / 2 ^ j) := by
  rw [Nat.ble_eq_true_of_le hj, cnd_true]
  show Int.fdiv (s : Int) ((2 ^ j : Nat) : Int) = ((s / 2 ^ j : Nat) : Int)
  rw [Int.fdiv_eq_ediv_of_nonneg _ (Int.natCast_nonneg _)]
  exact (Int.natCast_ediv _ _).symm
/-- a number as n bytes, the highest first -/
def be (n m : Nat) : List Nat := (List.range n).map fun i => m / 2 ^ (8 * (n - 1 - i)) % 256
theorem be_length (n m : Nat) : (be n m).length = n := by unfold be; rw [List.length_map, List.length_range]
theorem be_get {n m i : Nat} (hi : i < n) : (be n m)[i]? = some (m / 2 ^ (8 * (n - 1 - i)) % 256) := by
  unfold be; rw [List.getElem?_map, List.getElem?_range hi]; rfl
theorem fin138 {K : ZK} {z : ZT} {h : Heap} (hk : K (.tup []) h) : zFin Tryz.prog 138 K z h := by
  have e : zFin Tryz.prog 138 K z h = K (.tup []) h := by kernel_rfl
  rw [e]; exact hk
section
variable {S : ZSums} {lf n : Nat} {h : Heap} {K : ZK}
theorem put_ok (hS : SB S) {s : SL} {m : Nat} {c : List AV} {e : Nat} {g mk : Bool} (hg : h.get s.i = some (.cells c e g mk)) (hi : s.i < h.next) (hn : s.nil = false) (hl : s.o + s.len ≤ c.length) (h8 : s.len ≤ 8) (hlf : 8 < lf) (k : K (.tup []) (hput h s.i s.o (ofBytes (be s.len m)))) :
    zCall Tryz.prog S lf (n + 1) 138 [.sl s, .int .u64 (.ofNat m)] K h := by
  refine zCall_at (hS.none _ (by decide)) (by kernel_rfl) ?_
  rw [put_nf]
  have hsn : s.n = s.len := SL.n_of hn
  have hb : (ofBytes (be s.len m)).length = s.len := by rw [ofBytes_length, be_length]
  refine ZLoop.inv (fun q z h' => ∃ j : Nat, ZAt 23 [(0, .sl s), (1, .int .u64 (.ofNat m)), (6, .int .i64 (Int.ofNat s.n)), (7, .int .i64 (j : Int))] z ∧ h' = hput h s.i s.o ((ofBytes (be s.len m)).take j) ∧ j + q = s.len) (n := s.len) (by omega)
    ⟨0, ⟨rfl, rfl, rfl, rfl, rfl, trivial⟩, by rw [List.take_zero, hput_nil hg], by omega⟩ ?_
  rintro q z h' kk hq ⟨j, hz, rfl, hj⟩ ih
  refine zAt_of _ hz fun d => (put_l100 _ _ _ _ _ _ _ _ _ _ _ _).mpr ?_
  rw [cnd_dec]
  rw [hsn]
  refine ⟨fun hlt => ?_, fun hge => ?_⟩
  · have hlt2 : j < s.len := by
      have : (j : Int) < ((s.len : Nat) : Int) := hlt
      omega
    rw [zW_iff, wrap_i64 (by show _ ≤ ((s.len : Nat) : Int) - 1; omega) (by show ((s.len : Nat) : Int) - 1 ≤ _; omega)]
    have e1 : (Int.ofNat s.len - 1 - (j : Int)) = ((s.len - 1 - j : Nat) : Int) := by show ((s.len : Nat) : Int) - 1 - j = _; omega
    rw [zW_iff, e1, wrap_i64 (by omega) (by omega)]
    have e2 : (8 * ((s.len - 1 - j : Nat) : Int)) = ((8 * (s.len - 1 - j) : Nat) : Int) := by omega
    rw [zW_iff, e2, wrap_i64 (by omega) (by omega)]
    refine ⟨8 * (s.len - 1 - j), rfl, ?_⟩
    rw [zW_iff, fdiv_pow (by omega), wrap_u8]
    refine ⟨hn, ⟨j, rfl, hlt2, ⟨rfl, ?_⟩⟩⟩
    have hg2 := hput_get (o := s.o) (vs := (ofBytes (be s.len m)).take j) hg
    have lt1 : ((ofBytes (be s.len m)).take j).length = j := by rw [List.length_take, hb]; omega
    refine ⟨⟨by rw [hput_next]; exact hi, _, _, _, _, hg2, ?_⟩, ?_⟩
    · rw [List.length_append, List.length_append, List.length_take, List.length_drop, lt1]; omega
    rw [zW_iff, wrap_i64 (by omega) (by omega)]
    refine ih (q - 1) _ _ (by omega) ⟨j + 1, ⟨rfl, rfl, rfl, by rw [hsn]; rfl, rfl, trivial⟩, ?_, by omega⟩
    have hbj : (ofBytes (be s.len m))[j]? = some (.int .u8 (.ofNat (m / 2 ^ (8 * (s.len - 1 - j)) % 256))) := by
      rw [ofBytes_eq, List.getElem?_map, be_get hlt2]; rfl
    have e3 : (ofBytes (be s.len m)).take (j + 1) = (ofBytes (be s.len m)).take j ++ [.int .u8 (.ofNat (m / 2 ^ (8 * (s.len - 1 - j)) % 256))] := by
      rw [List.take_add_one, hbj]; rfl
    have e4 := hput_hput hg s.o ((ofBytes (be s.len m)).take j) [.int .u8 (.ofNat (m / 2 ^ (8 * (s.len - 1 - j)) % 256))] (by rw [lt1]; show s.o + j + 1 ≤ _; omega)
    rw [lt1] at e4
    rw [e3, ← e4, Nat.mul_one]
  · have : ¬ ((j : Int) < ((s.len : Nat) : Int)) := hge
    have hjl : j = s.len := by omega
    refine fin138 ?_
    rw [hjl, List.take_of_length_le (by rw [hb]; exact Nat.le_refl _)]
    exact k
/-- bytes as a number -/
def unbe (l : List Nat) : Nat := l.foldl (fun v x => v * 256 + x) 0
theorem unbe_snoc (l : List Nat) (x : Nat) : unbe (l ++ [x]) = unbe l * 256 + x := by unfold unbe; rw [List.foldl_append]; rfl
theorem unbe_lt : ∀ (n : Nat) (l : List Nat), l.length = n → (∀ x, x ∈ l → x < 256) → unbe l < 256 ^ n := by
  intro n
  induction n with
  | zero => intro l hl _; have := List.eq_nil_of_length_eq_zero hl; subst this; decide
  | succ n ih =>
    intro l hl hb
    obtain ⟨i, x, rfl⟩ : ∃ i x, l = i ++ [x] := ⟨l.dropLast, l.getLast (by intro e; subst e; simp at hl), (List.dropLast_concat_getLast _).symm⟩
    have := ih i (by simpa using hl) fun y hy => hb y (List.mem_append_left _ hy)
    have hx := hb x (List.mem_append_right _ (List.mem_singleton.2 rfl))
    rw [unbe_snoc, Nat.pow_succ]; omega
theorem wrap_u64 {a : Nat} (h : a < 2 ^ 64) : IntKind.u64.wrap (Int.ofNat a) = Int.ofNat a := SuN.wrap64 h
theorem shl_or {a b : Nat} (ha : a * 256 < 2 ^ 64) (hb : b < 256) : Nat.lor (a * 256) b = a * 256 + b := by
  have := Nat.shiftLeft_add_eq_or_of_lt (i := 8) (b := b) (by omega) a
  rw [Nat.shiftLeft_eq] at this
  exact this.symm
theorem get_ok (hS : SB S) {s : SL} {l : List Nat} (hb : Byts h s l) (hn : s.nil = false) (h8 : l.length ≤ 8) (hlf : 8 < lf) (k : K (.int .u64 (.ofNat (unbe l))) h) :
    zCall Tryz.prog S lf (n + 1) 116 [.sl s] K h := by
  refine zCall_at (hS.none _ (by decide)) (by kernel_rfl) ?_
  rw [get_nf]
  have ln := hb.len
  have hub : ∀ j, j ≤ l.length → unbe (l.take j) < 256 ^ j := fun j hj => unbe_lt j _ (by rw [List.length_take]; omega) fun x hx => hb.byte x (List.mem_of_mem_take hx)
  refine ZLoop.inv (fun q z h' => ∃ j : Nat, ZAt 19 [(3, .int .u64 (.ofNat (unbe (l.take j)))), (6, .sl s), (7, .int .i64 (Int.ofNat s.n)), (8, .int .i64 (j : Int))] z ∧ h' = h ∧ j + q = l.length) (n := l.length) (by omega)
    ⟨0, ⟨rfl, rfl, rfl, rfl, rfl, trivial⟩, rfl, by omega⟩ ?_
  rintro q z h' kk hq ⟨j, hz, rfl, hj⟩ ih
  refine zAt_of _ hz fun d => (get_l110100 _ _ _ _ _ _ _ _ _ _ _ _).mpr ?_
  rw [cnd_dec, ln]
  refine ⟨fun hlt => ?_, fun hge => ?_⟩
  · have hlt2 : j < l.length := by
      have : (j : Int) < ((l.length : Nat) : Int) := hlt
      omega
    obtain ⟨b, hbj⟩ : ∃ b, l[j]? = some b := ⟨_, List.getElem?_eq_getElem hlt2⟩
    have hb8 : b < 256 := hb.byte b (List.mem_of_getElem? hbj)
    have hu := hub j (by omega)
    have hu2 : unbe (l.take j) * 256 < 2 ^ 64 := by
      have : 256 ^ j * 256 ≤ 2 ^ 64 := by
        have hj7 : j = 0 ∨ j = 1 ∨ j = 2 ∨ j = 3 ∨ j = 4 ∨ j = 5 ∨ j = 6 ∨ j = 7 := by omega
        rcases hj7 with rfl | rfl | rfl | rfl | rfl | rfl | rfl | rfl <;> decide
      have h3 := Nat.mul_lt_mul_of_pos_right hu (show 0 < 256 by decide)
      omega
    refine ⟨hn, ⟨j, rfl, by rw [← SL.n_of hn, ln]; exact hlt2, ⟨rfl, ⟨_, by rw [Nat.mul_one]; exact hb.at' hn hbj, ?_⟩⟩⟩⟩
    refine ⟨8, rfl, ?_⟩
    have e1 : (Int.ofNat (unbe (l.take j)) * Int.ofNat (Nat.pow 2 (cnd (Nat.ble 8 64) 8 64))) = Int.ofNat (unbe (l.take j) * 256) := rfl
    rw [zW_iff, e1, wrap_u64 hu2, zW_iff, wrap_u64 (by omega), zW_iff, SuN.toU64 hu2, SuN.toU64 (by omega), shl_or hu2 hb8, wrap_u64 (by omega), zW_iff, wrap_i64 (by omega) (by omega)]
    refine ih (q - 1) _ _ (by omega) ⟨j + 1, ⟨rfl, ?_, rfl, by rw [ln]; rfl, rfl, trivial⟩, rfl, by omega⟩
    rw [List.take_add_one, hbj]
    show ZV.int .u64 (.ofNat (unbe (l.take j) * 256 + b)) = .int .u64 (.ofNat (unbe (l.take j ++ [b])))
    rw [unbe_snoc]
  · have : ¬ ((j : Int) < ((l.length : Nat) : Int)) := hge
    have hjl : j = l.length := by omega
    refine zAt_of (n := 19) [(3, .int .u64 (.ofNat (unbe (l.take j))))] ⟨rfl, rfl, trivial⟩ fun d => (get_a111 _ _ _ _ _ _).mpr ?_
    rw [hjl, List.take_length]
    exact k
end
end BnN
namespace BnN
open Go Go.X Go.Proofs
/-! ### a page that is made -/
def setL (l : List Nat) (o : Nat) (vs : List Nat) : List Nat := l.take o ++ (vs ++ l.drop (o + vs.length))
theorem setL_app (a vs : List Nat) {n : Nat} (h : vs.length ≤ n) : setL (a ++ List.replicate n 0) a.length vs = (a ++ vs) ++ List.replicate (n - vs.length) 0 := by
  unfold setL
  rw [List.take_left, ← List.drop_drop, List.drop_left, List.drop_replicate, List.append_assoc]
theorem setL_length {l vs : List Nat} {o : Nat} (h : o + vs.length ≤ l.length) : (setL l o vs).length = l.length := by
  unfold setL; rw [List.length_append, List.length_append, List.length_take, List.length_drop]; omega
theorem ofBytes_set (l vs : List Nat) (o : Nat) : (ofBytes l).take o ++ (ofBytes vs ++ (ofBytes l).drop (o + (ofBytes vs).length)) = ofBytes (setL l o vs) := by
  unfold setL
  rw [ofBytes_append, ofBytes_append, ofBytes_length]
  simp only [ofBytes_eq, List.map_take, List.map_drop]
theorem flat_zero (n : Nat) : List.flatten (List.replicate n [AV.int .u8 0]) = ofBytes (List.replicate n 0) := by
  rw [ofBytes_eq, List.map_replicate]
  induction n with
  | zero => rfl
  | succ n ih => rw [List.replicate_succ, List.flatten_cons, ih, List.replicate_succ]; rfl
theorem newO_get_ne {h : Heap} {o : AObj} {j : Nat} (hj : j ≠ h.next) : (h.newO o).get j = h.get j := if_neg hj
/-- behind the head: the page, what 'right' made, the marks -/
noncomputable def pgH (h : Heap) (A : List AV) (L : List Nat) (R M : List AV) : Heap := (((h.newO (.cells A 0 false false)).newO (.cells (ofBytes L) 1 false false)).newO (.cells R 0 false false)).newO (.cells M 0 false false)
section
variable {h : Heap} {A R M : List AV} {L : List Nat}
theorem pg_next : (pgH h A L R M).next = h.next + 4 := rfl
theorem pg_page : (pgH h A L R M).get (h.next + 1) = some (.cells (ofBytes L) 1 false false) := by
  unfold pgH
  rw [newO_get_ne (by show h.next + 1 ≠ h.next + 1 + 1 + 1; omega), newO_get_ne (by show h.next + 1 ≠ h.next + 1 + 1; omega)]
  exact newO_get_self _ _
theorem pg_lt {j : Nat} (hj : j < h.next) : (pgH h A L R M).get j = h.get j := by
  unfold pgH
  rw [newO_get_ne (by show j ≠ h.next + 1 + 1 + 1; omega), newO_get_ne (by show j ≠ h.next + 1 + 1; omega), newO_get_ne (by show j ≠ h.next + 1; omega), newO_get_ne (by omega)]
theorem pg_head : Var (pgH h A L R M) h.next A := by
  refine ⟨by rw [pg_next]; omega, ?_⟩
  unfold pgH
  rw [newO_get_ne (by show h.next ≠ h.next + 1 + 1 + 1; omega), newO_get_ne (by show h.next ≠ h.next + 1 + 1; omega), newO_get_ne (by show h.next ≠ h.next + 1; omega)]
  exact newO_get_self _ _
theorem pg_marks : Var (pgH h A L R M) (h.next + 3) M := by
  refine ⟨by rw [pg_next]; omega, ?_⟩
  exact newO_get_self (((h.newO (.cells A 0 false false)).newO (.cells (ofBytes L) 1 false false)).newO (.cells R 0 false false)) _
theorem pg_put (o : Nat) (vs : List Nat) : hput (pgH h A L R M) (h.next + 1) o (ofBytes vs) = pgH h A (setL L o vs) R M := by
  rw [hput_eq pg_page, ofBytes_set]
  refine Heap.ext (fun j => ?_) rfl rfl rfl
  by_cases e1 : j = h.next + 1
  · subst e1; rw [put_get_self, pg_page]
  · rw [put_get_ne e1]
    unfold pgH
    by_cases e3 : j = h.next + 3
    · subst e3
      exact (newO_get_self (((h.newO (.cells A 0 false false)).newO (.cells (ofBytes L) 1 false false)).newO (.cells R 0 false false)) _).trans (newO_get_self (((h.newO (.cells A 0 false false)).newO (.cells (ofBytes (setL L o vs)) 1 false false)).newO (.cells R 0 false false)) _).symm
    · rw [newO_get_ne (by exact e3), newO_get_ne (h := ((h.newO (.cells A 0 false false)).newO (.cells (ofBytes (setL L o vs)) 1 false false)).newO (.cells R 0 false false)) (by exact e3)]
      by_cases e2 : j = h.next + 2
      · subst e2
        exact (newO_get_self ((h.newO (.cells A 0 false false)).newO (.cells (ofBytes L) 1 false false)) _).trans (newO_get_self ((h.newO (.cells A 0 false false)).newO (.cells (ofBytes (setL L o vs)) 1 false false)) _).symm
      · rw [newO_get_ne (by exact e2), newO_get_ne (h := (h.newO (.cells A 0 false false)).newO (.cells (ofBytes (setL L o vs)) 1 false false)) (by exact e2), newO_get_ne (by exact e1), newO_get_ne (h := h.newO (.cells A 0 false false)) (by exact e1)]
theorem pg_byts {s : SL} {l : List Nat} (hb : Byts h s l) : Byts (pgH h A L R M) s l := by
  refine hb.fr (S := nowhere) ⟨by rw [pg_next]; omega, fun j hj _ => pg_lt hj⟩ fun _ => id
end
def hdr (kd num gen n : Nat) : List Nat := [66, 89, kd, 0] ++ be 4 num ++ be 8 gen ++ be 4 n ++ [0, 0, 0, 0]
def body (kd num gen : Nat) (l : List Nat) : List Nat := hdr kd num gen l.length ++ l ++ List.replicate (480 - l.length) 0
def sums (s : Nat) : List Nat := (List.range 8).map fun i => s / 2 ^ (8 * i) % 256
noncomputable def pgL (kd num gen : Nat) (l : List Nat) : List Nat := body kd num gen l ++ sums (SuN.more 0 (body kd num gen l))
theorem hdr_length (kd num gen n : Nat) : (hdr kd num gen n).length = 24 := by simp [hdr, be_length]
theorem body_length {kd num gen : Nat} {l : List Nat} (hl : l.length ≤ 480) : (body kd num gen l).length = 504 := by
  unfold body; rw [List.length_append, List.length_append, hdr_length, List.length_replicate]; omega
theorem be_byte {n m x : Nat} (h : x ∈ be n m) : x < 256 := by
  unfold be at h
  obtain ⟨i, _, rfl⟩ := List.mem_map.1 h
  exact Nat.mod_lt _ (by decide)
theorem body_byte {kd num gen : Nat} {l : List Nat} (hk : kd < 256) (hb : ∀ x, x ∈ l → x < 256) : ∀ x, x ∈ body kd num gen l → x < 256 := by
  intro x hx
  unfold body hdr at hx
  simp only [List.mem_append, List.mem_cons, List.not_mem_nil, or_false] at hx
  rcases hx with ((((((rfl | rfl | rfl | rfl) | hx) | hx) | hx) | (rfl | rfl | rfl | rfl)) | hx) | hx
  any_goals omega
  · exact be_byte hx
  · exact be_byte hx
  · exact be_byte hx
  · exact hb x hx
  · rw [(List.mem_replicate.1 hx).2]; decide
theorem fin90 {K : ZK} {z : ZT} {h : Heap} {s : SL} : True := trivial
section
variable {S : ZSums} {lf n : Nat} {h : Heap} {K : ZK}
theorem sized_ok (hS : SB S) (k : K (.bool true) h) : zCall Tryz.prog S lf (n + 1) 91 [.int .i64 512] K h := by
  refine zCall_at (hS.none _ (by decide)) (by kernel_rfl) ?_
  rw [sized_nf]
  exact cndP_t (by rfl) k
theorem room_ok (hS : SB S) (k : K (.int .i64 480) h) : zCall Tryz.prog S lf (n + 2) 56 [.int .i64 512] K h := by
  refine zCall_at (hS.none _ (by decide)) (by kernel_rfl) ?_
  rw [room_nf]
  refine sized_ok hS ?_
  exact ⟨true, rfl, cndP_f (by rfl) ⟨k⟩⟩
theorem may_ok (hS : SB S) {kd num : Nat} (h1 : 1 ≤ kd) (h2 : kd ≤ 5) (h3 : num < 65536) (k : K (.bool true) h) : zCall Tryz.prog S lf (n + 1) 118 [.int .i64 (.ofNat kd), .int .u64 (.ofNat num)] K h := by
  refine zCall_at (hS.none _ (by decide)) (by kernel_rfl) ?_
  rw [may_nf]
  refine cndP_t (decide_eq_true (by show (1 : Int) ≤ (kd : Int); omega)) ?_
  have e2 : decide ((Int.ofNat kd) ≤ 5) = true := decide_eq_true (by show (kd : Int) ≤ 5; omega)
  have e3 : decide ((Int.ofNat num) < 65536) = true := decide_eq_true (by show (num : Int) < 65536; omega)
  rw [e2, e3]
  exact cndP_t rfl k
noncomputable def mks : List AV := [.int .u8 66, .int .u8 89, .int .u8 0, .int .u8 0, .int .u8 0, .int .u8 0, .int .u8 0]
theorem hput_new (h : Heap) (c vs : List AV) (e : Nat) (g m : Bool) (hl : vs.length = c.length) : hput (h.newO (.cells c e g m)) h.next 0 vs = h.newO (.cells vs e g m) := by
  rw [hput_eq (newO_get_self _ _), newO_put, List.take_zero, List.nil_append, Nat.zero_add, hl, List.drop_length, List.append_nil]
theorem right_ok (hS : SB S) (k : K (.agg [.int .u8 66, .int .u8 89, .int .u8 0, .int .u8 0, .int .u8 0, .int .u8 0, .int .u8 0]) (h.newO (.cells mks 0 false false))) : zCall Tryz.prog S lf (n + 1) 117 [] K h := by
  refine zCall_at (hS.none _ (by decide)) (by kernel_rfl) ?_
  rw [right_nf]
  have v := Var.new h [AV.int IntKind.u8 0, AV.int IntKind.u8 0, AV.int IntKind.u8 0, AV.int IntKind.u8 0, AV.int IntKind.u8 0, AV.int IntKind.u8 0, AV.int IntKind.u8 0]
  refine ⟨rfl, v.zput (by simp) ⟨rfl, ?_⟩⟩
  have e : hput (h.newO (AObj.cells [AV.int IntKind.u8 0, AV.int IntKind.u8 0, AV.int IntKind.u8 0, AV.int IntKind.u8 0, AV.int IntKind.u8 0, AV.int IntKind.u8 0, AV.int IntKind.u8 0] 0 false false)) h.next 0 [AV.int IntKind.u8 66, AV.int IntKind.u8 89, AV.int IntKind.u8 0, AV.int IntKind.u8 0, AV.int IntKind.u8 0, AV.int IntKind.u8 0, AV.int IntKind.u8 0] = h.newO (.cells mks 0 false false) := hput_new h _ _ _ _ _ rfl
  rw [e]
  have v2 := Var.new h mks
  exact v2.ldI 66 rfl (v2.ldI 89 rfl (v2.ldI 0 rfl (v2.ldI 0 rfl (v2.ldI 0 rfl (v2.ldI 0 rfl (v2.ldI 0 rfl k))))))
theorem of_ok (hS : SB S) {s : SL} {l : List Nat} (hb : Byts h s l) (hn : s.nil = false) (hc : s.len ≤ s.cap) (hl : l.length ≤ 1048576) (k : K (.int .u64 (.ofNat (SuN.more 0 l))) h) : zCall Tryz.prog S lf (n + 2) 77 [.sl s] K h := by
  refine zCall_at (hS.none _ (by decide)) (by kernel_rfl) ?_
  rw [of_nf]
  have ln := hb.len
  rw [SL.n_of hn] at ln
  obtain ⟨c, c1, c2, c3⟩ := hb.seg.src hn
  rw [Nat.mul_one] at c2 c3
  exact zCall_sum (by kernel_rfl) hS.more ⟨0, s, l, rfl, by decide, hn, hc, by omega, ⟨c, c1, c2, c3⟩, hb.byte, ⟨_, by rw [av_int], k⟩⟩
end
end BnN
namespace BnN
open Go Go.X Go.Proofs
section
variable {S : ZSums} {lf n : Nat} {h : Heap} {K : ZK}
noncomputable def hdA (kd num gen : Nat) : List AV := [.int .i64 (.ofNat kd), .int .i64 (.ofNat num), .int .u64 (.ofNat gen)]
theorem lit {a b : Nat} (h : Nat.ble a b = true) : a ≤ b := Nat.le_of_ble_eq_true h
theorem allPlain_bytes (l : List Nat) : allPlain (ofBytes l) = true := by
  rw [ofBytes_eq]
  induction l with
  | nil => rfl
  | cons x l ih => exact ih
theorem pg_seg {A R M : List AV} {L pre mid post : List Nat} (e : L = pre ++ (mid ++ post)) {o len : Nat} (ho : pre.length = o) (hlen : mid.length = len) (cap : Nat) : Seg (pgH h A L R M) ⟨false, h.next + 1, o, len, cap, false⟩ 1 (ofBytes mid) := by
  subst ho; subst hlen
  refine ⟨?_, fun _ => by rw [pg_next]; show h.next + 1 < _; omega, fun _ => ⟨ofBytes L, by unfold cellsAt; rw [pg_page], ?_, ?_⟩⟩
  · rw [ofBytes_length]; show mid.length = mid.length * 1; omega
  · show ((ofBytes L).drop pre.length).take (mid.length * 1) = _
    rw [e, ofBytes_append, ofBytes_append, Nat.mul_one, List.drop_left' (by rw [ofBytes_length]), List.take_left' (by rw [ofBytes_length])]
  · show mid.length * 1 ≤ ((ofBytes L).drop pre.length).length
    rw [List.length_drop, ofBytes_length, e, List.length_append, List.length_append]; omega
theorem sums_length (s : Nat) : (sums s).length = 8 := by simp [sums]
theorem sums_get {s i : Nat} (hi : i < 8) : (sums s)[i]? = some (s / 2 ^ (8 * i) % 256) := by
  unfold sums; rw [List.getElem?_map, List.getElem?_range hi]; rfl
theorem seal_ok (hS : SB S) {kd num gen : Nat} (h1 : 1 ≤ kd) (h2 : kd ≤ 5) (h3 : num < 65536) (h4 : gen < 2 ^ 64) {s : SL} {l : List Nat} (hb : Byts h s l) (hl : l.length ≤ 480) (hlf : 20 < lf)
    (k : K (.tup [.sl ⟨false, h.next + 1, 0, 512, 512, false⟩, .int .i64 0]) (pgH h (hdA kd num gen) (pgL kd num gen l) mks mks)) :
    zCall Tryz.prog S lf (n + 4) 90 [.int .i64 512, .agg [.int .i64 (.ofNat kd), .int .i64 (.ofNat num), .int .u64 (.ofNat gen)], .sl s] K h := by
  refine zCall_at (hS.none _ (by decide)) (by kernel_rfl) ?_
  rw [seal_nf]
  have ln := hb.len
  generalize hA : hdA kd num gen = A at k
  have vA : Var (h.newO (.cells A 0 false false)) h.next A := Var.new h A
  have eA0 : A[0]? = some (.int .i64 (.ofNat kd)) := by rw [← hA]; rfl
  have eA1 : A[1]? = some (.int .i64 (.ofNat num)) := by rw [← hA]; rfl
  have eA2 : A[2]? = some (.int .u64 (.ofNat gen)) := by rw [← hA]; rfl
  have wn : IntKind.u64.wrap (Int.ofNat num) = Int.ofNat num := wrap_u64 (by omega)
  have wk : IntKind.u8.wrap (Int.ofNat kd) = Int.ofNat kd := by rw [wrap_u8, Nat.mod_eq_of_lt (by omega)]
  refine sized_ok hS ⟨true, rfl, cndP_f rfl ⟨rfl, ⟨rfl, ?_⟩⟩⟩
  rw [show (h.newO (.cells [AV.int IntKind.i64 (Int.ofNat kd), AV.int IntKind.i64 (Int.ofNat num), AV.int IntKind.u64 (Int.ofNat gen)] 0 false false)) = h.newO (.cells A 0 false false) by rw [← hA]; rfl]
  refine vA.ldI _ eA1 (cndP_f (by show decide ((num : Int) < 0) = false; exact decide_eq_false (by omega)) ⟨rfl, ⟨rfl, vA.ldI _ eA0 ⟨rfl, ⟨rfl, vA.ldI _ eA1 ?_⟩⟩⟩⟩)
  rw [zW_iff, wn]
  refine may_ok hS h1 h2 h3 ⟨true, rfl, cndP_f rfl (room_ok hS ⟨480, rfl, cndP_f (decide_eq_false (by rw [ln]; show ¬ ((480 : Int) < (l.length : Int)); omega)) ⟨512, rfl, ⟨512, rfl, ⟨Nat.le_refl _, ⟨by kernel_rfl, ?_⟩⟩⟩⟩⟩)⟩
  rw [flat_zero]
  refine right_ok hS ⟨fun i => mks.getD i .junk, rfl, ⟨66, rfl, ⟨89, rfl, ⟨0, rfl, ⟨0, rfl, ⟨0, rfl, ⟨0, rfl, ⟨0, rfl, ⟨rfl, ?_⟩⟩⟩⟩⟩⟩⟩⟩⟩
  refine (Var.new _ _).zput (by simp) ?_
  have eM : ∀ (X : Heap), hput (X.newO (AObj.cells [AV.int IntKind.u8 0, AV.int IntKind.u8 0, AV.int IntKind.u8 0, AV.int IntKind.u8 0, AV.int IntKind.u8 0, AV.int IntKind.u8 0, AV.int IntKind.u8 0] 0 false false)) X.next 0 [AV.int IntKind.u8 66, AV.int IntKind.u8 89, AV.int IntKind.u8 0, AV.int IntKind.u8 0, AV.int IntKind.u8 0, AV.int IntKind.u8 0, AV.int IntKind.u8 0] = X.newO (.cells mks 0 false false) := fun X => hput_new X _ _ _ _ _ rfl
  rw [eM]
  have fold : ((((h.newO (.cells A 0 false false)).newO (.cells (ofBytes (List.replicate 512 0)) 1 false false)).newO (.cells mks 0 false false)).newO (.cells mks 0 false false)) = pgH h A (List.replicate 512 0) mks mks := rfl
  rw [fold]
  have vm : ∀ L, Var (pgH h A L mks mks) (h.next + 3) mks := fun L => pg_marks
  have vh : ∀ L, Var (pgH h A L mks mks) h.next A := fun L => pg_head
  refine ⟨rfl, ⟨rfl, (vm _).ldI 66 rfl ⟨rfl, ⟨rfl, (vm _).ldI 89 rfl ⟨rfl, ⟨rfl, (vh _).ldI _ eA0 ?_⟩⟩⟩⟩⟩⟩
  rw [zW_iff, wk]
  have put1 : ∀ (L : List Nat) (o x : Nat) {B : Prop}, o < L.length → B → ZPut (pgH h A L mks mks) (h.next + 1) o 1 B := fun L o x B ho hB => ⟨⟨by rw [pg_next]; omega, _, _, _, _, pg_page, by rw [ofBytes_length]; exact ho⟩, hB⟩
  have e1 : ∀ (L : List Nat) (o x : Nat), hput (pgH h A L mks mks) (h.next + 1) o [AV.int .u8 (Int.ofNat x)] = pgH h A (setL L o [x]) mks mks := fun L o x => pg_put o [x]
  refine ⟨rfl, ⟨0, rfl, by decide, ⟨rfl, put1 _ 0 66 (by simp) ?_⟩⟩⟩
  have q1 : hput (pgH h A (List.replicate 512 0) mks mks) (h.next + 1) (0 + 0 * 1) [AV.int .u8 66] = pgH h A ([66] ++ List.replicate 511 0) mks mks := (e1 _ 0 66).trans (congrArg (fun L => pgH h A L mks mks) (setL_app [] [66] (n := 512) (by decide)))
  rw [show (SL.mk false (h.newO (.cells A 0 false false)).next 0 512 512 false).i = h.next + 1 from rfl, q1]
  refine ⟨by rw [zW_iff, wk], ⟨⟨rfl, (vh _).ldI _ eA0 rfl⟩, ⟨⟨rfl, (vm _).ldI 89 rfl rfl⟩, ⟨rfl, ⟨1, rfl, by decide, ⟨rfl, put1 _ 1 89 (by simp) ?_⟩⟩⟩⟩⟩⟩
  have q2 : hput (pgH h A ([66] ++ List.replicate 511 0) mks mks) (h.next + 1) (0 + 1 * 1) [AV.int .u8 89] = pgH h A ([66, 89] ++ List.replicate 510 0) mks mks := (e1 _ 1 89).trans (congrArg (fun L => pgH h A L mks mks) (setL_app [66] [89] (n := 511) (by decide)))
  rw [q2]
  refine ⟨by rw [zW_iff, wk], ⟨⟨rfl, (vh _).ldI _ eA0 rfl⟩, ⟨rfl, ⟨2, rfl, by decide, ⟨rfl, put1 _ 2 kd (by simp) ?_⟩⟩⟩⟩⟩
  have q3 : hput (pgH h A ([66, 89] ++ List.replicate 510 0) mks mks) (h.next + 1) (0 + 2 * 1) [AV.int .u8 (Int.ofNat kd)] = pgH h A ([66, 89, kd, 0] ++ List.replicate 508 0) mks mks := (e1 _ 2 kd).trans (congrArg (fun L => pgH h A L mks mks) ((setL_app [66, 89] [kd] (n := 510) (by simp)).trans (by rw [show (510 - [kd].length) = 508 + 1 from rfl, List.replicate_succ]; rfl)))
  rw [q3]
  have wg : IntKind.u64.wrap (Int.ofNat l.length) = Int.ofNat l.length := wrap_u64 (by omega)
  have stp : ∀ (a vs : List Nat) (o n m : Nat), a.length = o → vs.length + m = n → hput (pgH h A (a ++ List.replicate n 0) mks mks) (h.next + 1) o (ofBytes vs) = pgH h A ((a ++ vs) ++ List.replicate m 0) mks mks := fun a vs o n m ho hm => by
    subst ho
    rw [pg_put, setL_app a vs (by omega), show n - vs.length = m by omega]
  have pgl : ∀ (a : List Nat) (o n : Nat), a.length = o → (ofBytes (a ++ List.replicate n 0)).length = o + n := fun a o n ho => by rw [ofBytes_length, List.length_append, List.length_replicate, ho]
  refine ⟨4, rfl, ⟨8, rfl, ⟨⟨fun e => Bool.noConfusion e, fun _ => ⟨lit rfl, lit rfl⟩⟩, ⟨rfl, ⟨rfl, (vh _).ldI _ eA1 ?_⟩⟩⟩⟩⟩
  rw [zW_iff, wn]
  refine put_ok (s := ⟨false, h.next + 1, 4, 4, 508, false⟩) hS pg_page (by rw [pg_next]; show h.next + 1 < _; omega) rfl (by rw [pgl [66, 89, kd, 0] 4 508 rfl]; exact lit rfl) (lit rfl) (by omega) ?_
  rw [show hput (pgH h A ([66, 89, kd, 0] ++ List.replicate 508 0) mks mks) (SL.mk false (h.next + 1) 4 4 508 false).i (SL.mk false (h.next + 1) 4 4 508 false).o (ofBytes (be (SL.mk false (h.next + 1) 4 4 508 false).len num)) = _ from stp [66, 89, kd, 0] (be 4 num) 4 508 504 rfl (by rw [be_length])]
  refine ⟨fun _ => .junk, rfl, ⟨8, rfl, ⟨16, rfl, ⟨⟨fun e => Bool.noConfusion e, fun _ => ⟨lit rfl, lit rfl⟩⟩, ⟨rfl, ⟨rfl, (vh _).ldI _ eA2 ?_⟩⟩⟩⟩⟩⟩
  refine put_ok (s := ⟨false, h.next + 1, 8, 8, 504, false⟩) hS pg_page (by rw [pg_next]; show h.next + 1 < _; omega) rfl (by rw [pgl _ 8 504 (by simp [be_length])]; exact lit rfl) (lit rfl) (by omega) ?_
  rw [show hput (pgH h A (([66, 89, kd, 0] ++ be 4 num) ++ List.replicate 504 0) mks mks) (SL.mk false (h.next + 1) 8 8 504 false).i (SL.mk false (h.next + 1) 8 8 504 false).o (ofBytes (be (SL.mk false (h.next + 1) 8 8 504 false).len gen)) = _ from stp ([66, 89, kd, 0] ++ be 4 num) (be 8 gen) 8 504 496 (by simp [be_length]) (by rw [be_length])]
  refine ⟨fun _ => .junk, rfl, ⟨16, rfl, ⟨20, rfl, ⟨⟨fun e => Bool.noConfusion e, fun _ => ⟨lit rfl, lit rfl⟩⟩, ?_⟩⟩⟩⟩
  rw [ln, zW_iff, wg]
  refine put_ok (s := ⟨false, h.next + 1, 16, 4, 496, false⟩) hS pg_page (by rw [pg_next]; show h.next + 1 < _; omega) rfl (by rw [pgl _ 16 496 (by simp [be_length])]; exact lit rfl) (lit rfl) (by omega) ?_
  rw [show hput (pgH h A (([66, 89, kd, 0] ++ be 4 num ++ be 8 gen) ++ List.replicate 496 0) mks mks) (SL.mk false (h.next + 1) 16 4 496 false).i (SL.mk false (h.next + 1) 16 4 496 false).o (ofBytes (be (SL.mk false (h.next + 1) 16 4 496 false).len l.length)) = _ from stp ([66, 89, kd, 0] ++ be 4 num ++ be 8 gen) (be 4 l.length) 16 496 492 (by simp [be_length]) (by rw [be_length])]
  have eh : (([66, 89, kd, 0] ++ be 4 num ++ be 8 gen ++ be 4 l.length) ++ List.replicate 492 0) = hdr kd num gen l.length ++ List.replicate 488 0 := by
    unfold hdr
    rw [show List.replicate 492 0 = [0, 0, 0, 0] ++ List.replicate 488 0 from rfl, ← List.append_assoc]
  rw [eh]
  refine ⟨fun _ => .junk, rfl, ⟨24, rfl, ⟨⟨fun e => Bool.noConfusion e, fun _ => ⟨lit rfl, lit rfl⟩⟩, (pg_byts hb).seg.zsrc ?_⟩⟩⟩
  have emin : min (SL.cut ⟨false, (h.newO (.cells A 0 false false)).next, 0, 512, 512, false⟩ 1 24 512 512 false).n l.length * 1 = l.length := by
    rw [Nat.mul_one]
    show min 488 l.length = l.length
    omega
  rw [emin]
  have ecut : SL.cut ⟨false, (h.newO (.cells A 0 false false)).next, 0, 512, 512, false⟩ 1 24 512 512 false = ⟨false, h.next + 1, 24, 488, 488, false⟩ := rfl
  rw [ecut]
  refine ⟨⟨by rw [pg_next]; show h.next + 1 < _; omega, _, _, _, _, pg_page, by rw [pgl _ 24 488 (hdr_length _ _ _ _)]; show 24 + l.length ≤ _; omega⟩, ⟨allPlain_bytes l, ?_⟩⟩
  rw [zW_iff, wrap_i64 (by decide) (by decide)]
  refine ⟨504, rfl, ⟨⟨fun e => Bool.noConfusion e, fun _ => ⟨lit rfl, lit rfl⟩⟩, ?_⟩⟩
  rw [List.take_of_length_le (by rw [ofBytes_length]; exact Nat.le_refl _)]
  rw [show hput (pgH h A (hdr kd num gen l.length ++ List.replicate 488 0) mks mks) (SL.mk false (h.next + 1) 24 488 488 false).i (SL.mk false (h.next + 1) 24 488 488 false).o (ofBytes l) = _ from stp (hdr kd num gen l.length) l 24 488 (488 - l.length) (hdr_length _ _ _ _) (by omega)]
  have eb : (hdr kd num gen l.length ++ l) ++ List.replicate (488 - l.length) 0 = body kd num gen l ++ List.replicate 8 0 := by
    unfold body
    rw [show 488 - l.length = (480 - l.length) + 8 by omega, ← List.replicate_append_replicate, ← List.append_assoc]
  rw [eb]
  have bl := body_length (kd := kd) (num := num) (gen := gen) hl
  have ecut2 : SL.cut ⟨false, (h.newO (.cells A 0 false false)).next, 0, 512, 512, false⟩ 1 0 504 512 false = ⟨false, h.next + 1, 0, 504, 512, false⟩ := rfl
  rw [ecut2]
  have bb := body_byte (kd := kd) (num := num) (gen := gen) (l := l) (by omega) hb.byte
  refine of_ok hS (l := body kd num gen l) ⟨pg_seg (pre := []) (mid := body kd num gen l) (post := List.replicate 8 0) rfl rfl bl 512, bb⟩ rfl (lit rfl) (by rw [bl]; exact lit rfl) ?_
  generalize hσ : SuN.more 0 (body kd num gen l) = σ
  refine ⟨Int.ofNat σ, rfl, ?_⟩
  refine ZLoop.inv (fun q z h' => ∃ j : Nat, ZAt 92 [(0, .int .i64 512), (8, .sl ⟨false, h.next + 1, 0, 512, 512, false⟩), (10, .int .u64 (.ofNat σ)), (76, .int .i64 (j : Int))] z ∧ h' = pgH h A ((body kd num gen l ++ (sums σ).take j) ++ List.replicate q 0) mks mks ∧ j + q = 8) (n := 8) (by omega)
    ⟨0, ⟨rfl, rfl, rfl, rfl, rfl, trivial⟩, by rw [List.take_zero, List.append_nil], rfl⟩ ?_
  rintro q z h' kk hq ⟨j, hz, rfl, hj⟩ ih
  refine zAt_of _ hz fun d => (seal_l111111111110100 _ _ _ _ _ _ _ _ _ _ _ _).mpr ?_
  rw [cnd_dec]
  have sl := sums_length σ
  have tl : ((sums σ).take j).length = j := by rw [List.length_take, sl]; omega
  have al : (body kd num gen l ++ (sums σ).take j).length = 504 + j := by rw [List.length_append, bl, tl]
  refine ⟨fun hlt => ?_, fun hge => ?_⟩
  · have hlt2 : j < 8 := by omega
    rw [zW_iff, wrap_i64 (by decide) (by decide), zW_iff, show ((512 - 8 : Int) + (j : Int)) = ((504 + j : Nat) : Int) by omega, wrap_i64 (by omega) (by omega), zW_iff, show ((8 : Int) * (j : Int)) = ((8 * j : Nat) : Int) by omega, wrap_i64 (by omega) (by omega)]
    refine ⟨8 * j, rfl, ?_⟩
    rw [zW_iff, fdiv_pow (by omega), wrap_u8]
    refine ⟨rfl, ⟨504 + j, rfl, by show 504 + j < 512; omega, ⟨rfl, ⟨⟨by rw [pg_next]; show h.next + 1 < _; omega, _, _, _, _, pg_page, by rw [pgl _ _ q al]; show 0 + (504 + j) * 1 + 1 ≤ _; omega⟩, ?_⟩⟩⟩⟩
    rw [zW_iff, wrap_i64 (by omega) (by omega)]
    obtain ⟨q', rfl⟩ : ∃ q', q = q' + 1 := ⟨q - 1, by omega⟩
    refine ih q' _ _ (by omega) ⟨j + 1, ⟨rfl, rfl, rfl, rfl, rfl, trivial⟩, ?_, by omega⟩
    have e5 := stp (body kd num gen l ++ (sums σ).take j) [σ / 2 ^ (8 * j) % 256] (504 + j) (q' + 1) q' al (by show 1 + q' = q' + 1; omega)
    have e6 : (sums σ).take (j + 1) = (sums σ).take j ++ [σ / 2 ^ (8 * j) % 256] := by rw [List.take_add_one, sums_get hlt2]; rfl
    rw [e6, ← List.append_assoc, ← e5, show (SL.mk false (h.next + 1) 0 512 512 false).o + (504 + j) * 1 = 504 + j by show 0 + (504 + j) * 1 = _; omega]
    rfl
  · have hj8 : j = 8 := by omega
    obtain rfl : q = 0 := by omega
    subst hj8
    refine zAt_of (n := 92) [(8, .sl ⟨false, h.next + 1, 0, 512, 512, false⟩)] ⟨rfl, rfl, trivial⟩ fun d => (seal_a111111111111 _ _ _ _ _ _).mpr ?_
    have ef : (body kd num gen l ++ (sums σ).take 8) ++ List.replicate 0 0 = pgL kd num gen l := by
      unfold pgL
      rw [hσ, List.replicate_zero, List.append_nil, List.take_of_length_le (by rw [sl]; exact Nat.le_refl _)]
    rw [ef]
    exact k
end
end BnN
namespace BnN
open Go Go.X Go.Proofs
theorem unbe4 {m : Nat} (h : m < 4294967296) : unbe (be 4 m) = m := by
  have e : unbe (be 4 m) = (((0 * 256 + m / 2 ^ 24 % 256) * 256 + m / 2 ^ 16 % 256) * 256 + m / 2 ^ 8 % 256) * 256 + m / 2 ^ 0 % 256 := rfl
  rw [e]; omega
theorem unbe8 {m : Nat} (h : m < 2 ^ 64) : unbe (be 8 m) = m := by
  have e : unbe (be 8 m) = (((((((0 * 256 + m / 2 ^ 56 % 256) * 256 + m / 2 ^ 48 % 256) * 256 + m / 2 ^ 40 % 256) * 256 + m / 2 ^ 32 % 256) * 256 + m / 2 ^ 24 % 256) * 256 + m / 2 ^ 16 % 256) * 256 + m / 2 ^ 8 % 256) * 256 + m / 2 ^ 0 % 256 := rfl
  rw [e]; omega
section
variable {S : ZSums} {lf n : Nat} {h : Heap} {K : ZK}
theorem ldB {X : Heap} {s : SL} {L : List Nat} (hb : Byts X s L) (hn : s.nil = false) {q x : Nat} (e : L[q]? = some x) {K : Int → Prop} (k : K (.ofNat x)) : ZLdI X s.i (s.o + q * 1) .u8 K :=
  ⟨.ofNat x, by rw [Nat.mul_one]; exact hb.at' hn e, k⟩
theorem byts_sub {X : Heap} {s : SL} {L pre mid post : List Nat} (hb : Byts X s L) (hn : s.nil = false) (e : L = pre ++ (mid ++ post)) {a len cap : Nat} {ex : Bool} (ha : pre.length = a) (hl : mid.length = len) : Byts X ⟨false, s.i, s.o + a * 1, len, cap, ex⟩ mid := by
  subst ha; subst hl
  have ln := hb.len
  rw [SL.n_of hn, e, List.length_append, List.length_append] at ln
  obtain ⟨c, c1, c2, c3⟩ := hb.seg.src hn
  rw [Nat.mul_one] at c2 c3
  refine ⟨⟨by rw [ofBytes_length]; show mid.length = mid.length * 1; omega, fun _ => hb.seg.lt hn, fun _ => ⟨c, c1, ?_, ?_⟩⟩, fun x hx => hb.byte x (by rw [e]; simp [hx])⟩
  · show (c.drop (s.o + pre.length * 1)).take (mid.length * 1) = _
    have h1 : ((c.drop s.o).drop pre.length).take (s.len - pre.length) = (ofBytes L).drop pre.length := by rw [← c2, List.drop_take]
    have h2 : (((c.drop s.o).drop pre.length).take (s.len - pre.length)).take mid.length = ofBytes mid := by
      rw [h1, e, ofBytes_append, ofBytes_append, List.drop_left' (by rw [ofBytes_length]), List.take_left' (by rw [ofBytes_length])]
    rw [List.take_take, Nat.min_eq_left (by omega), List.drop_drop] at h2
    rw [Nat.mul_one, Nat.mul_one]
    exact h2
  · show mid.length * 1 ≤ (c.drop (s.o + pre.length * 1)).length
    rw [List.length_drop] at c3 ⊢
    omega
theorem hput_newO (h : Heap) (c : List AV) (e : Nat) (g m : Bool) (o : Nat) (vs : List AV) : hput (h.newO (.cells c e g m)) h.next o vs = h.newO (.cells (c.take o ++ (vs ++ c.drop (o + vs.length))) e g m) := by
  rw [hput_eq (newO_get_self _ _), newO_put]
noncomputable def z3 : List AV := [.int .i64 0, .int .i64 0, .int .u64 0]
theorem pgL_split {kd num gen : Nat} (l : List Nat) : pgL kd num gen l = [66, 89, kd, 0] ++ (be 4 num ++ (be 8 gen ++ (be 4 l.length ++ ([0, 0, 0, 0] ++ (l ++ (List.replicate (480 - l.length) 0 ++ sums (SuN.more 0 (body kd num gen l)))))))) := by
  unfold pgL body hdr
  simp only [List.append_assoc]
theorem pgL_length {kd num gen : Nat} {l : List Nat} (hl : l.length ≤ 480) : (pgL kd num gen l).length = 512 := by
  unfold pgL; rw [List.length_append, body_length hl, sums_length]
theorem head_ok (hS : SB S) {kd num gen : Nat} (h1 : 1 ≤ kd) (h2 : kd ≤ 5) (h3 : num < 65536) (h4 : gen < 2 ^ 64) {i o : Nat} {l : List Nat} (hb : Byts h ⟨false, i, o, 512, 512, false⟩ (pgL kd num gen l)) (hl : l.length ≤ 480) (hlf : 1000 < lf)
    (k : ∀ h', Fram nowhere h h' → h'.next = h.next + 4 → K (.tup [.agg [.int .i64 (.ofNat kd), .int .i64 (.ofNat num), .int .u64 (.ofNat gen)], .int .i64 (.ofNat l.length), .bool true]) h') :
    zCall Tryz.prog S lf (n + 4) 76 [.sl ⟨false, i, o, 512, 512, false⟩] K h := by
  refine zCall_at (hS.none _ (by decide)) (by kernel_rfl) ?_
  rw [head_nf]
  have f0 : Fram nowhere h (h.newO (.cells z3 0 false false)) := Fram.newO _ _ _
  have v0 : Var (h.newO (.cells z3 0 false false)) h.next z3 := Var.new _ _
  have b0 := hb.fr f0 fun _ => id
  rw [show (h.newO (.cells [AV.int IntKind.i64 0, AV.int IntKind.i64 0, AV.int IntKind.u64 0] 0 false false)) = h.newO (.cells z3 0 false false) from rfl]
  have sp := pgL_split (kd := kd) (num := num) (gen := gen) l
  have p0 : (pgL kd num gen l)[0]? = some 66 := by rw [sp]; rfl
  have p1 : (pgL kd num gen l)[1]? = some 89 := by rw [sp]; rfl
  have p2 : (pgL kd num gen l)[2]? = some kd := by rw [sp]; rfl
  have p3 : (pgL kd num gen l)[3]? = some 0 := by rw [sp]; rfl
  generalize hX0 : h.newO (.cells z3 0 false false) = X0 at f0 v0 b0 ⊢
  have hn0 : X0.next = h.next + 1 := by rw [← hX0]; rfl
  have fA : Fram nowhere X0 (X0.newO (.cells [AV.int IntKind.u8 0, AV.int IntKind.u8 0, AV.int IntKind.u8 0, AV.int IntKind.u8 0, AV.int IntKind.u8 0, AV.int IntKind.u8 0, AV.int IntKind.u8 0] 0 false false)) := Fram.newO _ _ _
  have bA := b0.fr fA fun _ => id
  refine sized_ok hS ⟨true, rfl, cndP_f rfl ⟨rfl, ⟨0, rfl, lit rfl, ⟨rfl, ldB b0 rfl p0 ?_⟩⟩⟩⟩
  refine ⟨rfl, ⟨1, rfl, lit rfl, ⟨rfl, ldB b0 rfl p1 ?_⟩⟩⟩
  refine ⟨rfl, ⟨3, rfl, lit rfl, ⟨rfl, ldB b0 rfl p3 ?_⟩⟩⟩
  refine ⟨⟨rfl, ldB bA rfl p3 rfl⟩, ⟨⟨rfl, ldB bA rfl p1 rfl⟩, ⟨⟨rfl, ldB bA rfl p0 rfl⟩, ⟨rfl, (Var.new _ _).zput (by simp) ?_⟩⟩⟩⟩
  refine ⟨rfl, ⟨rfl, ⟨⟨lit rfl, lit rfl⟩, ⟨20, rfl, ⟨24, rfl, ⟨⟨fun e => Bool.noConfusion e, fun _ => ⟨lit rfl, lit rfl⟩⟩, ?_⟩⟩⟩⟩⟩⟩
  have eM : hput (X0.newO (AObj.cells [AV.int IntKind.u8 0, AV.int IntKind.u8 0, AV.int IntKind.u8 0, AV.int IntKind.u8 0, AV.int IntKind.u8 0, AV.int IntKind.u8 0, AV.int IntKind.u8 0] 0 false false)) X0.next 0 [AV.int IntKind.u8 (Int.ofNat 66), AV.int IntKind.u8 (Int.ofNat 89), AV.int IntKind.u8 (Int.ofNat 0), AV.int IntKind.u8 0, AV.int IntKind.u8 0, AV.int IntKind.u8 0, AV.int IntKind.u8 0] = X0.newO (.cells mks 0 false false) := hput_new X0 _ _ _ _ _ rfl
  rw [eM]
  have vM : Var (X0.newO (.cells mks 0 false false)) X0.next mks := Var.new _ _
  have fM : Fram nowhere X0 (X0.newO (.cells mks 0 false false)) := Fram.newO _ _ _
  have bM := b0.fr fM fun _ => id
  have lB4 : (be 4 num).length = 4 := be_length _ _
  have lB8 : (be 8 gen).length = 8 := be_length _ _
  have lL4 : (be 4 l.length).length = 4 := be_length _ _
  have s20 : Byts (X0.newO (.cells mks 0 false false)) ⟨false, i, o + 20 * 1, 4, 492, false⟩ [0, 0, 0, 0] := byts_sub bM rfl (pre := [66, 89, kd, 0] ++ be 4 num ++ be 8 gen ++ be 4 l.length) (post := l ++ (List.replicate (480 - l.length) 0 ++ sums (SuN.more 0 (body kd num gen l)))) (by rw [sp]; simp only [List.append_assoc]) (by simp [be_length]) rfl
  have c20 : SL.cut ⟨false, i, o, 512, 512, false⟩ 1 20 24 512 false = ⟨false, i, o + 20 * 1, 4, 492, false⟩ := rfl
  rw [c20]
  refine s20.seg.zsrc ?_
  refine vM.zput (lit rfl) ⟨rfl, ?_⟩
  have eM2 : hput (X0.newO (.cells mks 0 false false)) X0.next 3 (List.take (min 4 (SL.n ⟨false, i, o + 20 * 1, 4, 492, false⟩) * 1) (ofBytes [0, 0, 0, 0])) = X0.newO (.cells mks 0 false false) := hput_newO X0 mks 0 false false 3 _
  rw [show (SL.cut (SL.mk false X0.next 3 4 4 false) 1 0 4 4 false).i = X0.next from rfl, eM2]
  have s4 : Byts (X0.newO (.cells mks 0 false false)) ⟨false, i, o + 4 * 1, 4, 508, false⟩ (be 4 num) := byts_sub bM rfl (pre := [66, 89, kd, 0]) (post := be 8 gen ++ (be 4 l.length ++ ([0, 0, 0, 0] ++ (l ++ (List.replicate (480 - l.length) 0 ++ sums (SuN.more 0 (body kd num gen l))))))) sp rfl lB4
  have s16 : Byts (X0.newO (.cells mks 0 false false)) ⟨false, i, o + 16 * 1, 4, 496, false⟩ (be 4 l.length) := byts_sub bM rfl (pre := [66, 89, kd, 0] ++ be 4 num ++ be 8 gen) (post := [0, 0, 0, 0] ++ (l ++ (List.replicate (480 - l.length) 0 ++ sums (SuN.more 0 (body kd num gen l))))) (by rw [sp]; simp only [List.append_assoc]) (by simp [be_length]) lL4
  have s8 : ∀ X, Fram nowhere (X0.newO (.cells mks 0 false false)) X → Byts X ⟨false, i, o + 8 * 1, 8, 504, false⟩ (be 8 gen) := fun X fX => byts_sub (bM.fr fX fun _ => id) rfl (pre := [66, 89, kd, 0] ++ be 4 num) (post := be 4 l.length ++ ([0, 0, 0, 0] ++ (l ++ (List.replicate (480 - l.length) 0 ++ sums (SuN.more 0 (body kd num gen l)))))) (by rw [sp]; simp only [List.append_assoc]) (by simp [be_length]) lB8
  refine ⟨4, rfl, ⟨8, rfl, ⟨⟨fun e => Bool.noConfusion e, fun _ => ⟨lit rfl, lit rfl⟩⟩, ⟨16, rfl, ⟨20, rfl, ⟨⟨fun e => Bool.noConfusion e, fun _ => ⟨lit rfl, lit rfl⟩⟩, ?_⟩⟩⟩⟩⟩⟩
  refine get_ok hS (s := ⟨false, i, o + 4 * 1, 4, 508, false⟩) s4 rfl (by rw [lB4]; exact lit rfl) (by omega) ?_
  rw [unbe4 (by omega)]
  refine ⟨_, rfl, ?_⟩
  refine get_ok hS (s := ⟨false, i, o + 16 * 1, 4, 496, false⟩) s16 rfl (by rw [lL4]; exact lit rfl) (by omega) ?_
  rw [unbe4 (by omega)]
  refine ⟨_, rfl, ?_⟩
  generalize hX1 : X0.newO (.cells mks 0 false false) = X1 at vM fM bM s20 s4 s16 s8 ⊢
  have hn1 : X1.next = h.next + 2 := by rw [← hX1]; show X0.next + 1 = _; omega
  have wk : IntKind.i64.wrap (Int.ofNat kd) = Int.ofNat kd := wrap_i64 (by show _ ≤ (kd : Int); omega) (by show (kd : Int) ≤ _; omega)
  have wn : IntKind.i64.wrap (Int.ofNat num) = Int.ofNat num := wrap_i64 (by show _ ≤ (num : Int); omega) (by show (num : Int) ≤ _; omega)
  have fZ : Fram nowhere X1 (X1.newO (AObj.cells [AV.int IntKind.i64 0, AV.int IntKind.i64 0, AV.int IntKind.u64 0] 0 false false)) := Fram.newO _ _ _
  have eH : hput (X1.newO (AObj.cells [AV.int IntKind.i64 0, AV.int IntKind.i64 0, AV.int IntKind.u64 0] 0 false false)) X1.next 0 [AV.int .i64 (.ofNat kd), AV.int .i64 (.ofNat num), AV.int .u64 (.ofNat gen)] = X1.newO (.cells (hdA kd num gen) 0 false false) := hput_new X1 _ _ _ _ _ rfl
  refine ⟨⟨rfl, ⟨2, rfl, lit rfl, ⟨rfl, ldB bM rfl p2 ?w1⟩⟩⟩, ⟨rfl, ⟨2, rfl, lit rfl, ⟨rfl, ldB bM rfl p2 ?w2⟩⟩⟩⟩
  case' w1 =>
    refine ⟨⟨⟨8, rfl, ⟨16, rfl, ⟨⟨fun e => Bool.noConfusion e, fun _ => ⟨lit rfl, lit rfl⟩⟩, ?_⟩⟩⟩⟩⟩
    refine get_ok hS (s := ⟨false, i, o + 8 * 1, 8, 504, false⟩) (s8 _ (Fram.refl _ _)) rfl (by rw [lB8]; exact lit rfl) (by omega) ?_
    rw [unbe8 h4]
    refine ⟨_, rfl, ⟨⟨rfl⟩, ⟨⟨rfl⟩, ⟨⟨rfl, ldB bM rfl p2 rfl⟩, ⟨⟨rfl⟩, ⟨⟨rfl⟩, ⟨⟨rfl, ldB (bM.fr fZ fun _ => id) rfl p2 rfl⟩, ⟨rfl, (Var.new _ _).zput (by simp) ?_⟩⟩⟩⟩⟩⟩⟩⟩
    rw [wk, wn, eH]
  case' w2 =>
    refine ⟨⟨⟨8, rfl, ⟨16, rfl, ⟨⟨fun e => Bool.noConfusion e, fun _ => ⟨lit rfl, lit rfl⟩⟩, ⟨⟨rfl⟩, ⟨⟨rfl⟩, ⟨⟨rfl, ldB (bM.fr fZ fun _ => id) rfl p2 rfl⟩, ?_⟩⟩⟩⟩⟩⟩⟩⟩
    refine get_ok hS (s := ⟨false, i, o + 8 * 1, 8, 504, false⟩) (s8 _ fZ) rfl (by rw [lB8]; exact lit rfl) (by omega) ?_
    rw [unbe8 h4]
    refine ⟨_, rfl, ⟨⟨rfl⟩, ⟨⟨rfl⟩, ⟨⟨rfl, ldB (bM.fr fZ fun _ => id) rfl p2 rfl⟩, ⟨rfl, (Var.new _ _).zput (by simp) ?_⟩⟩⟩⟩⟩
    rw [wk, wn, eH]
  all_goals
    have fH : Fram nowhere X1 (X1.newO (.cells (hdA kd num gen) 0 false false)) := Fram.newO _ _ _
    have vH : Var (X1.newO (.cells (hdA kd num gen) 0 false false)) X1.next (hdA kd num gen) := Var.new _ _
    have vM2 := vM.fr fH id
    have v02 := ((v0.fr fM id).fr fH id)
    have b2 := bM.fr fH fun _ => id
    have f2 := (f0.trans fM).trans fH
    have hn2 : (X1.newO (.cells (hdA kd num gen) 0 false false)).next = h.next + 3 := by show X1.next + 1 = _; omega
    generalize hX2 : X1.newO (.cells (hdA kd num gen) 0 false false) = X2 at fH vH vM2 v02 b2 f2 hn2 ⊢
    refine ⟨rfl, vM2.ldI 66 rfl (vM2.ldI 89 rfl (vM2.ldI 0 rfl (vM2.ldI 0 rfl (vM2.ldI 0 rfl (vM2.ldI 0 rfl (vM2.ldI 0 rfl ?_))))))⟩
    have fR : Fram nowhere X2 (X2.newO (.cells mks 0 false false)) := Fram.newO _ _ _
    have vM3 := vM2.fr fR id
    have vH3 := vH.fr fR id
    have v03 := v02.fr fR id
    have b3 := b2.fr fR fun _ => id
    have f3 := f2.trans fR
    have hn3 : (X2.newO (.cells mks 0 false false)).next = h.next + 4 := by show X2.next + 1 = _; omega
    refine right_ok hS ⟨fun i => mks.getD i .junk, rfl, ⟨66, rfl, ⟨89, rfl, ⟨0, rfl, ⟨0, rfl, ⟨0, rfl, ⟨0, rfl, ⟨0, rfl, ?_⟩⟩⟩⟩⟩⟩⟩⟩
    generalize hX3 : X2.newO (.cells mks 0 false false) = X3 at fR vM3 vH3 v03 b3 f3 hn3 ⊢
    refine ⟨⟨rfl, vM3.ldI 66 rfl (vM3.ldI 89 rfl (vM3.ldI 0 rfl (vM3.ldI 0 rfl (vM3.ldI 0 rfl (vM3.ldI 0 rfl (vM3.ldI 0 rfl rfl))))))⟩, ⟨rfl, ?_⟩⟩
    refine cndP_t rfl (cndP_t rfl (cndP_t rfl (cndP_t rfl (cndP_t rfl (cndP_t rfl (cndP_t rfl ⟨rfl, ⟨rfl, vH3.ldI (Int.ofNat kd) rfl ?_⟩⟩))))))
    refine may_ok hS h1 h2 h3 ⟨true, rfl, cndP_f rfl ?_⟩
    refine room_ok hS ⟨480, rfl, ?_⟩
    rw [zW_iff, show (480 : Int) = Int.ofNat 480 from rfl, wrap_u64 (by decide)]
    refine cndP_f (by show decide ((480 : Int) < (l.length : Int)) = false; exact decide_eq_false (by omega)) ?_
    rw [zW_iff, show (24 + Int.ofNat l.length : Int) = Int.ofNat (24 + l.length) by show (24 + (l.length : Int)) = ((24 + l.length : Nat) : Int); omega, wrap_u64 (by omega), zW_iff, show (Int.ofNat (SL.n ⟨false, i, o, 512, 512, false⟩) - 8 : Int) = 504 from rfl, wrap_i64 (by decide) (by decide)]
    refine ⟨24 + l.length, rfl, ⟨504, rfl, ⟨⟨fun e => Bool.noConfusion e, fun _ => ⟨by show 24 + l.length ≤ 504; omega, lit rfl⟩⟩, ?_⟩⟩⟩
    have ec : SL.cut ⟨false, i, o, 512, 512, false⟩ 1 (24 + l.length) 504 512 false = ⟨false, i, o + (24 + l.length) * 1, 504 - (24 + l.length), 512 - (24 + l.length), false⟩ := by
      rw [SL.cut_false]
      rw [show Nat.beq (24 + l.length) 512 = false from by cases hbq : Nat.beq (24 + l.length) 512 with | false => rfl | true => have := Nat.eq_of_beq_eq_true hbq; omega]
    rw [ec]
    have bZ := byts_sub b3 rfl (pre := [66, 89, kd, 0] ++ be 4 num ++ be 8 gen ++ be 4 l.length ++ [0, 0, 0, 0] ++ l) (mid := List.replicate (480 - l.length) 0) (post := sums (SuN.more 0 (body kd num gen l))) (by rw [sp]; simp only [List.append_assoc]) (a := 24 + l.length) (len := 504 - (24 + l.length)) (cap := 512 - (24 + l.length)) (ex := false) (by simp [be_length]; omega) (by rw [List.length_replicate]; omega)
    refine ZLoop.inv (fun q z h' => ∃ j : Nat, ZAt 85 [(2, .pv false h.next 0), (7, .int .u64 (.ofNat l.length)), (8, .pv false X1.next 0), (72, .sl ⟨false, i, o + (24 + l.length) * 1, 504 - (24 + l.length), 512 - (24 + l.length), false⟩), (73, .int .i64 (Int.ofNat (504 - (24 + l.length)))), (74, .int .i64 (j : Int))] z ∧ h' = X3 ∧ j + q = 480 - l.length) (n := 480 - l.length) (by omega)
      ⟨0, ⟨rfl, rfl, rfl, rfl, rfl, rfl, rfl, trivial⟩, rfl, by omega⟩ ?_
    rintro q z h' kk hq ⟨j, hz, rfl, hj⟩ ih
    refine zAt_of _ hz fun d => (head_l11111110100 _ _ _ _ _ _ _ _ _ _ _ _ _ _).mpr ?_
    rw [cnd_dec]
    refine ⟨fun hlt => ?_, fun hge => ?_⟩
    · have hlt2 : j < 480 - l.length := by
        have : (j : Int) < ((504 - (24 + l.length) : Nat) : Int) := hlt
        omega
      refine ⟨rfl, ⟨j, rfl, by show j < 504 - (24 + l.length); omega, ⟨rfl, ldB bZ rfl (x := 0) (by rw [List.getElem?_replicate, if_pos hlt2]) (cndP_f rfl ?_)⟩⟩⟩
      rw [zW_iff, wrap_i64 (by omega) (by omega)]
      exact ih (q - 1) _ _ (by omega) ⟨j + 1, ⟨rfl, rfl, rfl, rfl, rfl, rfl, rfl, trivial⟩, rfl, by omega⟩
    · refine zAt_of (n := 85) [(2, .pv false h.next 0), (7, .int .u64 (.ofNat l.length)), (8, .pv false X1.next 0)] ⟨rfl, rfl, rfl, rfl, trivial⟩ fun d => (head_a11111111 _ _ _ _ _ _ _ _).mpr ?_
      refine ⟨rfl, vH3.ldI (Int.ofNat kd) rfl (vH3.ldI (Int.ofNat num) rfl (vH3.ldI (Int.ofNat gen) rfl ?_))⟩
      rw [zW_iff, wrap_i64 (by show _ ≤ (l.length : Int); omega) (by show (l.length : Int) ≤ _; omega)]
      have vF := v03.put_all (vs := [AV.int .i64 (.ofNat kd), AV.int .i64 (.ofNat num), AV.int .u64 (.ofNat gen)]) rfl
      refine ⟨rfl, v03.zput (lit rfl) ⟨rfl, vF.ldI (Int.ofNat kd) rfl (vF.ldI (Int.ofNat num) rfl (vF.ldI (Int.ofNat gen) rfl ?_))⟩⟩
      refine k _ (f3.back (v03.put_fr 0 _) fun j hj e => ?_) (by rw [hput_next]; exact hn3)
      have : j = h.next := e
      omega
end
end BnN
namespace BnN
open Go Go.X Go.Proofs
section
variable {S : ZSums} {lf n : Nat} {h : Heap} {K : ZK}
theorem happ_made (h : Heap) (l : List Nat) : happ (h.newO (.cells (ofBytes (List.replicate l.length 0)) 1 false false)) ⟨false, h.next, 0, 0, l.length, false⟩ 1 l.length (ofBytes l) = h.newO (.cells (ofBytes l) 1 false false) := by
  cases l with
  | nil => rfl
  | cons x l =>
    unfold happ
    rw [show Nat.beq (x :: l).length 0 = false from rfl]
    simp only
    rw [show Nat.ble (0 + (x :: l).length) (x :: l).length = true from by rw [Nat.zero_add]; exact Nat.ble_eq_true_of_le (Nat.le_refl _)]
    exact hput_new h _ _ _ _ _ (by rw [ofBytes_length, ofBytes_length, List.length_replicate])
theorem app_made (i x : Nat) (l : List Nat) : SL.app ⟨false, i, 0, 0, l.length, false⟩ x l.length = ⟨false, i, 0, l.length, l.length, false⟩ := by
  cases l with
  | nil => rfl
  | cons y l =>
    unfold SL.app
    rw [show Nat.beq (y :: l).length 0 = false from rfl]
    simp only
    rw [show Nat.ble (0 + (y :: l).length) (y :: l).length = true from by rw [Nat.zero_add]; exact Nat.ble_eq_true_of_le (Nat.le_refl _)]
    simp only
    rw [Nat.zero_add]
theorem zapp_made {P : Program} {e : TypeId} {A : Prop} (h : Heap) (l : List Nat) (k : A) : ZApp P (h.newO (.cells (ofBytes (List.replicate l.length 0)) 1 false false)) ⟨false, h.next, 0, 0, l.length, false⟩ e 1 l.length (ofBytes l) A := by
  refine ⟨⟨fun _ => Nat.zero_le _, fun _ e => Bool.noConfusion e, fun _ _ _ => ⟨Nat.lt_succ_self _, _, _, _, _, newO_get_self _ _, ?_⟩, fun hn hh => ?_, fun hn _ hc => ?_, fun hn _ hc => ?_⟩, allPlain_bytes l, k⟩
  · rw [ofBytes_length, ofBytes_length, List.length_replicate]; show 0 + 0 * 1 + l.length ≤ _; omega
  · rcases hh with hh | hh
    · have : l.length < 0 + l.length := hh
      omega
    · cases hh
  · have : l.length < 0 + l.length := hc
    omega
  · have : l.length < 0 + l.length := hc
    omega
theorem room5 {L : Nat} (hL : L ≤ 480) : roomB Tryz.prog 5 L = true := by
  have e : bytesO Tryz.prog 5 = some 1 := by kernel_rfl
  unfold roomB
  rw [e]
  show cnd (Nat.ble (Nat.mul L 1) most) (Nat.ble L most) false = true
  rw [Nat.ble_eq_true_of_le (show Nat.mul L 1 ≤ most by show L * 1 ≤ 1099511627776; omega), Nat.ble_eq_true_of_le (show L ≤ most by show L ≤ 1099511627776; omega)]
  rfl
theorem popen_ok (hS : SB S) {kd num gen : Nat} (h1 : 1 ≤ kd) (h2 : kd ≤ 5) (h3 : num < 65536) (h4 : gen < 2 ^ 64) {i o : Nat} {l : List Nat} (hb : Byts h ⟨false, i, o, 512, 512, false⟩ (pgL kd num gen l)) (hl : l.length ≤ 480) (hlf : 1000 < lf)
    (k : ∀ h' j, Fram nowhere h h' → h'.next = h.next + 7 → K (.tup [.agg [.int .i64 (.ofNat kd), .int .i64 (.ofNat num), .int .u64 (.ofNat gen)], .sl ⟨false, j, 0, l.length, l.length, false⟩, .int .i64 0]) h') :
    zCall Tryz.prog S lf (n + 5) 47 [.sl ⟨false, i, o, 512, 512, false⟩, .int .i64 (.ofNat num)] K h := by
  refine zCall_at (hS.none _ (by decide)) (by kernel_rfl) ?_
  rw [popen_nf]
  rw [show (h.newO (.cells [AV.int IntKind.i64 0, AV.int IntKind.i64 0, AV.int IntKind.u64 0] 0 false false)) = h.newO (.cells z3 0 false false) from rfl]
  have f0 : Fram nowhere h (h.newO (.cells z3 0 false false)) := Fram.newO _ _ _
  have v0 : Var (h.newO (.cells z3 0 false false)) h.next z3 := Var.new _ _
  have hn0 : (h.newO (.cells z3 0 false false)).next = h.next + 1 := rfl
  generalize h.newO (.cells z3 0 false false) = X0 at f0 v0 hn0 ⊢
  have b0 := hb.fr f0 fun _ => id
  have sp := pgL_split (kd := kd) (num := num) (gen := gen) l
  have bl := body_length (kd := kd) (num := num) (gen := gen) hl
  have sl := sums_length (SuN.more 0 (body kd num gen l))
  refine head_ok hS h1 h2 h3 h4 b0 hl hlf fun X1 f1 hn1 => ?_
  have v1 := v0.fr f1 id
  have b1 := b0.fr f1 fun _ => id
  refine ⟨fun j => match j with | 0 => .agg [.int .i64 (.ofNat kd), .int .i64 (.ofNat num), .int .u64 (.ofNat gen)] | 1 => .int .i64 (.ofNat l.length) | _ => .bool true, rfl, ?_⟩
  refine ⟨fun j => match j with | 0 => .int .i64 (.ofNat kd) | 1 => .int .i64 (.ofNat num) | _ => .int .u64 (.ofNat gen), rfl, ⟨_, rfl, ⟨_, rfl, ⟨_, rfl, ⟨_, rfl, ⟨_, rfl, ⟨rfl, (Var.new _ _).zput (by simp) (cndP_f rfl ?_)⟩⟩⟩⟩⟩⟩⟩
  have eH : hput (X1.newO (AObj.cells [AV.int IntKind.i64 0, AV.int IntKind.i64 0, AV.int IntKind.u64 0] 0 false false)) X1.next 0 [AV.int .i64 (.ofNat kd), AV.int .i64 (.ofNat num), AV.int .u64 (.ofNat gen)] = X1.newO (.cells (hdA kd num gen) 0 false false) := hput_new X1 _ _ _ _ _ rfl
  rw [zW_iff, show (Int.ofNat (SL.n ⟨false, i, o, 512, 512, false⟩) - 8 : Int) = 504 from rfl, wrap_i64 (by decide) (by decide), eH]
  refine ⟨504, rfl, ⟨⟨fun e => Bool.noConfusion e, fun _ => ⟨lit rfl, lit rfl⟩⟩, ?_⟩⟩
  have fH : Fram nowhere X1 (X1.newO (.cells (hdA kd num gen) 0 false false)) := Fram.newO _ _ _
  have vH : Var (X1.newO (.cells (hdA kd num gen) 0 false false)) X1.next (hdA kd num gen) := Var.new _ _
  have v2 := v1.fr fH id
  have b2 := b1.fr fH fun _ => id
  have f2 := (f0.trans f1).trans fH
  have hn2 : (X1.newO (.cells (hdA kd num gen) 0 false false)).next = h.next + 6 := by show X1.next + 1 = _; omega
  generalize X1.newO (.cells (hdA kd num gen) 0 false false) = X2 at fH vH v2 b2 f2 hn2 ⊢
  have bO := byts_sub b2 rfl (pre := []) (mid := body kd num gen l) (post := sums (SuN.more 0 (body kd num gen l))) rfl (a := 0) (len := 504) (cap := 512) (ex := false) rfl bl
  have ec : SL.cut ⟨false, i, o, 512, 512, false⟩ 1 0 504 512 false = ⟨false, i, o + 0 * 1, 504, 512, false⟩ := rfl
  rw [ec]
  refine of_ok hS (l := body kd num gen l) bO rfl (lit rfl) (by rw [bl]; exact lit rfl) ?_
  have bS := byts_sub b2 rfl (pre := body kd num gen l) (mid := sums (SuN.more 0 (body kd num gen l))) (post := []) (by rw [List.append_nil]; rfl) (a := 504) (len := 8) (cap := 8) (ex := false) bl sl
  have pS : ∀ j, j < 8 → (pgL kd num gen l)[504 + j]? = some (SuN.more 0 (body kd num gen l) / 2 ^ (8 * j) % 256) := fun j hj => by
    unfold pgL
    rw [List.getElem?_append_right (by omega), bl, Nat.add_sub_cancel_left, sums_get hj]
  generalize SuN.more 0 (body kd num gen l) = σ at pS ⊢
  refine ⟨Int.ofNat σ, rfl, ?_⟩
  refine ZLoop.inv (fun q z h' => ∃ j : Nat, ZAt 59 [(0, .sl ⟨false, i, o, 512, 512, false⟩), (1, .int .i64 (.ofNat num)), (4, .pv false h.next 0), (7, .pv false X1.next 0), (8, .int .i64 (.ofNat l.length)), (10, .int .i64 504), (11, .int .u64 (.ofNat σ)), (29, .int .i64 (j : Int))] z ∧ h' = X2 ∧ j + q = 8) (n := 8) (by omega)
    ⟨0, ⟨rfl, rfl, rfl, rfl, rfl, rfl, rfl, rfl, rfl, trivial⟩, rfl, rfl⟩ ?_
  rintro q z h' kk hq ⟨j, hz, rfl, hj⟩ ih
  refine zAt_of _ hz fun d => (popen_l111110100 _ _ _ _ _ _ _ _ _ _ _ _ _ _ _ _).mpr ?_
  rw [cnd_dec]
  refine ⟨fun hlt => ?_, fun hge => ?_⟩
  · have hlt2 : j < 8 := by omega
    rw [zW_iff, show ((504 : Int) + (j : Int)) = ((504 + j : Nat) : Int) by omega, wrap_i64 (by omega) (by omega)]
    refine ⟨rfl, ⟨504 + j, rfl, by show 504 + j < 512; omega, ⟨rfl, ldB b2 rfl (pS j hlt2) ?_⟩⟩⟩
    rw [zW_iff, show ((8 : Int) * (j : Int)) = ((8 * j : Nat) : Int) by omega, wrap_i64 (by omega) (by omega)]
    refine ⟨8 * j, rfl, ?_⟩
    rw [zW_iff, fdiv_pow (by omega), wrap_u8]
    refine cndP_f (by rw [decide_eq_true rfl]; rfl) ?_
    rw [zW_iff, wrap_i64 (by omega) (by omega)]
    exact ih (q - 1) _ _ (by omega) ⟨j + 1, ⟨rfl, rfl, rfl, rfl, rfl, rfl, rfl, rfl, rfl, trivial⟩, rfl, by omega⟩
  · refine zAt_of (n := 59) [(0, .sl ⟨false, i, o, 512, 512, false⟩), (1, .int .i64 (.ofNat num)), (4, .pv false h.next 0), (7, .pv false X1.next 0), (8, .int .i64 (.ofNat l.length))] ⟨rfl, rfl, rfl, rfl, rfl, rfl, trivial⟩ fun d => (popen_a111111 _ _ _ _ _ _ _ _ _ _).mpr ?_
    refine ⟨rfl, ⟨rfl, vH.ldI (Int.ofNat num) rfl (cndP_f (by rw [decide_eq_true rfl]; rfl) ⟨rfl, vH.ldI (Int.ofNat kd) rfl (vH.ldI (Int.ofNat num) rfl (vH.ldI (Int.ofNat gen) rfl ?_))⟩)⟩⟩
    rw [zW_iff, show (24 + Int.ofNat l.length : Int) = ((24 + l.length : Nat) : Int) by show (24 + (l.length : Int)) = _; omega, wrap_i64 (by omega) (by omega)]
    refine ⟨24, rfl, ⟨24 + l.length, rfl, ⟨⟨fun e => Bool.noConfusion e, fun _ => ⟨by show 24 ≤ 24 + l.length; omega, by show 24 + l.length ≤ 512; omega⟩⟩, ⟨0, rfl, ⟨l.length, rfl, ⟨Nat.zero_le _, ⟨room5 hl, ⟨⟨by rw [wrap_i64 (by omega) (by omega)]⟩, ?_⟩⟩⟩⟩⟩⟩⟩⟩
    rw [flat_zero]
    have fN : Fram nowhere h' (h'.newO (.cells (ofBytes (List.replicate l.length 0)) 1 false false)) := Fram.newO _ _ _
    have vN := vH.fr fN id
    have bN := b2.fr fN fun _ => id
    have ec2 : SL.cut ⟨false, i, o, 512, 512, false⟩ 1 24 (24 + l.length) 512 false = ⟨false, i, o + 24 * 1, 24 + l.length - 24, 488, false⟩ := rfl
    rw [ec2, show 24 + l.length - 24 = l.length by omega]
    have bP := byts_sub bN rfl (pre := [66, 89, kd, 0] ++ be 4 num ++ be 8 gen ++ be 4 l.length ++ [0, 0, 0, 0]) (mid := l) (post := List.replicate (480 - l.length) 0 ++ sums (SuN.more 0 (body kd num gen l))) (by rw [sp]; simp only [List.append_assoc]) (a := 24) (len := l.length) (cap := 488) (ex := false) (by simp [be_length]) rfl
    refine ⟨⟨rfl, vN.ldI (Int.ofNat kd) rfl (vN.ldI (Int.ofNat num) rfl (vN.ldI (Int.ofNat gen) rfl rfl))⟩, bP.seg.zsrc ?_⟩
    refine zapp_made h' l ?_
    rw [show SL.n ⟨false, i, o + 24 * 1, l.length, 488, false⟩ = l.length from rfl, happ_made, app_made]
    have fP : Fram nowhere h' (h'.newO (.cells (ofBytes l) 1 false false)) := Fram.newO _ _ _
    have vP := vH.fr fP id
    have v3 := v2.fr fP id
    have vF := v3.put_all (vs := [AV.int .i64 (.ofNat kd), AV.int .i64 (.ofNat num), AV.int .u64 (.ofNat gen)]) rfl
    refine ⟨⟨rfl, vP.ldI (Int.ofNat kd) rfl (vP.ldI (Int.ofNat num) rfl (vP.ldI (Int.ofNat gen) rfl rfl))⟩, ⟨rfl, v3.zput (lit rfl) ⟨rfl, vF.ldI (Int.ofNat kd) rfl (vF.ldI (Int.ofNat num) rfl (vF.ldI (Int.ofNat gen) rfl ?_))⟩⟩⟩
    refine k _ _ ((f2.trans fP).back (v3.put_fr 0 _) fun j hj e => ?_) (by rw [hput_next]; show h'.next + 1 = _; omega)
    have : j = h.next := e
    omega
end
end BnN
