/-
  PROVED: BulkArgs of banyanlaw15 over its calls on a device of blocks of 1024 bytes, whatever its list and its fill. Conditions: the size is of that kind.
-/
import Derived.Test.YtbhbiccfkkoanaaGreatDoorB1
set_option linter.unusedVariables false
set_option maxRecDepth 1000000
namespace Go.Proofs.YtbhbiccfkkoanaaGreatDoor.B1
open Go Go.X BaN
noncomputable def Tg24 : List Ent := [E24_0]
noncomputable def Tg26 : List Ent := [E26_0]
noncomputable def Tg11 : List Ent := [E11_0]
noncomputable def Tg12 : List Ent := [E12_0]
noncomputable def Tg13 : List Ent := [E13_0]
noncomputable def Tg14 : List Ent := [E14_0]
noncomputable def Tg15 : List Ent := [E15_0]
noncomputable def Tg16 : List Ent := [E16_3]
noncomputable def Tg18 : List Ent := [E18_0]
noncomputable def Tg17 : List Ent := [E17_0]
noncomputable def Tg10 : List Ent := [E10_0, E10_1, E10_2, E10_3, E10_4]
noncomputable def Tg7 (lz : Bool) (fill : Int) : List Ent := [F7_0 lz fill, G7_1 lz fill, G7_2 lz fill]
noncomputable def Zg (lz : Bool) (fill : Int) : ZSums := addZ 7 (Tg7 lz fill) (addZ 8 [F8 fill] (addZ 9 [F9 fill] (addZ 24 Tg24 (addZ 26 Tg26 (addZ 11 Tg11 (addZ 12 Tg12 (addZ 13 Tg13 (addZ 14 Tg14 (addZ 15 Tg15 (addZ 16 Tg16 (addZ 18 Tg18 (addZ 17 Tg17 (addZ 10 Tg10 (trueZ 5))))))))))))))
noncomputable def Xg (lz : Bool) (fill : Int) : Sums := addX 7 (Tg7 lz fill) (addX 8 [F8 fill] (addX 9 [F9 fill] (addX 24 Tg24 (addX 26 Tg26 (addX 11 Tg11 (addX 12 Tg12 (addX 13 Tg13 (addX 14 Tg14 (addX 15 Tg15 (addX 16 Tg16 (addX 18 Tg18 (addX 17 Tg17 (addX 10 Tg10 (trueX 5))))))))))))))
theorem fitg (lz : Bool) (fill : Int) : SumFit (Zg lz fill) (Xg lz fill) := sumFit_addI (sumFit_addI (sumFit_addI (sumFit_addI (sumFit_addI (sumFit_addI (sumFit_addI (sumFit_addI (sumFit_addI (sumFit_addI (sumFit_addI (sumFit_addI (sumFit_addI (sumFit_addI (true_fit 5) 10 Tg10) 17 Tg17) 18 Tg18) 16 Tg16) 15 Tg15) 14 Tg14) 13 Tg13) 12 Tg12) 11 Tg11) 26 Tg26) 24 Tg24) 9 [F9 fill]) 8 [F8 fill]) 7 (Tg7 lz fill)
theorem soundg {W : World} (lz : Bool) {fill : Int} (hf : 50 ≤ fill ∧ fill ≤ 100) (hW : 3 ≤ W.heap.size) (hmo : Tryz.prog.follows .mixedOrders = true) (hg : W.cell? ⟨0, 0, none⟩ = some (.iface 189 (.agg #[.pointer (some ⟨3, 30, none⟩)]))) (ht : SumsSound Tryz.prog W (trueX 5)) : SumsSound Tryz.prog W (Xg lz fill) := by
  have h11 := ht
  have h10 := SumsSound.addI (g := 10) (tab := Tg10) h11 (ss11 hW hmo hg) (.inl (Nat.lt_of_lt_of_le (by decide) hW)) hmo (List.forall_mem_cons.2 ⟨ok10_0, List.forall_mem_cons.2 ⟨ok10_1, List.forall_mem_cons.2 ⟨ok10_2, List.forall_mem_cons.2 ⟨ok10_3, List.forall_mem_cons.2 ⟨ok10_4, List.forall_mem_nil _⟩⟩⟩⟩⟩)
  have h9 := SumsSound.addI (g := 17) (tab := Tg17) h10 (ss10 hW hmo hg) (.inl (Nat.lt_of_lt_of_le (by decide) hW)) hmo (List.forall_mem_cons.2 ⟨ok17_0, List.forall_mem_nil _⟩)
  have h8 := SumsSound.addI (g := 18) (tab := Tg18) h9 (ss9 hW hmo hg) (.inl (Nat.lt_of_lt_of_le (by decide) hW)) hmo (List.forall_mem_cons.2 ⟨ok18_0, List.forall_mem_nil _⟩)
  have h7 := SumsSound.addI (g := 16) (tab := Tg16) h8 (ss8 hW hmo hg) (.inl (Nat.lt_of_lt_of_le (by decide) hW)) hmo (List.forall_mem_cons.2 ⟨ok16_3, List.forall_mem_nil _⟩)
  have h6 := SumsSound.addI (g := 15) (tab := Tg15) h7 (ss7 hW hmo hg) (.inl (Nat.lt_of_lt_of_le (by decide) hW)) hmo (List.forall_mem_cons.2 ⟨ok15_0, List.forall_mem_nil _⟩)
  have h5 := SumsSound.addI (g := 14) (tab := Tg14) h6 (ss6 hW hmo hg) (.inl (Nat.lt_of_lt_of_le (by decide) hW)) hmo (List.forall_mem_cons.2 ⟨ok14_0, List.forall_mem_nil _⟩)
  have h4 := SumsSound.addI (g := 13) (tab := Tg13) h5 (ss5 hW hmo hg) (.inl (Nat.lt_of_lt_of_le (by decide) hW)) hmo (List.forall_mem_cons.2 ⟨ok13_0, List.forall_mem_nil _⟩)
  have h3 := SumsSound.addI (g := 12) (tab := Tg12) h4 (ss4 hW hmo hg) (.inl (Nat.lt_of_lt_of_le (by decide) hW)) hmo (List.forall_mem_cons.2 ⟨ok12_0, List.forall_mem_nil _⟩)
  have h2 := SumsSound.addI (g := 11) (tab := Tg11) h3 (ss3 hW hmo hg) (.inl (Nat.lt_of_lt_of_le (by decide) hW)) hmo (List.forall_mem_cons.2 ⟨ok11_0, List.forall_mem_nil _⟩)
  have h1 := SumsSound.addI (g := 26) (tab := Tg26) h2 (ss2 hW hmo hg) (.inl (Nat.lt_of_lt_of_le (by decide) hW)) hmo (List.forall_mem_cons.2 ⟨ok26_0, List.forall_mem_nil _⟩)
  have h0 := SumsSound.addI (g := 24) (tab := Tg24) h1 (ss1 hW hmo hg) (.inl (Nat.lt_of_lt_of_le (by decide) hW)) hmo (List.forall_mem_cons.2 ⟨ok24_0, List.forall_mem_nil _⟩)
  have k9 := SumsSound.addI (g := 9) (tab := [F9 fill]) h0 (ss12 hW hmo hg) (.inl (Nat.lt_of_lt_of_le (by decide) hW)) hmo (List.forall_mem_cons.2 ⟨ok9 fill, List.forall_mem_nil _⟩)
  have k8 := SumsSound.addI (g := 8) (tab := [F8 fill]) k9 (ss12 hW hmo hg) (.inl (Nat.lt_of_lt_of_le (by decide) hW)) hmo (List.forall_mem_cons.2 ⟨ok8 fill, List.forall_mem_nil _⟩)
  exact SumsSound.addI (g := 7) (tab := Tg7 lz fill) k8 (ss12 hW hmo hg) (.inl (Nat.lt_of_lt_of_le (by decide) hW)) hmo (List.forall_mem_cons.2 ⟨ok7_0 fill lz, List.forall_mem_cons.2 ⟨okg1 lz hf.1 hf.2, List.forall_mem_cons.2 ⟨okg2 lz hf.1 hf.2, List.forall_mem_nil _⟩⟩⟩)
theorem lawg (lz : Bool) {fill size : Int} (hf : 50 ≤ fill ∧ fill ≤ 100) (hs : BaN.pickI size = 1) (hr : size < 0 → IntKind.i64.wrap (size + 1) = size + 1 ∧ IntKind.i64.wrap (-(size + 1)) = -(size + 1)) (l : SL) (lf n : Nat) :
    zCall Tryz.prog (Zg lz fill) lf (n + 3) 4 [.int .i64 size, .bool lz, .sl l, .int .i64 fill] (fun v _ => v.av = .bool true) (startJ 3 1 BaN.tabA 1) := by
  refine zCall_at (by kernel_rfl) (by kernel_rfl) ?_
  rw [BaN.law_nf]
  refine zCall_sum (s := fun args K h => args = [] ∧ K (.bool true) h) (by kernel_rfl) (by kernel_rfl) ⟨rfl, ?_⟩
  refine ⟨true, by kernel_rfl, ?_⟩
  refine zCall_at (by kernel_rfl) (by kernel_rfl) ?_
  rw [BaN.store_nf]
  refine BaN.pick_ok (by kernel_rfl) hs hr ?_
  refine ⟨1, by kernel_rfl, ?_⟩
  refine ⟨1, rfl, ?_⟩
  refine zW_iff.2 ?_
  refine hit 0 E24_0 Tg24 (by kernel_rfl) (by kernel_rfl) ?_
  refine ⟨two (.ptr 5 0) (.int .i64 (.ofNat 0)), by kernel_rfl, ?_⟩
  refine ⟨false, 5, 0, by kernel_rfl, ?_⟩
  refine ⟨0, by kernel_rfl, ?_⟩
  refine nay ?_
  refine nay ?_
  refine hit 0 E26_0 Tg26 (by kernel_rfl) (by kernel_rfl) ?_
  refine ⟨two (.ptr 136 0) (.int .i64 (.ofNat 0)), by kernel_rfl, ?_⟩
  refine ⟨false, 136, 0, by kernel_rfl, ?_⟩
  refine ⟨0, by kernel_rfl, ?_⟩
  refine nay ?_
  refine ⟨false, 136, 0, by kernel_rfl, ?_⟩
  refine nay ?_
  refine nay ?_
  refine hit 0 (F7_0 lz fill) (Tg7 lz fill) (by kernel_rfl) (by kernel_rfl) ?_
  refine ⟨two (.int .i64 (.ofNat 0)) (.iface 34 (.int .i64 (.ofNat 1))), by kernel_rfl, ?_⟩
  refine ⟨0, by kernel_rfl, ?_⟩
  refine hit 0 (F8 fill) [F8 fill] (by kernel_rfl) (by kernel_rfl) ?_
  refine ⟨two (.int .i64 (.ofNat 0)) (.iface 34 (.int .i64 (.ofNat 1))), by kernel_rfl, ?_⟩
  refine ⟨0, by kernel_rfl, ?_⟩
  refine hit 0 (F9 fill) [F9 fill] (by kernel_rfl) (by kernel_rfl) ?_
  refine ⟨two (.int .i64 (.ofNat 0)) (.iface 34 (.int .i64 (.ofNat 1))), by kernel_rfl, ?_⟩
  refine ⟨0, by kernel_rfl, ?_⟩
  refine nay ?_
  refine nay ?_
  refine nay ?_
  refine hit 0 E10_0 Tg10 (by kernel_rfl) (by kernel_rfl) ?_
  refine ⟨1, by kernel_rfl, ?_⟩
  refine nay ?_
  refine hit 1 E10_1 Tg10 (by kernel_rfl) (by kernel_rfl) ?_
  refine ⟨1, by kernel_rfl, ?_⟩
  refine nay ?_
  refine hit 2 E10_2 Tg10 (by kernel_rfl) (by kernel_rfl) ?_
  refine ⟨1, by kernel_rfl, ?_⟩
  refine nay ?_
  refine hit 0 E11_0 Tg11 (by kernel_rfl) (by kernel_rfl) ?_
  refine ⟨two (.int .i64 (.ofNat 2)) (.int .i64 (.ofNat 0)), by kernel_rfl, ?_⟩
  refine ⟨2, by kernel_rfl, ?_⟩
  refine ⟨0, by kernel_rfl, ?_⟩
  refine nay ?_
  refine hit 0 E12_0 Tg12 (by kernel_rfl) (by kernel_rfl) ?_
  refine ⟨0, by kernel_rfl, ?_⟩
  refine nay ?_
  refine hit 0 E13_0 Tg13 (by kernel_rfl) (by kernel_rfl) ?_
  refine ⟨0, by kernel_rfl, ?_⟩
  refine nay ?_
  refine hit 0 E14_0 Tg14 (by kernel_rfl) (by kernel_rfl) ?_
  refine ⟨0, by kernel_rfl, ?_⟩
  refine nay ?_
  refine hit 0 E15_0 Tg15 (by kernel_rfl) (by kernel_rfl) ?_
  refine ⟨two (.ptr 297 0) (.int .i64 (.ofNat 0)), by kernel_rfl, ?_⟩
  refine ⟨false, 297, 0, by kernel_rfl, ?_⟩
  refine ⟨0, by kernel_rfl, ?_⟩
  refine nay ?_
  refine nay ?_
  refine BaN.cndP_f (decide_eq_false (by omega)) ?_
  refine BaN.cndP_f (by show decide (100 < fill) = false; exact decide_eq_false (by omega)) ?_
  refine hit 1 (G7_1 lz fill) (Tg7 lz fill) (by kernel_rfl) (by kernel_rfl) ?_
  refine ⟨two (.int .i64 (.ofNat 0)) (.iface 34 (.int .i64 (.ofNat 152))), by kernel_rfl, ?_⟩
  refine ⟨0, by kernel_rfl, ?_⟩
  refine hit 2 (G7_2 lz fill) (Tg7 lz fill) (by kernel_rfl) (by kernel_rfl) ?_
  refine ⟨two (.int .i64 (.ofNat 0)) (.iface 34 (.int .i64 (.ofNat 117))), by kernel_rfl, ?_⟩
  refine ⟨0, by kernel_rfl, ?_⟩
  refine yea ?_
  refine yea ?_
  refine hit 3 E10_3 Tg10 (by kernel_rfl) (by kernel_rfl) ?_
  refine ⟨152, by kernel_rfl, ?_⟩
  refine yea ?_
  refine hit 4 E10_4 Tg10 (by kernel_rfl) (by kernel_rfl) ?_
  refine ⟨117, by kernel_rfl, ?_⟩
  refine yea ?_
  refine ⟨rfl, rfl, rfl, ?_⟩
  refine ⟨0, by kernel_rfl, ?_⟩
  refine yea ?_
  refine hit 0 E16_3 Tg16 (by kernel_rfl) (by kernel_rfl) ?_
  refine ⟨2, by kernel_rfl, ?_⟩
  refine yea ?_
  refine hit 0 E18_0 Tg18 (by kernel_rfl) (by kernel_rfl) ?_
  refine ⟨⟨false, 316, 0, 1, 1, true⟩, by kernel_rfl, ?_⟩
  refine hit 0 E17_0 Tg17 (by kernel_rfl) (by kernel_rfl) ?_
  refine ⟨true, by kernel_rfl, ?_⟩
  kernel_rfl
noncomputable def Td24 : List Ent := [E24_0]
noncomputable def Td26 : List Ent := [E26_0]
noncomputable def Td11 : List Ent := [E11_0]
noncomputable def Td12 : List Ent := [E12_0]
noncomputable def Td13 : List Ent := [E13_0]
noncomputable def Td14 : List Ent := [E14_0]
noncomputable def Td15 : List Ent := [E15_0]
noncomputable def Td16 : List Ent := [E16_4]
noncomputable def Td18 : List Ent := [E18_1]
noncomputable def Td17 : List Ent := [E17_1]
noncomputable def Td10 : List Ent := [E10_0, E10_1, E10_2, E10_5, E10_6]
noncomputable def Td7 (lz : Bool) (fill : Int) : List Ent := [F7_0 lz fill, D7_1 lz fill, D7_2 lz fill]
noncomputable def Zd (lz : Bool) (fill : Int) : ZSums := addZ 7 (Td7 lz fill) (addZ 8 [F8 fill] (addZ 9 [F9 fill] (addZ 24 Td24 (addZ 26 Td26 (addZ 11 Td11 (addZ 12 Td12 (addZ 13 Td13 (addZ 14 Td14 (addZ 15 Td15 (addZ 16 Td16 (addZ 18 Td18 (addZ 17 Td17 (addZ 10 Td10 (trueZ 5))))))))))))))
noncomputable def Xd (lz : Bool) (fill : Int) : Sums := addX 7 (Td7 lz fill) (addX 8 [F8 fill] (addX 9 [F9 fill] (addX 24 Td24 (addX 26 Td26 (addX 11 Td11 (addX 12 Td12 (addX 13 Td13 (addX 14 Td14 (addX 15 Td15 (addX 16 Td16 (addX 18 Td18 (addX 17 Td17 (addX 10 Td10 (trueX 5))))))))))))))
theorem fitd (lz : Bool) (fill : Int) : SumFit (Zd lz fill) (Xd lz fill) := sumFit_addI (sumFit_addI (sumFit_addI (sumFit_addI (sumFit_addI (sumFit_addI (sumFit_addI (sumFit_addI (sumFit_addI (sumFit_addI (sumFit_addI (sumFit_addI (sumFit_addI (sumFit_addI (true_fit 5) 10 Td10) 17 Td17) 18 Td18) 16 Td16) 15 Td15) 14 Td14) 13 Td13) 12 Td12) 11 Td11) 26 Td26) 24 Td24) 9 [F9 fill]) 8 [F8 fill]) 7 (Td7 lz fill)
theorem soundd {W : World} (lz : Bool) {fill : Int} (hf : fill < 50 ∨ 100 < fill) (hW : 3 ≤ W.heap.size) (hmo : Tryz.prog.follows .mixedOrders = true) (hg : W.cell? ⟨0, 0, none⟩ = some (.iface 189 (.agg #[.pointer (some ⟨3, 30, none⟩)]))) (ht : SumsSound Tryz.prog W (trueX 5)) : SumsSound Tryz.prog W (Xd lz fill) := by
  have h11 := ht
  have h10 := SumsSound.addI (g := 10) (tab := Td10) h11 (ss11 hW hmo hg) (.inl (Nat.lt_of_lt_of_le (by decide) hW)) hmo (List.forall_mem_cons.2 ⟨ok10_0, List.forall_mem_cons.2 ⟨ok10_1, List.forall_mem_cons.2 ⟨ok10_2, List.forall_mem_cons.2 ⟨ok10_5, List.forall_mem_cons.2 ⟨ok10_6, List.forall_mem_nil _⟩⟩⟩⟩⟩)
  have h9 := SumsSound.addI (g := 17) (tab := Td17) h10 (ss10 hW hmo hg) (.inl (Nat.lt_of_lt_of_le (by decide) hW)) hmo (List.forall_mem_cons.2 ⟨ok17_1, List.forall_mem_nil _⟩)
  have h8 := SumsSound.addI (g := 18) (tab := Td18) h9 (ss9 hW hmo hg) (.inl (Nat.lt_of_lt_of_le (by decide) hW)) hmo (List.forall_mem_cons.2 ⟨ok18_1, List.forall_mem_nil _⟩)
  have h7 := SumsSound.addI (g := 16) (tab := Td16) h8 (ss8 hW hmo hg) (.inl (Nat.lt_of_lt_of_le (by decide) hW)) hmo (List.forall_mem_cons.2 ⟨ok16_4, List.forall_mem_nil _⟩)
  have h6 := SumsSound.addI (g := 15) (tab := Td15) h7 (ss7 hW hmo hg) (.inl (Nat.lt_of_lt_of_le (by decide) hW)) hmo (List.forall_mem_cons.2 ⟨ok15_0, List.forall_mem_nil _⟩)
  have h5 := SumsSound.addI (g := 14) (tab := Td14) h6 (ss6 hW hmo hg) (.inl (Nat.lt_of_lt_of_le (by decide) hW)) hmo (List.forall_mem_cons.2 ⟨ok14_0, List.forall_mem_nil _⟩)
  have h4 := SumsSound.addI (g := 13) (tab := Td13) h5 (ss5 hW hmo hg) (.inl (Nat.lt_of_lt_of_le (by decide) hW)) hmo (List.forall_mem_cons.2 ⟨ok13_0, List.forall_mem_nil _⟩)
  have h3 := SumsSound.addI (g := 12) (tab := Td12) h4 (ss4 hW hmo hg) (.inl (Nat.lt_of_lt_of_le (by decide) hW)) hmo (List.forall_mem_cons.2 ⟨ok12_0, List.forall_mem_nil _⟩)
  have h2 := SumsSound.addI (g := 11) (tab := Td11) h3 (ss3 hW hmo hg) (.inl (Nat.lt_of_lt_of_le (by decide) hW)) hmo (List.forall_mem_cons.2 ⟨ok11_0, List.forall_mem_nil _⟩)
  have h1 := SumsSound.addI (g := 26) (tab := Td26) h2 (ss2 hW hmo hg) (.inl (Nat.lt_of_lt_of_le (by decide) hW)) hmo (List.forall_mem_cons.2 ⟨ok26_0, List.forall_mem_nil _⟩)
  have h0 := SumsSound.addI (g := 24) (tab := Td24) h1 (ss1 hW hmo hg) (.inl (Nat.lt_of_lt_of_le (by decide) hW)) hmo (List.forall_mem_cons.2 ⟨ok24_0, List.forall_mem_nil _⟩)
  have k9 := SumsSound.addI (g := 9) (tab := [F9 fill]) h0 (ss12 hW hmo hg) (.inl (Nat.lt_of_lt_of_le (by decide) hW)) hmo (List.forall_mem_cons.2 ⟨ok9 fill, List.forall_mem_nil _⟩)
  have k8 := SumsSound.addI (g := 8) (tab := [F8 fill]) k9 (ss12 hW hmo hg) (.inl (Nat.lt_of_lt_of_le (by decide) hW)) hmo (List.forall_mem_cons.2 ⟨ok8 fill, List.forall_mem_nil _⟩)
  exact SumsSound.addI (g := 7) (tab := Td7 lz fill) k8 (ss12 hW hmo hg) (.inl (Nat.lt_of_lt_of_le (by decide) hW)) hmo (List.forall_mem_cons.2 ⟨ok7_0 fill lz, List.forall_mem_cons.2 ⟨okd1 lz hf, List.forall_mem_cons.2 ⟨okd2 lz hf, List.forall_mem_nil _⟩⟩⟩)
theorem lawd (lz : Bool) {fill size : Int} (hf : fill < 50 ∨ 100 < fill) (hs : BaN.pickI size = 1) (hr : size < 0 → IntKind.i64.wrap (size + 1) = size + 1 ∧ IntKind.i64.wrap (-(size + 1)) = -(size + 1)) (l : SL) (lf n : Nat) :
    zCall Tryz.prog (Zd lz fill) lf (n + 3) 4 [.int .i64 size, .bool lz, .sl l, .int .i64 fill] (fun v _ => v.av = .bool true) (startJ 3 1 BaN.tabA 1) := by
  refine zCall_at (by kernel_rfl) (by kernel_rfl) ?_
  rw [BaN.law_nf]
  refine zCall_sum (s := fun args K h => args = [] ∧ K (.bool true) h) (by kernel_rfl) (by kernel_rfl) ⟨rfl, ?_⟩
  refine ⟨true, by kernel_rfl, ?_⟩
  refine zCall_at (by kernel_rfl) (by kernel_rfl) ?_
  rw [BaN.store_nf]
  refine BaN.pick_ok (by kernel_rfl) hs hr ?_
  refine ⟨1, by kernel_rfl, ?_⟩
  refine ⟨1, rfl, ?_⟩
  refine zW_iff.2 ?_
  refine hit 0 E24_0 Td24 (by kernel_rfl) (by kernel_rfl) ?_
  refine ⟨two (.ptr 5 0) (.int .i64 (.ofNat 0)), by kernel_rfl, ?_⟩
  refine ⟨false, 5, 0, by kernel_rfl, ?_⟩
  refine ⟨0, by kernel_rfl, ?_⟩
  refine nay ?_
  refine nay ?_
  refine hit 0 E26_0 Td26 (by kernel_rfl) (by kernel_rfl) ?_
  refine ⟨two (.ptr 136 0) (.int .i64 (.ofNat 0)), by kernel_rfl, ?_⟩
  refine ⟨false, 136, 0, by kernel_rfl, ?_⟩
  refine ⟨0, by kernel_rfl, ?_⟩
  refine nay ?_
  refine ⟨false, 136, 0, by kernel_rfl, ?_⟩
  refine nay ?_
  refine nay ?_
  refine hit 0 (F7_0 lz fill) (Td7 lz fill) (by kernel_rfl) (by kernel_rfl) ?_
  refine ⟨two (.int .i64 (.ofNat 0)) (.iface 34 (.int .i64 (.ofNat 1))), by kernel_rfl, ?_⟩
  refine ⟨0, by kernel_rfl, ?_⟩
  refine hit 0 (F8 fill) [F8 fill] (by kernel_rfl) (by kernel_rfl) ?_
  refine ⟨two (.int .i64 (.ofNat 0)) (.iface 34 (.int .i64 (.ofNat 1))), by kernel_rfl, ?_⟩
  refine ⟨0, by kernel_rfl, ?_⟩
  refine hit 0 (F9 fill) [F9 fill] (by kernel_rfl) (by kernel_rfl) ?_
  refine ⟨two (.int .i64 (.ofNat 0)) (.iface 34 (.int .i64 (.ofNat 1))), by kernel_rfl, ?_⟩
  refine ⟨0, by kernel_rfl, ?_⟩
  refine nay ?_
  refine nay ?_
  refine nay ?_
  refine hit 0 E10_0 Td10 (by kernel_rfl) (by kernel_rfl) ?_
  refine ⟨1, by kernel_rfl, ?_⟩
  refine nay ?_
  refine hit 1 E10_1 Td10 (by kernel_rfl) (by kernel_rfl) ?_
  refine ⟨1, by kernel_rfl, ?_⟩
  refine nay ?_
  refine hit 2 E10_2 Td10 (by kernel_rfl) (by kernel_rfl) ?_
  refine ⟨1, by kernel_rfl, ?_⟩
  refine nay ?_
  refine hit 0 E11_0 Td11 (by kernel_rfl) (by kernel_rfl) ?_
  refine ⟨two (.int .i64 (.ofNat 2)) (.int .i64 (.ofNat 0)), by kernel_rfl, ?_⟩
  refine ⟨2, by kernel_rfl, ?_⟩
  refine ⟨0, by kernel_rfl, ?_⟩
  refine nay ?_
  refine hit 0 E12_0 Td12 (by kernel_rfl) (by kernel_rfl) ?_
  refine ⟨0, by kernel_rfl, ?_⟩
  refine nay ?_
  refine hit 0 E13_0 Td13 (by kernel_rfl) (by kernel_rfl) ?_
  refine ⟨0, by kernel_rfl, ?_⟩
  refine nay ?_
  refine hit 0 E14_0 Td14 (by kernel_rfl) (by kernel_rfl) ?_
  refine ⟨0, by kernel_rfl, ?_⟩
  refine nay ?_
  refine hit 0 E15_0 Td15 (by kernel_rfl) (by kernel_rfl) ?_
  refine ⟨two (.ptr 297 0) (.int .i64 (.ofNat 0)), by kernel_rfl, ?_⟩
  refine ⟨false, 297, 0, by kernel_rfl, ?_⟩
  refine ⟨0, by kernel_rfl, ?_⟩
  refine nay ?_
  refine nay ?_
  by_cases hl : fill < 50
  · refine BaN.cndP_t (decide_eq_true hl) ?_
    refine hit 1 (D7_1 lz fill) (Td7 lz fill) (by kernel_rfl) (by kernel_rfl) ?_
    refine ⟨two (.int .i64 (.ofNat 0)) (.iface 34 (.int .i64 (.ofNat 1))), by kernel_rfl, ?_⟩
    refine ⟨0, by kernel_rfl, ?_⟩
    refine hit 2 (D7_2 lz fill) (Td7 lz fill) (by kernel_rfl) (by kernel_rfl) ?_
    refine ⟨two (.int .i64 (.ofNat 0)) (.iface 34 (.int .i64 (.ofNat 1))), by kernel_rfl, ?_⟩
    refine ⟨0, by kernel_rfl, ?_⟩
    refine yea ?_
    refine yea ?_
    refine hit 3 E10_5 Td10 (by kernel_rfl) (by kernel_rfl) ?_
    refine ⟨1, by kernel_rfl, ?_⟩
    refine yea ?_
    refine hit 4 E10_6 Td10 (by kernel_rfl) (by kernel_rfl) ?_
    refine ⟨1, by kernel_rfl, ?_⟩
    refine yea ?_
    refine ⟨rfl, rfl, rfl, ?_⟩
    refine ⟨0, by kernel_rfl, ?_⟩
    refine yea ?_
    refine hit 0 E16_4 Td16 (by kernel_rfl) (by kernel_rfl) ?_
    refine ⟨2, by kernel_rfl, ?_⟩
    refine yea ?_
    refine hit 0 E18_1 Td18 (by kernel_rfl) (by kernel_rfl) ?_
    refine ⟨⟨false, 312, 0, 1, 1, true⟩, by kernel_rfl, ?_⟩
    refine hit 0 E17_1 Td17 (by kernel_rfl) (by kernel_rfl) ?_
    refine ⟨true, by kernel_rfl, ?_⟩
    kernel_rfl
  · refine BaN.cndP_f (decide_eq_false hl) ?_
    refine BaN.cndP_t (by show decide (100 < fill) = true; exact decide_eq_true (by omega)) ?_
    refine hit 1 (D7_1 lz fill) (Td7 lz fill) (by kernel_rfl) (by kernel_rfl) ?_
    refine ⟨two (.int .i64 (.ofNat 0)) (.iface 34 (.int .i64 (.ofNat 1))), by kernel_rfl, ?_⟩
    refine ⟨0, by kernel_rfl, ?_⟩
    refine hit 2 (D7_2 lz fill) (Td7 lz fill) (by kernel_rfl) (by kernel_rfl) ?_
    refine ⟨two (.int .i64 (.ofNat 0)) (.iface 34 (.int .i64 (.ofNat 1))), by kernel_rfl, ?_⟩
    refine ⟨0, by kernel_rfl, ?_⟩
    refine yea ?_
    refine yea ?_
    refine hit 3 E10_5 Td10 (by kernel_rfl) (by kernel_rfl) ?_
    refine ⟨1, by kernel_rfl, ?_⟩
    refine yea ?_
    refine hit 4 E10_6 Td10 (by kernel_rfl) (by kernel_rfl) ?_
    refine ⟨1, by kernel_rfl, ?_⟩
    refine yea ?_
    refine ⟨rfl, rfl, rfl, ?_⟩
    refine ⟨0, by kernel_rfl, ?_⟩
    refine yea ?_
    refine hit 0 E16_4 Td16 (by kernel_rfl) (by kernel_rfl) ?_
    refine ⟨2, by kernel_rfl, ?_⟩
    refine yea ?_
    refine hit 0 E18_1 Td18 (by kernel_rfl) (by kernel_rfl) ?_
    refine ⟨⟨false, 312, 0, 1, 1, true⟩, by kernel_rfl, ?_⟩
    refine hit 0 E17_1 Td17 (by kernel_rfl) (by kernel_rfl) ?_
    refine ⟨true, by kernel_rfl, ?_⟩
    kernel_rfl
end Go.Proofs.YtbhbiccfkkoanaaGreatDoor.B1
