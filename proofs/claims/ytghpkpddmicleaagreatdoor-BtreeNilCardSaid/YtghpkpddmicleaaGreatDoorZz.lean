/-
  PROVED: calls that were run over abstract values, one by one: what each reads, writes, makes and answers. Conditions: the program follows 'mixedOrders'; the world's heap is not empty.
-/
import Derived.Test.YtghpkpddmicleaaGreatDoorZ0
import Derived.Test.YtghpkpddmicleaaGreatDoorZ1
namespace Go.Proofs.YtghpkpddmicleaaGreatDoor.Cut
open Go.X
variable {W : World}
theorem ss0 (hW : 1 ≤ W.heap.size) : SumsSound Tryz.prog W S0 := (SuN.more_sound noSums hW)
theorem ss1 (hW : 1 ≤ W.heap.size) (hmo : Tryz.prog.follows .mixedOrders = true)  : SumsSound Tryz.prog W S1 := SumsSound.add (ss0 hW) (.inl (Nat.lt_of_lt_of_le (by decide) hW)) hmo ok172
theorem ss2 (hW : 1 ≤ W.heap.size) (hmo : Tryz.prog.follows .mixedOrders = true)  : SumsSound Tryz.prog W S2 := SumsSound.add (ss1 hW hmo) (.inl (Nat.lt_of_lt_of_le (by decide) hW)) hmo ok7
theorem ss3 (hW : 1 ≤ W.heap.size) (hmo : Tryz.prog.follows .mixedOrders = true)  : SumsSound Tryz.prog W S3 := SumsSound.add (ss2 hW hmo) (.inl (Nat.lt_of_lt_of_le (by decide) hW)) hmo ok8
theorem ss4 (hW : 1 ≤ W.heap.size) (hmo : Tryz.prog.follows .mixedOrders = true)  : SumsSound Tryz.prog W S4 := SumsSound.add (ss3 hW hmo) (.inl (Nat.lt_of_lt_of_le (by decide) hW)) hmo ok5
theorem ss5 (hW : 1 ≤ W.heap.size) (hmo : Tryz.prog.follows .mixedOrders = true)  : SumsSound Tryz.prog W S5 := SumsSound.add (ss4 hW hmo) (.inl (Nat.lt_of_lt_of_le (by decide) hW)) hmo ok13
theorem ss6 (hW : 1 ≤ W.heap.size) (hmo : Tryz.prog.follows .mixedOrders = true)  : SumsSound Tryz.prog W S6 := SumsSound.add (ss5 hW hmo) (.inl (Nat.lt_of_lt_of_le (by decide) hW)) hmo ok14
theorem ss7 (hW : 1 ≤ W.heap.size) (hmo : Tryz.prog.follows .mixedOrders = true)  : SumsSound Tryz.prog W S7 := SumsSound.add (ss6 hW hmo) (.inl (Nat.lt_of_lt_of_le (by decide) hW)) hmo ok15
theorem ss8 (hW : 1 ≤ W.heap.size) (hmo : Tryz.prog.follows .mixedOrders = true)  : SumsSound Tryz.prog W S8 := SumsSound.add (ss7 hW hmo) (.inl (Nat.lt_of_lt_of_le (by decide) hW)) hmo ok16
noncomputable def S : Sums := S8
theorem ss (hW : 1 ≤ W.heap.size) (hmo : Tryz.prog.follows .mixedOrders = true)  : SumsSound Tryz.prog W S := ss8 hW hmo
end Go.Proofs.YtghpkpddmicleaaGreatDoor.Cut
