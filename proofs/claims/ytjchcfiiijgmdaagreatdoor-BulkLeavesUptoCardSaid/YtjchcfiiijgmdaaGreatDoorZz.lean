/-
  PROVED: calls that were run over abstract values, one by one: what each reads, writes, makes and answers. Conditions: the program follows 'mixedOrders'; the world's heap is not empty.
-/
import Derived.Test.YtjchcfiiijgmdaaGreatDoorZ0
import Derived.Test.YtjchcfiiijgmdaaGreatDoorZ1
namespace Go.Proofs.YtjchcfiiijgmdaaGreatDoor.Cut
open Go.X
variable {W : World}
abbrev Hg (W : World) : Prop := W.cell? ⟨0, 0, none⟩ = some (.iface 199 (.agg #[.pointer (some ⟨3, 40, none⟩)]))
theorem ss0 (hW : 3 ≤ W.heap.size) (hg : Hg W) : SumsSound Tryz.prog W S0 := as_sound (SuN.more_sound noSums hW) (Go.Proofs.YtjchcfiiijgmdaaGreatDoor.As.facts hg)
theorem ss1 (hW : 3 ≤ W.heap.size) (hmo : Tryz.prog.follows .mixedOrders = true) (hg : Hg W) : SumsSound Tryz.prog W S1 := SumsSound.add (ss0 hW hg) (.inl (Nat.lt_of_lt_of_le (by decide) hW)) hmo ok70
theorem ss2 (hW : 3 ≤ W.heap.size) (hmo : Tryz.prog.follows .mixedOrders = true) (hg : Hg W) : SumsSound Tryz.prog W S2 := SumsSound.add (ss1 hW hmo hg) (.inl (Nat.lt_of_lt_of_le (by decide) hW)) hmo ok7
theorem ss3 (hW : 3 ≤ W.heap.size) (hmo : Tryz.prog.follows .mixedOrders = true) (hg : Hg W) : SumsSound Tryz.prog W S3 := SumsSound.add (ss2 hW hmo hg) (.inl (Nat.lt_of_lt_of_le (by decide) hW)) hmo ok12
theorem ss4 (hW : 3 ≤ W.heap.size) (hmo : Tryz.prog.follows .mixedOrders = true) (hg : Hg W) : SumsSound Tryz.prog W S4 := SumsSound.add (ss3 hW hmo hg) (.inl (Nat.lt_of_lt_of_le (by decide) hW)) hmo ok13
theorem ss5 (hW : 3 ≤ W.heap.size) (hmo : Tryz.prog.follows .mixedOrders = true) (hg : Hg W) : SumsSound Tryz.prog W S5 := SumsSound.add (ss4 hW hmo hg) (.inl (Nat.lt_of_lt_of_le (by decide) hW)) hmo ok15
noncomputable def S : Sums := S5
theorem ss (hW : 3 ≤ W.heap.size) (hmo : Tryz.prog.follows .mixedOrders = true) (hg : Hg W) : SumsSound Tryz.prog W S := ss5 hW hmo hg
end Go.Proofs.YtjchcfiiijgmdaaGreatDoor.Cut
