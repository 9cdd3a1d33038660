/-
  PROVED: calls that were run over abstract values, one by one: what each reads, writes, makes and answers. Conditions: the program follows 'mixedOrders'; the world's heap is not empty.
-/
import Derived.Test.YtbhbiccfkkoanaaGreatDoorZ0
import Derived.Test.YtbhbiccfkkoanaaGreatDoorZ1
import Derived.Test.YtbhbiccfkkoanaaGreatDoorZ2
import Derived.Test.YtbhbiccfkkoanaaGreatDoorZ3
namespace Go.Proofs.YtbhbiccfkkoanaaGreatDoor.Cut
open Go.X
variable {W : World}
theorem ss0 (hg : W.cell? ⟨0, 0, none⟩ = some (.iface 189 (.agg #[.pointer (some ⟨3, 30, none⟩)]))) : SumsSound Tryz.prog W S0 := as_sound noSums (Go.Proofs.YtbhbiccfkkoanaaGreatDoor.As.facts hg)
theorem ss1 (hW : 0 < W.heap.size) (hmo : Tryz.prog.follows .mixedOrders = true) (hg : W.cell? ⟨0, 0, none⟩ = some (.iface 189 (.agg #[.pointer (some ⟨3, 30, none⟩)]))) : SumsSound Tryz.prog W S1 := SumsSound.add (ss0 hg) (.inl hW) hmo ok73
theorem ss2 (hW : 0 < W.heap.size) (hmo : Tryz.prog.follows .mixedOrders = true) (hg : W.cell? ⟨0, 0, none⟩ = some (.iface 189 (.agg #[.pointer (some ⟨3, 30, none⟩)]))) : SumsSound Tryz.prog W S2 := SumsSound.add (ss1 hW hmo hg) (.inl hW) hmo ok223
theorem ss3 (hW : 0 < W.heap.size) (hmo : Tryz.prog.follows .mixedOrders = true) (hg : W.cell? ⟨0, 0, none⟩ = some (.iface 189 (.agg #[.pointer (some ⟨3, 30, none⟩)]))) : SumsSound Tryz.prog W S3 := SumsSound.add (ss2 hW hmo hg) (.inl hW) hmo ok178
theorem ss4 (hW : 0 < W.heap.size) (hmo : Tryz.prog.follows .mixedOrders = true) (hg : W.cell? ⟨0, 0, none⟩ = some (.iface 189 (.agg #[.pointer (some ⟨3, 30, none⟩)]))) : SumsSound Tryz.prog W S4 := SumsSound.add (ss3 hW hmo hg) (.inl hW) hmo ok101
theorem ss5 (hW : 0 < W.heap.size) (hmo : Tryz.prog.follows .mixedOrders = true) (hg : W.cell? ⟨0, 0, none⟩ = some (.iface 189 (.agg #[.pointer (some ⟨3, 30, none⟩)]))) : SumsSound Tryz.prog W S5 := SumsSound.add (ss4 hW hmo hg) (.inl hW) hmo ok26
theorem ss6 (hW : 0 < W.heap.size) (hmo : Tryz.prog.follows .mixedOrders = true) (hg : W.cell? ⟨0, 0, none⟩ = some (.iface 189 (.agg #[.pointer (some ⟨3, 30, none⟩)]))) : SumsSound Tryz.prog W S6 := SumsSound.add (ss5 hW hmo hg) (.inl hW) hmo ok118
theorem ss7 (hW : 0 < W.heap.size) (hmo : Tryz.prog.follows .mixedOrders = true) (hg : W.cell? ⟨0, 0, none⟩ = some (.iface 189 (.agg #[.pointer (some ⟨3, 30, none⟩)]))) : SumsSound Tryz.prog W S7 := SumsSound.add (ss6 hW hmo hg) (.inl hW) hmo ok83
noncomputable def S : Sums := S7
theorem ss (hW : 0 < W.heap.size) (hmo : Tryz.prog.follows .mixedOrders = true) (hg : W.cell? ⟨0, 0, none⟩ = some (.iface 189 (.agg #[.pointer (some ⟨3, 30, none⟩)]))) : SumsSound Tryz.prog W S := ss7 hW hmo hg
end Go.Proofs.YtbhbiccfkkoanaaGreatDoor.Cut
