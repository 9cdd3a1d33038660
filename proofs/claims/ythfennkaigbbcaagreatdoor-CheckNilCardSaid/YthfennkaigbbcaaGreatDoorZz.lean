/-
  PROVED: calls that were run over abstract values, one by one: what each reads, writes, makes and answers. Conditions: the program follows 'mixedOrders'; the world's heap is not empty.
-/
import Derived.Test.YthfennkaigbbcaaGreatDoorZ0
import Derived.Test.YthfennkaigbbcaaGreatDoorZ1
import Derived.Test.YthfennkaigbbcaaGreatDoorZ2
import Derived.Test.YthfennkaigbbcaaGreatDoorZ3
import Derived.Test.YthfennkaigbbcaaGreatDoorZ4
import Derived.Test.YthfennkaigbbcaaGreatDoorZ5
import Derived.Test.YthfennkaigbbcaaGreatDoorZ6
import Derived.Test.YthfennkaigbbcaaGreatDoorZ7
import Derived.Test.YthfennkaigbbcaaGreatDoorZ8
import Derived.Test.YthfennkaigbbcaaGreatDoorZ9
import Derived.Test.YthfennkaigbbcaaGreatDoorZ10
import Derived.Test.YthfennkaigbbcaaGreatDoorZ11
import Derived.Test.YthfennkaigbbcaaGreatDoorZ12
import Derived.Test.YthfennkaigbbcaaGreatDoorZ13
import Derived.Test.YthfennkaigbbcaaGreatDoorZ14
import Derived.Test.YthfennkaigbbcaaGreatDoorZ15
import Derived.Test.YthfennkaigbbcaaGreatDoorZ16
import Derived.Test.YthfennkaigbbcaaGreatDoorZ17
import Derived.Test.YthfennkaigbbcaaGreatDoorZ18
import Derived.Test.YthfennkaigbbcaaGreatDoorZ19
import Derived.Test.YthfennkaigbbcaaGreatDoorZ20
import Derived.Test.YthfennkaigbbcaaGreatDoorZ21
import Derived.Test.YthfennkaigbbcaaGreatDoorZ22
namespace Go.Proofs.YthfennkaigbbcaaGreatDoor.Cut
open Go.X
variable {W : World}
theorem ss0 (hg : W.cell? ⟨0, 0, none⟩ = some (.iface 153 (.agg #[.pointer (some ⟨3, 31, none⟩)]))) : SumsSound Tryz.prog W S0 := as_sound noSums (Go.Proofs.YthfennkaigbbcaaGreatDoor.As.facts hg)
theorem ss1 (hW : 0 < W.heap.size) (hmo : Tryz.prog.follows .mixedOrders = true) (hg : W.cell? ⟨0, 0, none⟩ = some (.iface 153 (.agg #[.pointer (some ⟨3, 31, none⟩)]))) : SumsSound Tryz.prog W S1 := SumsSound.add (ss0 hg) (.inl hW) hmo ok144
theorem ss2 (hW : 0 < W.heap.size) (hmo : Tryz.prog.follows .mixedOrders = true) (hg : W.cell? ⟨0, 0, none⟩ = some (.iface 153 (.agg #[.pointer (some ⟨3, 31, none⟩)]))) : SumsSound Tryz.prog W S2 := SumsSound.add (ss1 hW hmo hg) (.inl hW) hmo ok251
theorem ss3 (hW : 0 < W.heap.size) (hmo : Tryz.prog.follows .mixedOrders = true) (hg : W.cell? ⟨0, 0, none⟩ = some (.iface 153 (.agg #[.pointer (some ⟨3, 31, none⟩)]))) : SumsSound Tryz.prog W S3 := SumsSound.add (ss2 hW hmo hg) (.inl hW) hmo ok206
theorem ss4 (hW : 0 < W.heap.size) (hmo : Tryz.prog.follows .mixedOrders = true) (hg : W.cell? ⟨0, 0, none⟩ = some (.iface 153 (.agg #[.pointer (some ⟨3, 31, none⟩)]))) : SumsSound Tryz.prog W S4 := SumsSound.add (ss3 hW hmo hg) (.inl hW) hmo ok96
theorem ss5 (hW : 0 < W.heap.size) (hmo : Tryz.prog.follows .mixedOrders = true) (hg : W.cell? ⟨0, 0, none⟩ = some (.iface 153 (.agg #[.pointer (some ⟨3, 31, none⟩)]))) : SumsSound Tryz.prog W S5 := SumsSound.add (ss4 hW hmo hg) (.inl hW) hmo ok95
theorem ss6 (hW : 0 < W.heap.size) (hmo : Tryz.prog.follows .mixedOrders = true) (hg : W.cell? ⟨0, 0, none⟩ = some (.iface 153 (.agg #[.pointer (some ⟨3, 31, none⟩)]))) : SumsSound Tryz.prog W S6 := SumsSound.add (ss5 hW hmo hg) (.inl hW) hmo ok53
theorem ss7 (hW : 0 < W.heap.size) (hmo : Tryz.prog.follows .mixedOrders = true) (hg : W.cell? ⟨0, 0, none⟩ = some (.iface 153 (.agg #[.pointer (some ⟨3, 31, none⟩)]))) : SumsSound Tryz.prog W S7 := SumsSound.add (ss6 hW hmo hg) (.inl hW) hmo ok149
theorem ss8 (hW : 0 < W.heap.size) (hmo : Tryz.prog.follows .mixedOrders = true) (hg : W.cell? ⟨0, 0, none⟩ = some (.iface 153 (.agg #[.pointer (some ⟨3, 31, none⟩)]))) : SumsSound Tryz.prog W S8 := SumsSound.add (ss7 hW hmo hg) (.inl hW) hmo ok253
theorem ss9 (hW : 0 < W.heap.size) (hmo : Tryz.prog.follows .mixedOrders = true) (hg : W.cell? ⟨0, 0, none⟩ = some (.iface 153 (.agg #[.pointer (some ⟨3, 31, none⟩)]))) : SumsSound Tryz.prog W S9 := SumsSound.add (ss8 hW hmo hg) (.inl hW) hmo ok210
theorem ss10 (hW : 0 < W.heap.size) (hmo : Tryz.prog.follows .mixedOrders = true) (hg : W.cell? ⟨0, 0, none⟩ = some (.iface 153 (.agg #[.pointer (some ⟨3, 31, none⟩)]))) : SumsSound Tryz.prog W S10 := SumsSound.add (ss9 hW hmo hg) (.inl hW) hmo ok150
theorem ss11 (hW : 0 < W.heap.size) (hmo : Tryz.prog.follows .mixedOrders = true) (hg : W.cell? ⟨0, 0, none⟩ = some (.iface 153 (.agg #[.pointer (some ⟨3, 31, none⟩)]))) : SumsSound Tryz.prog W S11 := SumsSound.add (ss10 hW hmo hg) (.inl hW) hmo ok97
theorem ss12 (hW : 0 < W.heap.size) (hmo : Tryz.prog.follows .mixedOrders = true) (hg : W.cell? ⟨0, 0, none⟩ = some (.iface 153 (.agg #[.pointer (some ⟨3, 31, none⟩)]))) : SumsSound Tryz.prog W S12 := SumsSound.add (ss11 hW hmo hg) (.inl hW) hmo ok156
theorem ss13 (hW : 0 < W.heap.size) (hmo : Tryz.prog.follows .mixedOrders = true) (hg : W.cell? ⟨0, 0, none⟩ = some (.iface 153 (.agg #[.pointer (some ⟨3, 31, none⟩)]))) : SumsSound Tryz.prog W S13 := SumsSound.add (ss12 hW hmo hg) (.inl hW) hmo ok99
theorem ss14 (hW : 0 < W.heap.size) (hmo : Tryz.prog.follows .mixedOrders = true) (hg : W.cell? ⟨0, 0, none⟩ = some (.iface 153 (.agg #[.pointer (some ⟨3, 31, none⟩)]))) : SumsSound Tryz.prog W S14 := SumsSound.add (ss13 hW hmo hg) (.inl hW) hmo ok161
theorem ss15 (hW : 0 < W.heap.size) (hmo : Tryz.prog.follows .mixedOrders = true) (hg : W.cell? ⟨0, 0, none⟩ = some (.iface 153 (.agg #[.pointer (some ⟨3, 31, none⟩)]))) : SumsSound Tryz.prog W S15 := SumsSound.add (ss14 hW hmo hg) (.inl hW) hmo ok100
theorem ss16 (hW : 0 < W.heap.size) (hmo : Tryz.prog.follows .mixedOrders = true) (hg : W.cell? ⟨0, 0, none⟩ = some (.iface 153 (.agg #[.pointer (some ⟨3, 31, none⟩)]))) : SumsSound Tryz.prog W S16 := SumsSound.add (ss15 hW hmo hg) (.inl hW) hmo ok54
theorem ss17 (hW : 0 < W.heap.size) (hmo : Tryz.prog.follows .mixedOrders = true) (hg : W.cell? ⟨0, 0, none⟩ = some (.iface 153 (.agg #[.pointer (some ⟨3, 31, none⟩)]))) : SumsSound Tryz.prog W S17 := SumsSound.add (ss16 hW hmo hg) (.inl hW) hmo ok102
theorem ss18 (hW : 0 < W.heap.size) (hmo : Tryz.prog.follows .mixedOrders = true) (hg : W.cell? ⟨0, 0, none⟩ = some (.iface 153 (.agg #[.pointer (some ⟨3, 31, none⟩)]))) : SumsSound Tryz.prog W S18 := SumsSound.add (ss17 hW hmo hg) (.inl hW) hmo ok103
theorem ss19 (hW : 0 < W.heap.size) (hmo : Tryz.prog.follows .mixedOrders = true) (hg : W.cell? ⟨0, 0, none⟩ = some (.iface 153 (.agg #[.pointer (some ⟨3, 31, none⟩)]))) : SumsSound Tryz.prog W S19 := SumsSound.add (ss18 hW hmo hg) (.inl hW) hmo ok55
theorem ss20 (hW : 0 < W.heap.size) (hmo : Tryz.prog.follows .mixedOrders = true) (hg : W.cell? ⟨0, 0, none⟩ = some (.iface 153 (.agg #[.pointer (some ⟨3, 31, none⟩)]))) : SumsSound Tryz.prog W S20 := SumsSound.add (ss19 hW hmo hg) (.inl hW) hmo ok168
theorem ss21 (hW : 0 < W.heap.size) (hmo : Tryz.prog.follows .mixedOrders = true) (hg : W.cell? ⟨0, 0, none⟩ = some (.iface 153 (.agg #[.pointer (some ⟨3, 31, none⟩)]))) : SumsSound Tryz.prog W S21 := SumsSound.add (ss20 hW hmo hg) (.inl hW) hmo ok104
theorem ss22 (hW : 0 < W.heap.size) (hmo : Tryz.prog.follows .mixedOrders = true) (hg : W.cell? ⟨0, 0, none⟩ = some (.iface 153 (.agg #[.pointer (some ⟨3, 31, none⟩)]))) : SumsSound Tryz.prog W S22 := SumsSound.add (ss21 hW hmo hg) (.inl hW) hmo ok171
theorem ss23 (hW : 0 < W.heap.size) (hmo : Tryz.prog.follows .mixedOrders = true) (hg : W.cell? ⟨0, 0, none⟩ = some (.iface 153 (.agg #[.pointer (some ⟨3, 31, none⟩)]))) : SumsSound Tryz.prog W S23 := SumsSound.add (ss22 hW hmo hg) (.inl hW) hmo ok105
theorem ss24 (hW : 0 < W.heap.size) (hmo : Tryz.prog.follows .mixedOrders = true) (hg : W.cell? ⟨0, 0, none⟩ = some (.iface 153 (.agg #[.pointer (some ⟨3, 31, none⟩)]))) : SumsSound Tryz.prog W S24 := SumsSound.add (ss23 hW hmo hg) (.inl hW) hmo ok56
theorem ss25 (hW : 0 < W.heap.size) (hmo : Tryz.prog.follows .mixedOrders = true) (hg : W.cell? ⟨0, 0, none⟩ = some (.iface 153 (.agg #[.pointer (some ⟨3, 31, none⟩)]))) : SumsSound Tryz.prog W S25 := SumsSound.add (ss24 hW hmo hg) (.inl hW) hmo ok228
theorem ss26 (hW : 0 < W.heap.size) (hmo : Tryz.prog.follows .mixedOrders = true) (hg : W.cell? ⟨0, 0, none⟩ = some (.iface 153 (.agg #[.pointer (some ⟨3, 31, none⟩)]))) : SumsSound Tryz.prog W S26 := SumsSound.add (ss25 hW hmo hg) (.inl hW) hmo ok175
theorem ss27 (hW : 0 < W.heap.size) (hmo : Tryz.prog.follows .mixedOrders = true) (hg : W.cell? ⟨0, 0, none⟩ = some (.iface 153 (.agg #[.pointer (some ⟨3, 31, none⟩)]))) : SumsSound Tryz.prog W S27 := SumsSound.add (ss26 hW hmo hg) (.inl hW) hmo ok107
theorem ss28 (hW : 0 < W.heap.size) (hmo : Tryz.prog.follows .mixedOrders = true) (hg : W.cell? ⟨0, 0, none⟩ = some (.iface 153 (.agg #[.pointer (some ⟨3, 31, none⟩)]))) : SumsSound Tryz.prog W S28 := SumsSound.add (ss27 hW hmo hg) (.inl hW) hmo ok262
theorem ss29 (hW : 0 < W.heap.size) (hmo : Tryz.prog.follows .mixedOrders = true) (hg : W.cell? ⟨0, 0, none⟩ = some (.iface 153 (.agg #[.pointer (some ⟨3, 31, none⟩)]))) : SumsSound Tryz.prog W S29 := SumsSound.add (ss28 hW hmo hg) (.inl hW) hmo ok230
theorem ss30 (hW : 0 < W.heap.size) (hmo : Tryz.prog.follows .mixedOrders = true) (hg : W.cell? ⟨0, 0, none⟩ = some (.iface 153 (.agg #[.pointer (some ⟨3, 31, none⟩)]))) : SumsSound Tryz.prog W S30 := SumsSound.add (ss29 hW hmo hg) (.inl hW) hmo ok176
theorem ss31 (hW : 0 < W.heap.size) (hmo : Tryz.prog.follows .mixedOrders = true) (hg : W.cell? ⟨0, 0, none⟩ = some (.iface 153 (.agg #[.pointer (some ⟨3, 31, none⟩)]))) : SumsSound Tryz.prog W S31 := SumsSound.add (ss30 hW hmo hg) (.inl hW) hmo ok177
theorem ss32 (hW : 0 < W.heap.size) (hmo : Tryz.prog.follows .mixedOrders = true) (hg : W.cell? ⟨0, 0, none⟩ = some (.iface 153 (.agg #[.pointer (some ⟨3, 31, none⟩)]))) : SumsSound Tryz.prog W S32 := SumsSound.add (ss31 hW hmo hg) (.inl hW) hmo ok178
theorem ss33 (hW : 0 < W.heap.size) (hmo : Tryz.prog.follows .mixedOrders = true) (hg : W.cell? ⟨0, 0, none⟩ = some (.iface 153 (.agg #[.pointer (some ⟨3, 31, none⟩)]))) : SumsSound Tryz.prog W S33 := SumsSound.add (ss32 hW hmo hg) (.inl hW) hmo ok108
theorem ss34 (hW : 0 < W.heap.size) (hmo : Tryz.prog.follows .mixedOrders = true) (hg : W.cell? ⟨0, 0, none⟩ = some (.iface 153 (.agg #[.pointer (some ⟨3, 31, none⟩)]))) : SumsSound Tryz.prog W S34 := SumsSound.add (ss33 hW hmo hg) (.inl hW) hmo ok57
theorem ss35 (hW : 0 < W.heap.size) (hmo : Tryz.prog.follows .mixedOrders = true) (hg : W.cell? ⟨0, 0, none⟩ = some (.iface 153 (.agg #[.pointer (some ⟨3, 31, none⟩)]))) : SumsSound Tryz.prog W S35 := SumsSound.add (ss34 hW hmo hg) (.inl hW) hmo ok26
theorem ss36 (hW : 0 < W.heap.size) (hmo : Tryz.prog.follows .mixedOrders = true) (hg : W.cell? ⟨0, 0, none⟩ = some (.iface 153 (.agg #[.pointer (some ⟨3, 31, none⟩)]))) : SumsSound Tryz.prog W S36 := SumsSound.add (ss35 hW hmo hg) (.inl hW) hmo ok13
theorem ss37 (hW : 0 < W.heap.size) (hmo : Tryz.prog.follows .mixedOrders = true) (hg : W.cell? ⟨0, 0, none⟩ = some (.iface 153 (.agg #[.pointer (some ⟨3, 31, none⟩)]))) : SumsSound Tryz.prog W S37 := SumsSound.add (ss36 hW hmo hg) (.inl hW) hmo ok6
theorem ss38 (hW : 0 < W.heap.size) (hmo : Tryz.prog.follows .mixedOrders = true) (hg : W.cell? ⟨0, 0, none⟩ = some (.iface 153 (.agg #[.pointer (some ⟨3, 31, none⟩)]))) : SumsSound Tryz.prog W S38 := SumsSound.add (ss37 hW hmo hg) (.inl hW) hmo ok7
theorem ss39 (hW : 0 < W.heap.size) (hmo : Tryz.prog.follows .mixedOrders = true) (hg : W.cell? ⟨0, 0, none⟩ = some (.iface 153 (.agg #[.pointer (some ⟨3, 31, none⟩)]))) : SumsSound Tryz.prog W S39 := SumsSound.add (ss38 hW hmo hg) (.inl hW) hmo ok8
theorem ss40 (hW : 0 < W.heap.size) (hmo : Tryz.prog.follows .mixedOrders = true) (hg : W.cell? ⟨0, 0, none⟩ = some (.iface 153 (.agg #[.pointer (some ⟨3, 31, none⟩)]))) : SumsSound Tryz.prog W S40 := SumsSound.add (ss39 hW hmo hg) (.inl hW) hmo ok73
theorem ss41 (hW : 0 < W.heap.size) (hmo : Tryz.prog.follows .mixedOrders = true) (hg : W.cell? ⟨0, 0, none⟩ = some (.iface 153 (.agg #[.pointer (some ⟨3, 31, none⟩)]))) : SumsSound Tryz.prog W S41 := SumsSound.add (ss40 hW hmo hg) (.inl hW) hmo ok34
theorem ss42 (hW : 0 < W.heap.size) (hmo : Tryz.prog.follows .mixedOrders = true) (hg : W.cell? ⟨0, 0, none⟩ = some (.iface 153 (.agg #[.pointer (some ⟨3, 31, none⟩)]))) : SumsSound Tryz.prog W S42 := SumsSound.add (ss41 hW hmo hg) (.inl hW) hmo ok36
theorem ss43 (hW : 0 < W.heap.size) (hmo : Tryz.prog.follows .mixedOrders = true) (hg : W.cell? ⟨0, 0, none⟩ = some (.iface 153 (.agg #[.pointer (some ⟨3, 31, none⟩)]))) : SumsSound Tryz.prog W S43 := SumsSound.add (ss42 hW hmo hg) (.inl hW) hmo ok38
theorem ss44 (hW : 0 < W.heap.size) (hmo : Tryz.prog.follows .mixedOrders = true) (hg : W.cell? ⟨0, 0, none⟩ = some (.iface 153 (.agg #[.pointer (some ⟨3, 31, none⟩)]))) : SumsSound Tryz.prog W S44 := SumsSound.add (ss43 hW hmo hg) (.inl hW) hmo ok128
theorem ss45 (hW : 0 < W.heap.size) (hmo : Tryz.prog.follows .mixedOrders = true) (hg : W.cell? ⟨0, 0, none⟩ = some (.iface 153 (.agg #[.pointer (some ⟨3, 31, none⟩)]))) : SumsSound Tryz.prog W S45 := SumsSound.add (ss44 hW hmo hg) (.inl hW) hmo ok193
theorem ss46 (hW : 0 < W.heap.size) (hmo : Tryz.prog.follows .mixedOrders = true) (hg : W.cell? ⟨0, 0, none⟩ = some (.iface 153 (.agg #[.pointer (some ⟨3, 31, none⟩)]))) : SumsSound Tryz.prog W S46 := SumsSound.add (ss45 hW hmo hg) (.inl hW) hmo ok195
theorem ss47 (hW : 0 < W.heap.size) (hmo : Tryz.prog.follows .mixedOrders = true) (hg : W.cell? ⟨0, 0, none⟩ = some (.iface 153 (.agg #[.pointer (some ⟨3, 31, none⟩)]))) : SumsSound Tryz.prog W S47 := SumsSound.add (ss46 hW hmo hg) (.inl hW) hmo ok241
theorem ss48 (hW : 0 < W.heap.size) (hmo : Tryz.prog.follows .mixedOrders = true) (hg : W.cell? ⟨0, 0, none⟩ = some (.iface 153 (.agg #[.pointer (some ⟨3, 31, none⟩)]))) : SumsSound Tryz.prog W S48 := SumsSound.add (ss47 hW hmo hg) (.inl hW) hmo ok191
theorem ss49 (hW : 0 < W.heap.size) (hmo : Tryz.prog.follows .mixedOrders = true) (hg : W.cell? ⟨0, 0, none⟩ = some (.iface 153 (.agg #[.pointer (some ⟨3, 31, none⟩)]))) : SumsSound Tryz.prog W S49 := SumsSound.add (ss48 hW hmo hg) (.inl hW) hmo ok124
theorem ss50 (hW : 0 < W.heap.size) (hmo : Tryz.prog.follows .mixedOrders = true) (hg : W.cell? ⟨0, 0, none⟩ = some (.iface 153 (.agg #[.pointer (some ⟨3, 31, none⟩)]))) : SumsSound Tryz.prog W S50 := SumsSound.add (ss49 hW hmo hg) (.inl hW) hmo ok79
theorem ss51 (hW : 0 < W.heap.size) (hmo : Tryz.prog.follows .mixedOrders = true) (hg : W.cell? ⟨0, 0, none⟩ = some (.iface 153 (.agg #[.pointer (some ⟨3, 31, none⟩)]))) : SumsSound Tryz.prog W S51 := SumsSound.add (ss50 hW hmo hg) (.inl hW) hmo ok39
theorem ss52 (hW : 0 < W.heap.size) (hmo : Tryz.prog.follows .mixedOrders = true) (hg : W.cell? ⟨0, 0, none⟩ = some (.iface 153 (.agg #[.pointer (some ⟨3, 31, none⟩)]))) : SumsSound Tryz.prog W S52 := SumsSound.add (ss51 hW hmo hg) (.inl hW) hmo ok19
theorem ss53 (hW : 0 < W.heap.size) (hmo : Tryz.prog.follows .mixedOrders = true) (hg : W.cell? ⟨0, 0, none⟩ = some (.iface 153 (.agg #[.pointer (some ⟨3, 31, none⟩)]))) : SumsSound Tryz.prog W S53 := SumsSound.add (ss52 hW hmo hg) (.inl hW) hmo ok10
theorem ss54 (hW : 0 < W.heap.size) (hmo : Tryz.prog.follows .mixedOrders = true) (hg : W.cell? ⟨0, 0, none⟩ = some (.iface 153 (.agg #[.pointer (some ⟨3, 31, none⟩)]))) : SumsSound Tryz.prog W S54 := SumsSound.add (ss53 hW hmo hg) (.inl hW) hmo ok82
theorem ss55 (hW : 0 < W.heap.size) (hmo : Tryz.prog.follows .mixedOrders = true) (hg : W.cell? ⟨0, 0, none⟩ = some (.iface 153 (.agg #[.pointer (some ⟨3, 31, none⟩)]))) : SumsSound Tryz.prog W S55 := SumsSound.add (ss54 hW hmo hg) (.inl hW) hmo ok43
theorem ss56 (hW : 0 < W.heap.size) (hmo : Tryz.prog.follows .mixedOrders = true) (hg : W.cell? ⟨0, 0, none⟩ = some (.iface 153 (.agg #[.pointer (some ⟨3, 31, none⟩)]))) : SumsSound Tryz.prog W S56 := SumsSound.add (ss55 hW hmo hg) (.inl hW) hmo ok133
theorem ss57 (hW : 0 < W.heap.size) (hmo : Tryz.prog.follows .mixedOrders = true) (hg : W.cell? ⟨0, 0, none⟩ = some (.iface 153 (.agg #[.pointer (some ⟨3, 31, none⟩)]))) : SumsSound Tryz.prog W S57 := SumsSound.add (ss56 hW hmo hg) (.inl hW) hmo ok85
theorem ss58 (hW : 0 < W.heap.size) (hmo : Tryz.prog.follows .mixedOrders = true) (hg : W.cell? ⟨0, 0, none⟩ = some (.iface 153 (.agg #[.pointer (some ⟨3, 31, none⟩)]))) : SumsSound Tryz.prog W S58 := SumsSound.add (ss57 hW hmo hg) (.inl hW) hmo ok44
theorem ss59 (hW : 0 < W.heap.size) (hmo : Tryz.prog.follows .mixedOrders = true) (hg : W.cell? ⟨0, 0, none⟩ = some (.iface 153 (.agg #[.pointer (some ⟨3, 31, none⟩)]))) : SumsSound Tryz.prog W S59 := SumsSound.add (ss58 hW hmo hg) (.inl hW) hmo ok248
theorem ss60 (hW : 0 < W.heap.size) (hmo : Tryz.prog.follows .mixedOrders = true) (hg : W.cell? ⟨0, 0, none⟩ = some (.iface 153 (.agg #[.pointer (some ⟨3, 31, none⟩)]))) : SumsSound Tryz.prog W S60 := SumsSound.add (ss59 hW hmo hg) (.inl hW) hmo ok203
theorem ss61 (hW : 0 < W.heap.size) (hmo : Tryz.prog.follows .mixedOrders = true) (hg : W.cell? ⟨0, 0, none⟩ = some (.iface 153 (.agg #[.pointer (some ⟨3, 31, none⟩)]))) : SumsSound Tryz.prog W S61 := SumsSound.add (ss60 hW hmo hg) (.inl hW) hmo ok136
theorem ss62 (hW : 0 < W.heap.size) (hmo : Tryz.prog.follows .mixedOrders = true) (hg : W.cell? ⟨0, 0, none⟩ = some (.iface 153 (.agg #[.pointer (some ⟨3, 31, none⟩)]))) : SumsSound Tryz.prog W S62 := SumsSound.add (ss61 hW hmo hg) (.inl hW) hmo ok88
theorem ss63 (hW : 0 < W.heap.size) (hmo : Tryz.prog.follows .mixedOrders = true) (hg : W.cell? ⟨0, 0, none⟩ = some (.iface 153 (.agg #[.pointer (some ⟨3, 31, none⟩)]))) : SumsSound Tryz.prog W S63 := SumsSound.add (ss62 hW hmo hg) (.inl hW) hmo ok89
theorem ss64 (hW : 0 < W.heap.size) (hmo : Tryz.prog.follows .mixedOrders = true) (hg : W.cell? ⟨0, 0, none⟩ = some (.iface 153 (.agg #[.pointer (some ⟨3, 31, none⟩)]))) : SumsSound Tryz.prog W S64 := SumsSound.add (ss63 hW hmo hg) (.inl hW) hmo ok45
theorem ss65 (hW : 0 < W.heap.size) (hmo : Tryz.prog.follows .mixedOrders = true) (hg : W.cell? ⟨0, 0, none⟩ = some (.iface 153 (.agg #[.pointer (some ⟨3, 31, none⟩)]))) : SumsSound Tryz.prog W S65 := SumsSound.add (ss64 hW hmo hg) (.inl hW) hmo ok21
theorem ss66 (hW : 0 < W.heap.size) (hmo : Tryz.prog.follows .mixedOrders = true) (hg : W.cell? ⟨0, 0, none⟩ = some (.iface 153 (.agg #[.pointer (some ⟨3, 31, none⟩)]))) : SumsSound Tryz.prog W S66 := SumsSound.add (ss65 hW hmo hg) (.inl hW) hmo ok93
theorem ss67 (hW : 0 < W.heap.size) (hmo : Tryz.prog.follows .mixedOrders = true) (hg : W.cell? ⟨0, 0, none⟩ = some (.iface 153 (.agg #[.pointer (some ⟨3, 31, none⟩)]))) : SumsSound Tryz.prog W S67 := SumsSound.add (ss66 hW hmo hg) (.inl hW) hmo ok50
theorem ss68 (hW : 0 < W.heap.size) (hmo : Tryz.prog.follows .mixedOrders = true) (hg : W.cell? ⟨0, 0, none⟩ = some (.iface 153 (.agg #[.pointer (some ⟨3, 31, none⟩)]))) : SumsSound Tryz.prog W S68 := SumsSound.add (ss67 hW hmo hg) (.inl hW) hmo ok23
theorem ss69 (hW : 0 < W.heap.size) (hmo : Tryz.prog.follows .mixedOrders = true) (hg : W.cell? ⟨0, 0, none⟩ = some (.iface 153 (.agg #[.pointer (some ⟨3, 31, none⟩)]))) : SumsSound Tryz.prog W S69 := SumsSound.add (ss68 hW hmo hg) (.inl hW) hmo ok24
theorem ss70 (hW : 0 < W.heap.size) (hmo : Tryz.prog.follows .mixedOrders = true) (hg : W.cell? ⟨0, 0, none⟩ = some (.iface 153 (.agg #[.pointer (some ⟨3, 31, none⟩)]))) : SumsSound Tryz.prog W S70 := SumsSound.add (ss69 hW hmo hg) (.inl hW) hmo ok11
noncomputable def S : Sums := S70
theorem ss (hW : 0 < W.heap.size) (hmo : Tryz.prog.follows .mixedOrders = true) (hg : W.cell? ⟨0, 0, none⟩ = some (.iface 153 (.agg #[.pointer (some ⟨3, 31, none⟩)]))) : SumsSound Tryz.prog W S := ss70 hW hmo hg
end Go.Proofs.YthfennkaigbbcaaGreatDoor.Cut
