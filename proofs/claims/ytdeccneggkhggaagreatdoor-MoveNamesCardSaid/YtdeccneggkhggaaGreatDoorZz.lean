/-
  PROVED: calls that were run over abstract values, one by one: what each reads, writes, makes and answers. Conditions: the program follows 'mixedOrders'; the world's heap is not empty.
-/
import Derived.Test.YtdeccneggkhggaaGreatDoorZ0
import Derived.Test.YtdeccneggkhggaaGreatDoorZ1
import Derived.Test.YtdeccneggkhggaaGreatDoorZ2
import Derived.Test.YtdeccneggkhggaaGreatDoorZ3
import Derived.Test.YtdeccneggkhggaaGreatDoorZ4
import Derived.Test.YtdeccneggkhggaaGreatDoorZ5
import Derived.Test.YtdeccneggkhggaaGreatDoorZ6
import Derived.Test.YtdeccneggkhggaaGreatDoorZ7
import Derived.Test.YtdeccneggkhggaaGreatDoorZ8
import Derived.Test.YtdeccneggkhggaaGreatDoorZ9
import Derived.Test.YtdeccneggkhggaaGreatDoorZ10
import Derived.Test.YtdeccneggkhggaaGreatDoorZ11
import Derived.Test.YtdeccneggkhggaaGreatDoorZ12
import Derived.Test.YtdeccneggkhggaaGreatDoorZ13
import Derived.Test.YtdeccneggkhggaaGreatDoorZ14
import Derived.Test.YtdeccneggkhggaaGreatDoorZ15
namespace Go.Proofs.YtdeccneggkhggaaGreatDoor.Cut
open Go.X
variable {W : World}
abbrev Hg (W : World) : Prop := W.cell? ⟨0, 0, none⟩ = some (.iface 219 (.agg #[.pointer (some ⟨3, 49, none⟩)]))
theorem ss0  (hg : Hg W) : SumsSound Tryz.prog W S0 := as_sound noSums (Go.Proofs.YtdeccneggkhggaaGreatDoor.As.facts hg)
theorem ss1 (hW : 0 < W.heap.size) (hmo : Tryz.prog.follows .mixedOrders = true) (hg : Hg W) : SumsSound Tryz.prog W S1 := SumsSound.add (ss0 hg) (.inl hW) hmo ok63
theorem ss2 (hW : 0 < W.heap.size) (hmo : Tryz.prog.follows .mixedOrders = true) (hg : Hg W) : SumsSound Tryz.prog W S2 := SumsSound.add (ss1 hW hmo hg) (.inl hW) hmo ok30
theorem ss3 (hW : 0 < W.heap.size) (hmo : Tryz.prog.follows .mixedOrders = true) (hg : Hg W) : SumsSound Tryz.prog W S3 := SumsSound.add (ss2 hW hmo hg) (.inl hW) hmo ok88
theorem ss4 (hW : 0 < W.heap.size) (hmo : Tryz.prog.follows .mixedOrders = true) (hg : Hg W) : SumsSound Tryz.prog W S4 := SumsSound.add (ss3 hW hmo hg) (.inl hW) hmo ok207
theorem ss5 (hW : 0 < W.heap.size) (hmo : Tryz.prog.follows .mixedOrders = true) (hg : Hg W) : SumsSound Tryz.prog W S5 := SumsSound.add (ss4 hW hmo hg) (.inl hW) hmo ok137
theorem ss6 (hW : 0 < W.heap.size) (hmo : Tryz.prog.follows .mixedOrders = true) (hg : Hg W) : SumsSound Tryz.prog W S6 := SumsSound.add (ss5 hW hmo hg) (.inl hW) hmo ok89
theorem ss7 (hW : 0 < W.heap.size) (hmo : Tryz.prog.follows .mixedOrders = true) (hg : Hg W) : SumsSound Tryz.prog W S7 := SumsSound.add (ss6 hW hmo hg) (.inl hW) hmo ok41
theorem ss8 (hW : 0 < W.heap.size) (hmo : Tryz.prog.follows .mixedOrders = true) (hg : Hg W) : SumsSound Tryz.prog W S8 := SumsSound.add (ss7 hW hmo hg) (.inl hW) hmo ok309
theorem ss9 (hW : 0 < W.heap.size) (hmo : Tryz.prog.follows .mixedOrders = true) (hg : Hg W) : SumsSound Tryz.prog W S9 := SumsSound.add (ss8 hW hmo hg) (.inl hW) hmo ok247
theorem ss10 (hW : 0 < W.heap.size) (hmo : Tryz.prog.follows .mixedOrders = true) (hg : Hg W) : SumsSound Tryz.prog W S10 := SumsSound.add (ss9 hW hmo hg) (.inl hW) hmo ok125
theorem ss11 (hW : 0 < W.heap.size) (hmo : Tryz.prog.follows .mixedOrders = true) (hg : Hg W) : SumsSound Tryz.prog W S11 := SumsSound.add (ss10 hW hmo hg) (.inl hW) hmo ok191
theorem ss12 (hW : 0 < W.heap.size) (hmo : Tryz.prog.follows .mixedOrders = true) (hg : Hg W) : SumsSound Tryz.prog W S12 := SumsSound.add (ss11 hW hmo hg) (.inl hW) hmo ok126
theorem ss13 (hW : 0 < W.heap.size) (hmo : Tryz.prog.follows .mixedOrders = true) (hg : Hg W) : SumsSound Tryz.prog W S13 := SumsSound.add (ss12 hW hmo hg) (.inl hW) hmo ok78
theorem ss14 (hW : 0 < W.heap.size) (hmo : Tryz.prog.follows .mixedOrders = true) (hg : Hg W) : SumsSound Tryz.prog W S14 := SumsSound.add (ss13 hW hmo hg) (.inl hW) hmo ok48
theorem ss15 (hW : 0 < W.heap.size) (hmo : Tryz.prog.follows .mixedOrders = true) (hg : Hg W) : SumsSound Tryz.prog W S15 := SumsSound.add (ss14 hW hmo hg) (.inl hW) hmo ok250
theorem ss16 (hW : 0 < W.heap.size) (hmo : Tryz.prog.follows .mixedOrders = true) (hg : Hg W) : SumsSound Tryz.prog W S16 := SumsSound.add (ss15 hW hmo hg) (.inl hW) hmo ok193
theorem ss17 (hW : 0 < W.heap.size) (hmo : Tryz.prog.follows .mixedOrders = true) (hg : Hg W) : SumsSound Tryz.prog W S17 := SumsSound.add (ss16 hW hmo hg) (.inl hW) hmo ok233
theorem ss18 (hW : 0 < W.heap.size) (hmo : Tryz.prog.follows .mixedOrders = true) (hg : Hg W) : SumsSound Tryz.prog W S18 := SumsSound.add (ss17 hW hmo hg) (.inl hW) hmo ok160
theorem ss19 (hW : 0 < W.heap.size) (hmo : Tryz.prog.follows .mixedOrders = true) (hg : Hg W) : SumsSound Tryz.prog W S19 := SumsSound.add (ss18 hW hmo hg) (.inl hW) hmo ok99
theorem ss20 (hW : 0 < W.heap.size) (hmo : Tryz.prog.follows .mixedOrders = true) (hg : Hg W) : SumsSound Tryz.prog W S20 := SumsSound.add (ss19 hW hmo hg) (.inl hW) hmo ok210
theorem ss21 (hW : 0 < W.heap.size) (hmo : Tryz.prog.follows .mixedOrders = true) (hg : Hg W) : SumsSound Tryz.prog W S21 := SumsSound.add (ss20 hW hmo hg) (.inl hW) hmo ok146
theorem ss22 (hW : 0 < W.heap.size) (hmo : Tryz.prog.follows .mixedOrders = true) (hg : Hg W) : SumsSound Tryz.prog W S22 := SumsSound.add (ss21 hW hmo hg) (.inl hW) hmo ok264
theorem ss23 (hW : 0 < W.heap.size) (hmo : Tryz.prog.follows .mixedOrders = true) (hg : Hg W) : SumsSound Tryz.prog W S23 := SumsSound.add (ss22 hW hmo hg) (.inl hW) hmo ok213
theorem ss24 (hW : 0 < W.heap.size) (hmo : Tryz.prog.follows .mixedOrders = true) (hg : Hg W) : SumsSound Tryz.prog W S24 := SumsSound.add (ss23 hW hmo hg) (.inl hW) hmo ok214
theorem ss25 (hW : 0 < W.heap.size) (hmo : Tryz.prog.follows .mixedOrders = true) (hg : Hg W) : SumsSound Tryz.prog W S25 := SumsSound.add (ss24 hW hmo hg) (.inl hW) hmo ok285
theorem ss26 (hW : 0 < W.heap.size) (hmo : Tryz.prog.follows .mixedOrders = true) (hg : Hg W) : SumsSound Tryz.prog W S26 := SumsSound.add (ss25 hW hmo hg) (.inl hW) hmo ok223
theorem ss27 (hW : 0 < W.heap.size) (hmo : Tryz.prog.follows .mixedOrders = true) (hg : Hg W) : SumsSound Tryz.prog W S27 := SumsSound.add (ss26 hW hmo hg) (.inl hW) hmo ok152
theorem ss28 (hW : 0 < W.heap.size) (hmo : Tryz.prog.follows .mixedOrders = true) (hg : Hg W) : SumsSound Tryz.prog W S28 := SumsSound.add (ss27 hW hmo hg) (.inl hW) hmo ok271
theorem ss29 (hW : 0 < W.heap.size) (hmo : Tryz.prog.follows .mixedOrders = true) (hg : Hg W) : SumsSound Tryz.prog W S29 := SumsSound.add (ss28 hW hmo hg) (.inl hW) hmo ok215
theorem ss30 (hW : 0 < W.heap.size) (hmo : Tryz.prog.follows .mixedOrders = true) (hg : Hg W) : SumsSound Tryz.prog W S30 := SumsSound.add (ss29 hW hmo hg) (.inl hW) hmo ok392
theorem ss31 (hW : 0 < W.heap.size) (hmo : Tryz.prog.follows .mixedOrders = true) (hg : Hg W) : SumsSound Tryz.prog W S31 := SumsSound.add (ss30 hW hmo hg) (.inl hW) hmo ok45
theorem ss32 (hW : 0 < W.heap.size) (hmo : Tryz.prog.follows .mixedOrders = true) (hg : Hg W) : SumsSound Tryz.prog W S32 := SumsSound.add (ss31 hW hmo hg) (.inl hW) hmo ok83
theorem ss33 (hW : 0 < W.heap.size) (hmo : Tryz.prog.follows .mixedOrders = true) (hg : Hg W) : SumsSound Tryz.prog W S33 := SumsSound.add (ss32 hW hmo hg) (.inl hW) hmo ok129
theorem ss34 (hW : 0 < W.heap.size) (hmo : Tryz.prog.follows .mixedOrders = true) (hg : Hg W) : SumsSound Tryz.prog W S34 := SumsSound.add (ss33 hW hmo hg) (.inl hW) hmo ok84
theorem ss35 (hW : 0 < W.heap.size) (hmo : Tryz.prog.follows .mixedOrders = true) (hg : Hg W) : SumsSound Tryz.prog W S35 := SumsSound.add (ss34 hW hmo hg) (.inl hW) hmo ok198
theorem ss36 (hW : 0 < W.heap.size) (hmo : Tryz.prog.follows .mixedOrders = true) (hg : Hg W) : SumsSound Tryz.prog W S36 := SumsSound.add (ss35 hW hmo hg) (.inl hW) hmo ok130
theorem ss37 (hW : 0 < W.heap.size) (hmo : Tryz.prog.follows .mixedOrders = true) (hg : Hg W) : SumsSound Tryz.prog W S37 := SumsSound.add (ss36 hW hmo hg) (.inl hW) hmo ok201
theorem ss38 (hW : 0 < W.heap.size) (hmo : Tryz.prog.follows .mixedOrders = true) (hg : Hg W) : SumsSound Tryz.prog W S38 := SumsSound.add (ss37 hW hmo hg) (.inl hW) hmo ok131
theorem ss39 (hW : 0 < W.heap.size) (hmo : Tryz.prog.follows .mixedOrders = true) (hg : Hg W) : SumsSound Tryz.prog W S39 := SumsSound.add (ss38 hW hmo hg) (.inl hW) hmo ok85
theorem ss40 (hW : 0 < W.heap.size) (hmo : Tryz.prog.follows .mixedOrders = true) (hg : Hg W) : SumsSound Tryz.prog W S40 := SumsSound.add (ss39 hW hmo hg) (.inl hW) hmo ok86
theorem ss41 (hW : 0 < W.heap.size) (hmo : Tryz.prog.follows .mixedOrders = true) (hg : Hg W) : SumsSound Tryz.prog W S41 := SumsSound.add (ss40 hW hmo hg) (.inl hW) hmo ok47
theorem ss42 (hW : 0 < W.heap.size) (hmo : Tryz.prog.follows .mixedOrders = true) (hg : Hg W) : SumsSound Tryz.prog W S42 := SumsSound.add (ss41 hW hmo hg) (.inl hW) hmo ok71
theorem ss43 (hW : 0 < W.heap.size) (hmo : Tryz.prog.follows .mixedOrders = true) (hg : Hg W) : SumsSound Tryz.prog W S43 := SumsSound.add (ss42 hW hmo hg) (.inl hW) hmo ok242
theorem ss44 (hW : 0 < W.heap.size) (hmo : Tryz.prog.follows .mixedOrders = true) (hg : Hg W) : SumsSound Tryz.prog W S44 := SumsSound.add (ss43 hW hmo hg) (.inl hW) hmo ok179
theorem ss45 (hW : 0 < W.heap.size) (hmo : Tryz.prog.follows .mixedOrders = true) (hg : Hg W) : SumsSound Tryz.prog W S45 := SumsSound.add (ss44 hW hmo hg) (.inl hW) hmo ok181
theorem ss46 (hW : 0 < W.heap.size) (hmo : Tryz.prog.follows .mixedOrders = true) (hg : Hg W) : SumsSound Tryz.prog W S46 := SumsSound.add (ss45 hW hmo hg) (.inl hW) hmo ok230
theorem ss47 (hW : 0 < W.heap.size) (hmo : Tryz.prog.follows .mixedOrders = true) (hg : Hg W) : SumsSound Tryz.prog W S47 := SumsSound.add (ss46 hW hmo hg) (.inl hW) hmo ok157
theorem ss48 (hW : 0 < W.heap.size) (hmo : Tryz.prog.follows .mixedOrders = true) (hg : Hg W) : SumsSound Tryz.prog W S48 := SumsSound.add (ss47 hW hmo hg) (.inl hW) hmo ok119
theorem ss49 (hW : 0 < W.heap.size) (hmo : Tryz.prog.follows .mixedOrders = true) (hg : Hg W) : SumsSound Tryz.prog W S49 := SumsSound.add (ss48 hW hmo hg) (.inl hW) hmo ok43
theorem ss50 (hW : 0 < W.heap.size) (hmo : Tryz.prog.follows .mixedOrders = true) (hg : Hg W) : SumsSound Tryz.prog W S50 := SumsSound.add (ss49 hW hmo hg) (.inl hW) hmo ok77
theorem ss51 (hW : 0 < W.heap.size) (hmo : Tryz.prog.follows .mixedOrders = true) (hg : Hg W) : SumsSound Tryz.prog W S51 := SumsSound.add (ss50 hW hmo hg) (.inl hW) hmo ok44
theorem ss52 (hW : 0 < W.heap.size) (hmo : Tryz.prog.follows .mixedOrders = true) (hg : Hg W) : SumsSound Tryz.prog W S52 := SumsSound.add (ss51 hW hmo hg) (.inl hW) hmo ok17
theorem ss53 (hW : 0 < W.heap.size) (hmo : Tryz.prog.follows .mixedOrders = true) (hg : Hg W) : SumsSound Tryz.prog W S53 := SumsSound.add (ss52 hW hmo hg) (.inl hW) hmo ok64
theorem ss54 (hW : 0 < W.heap.size) (hmo : Tryz.prog.follows .mixedOrders = true) (hg : Hg W) : SumsSound Tryz.prog W S54 := SumsSound.add (ss53 hW hmo hg) (.inl hW) hmo ok65
theorem ss55 (hW : 0 < W.heap.size) (hmo : Tryz.prog.follows .mixedOrders = true) (hg : Hg W) : SumsSound Tryz.prog W S55 := SumsSound.add (ss54 hW hmo hg) (.inl hW) hmo ok35
theorem ss56 (hW : 0 < W.heap.size) (hmo : Tryz.prog.follows .mixedOrders = true) (hg : Hg W) : SumsSound Tryz.prog W S56 := SumsSound.add (ss55 hW hmo hg) (.inl hW) hmo ok39
theorem ss57 (hW : 0 < W.heap.size) (hmo : Tryz.prog.follows .mixedOrders = true) (hg : Hg W) : SumsSound Tryz.prog W S57 := SumsSound.add (ss56 hW hmo hg) (.inl hW) hmo ok15
theorem ss58 (hW : 0 < W.heap.size) (hmo : Tryz.prog.follows .mixedOrders = true) (hg : Hg W) : SumsSound Tryz.prog W S58 := SumsSound.add (ss57 hW hmo hg) (.inl hW) hmo ok7
theorem ss59 (hW : 0 < W.heap.size) (hmo : Tryz.prog.follows .mixedOrders = true) (hg : Hg W) : SumsSound Tryz.prog W S59 := SumsSound.add (ss58 hW hmo hg) (.inl hW) hmo ok12
noncomputable def S : Sums := S59
theorem ss (hW : 0 < W.heap.size) (hmo : Tryz.prog.follows .mixedOrders = true) (hg : Hg W) : SumsSound Tryz.prog W S := ss59 hW hmo hg
end Go.Proofs.YtdeccneggkhggaaGreatDoor.Cut
