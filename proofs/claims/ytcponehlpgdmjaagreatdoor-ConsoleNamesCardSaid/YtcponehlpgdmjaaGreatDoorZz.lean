/-
  PROVED: calls that were run over abstract values, one by one: what each reads, writes, makes and answers. Conditions: the program follows 'mixedOrders'; the world's heap is not empty.
-/
import Derived.Test.YtcponehlpgdmjaaGreatDoorZ0
import Derived.Test.YtcponehlpgdmjaaGreatDoorZ1
import Derived.Test.YtcponehlpgdmjaaGreatDoorZ2
import Derived.Test.YtcponehlpgdmjaaGreatDoorZ3
import Derived.Test.YtcponehlpgdmjaaGreatDoorZ4
import Derived.Test.YtcponehlpgdmjaaGreatDoorZ5
import Derived.Test.YtcponehlpgdmjaaGreatDoorZ6
import Derived.Test.YtcponehlpgdmjaaGreatDoorZ7
import Derived.Test.YtcponehlpgdmjaaGreatDoorZ8
import Derived.Test.YtcponehlpgdmjaaGreatDoorZ9
import Derived.Test.YtcponehlpgdmjaaGreatDoorZ10
import Derived.Test.YtcponehlpgdmjaaGreatDoorZ11
namespace Go.Proofs.YtcponehlpgdmjaaGreatDoor.Cut
open Go.X
variable {W : World}
abbrev Hg (W : World) : Prop := W.cell? ⟨1, 0, none⟩ = some (.iface 356 (.agg #[.pointer (some ⟨7, 71, none⟩)]))
theorem ss0  (hg : Hg W) : SumsSound Tryz.prog W S0 := as_sound noSums (Go.Proofs.YtcponehlpgdmjaaGreatDoor.As.facts hg)
theorem ss1 (hW : 0 < W.heap.size) (hmo : Tryz.prog.follows .mixedOrders = true) (hg : Hg W) : SumsSound Tryz.prog W S1 := SumsSound.add (ss0 hg) (.inl hW) hmo ok211
theorem ss2 (hW : 0 < W.heap.size) (hmo : Tryz.prog.follows .mixedOrders = true) (hg : Hg W) : SumsSound Tryz.prog W S2 := SumsSound.add (ss1 hW hmo hg) (.inl hW) hmo ok142
theorem ss3 (hW : 0 < W.heap.size) (hmo : Tryz.prog.follows .mixedOrders = true) (hg : Hg W) : SumsSound Tryz.prog W S3 := SumsSound.add (ss2 hW hmo hg) (.inl hW) hmo ok85
theorem ss4 (hW : 0 < W.heap.size) (hmo : Tryz.prog.follows .mixedOrders = true) (hg : Hg W) : SumsSound Tryz.prog W S4 := SumsSound.add (ss3 hW hmo hg) (.inl hW) hmo ok167
theorem ss5 (hW : 0 < W.heap.size) (hmo : Tryz.prog.follows .mixedOrders = true) (hg : Hg W) : SumsSound Tryz.prog W S5 := SumsSound.add (ss4 hW hmo hg) (.inl hW) hmo ok144
theorem ss6 (hW : 0 < W.heap.size) (hmo : Tryz.prog.follows .mixedOrders = true) (hg : Hg W) : SumsSound Tryz.prog W S6 := SumsSound.add (ss5 hW hmo hg) (.inl hW) hmo ok146
theorem ss7 (hW : 0 < W.heap.size) (hmo : Tryz.prog.follows .mixedOrders = true) (hg : Hg W) : SumsSound Tryz.prog W S7 := SumsSound.add (ss6 hW hmo hg) (.inl hW) hmo ok148
theorem ss8 (hW : 0 < W.heap.size) (hmo : Tryz.prog.follows .mixedOrders = true) (hg : Hg W) : SumsSound Tryz.prog W S8 := SumsSound.add (ss7 hW hmo hg) (.inl hW) hmo ok353
theorem ss9 (hW : 0 < W.heap.size) (hmo : Tryz.prog.follows .mixedOrders = true) (hg : Hg W) : SumsSound Tryz.prog W S9 := SumsSound.add (ss8 hW hmo hg) (.inl hW) hmo ok123
theorem ss10 (hW : 0 < W.heap.size) (hmo : Tryz.prog.follows .mixedOrders = true) (hg : Hg W) : SumsSound Tryz.prog W S10 := SumsSound.add (ss9 hW hmo hg) (.inl hW) hmo ok201
theorem ss11 (hW : 0 < W.heap.size) (hmo : Tryz.prog.follows .mixedOrders = true) (hg : Hg W) : SumsSound Tryz.prog W S11 := SumsSound.add (ss10 hW hmo hg) (.inl hW) hmo ok135
theorem ss12 (hW : 0 < W.heap.size) (hmo : Tryz.prog.follows .mixedOrders = true) (hg : Hg W) : SumsSound Tryz.prog W S12 := SumsSound.add (ss11 hW hmo hg) (.inl hW) hmo ok75
theorem ss13 (hW : 0 < W.heap.size) (hmo : Tryz.prog.follows .mixedOrders = true) (hg : Hg W) : SumsSound Tryz.prog W S13 := SumsSound.add (ss12 hW hmo hg) (.inl hW) hmo ok293
theorem ss14 (hW : 0 < W.heap.size) (hmo : Tryz.prog.follows .mixedOrders = true) (hg : Hg W) : SumsSound Tryz.prog W S14 := SumsSound.add (ss13 hW hmo hg) (.inl hW) hmo ok388
theorem ss15 (hW : 0 < W.heap.size) (hmo : Tryz.prog.follows .mixedOrders = true) (hg : Hg W) : SumsSound Tryz.prog W S15 := SumsSound.add (ss14 hW hmo hg) (.inl hW) hmo ok364
theorem ss16 (hW : 0 < W.heap.size) (hmo : Tryz.prog.follows .mixedOrders = true) (hg : Hg W) : SumsSound Tryz.prog W S16 := SumsSound.add (ss15 hW hmo hg) (.inl hW) hmo ok298
theorem ss17 (hW : 0 < W.heap.size) (hmo : Tryz.prog.follows .mixedOrders = true) (hg : Hg W) : SumsSound Tryz.prog W S17 := SumsSound.add (ss16 hW hmo hg) (.inl hW) hmo ok213
theorem ss18 (hW : 0 < W.heap.size) (hmo : Tryz.prog.follows .mixedOrders = true) (hg : Hg W) : SumsSound Tryz.prog W S18 := SumsSound.add (ss17 hW hmo hg) (.inl hW) hmo ok149
theorem ss19 (hW : 0 < W.heap.size) (hmo : Tryz.prog.follows .mixedOrders = true) (hg : Hg W) : SumsSound Tryz.prog W S19 := SumsSound.add (ss18 hW hmo hg) (.inl hW) hmo ok86
theorem ss20 (hW : 0 < W.heap.size) (hmo : Tryz.prog.follows .mixedOrders = true) (hg : Hg W) : SumsSound Tryz.prog W S20 := SumsSound.add (ss19 hW hmo hg) (.inl hW) hmo ok301
theorem ss21 (hW : 0 < W.heap.size) (hmo : Tryz.prog.follows .mixedOrders = true) (hg : Hg W) : SumsSound Tryz.prog W S21 := SumsSound.add (ss20 hW hmo hg) (.inl hW) hmo ok215
theorem ss22 (hW : 0 < W.heap.size) (hmo : Tryz.prog.follows .mixedOrders = true) (hg : Hg W) : SumsSound Tryz.prog W S22 := SumsSound.add (ss21 hW hmo hg) (.inl hW) hmo ok151
theorem ss23 (hW : 0 < W.heap.size) (hmo : Tryz.prog.follows .mixedOrders = true) (hg : Hg W) : SumsSound Tryz.prog W S23 := SumsSound.add (ss22 hW hmo hg) (.inl hW) hmo ok153
theorem ss24 (hW : 0 < W.heap.size) (hmo : Tryz.prog.follows .mixedOrders = true) (hg : Hg W) : SumsSound Tryz.prog W S24 := SumsSound.add (ss23 hW hmo hg) (.inl hW) hmo ok303
theorem ss25 (hW : 0 < W.heap.size) (hmo : Tryz.prog.follows .mixedOrders = true) (hg : Hg W) : SumsSound Tryz.prog W S25 := SumsSound.add (ss24 hW hmo hg) (.inl hW) hmo ok217
theorem ss26 (hW : 0 < W.heap.size) (hmo : Tryz.prog.follows .mixedOrders = true) (hg : Hg W) : SumsSound Tryz.prog W S26 := SumsSound.add (ss25 hW hmo hg) (.inl hW) hmo ok154
theorem ss27 (hW : 0 < W.heap.size) (hmo : Tryz.prog.follows .mixedOrders = true) (hg : Hg W) : SumsSound Tryz.prog W S27 := SumsSound.add (ss26 hW hmo hg) (.inl hW) hmo ok88
theorem ss28 (hW : 0 < W.heap.size) (hmo : Tryz.prog.follows .mixedOrders = true) (hg : Hg W) : SumsSound Tryz.prog W S28 := SumsSound.add (ss27 hW hmo hg) (.inl hW) hmo ok156
theorem ss29 (hW : 0 < W.heap.size) (hmo : Tryz.prog.follows .mixedOrders = true) (hg : Hg W) : SumsSound Tryz.prog W S29 := SumsSound.add (ss28 hW hmo hg) (.inl hW) hmo ok157
theorem ss30 (hW : 0 < W.heap.size) (hmo : Tryz.prog.follows .mixedOrders = true) (hg : Hg W) : SumsSound Tryz.prog W S30 := SumsSound.add (ss29 hW hmo hg) (.inl hW) hmo ok89
theorem ss31 (hW : 0 < W.heap.size) (hmo : Tryz.prog.follows .mixedOrders = true) (hg : Hg W) : SumsSound Tryz.prog W S31 := SumsSound.add (ss30 hW hmo hg) (.inl hW) hmo ok45
theorem ss32 (hW : 0 < W.heap.size) (hmo : Tryz.prog.follows .mixedOrders = true) (hg : Hg W) : SumsSound Tryz.prog W S32 := SumsSound.add (ss31 hW hmo hg) (.inl hW) hmo ok46
theorem ss33 (hW : 0 < W.heap.size) (hmo : Tryz.prog.follows .mixedOrders = true) (hg : Hg W) : SumsSound Tryz.prog W S33 := SumsSound.add (ss32 hW hmo hg) (.inl hW) hmo ok16
theorem ss34 (hW : 0 < W.heap.size) (hmo : Tryz.prog.follows .mixedOrders = true) (hg : Hg W) : SumsSound Tryz.prog W S34 := SumsSound.add (ss33 hW hmo hg) (.inl hW) hmo ok227
theorem ss35 (hW : 0 < W.heap.size) (hmo : Tryz.prog.follows .mixedOrders = true) (hg : Hg W) : SumsSound Tryz.prog W S35 := SumsSound.add (ss34 hW hmo hg) (.inl hW) hmo ok306
theorem ss36 (hW : 0 < W.heap.size) (hmo : Tryz.prog.follows .mixedOrders = true) (hg : Hg W) : SumsSound Tryz.prog W S36 := SumsSound.add (ss35 hW hmo hg) (.inl hW) hmo ok228
theorem ss37 (hW : 0 < W.heap.size) (hmo : Tryz.prog.follows .mixedOrders = true) (hg : Hg W) : SumsSound Tryz.prog W S37 := SumsSound.add (ss36 hW hmo hg) (.inl hW) hmo ok255
theorem ss38 (hW : 0 < W.heap.size) (hmo : Tryz.prog.follows .mixedOrders = true) (hg : Hg W) : SumsSound Tryz.prog W S38 := SumsSound.add (ss37 hW hmo hg) (.inl hW) hmo ok98
theorem ss39 (hW : 0 < W.heap.size) (hmo : Tryz.prog.follows .mixedOrders = true) (hg : Hg W) : SumsSound Tryz.prog W S39 := SumsSound.add (ss38 hW hmo hg) (.inl hW) hmo ok52
theorem ss40 (hW : 0 < W.heap.size) (hmo : Tryz.prog.follows .mixedOrders = true) (hg : Hg W) : SumsSound Tryz.prog W S40 := SumsSound.add (ss39 hW hmo hg) (.inl hW) hmo ok19
theorem ss41 (hW : 0 < W.heap.size) (hmo : Tryz.prog.follows .mixedOrders = true) (hg : Hg W) : SumsSound Tryz.prog W S41 := SumsSound.add (ss40 hW hmo hg) (.inl hW) hmo ok55
theorem ss42 (hW : 0 < W.heap.size) (hmo : Tryz.prog.follows .mixedOrders = true) (hg : Hg W) : SumsSound Tryz.prog W S42 := SumsSound.add (ss41 hW hmo hg) (.inl hW) hmo ok22
theorem ss43 (hW : 0 < W.heap.size) (hmo : Tryz.prog.follows .mixedOrders = true) (hg : Hg W) : SumsSound Tryz.prog W S43 := SumsSound.add (ss42 hW hmo hg) (.inl hW) hmo ok393
theorem ss44 (hW : 0 < W.heap.size) (hmo : Tryz.prog.follows .mixedOrders = true) (hg : Hg W) : SumsSound Tryz.prog W S44 := SumsSound.add (ss43 hW hmo hg) (.inl hW) hmo ok372
theorem ss45 (hW : 0 < W.heap.size) (hmo : Tryz.prog.follows .mixedOrders = true) (hg : Hg W) : SumsSound Tryz.prog W S45 := SumsSound.add (ss44 hW hmo hg) (.inl hW) hmo ok398
theorem ss46 (hW : 0 < W.heap.size) (hmo : Tryz.prog.follows .mixedOrders = true) (hg : Hg W) : SumsSound Tryz.prog W S46 := SumsSound.add (ss45 hW hmo hg) (.inl hW) hmo ok374
theorem ss47 (hW : 0 < W.heap.size) (hmo : Tryz.prog.follows .mixedOrders = true) (hg : Hg W) : SumsSound Tryz.prog W S47 := SumsSound.add (ss46 hW hmo hg) (.inl hW) hmo ok10
theorem ss48 (hW : 0 < W.heap.size) (hmo : Tryz.prog.follows .mixedOrders = true) (hg : Hg W) : SumsSound Tryz.prog W S48 := SumsSound.add (ss47 hW hmo hg) (.inl hW) hmo ok80
theorem ss49 (hW : 0 < W.heap.size) (hmo : Tryz.prog.follows .mixedOrders = true) (hg : Hg W) : SumsSound Tryz.prog W S49 := SumsSound.add (ss48 hW hmo hg) (.inl hW) hmo ok77
theorem ss50 (hW : 0 < W.heap.size) (hmo : Tryz.prog.follows .mixedOrders = true) (hg : Hg W) : SumsSound Tryz.prog W S50 := SumsSound.add (ss49 hW hmo hg) (.inl hW) hmo ok41
noncomputable def S : Sums := S50
theorem ss (hW : 0 < W.heap.size) (hmo : Tryz.prog.follows .mixedOrders = true) (hg : Hg W) : SumsSound Tryz.prog W S := ss50 hW hmo hg
end Go.Proofs.YtcponehlpgdmjaaGreatDoor.Cut
