/-
  PROVED: calls that were run over abstract values, one by one: what each reads, writes, makes and answers. Conditions: the program follows 'mixedOrders'; the world's heap is not empty.
-/
import Derived.Test.YtacmamkpecmboaaGreatDoorZ0
import Derived.Test.YtacmamkpecmboaaGreatDoorZ1
import Derived.Test.YtacmamkpecmboaaGreatDoorZ2
import Derived.Test.YtacmamkpecmboaaGreatDoorZ3
import Derived.Test.YtacmamkpecmboaaGreatDoorZ4
import Derived.Test.YtacmamkpecmboaaGreatDoorZ5
import Derived.Test.YtacmamkpecmboaaGreatDoorZ6
import Derived.Test.YtacmamkpecmboaaGreatDoorZ7
import Derived.Test.YtacmamkpecmboaaGreatDoorZ8
namespace Go.Proofs.YtacmamkpecmboaaGreatDoor.Cut
open Go.X
variable {W : World}
theorem ss0 : SumsSound Tryz.prog W S0 := fun _ _ h => by cases h
theorem ss1 (hW : 0 < W.heap.size) (hmo : Tryz.prog.follows .mixedOrders = true) : SumsSound Tryz.prog W S1 := SumsSound.add (ss0) (.inl hW) hmo ok130
theorem ss2 (hW : 0 < W.heap.size) (hmo : Tryz.prog.follows .mixedOrders = true) : SumsSound Tryz.prog W S2 := SumsSound.add (ss1 hW hmo) (.inl hW) hmo ok107
theorem ss3 (hW : 0 < W.heap.size) (hmo : Tryz.prog.follows .mixedOrders = true) : SumsSound Tryz.prog W S3 := SumsSound.add (ss2 hW hmo) (.inl hW) hmo ok8
theorem ss4 (hW : 0 < W.heap.size) (hmo : Tryz.prog.follows .mixedOrders = true) : SumsSound Tryz.prog W S4 := SumsSound.add (ss3 hW hmo) (.inl hW) hmo ok66
theorem ss5 (hW : 0 < W.heap.size) (hmo : Tryz.prog.follows .mixedOrders = true) : SumsSound Tryz.prog W S5 := SumsSound.add (ss4 hW hmo) (.inl hW) hmo ok46
theorem ss6 (hW : 0 < W.heap.size) (hmo : Tryz.prog.follows .mixedOrders = true) : SumsSound Tryz.prog W S6 := SumsSound.add (ss5 hW hmo) (.inl hW) hmo ok60
theorem ss7 (hW : 0 < W.heap.size) (hmo : Tryz.prog.follows .mixedOrders = true) : SumsSound Tryz.prog W S7 := SumsSound.add (ss6 hW hmo) (.inl hW) hmo ok70
theorem ss8 (hW : 0 < W.heap.size) (hmo : Tryz.prog.follows .mixedOrders = true) : SumsSound Tryz.prog W S8 := SumsSound.add (ss7 hW hmo) (.inl hW) hmo ok109
theorem ss9 (hW : 0 < W.heap.size) (hmo : Tryz.prog.follows .mixedOrders = true) : SumsSound Tryz.prog W S9 := SumsSound.add (ss8 hW hmo) (.inl hW) hmo ok45
theorem ss10 (hW : 0 < W.heap.size) (hmo : Tryz.prog.follows .mixedOrders = true) : SumsSound Tryz.prog W S10 := SumsSound.add (ss9 hW hmo) (.inl hW) hmo ok34
theorem ss11 (hW : 0 < W.heap.size) (hmo : Tryz.prog.follows .mixedOrders = true) : SumsSound Tryz.prog W S11 := SumsSound.add (ss10 hW hmo) (.inl hW) hmo ok21
theorem ss12 (hW : 0 < W.heap.size) (hmo : Tryz.prog.follows .mixedOrders = true) : SumsSound Tryz.prog W S12 := SumsSound.add (ss11 hW hmo) (.inl hW) hmo ok23
theorem ss13 (hW : 0 < W.heap.size) (hmo : Tryz.prog.follows .mixedOrders = true) : SumsSound Tryz.prog W S13 := SumsSound.add (ss12 hW hmo) (.inl hW) hmo ok30
theorem ss14 (hW : 0 < W.heap.size) (hmo : Tryz.prog.follows .mixedOrders = true) : SumsSound Tryz.prog W S14 := SumsSound.add (ss13 hW hmo) (.inl hW) hmo ok27
theorem ss15 (hW : 0 < W.heap.size) (hmo : Tryz.prog.follows .mixedOrders = true) : SumsSound Tryz.prog W S15 := SumsSound.add (ss14 hW hmo) (.inl hW) hmo ok26
theorem ss16 (hW : 0 < W.heap.size) (hmo : Tryz.prog.follows .mixedOrders = true) : SumsSound Tryz.prog W S16 := SumsSound.add (ss15 hW hmo) (.inl hW) hmo ok76
theorem ss17 (hW : 0 < W.heap.size) (hmo : Tryz.prog.follows .mixedOrders = true) : SumsSound Tryz.prog W S17 := SumsSound.add (ss16 hW hmo) (.inl hW) hmo ok32
theorem ss18 (hW : 0 < W.heap.size) (hmo : Tryz.prog.follows .mixedOrders = true) : SumsSound Tryz.prog W S18 := SumsSound.add (ss17 hW hmo) (.inl hW) hmo ok31
theorem ss19 (hW : 0 < W.heap.size) (hmo : Tryz.prog.follows .mixedOrders = true) : SumsSound Tryz.prog W S19 := SumsSound.add (ss18 hW hmo) (.inl hW) hmo ok33
theorem ss20 (hW : 0 < W.heap.size) (hmo : Tryz.prog.follows .mixedOrders = true) : SumsSound Tryz.prog W S20 := SumsSound.add (ss19 hW hmo) (.inl hW) hmo ok25
theorem ss21 (hW : 0 < W.heap.size) (hmo : Tryz.prog.follows .mixedOrders = true) : SumsSound Tryz.prog W S21 := SumsSound.add (ss20 hW hmo) (.inl hW) hmo ok35
theorem ss22 (hW : 0 < W.heap.size) (hmo : Tryz.prog.follows .mixedOrders = true) : SumsSound Tryz.prog W S22 := SumsSound.add (ss21 hW hmo) (.inl hW) hmo ok63
theorem ss23 (hW : 0 < W.heap.size) (hmo : Tryz.prog.follows .mixedOrders = true) : SumsSound Tryz.prog W S23 := SumsSound.add (ss22 hW hmo) (.inl hW) hmo ok28
theorem ss24 (hW : 0 < W.heap.size) (hmo : Tryz.prog.follows .mixedOrders = true) : SumsSound Tryz.prog W S24 := SumsSound.add (ss23 hW hmo) (.inl hW) hmo ok24
theorem ss25 (hW : 0 < W.heap.size) (hmo : Tryz.prog.follows .mixedOrders = true) : SumsSound Tryz.prog W S25 := SumsSound.add (ss24 hW hmo) (.inl hW) hmo ok19
theorem ss26 (hW : 0 < W.heap.size) (hmo : Tryz.prog.follows .mixedOrders = true) : SumsSound Tryz.prog W S26 := SumsSound.add (ss25 hW hmo) (.inl hW) hmo ok6
theorem ss27 (hW : 0 < W.heap.size) (hmo : Tryz.prog.follows .mixedOrders = true) : SumsSound Tryz.prog W S27 := SumsSound.add (ss26 hW hmo) (.inl hW) hmo ok7
theorem ss28 (hW : 0 < W.heap.size) (hmo : Tryz.prog.follows .mixedOrders = true) : SumsSound Tryz.prog W S28 := SumsSound.add (ss27 hW hmo) (.inl hW) hmo ok16
theorem ss29 (hW : 0 < W.heap.size) (hmo : Tryz.prog.follows .mixedOrders = true) : SumsSound Tryz.prog W S29 := SumsSound.add (ss28 hW hmo) (.inl hW) hmo ok17
theorem ss30 (hW : 0 < W.heap.size) (hmo : Tryz.prog.follows .mixedOrders = true) : SumsSound Tryz.prog W S30 := SumsSound.add (ss29 hW hmo) (.inl hW) hmo ok12
theorem ss31 (hW : 0 < W.heap.size) (hmo : Tryz.prog.follows .mixedOrders = true) : SumsSound Tryz.prog W S31 := SumsSound.add (ss30 hW hmo) (.inl hW) hmo ok11
theorem ss32 (hW : 0 < W.heap.size) (hmo : Tryz.prog.follows .mixedOrders = true) : SumsSound Tryz.prog W S32 := SumsSound.add (ss31 hW hmo) (.inl hW) hmo ok13
theorem ss33 (hW : 0 < W.heap.size) (hmo : Tryz.prog.follows .mixedOrders = true) : SumsSound Tryz.prog W S33 := SumsSound.add (ss32 hW hmo) (.inl hW) hmo ok14
noncomputable def S : Sums := S33
theorem ss (hW : 0 < W.heap.size) (hmo : Tryz.prog.follows .mixedOrders = true) : SumsSound Tryz.prog W S := ss33 hW hmo
end Go.Proofs.YtacmamkpecmboaaGreatDoor.Cut
