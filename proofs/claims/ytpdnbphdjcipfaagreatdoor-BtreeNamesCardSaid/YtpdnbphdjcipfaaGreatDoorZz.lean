/-
  PROVED: calls that were run over abstract values, one by one: what each reads, writes, makes and answers. Conditions: the program follows 'mixedOrders'; the world's heap is not empty.
-/
import Derived.Test.YtpdnbphdjcipfaaGreatDoorZ0
import Derived.Test.YtpdnbphdjcipfaaGreatDoorZ1
import Derived.Test.YtpdnbphdjcipfaaGreatDoorZ2
import Derived.Test.YtpdnbphdjcipfaaGreatDoorZ3
import Derived.Test.YtpdnbphdjcipfaaGreatDoorZ4
import Derived.Test.YtpdnbphdjcipfaaGreatDoorZ5
import Derived.Test.YtpdnbphdjcipfaaGreatDoorZ6
import Derived.Test.YtpdnbphdjcipfaaGreatDoorZ7
import Derived.Test.YtpdnbphdjcipfaaGreatDoorZ8
import Derived.Test.YtpdnbphdjcipfaaGreatDoorZ9
import Derived.Test.YtpdnbphdjcipfaaGreatDoorZ10
import Derived.Test.YtpdnbphdjcipfaaGreatDoorZ11
import Derived.Test.YtpdnbphdjcipfaaGreatDoorZ12
import Derived.Test.YtpdnbphdjcipfaaGreatDoorZ13
import Derived.Test.YtpdnbphdjcipfaaGreatDoorZ14
import Derived.Test.YtpdnbphdjcipfaaGreatDoorZ15
import Derived.Test.YtpdnbphdjcipfaaGreatDoorZ16
import Derived.Test.YtpdnbphdjcipfaaGreatDoorZ17
import Derived.Test.YtpdnbphdjcipfaaGreatDoorZ18
import Derived.Test.YtpdnbphdjcipfaaGreatDoorZ19
import Derived.Test.YtpdnbphdjcipfaaGreatDoorZ20
import Derived.Test.YtpdnbphdjcipfaaGreatDoorZ21
import Derived.Test.YtpdnbphdjcipfaaGreatDoorZ22
import Derived.Test.YtpdnbphdjcipfaaGreatDoorZ23
import Derived.Test.YtpdnbphdjcipfaaGreatDoorZ24
import Derived.Test.YtpdnbphdjcipfaaGreatDoorZ25
namespace Go.Proofs.YtpdnbphdjcipfaaGreatDoor.Cut
open Go.X
variable {W : World}
theorem ss0 : SumsSound Tryz.prog W S0 := fun _ _ h => by cases h
theorem ss1 (hW : 0 < W.heap.size) (hmo : Tryz.prog.follows .mixedOrders = true) : SumsSound Tryz.prog W S1 := SumsSound.add (ss0) (.inl hW) hmo ok144
theorem ss2 (hW : 0 < W.heap.size) (hmo : Tryz.prog.follows .mixedOrders = true) : SumsSound Tryz.prog W S2 := SumsSound.add (ss1 hW hmo) (.inl hW) hmo ok153
theorem ss3 (hW : 0 < W.heap.size) (hmo : Tryz.prog.follows .mixedOrders = true) : SumsSound Tryz.prog W S3 := SumsSound.add (ss2 hW hmo) (.inl hW) hmo ok148
theorem ss4 (hW : 0 < W.heap.size) (hmo : Tryz.prog.follows .mixedOrders = true) : SumsSound Tryz.prog W S4 := SumsSound.add (ss3 hW hmo) (.inl hW) hmo ok103
theorem ss5 (hW : 0 < W.heap.size) (hmo : Tryz.prog.follows .mixedOrders = true) : SumsSound Tryz.prog W S5 := SumsSound.add (ss4 hW hmo) (.inl hW) hmo ok99
theorem ss6 (hW : 0 < W.heap.size) (hmo : Tryz.prog.follows .mixedOrders = true) : SumsSound Tryz.prog W S6 := SumsSound.add (ss5 hW hmo) (.inl hW) hmo ok48
theorem ss7 (hW : 0 < W.heap.size) (hmo : Tryz.prog.follows .mixedOrders = true) : SumsSound Tryz.prog W S7 := SumsSound.add (ss6 hW hmo) (.inl hW) hmo ok78
theorem ss8 (hW : 0 < W.heap.size) (hmo : Tryz.prog.follows .mixedOrders = true) : SumsSound Tryz.prog W S8 := SumsSound.add (ss7 hW hmo) (.inl hW) hmo ok162
theorem ss9 (hW : 0 < W.heap.size) (hmo : Tryz.prog.follows .mixedOrders = true) : SumsSound Tryz.prog W S9 := SumsSound.add (ss8 hW hmo) (.inl hW) hmo ok121
theorem ss10 (hW : 0 < W.heap.size) (hmo : Tryz.prog.follows .mixedOrders = true) : SumsSound Tryz.prog W S10 := SumsSound.add (ss9 hW hmo) (.inl hW) hmo ok49
theorem ss11 (hW : 0 < W.heap.size) (hmo : Tryz.prog.follows .mixedOrders = true) : SumsSound Tryz.prog W S11 := SumsSound.add (ss10 hW hmo) (.inl hW) hmo ok20
theorem ss12 (hW : 0 < W.heap.size) (hmo : Tryz.prog.follows .mixedOrders = true) : SumsSound Tryz.prog W S12 := SumsSound.add (ss11 hW hmo) (.inl hW) hmo ok147
theorem ss13 (hW : 0 < W.heap.size) (hmo : Tryz.prog.follows .mixedOrders = true) : SumsSound Tryz.prog W S13 := SumsSound.add (ss12 hW hmo) (.inl hW) hmo ok101
theorem ss14 (hW : 0 < W.heap.size) (hmo : Tryz.prog.follows .mixedOrders = true) : SumsSound Tryz.prog W S14 := SumsSound.add (ss13 hW hmo) (.inl hW) hmo ok100
theorem ss15 (hW : 0 < W.heap.size) (hmo : Tryz.prog.follows .mixedOrders = true) : SumsSound Tryz.prog W S15 := SumsSound.add (ss14 hW hmo) (.inl hW) hmo ok64
theorem ss16 (hW : 0 < W.heap.size) (hmo : Tryz.prog.follows .mixedOrders = true) : SumsSound Tryz.prog W S16 := SumsSound.add (ss15 hW hmo) (.inl hW) hmo ok41
theorem ss17 (hW : 0 < W.heap.size) (hmo : Tryz.prog.follows .mixedOrders = true) : SumsSound Tryz.prog W S17 := SumsSound.add (ss16 hW hmo) (.inl hW) hmo ok42
theorem ss18 (hW : 0 < W.heap.size) (hmo : Tryz.prog.follows .mixedOrders = true) : SumsSound Tryz.prog W S18 := SumsSound.add (ss17 hW hmo) (.inl hW) hmo ok16
theorem ss19 (hW : 0 < W.heap.size) (hmo : Tryz.prog.follows .mixedOrders = true) : SumsSound Tryz.prog W S19 := SumsSound.add (ss18 hW hmo) (.inl hW) hmo ok38
theorem ss20 (hW : 0 < W.heap.size) (hmo : Tryz.prog.follows .mixedOrders = true) : SumsSound Tryz.prog W S20 := SumsSound.add (ss19 hW hmo) (.inl hW) hmo ok17
theorem ss21 (hW : 0 < W.heap.size) (hmo : Tryz.prog.follows .mixedOrders = true) : SumsSound Tryz.prog W S21 := SumsSound.add (ss20 hW hmo) (.inl hW) hmo ok24
theorem ss22 (hW : 0 < W.heap.size) (hmo : Tryz.prog.follows .mixedOrders = true) : SumsSound Tryz.prog W S22 := SumsSound.add (ss21 hW hmo) (.inl hW) hmo ok92
theorem ss23 (hW : 0 < W.heap.size) (hmo : Tryz.prog.follows .mixedOrders = true) : SumsSound Tryz.prog W S23 := SumsSound.add (ss22 hW hmo) (.inl hW) hmo ok61
theorem ss24 (hW : 0 < W.heap.size) (hmo : Tryz.prog.follows .mixedOrders = true) : SumsSound Tryz.prog W S24 := SumsSound.add (ss23 hW hmo) (.inl hW) hmo ok31
theorem ss25 (hW : 0 < W.heap.size) (hmo : Tryz.prog.follows .mixedOrders = true) : SumsSound Tryz.prog W S25 := SumsSound.add (ss24 hW hmo) (.inl hW) hmo ok12
theorem ss26 (hW : 0 < W.heap.size) (hmo : Tryz.prog.follows .mixedOrders = true) : SumsSound Tryz.prog W S26 := SumsSound.add (ss25 hW hmo) (.inl hW) hmo ok66
theorem ss27 (hW : 0 < W.heap.size) (hmo : Tryz.prog.follows .mixedOrders = true) : SumsSound Tryz.prog W S27 := SumsSound.add (ss26 hW hmo) (.inl hW) hmo ok152
theorem ss28 (hW : 0 < W.heap.size) (hmo : Tryz.prog.follows .mixedOrders = true) : SumsSound Tryz.prog W S28 := SumsSound.add (ss27 hW hmo) (.inl hW) hmo ok105
theorem ss29 (hW : 0 < W.heap.size) (hmo : Tryz.prog.follows .mixedOrders = true) : SumsSound Tryz.prog W S29 := SumsSound.add (ss28 hW hmo) (.inl hW) hmo ok113
theorem ss30 (hW : 0 < W.heap.size) (hmo : Tryz.prog.follows .mixedOrders = true) : SumsSound Tryz.prog W S30 := SumsSound.add (ss29 hW hmo) (.inl hW) hmo ok115
theorem ss31 (hW : 0 < W.heap.size) (hmo : Tryz.prog.follows .mixedOrders = true) : SumsSound Tryz.prog W S31 := SumsSound.add (ss30 hW hmo) (.inl hW) hmo ok65
theorem ss32 (hW : 0 < W.heap.size) (hmo : Tryz.prog.follows .mixedOrders = true) : SumsSound Tryz.prog W S32 := SumsSound.add (ss31 hW hmo) (.inl hW) hmo ok160
theorem ss33 (hW : 0 < W.heap.size) (hmo : Tryz.prog.follows .mixedOrders = true) : SumsSound Tryz.prog W S33 := SumsSound.add (ss32 hW hmo) (.inl hW) hmo ok159
theorem ss34 (hW : 0 < W.heap.size) (hmo : Tryz.prog.follows .mixedOrders = true) : SumsSound Tryz.prog W S34 := SumsSound.add (ss33 hW hmo) (.inl hW) hmo ok117
theorem ss35 (hW : 0 < W.heap.size) (hmo : Tryz.prog.follows .mixedOrders = true) : SumsSound Tryz.prog W S35 := SumsSound.add (ss34 hW hmo) (.inl hW) hmo ok75
theorem ss36 (hW : 0 < W.heap.size) (hmo : Tryz.prog.follows .mixedOrders = true) : SumsSound Tryz.prog W S36 := SumsSound.add (ss35 hW hmo) (.inl hW) hmo ok45
theorem ss37 (hW : 0 < W.heap.size) (hmo : Tryz.prog.follows .mixedOrders = true) : SumsSound Tryz.prog W S37 := SumsSound.add (ss36 hW hmo) (.inl hW) hmo ok18
theorem ss38 (hW : 0 < W.heap.size) (hmo : Tryz.prog.follows .mixedOrders = true) : SumsSound Tryz.prog W S38 := SumsSound.add (ss37 hW hmo) (.inl hW) hmo ok7
theorem ss39 (hW : 0 < W.heap.size) (hmo : Tryz.prog.follows .mixedOrders = true) : SumsSound Tryz.prog W S39 := SumsSound.add (ss38 hW hmo) (.inl hW) hmo ok51
theorem ss40 (hW : 0 < W.heap.size) (hmo : Tryz.prog.follows .mixedOrders = true) : SumsSound Tryz.prog W S40 := SumsSound.add (ss39 hW hmo) (.inl hW) hmo ok22
theorem ss41 (hW : 0 < W.heap.size) (hmo : Tryz.prog.follows .mixedOrders = true) : SumsSound Tryz.prog W S41 := SumsSound.add (ss40 hW hmo) (.inl hW) hmo ok26
theorem ss42 (hW : 0 < W.heap.size) (hmo : Tryz.prog.follows .mixedOrders = true) : SumsSound Tryz.prog W S42 := SumsSound.add (ss41 hW hmo) (.inl hW) hmo ok171
theorem ss43 (hW : 0 < W.heap.size) (hmo : Tryz.prog.follows .mixedOrders = true) : SumsSound Tryz.prog W S43 := SumsSound.add (ss42 hW hmo) (.inl hW) hmo ok133
theorem ss44 (hW : 0 < W.heap.size) (hmo : Tryz.prog.follows .mixedOrders = true) : SumsSound Tryz.prog W S44 := SumsSound.add (ss43 hW hmo) (.inl hW) hmo ok174
theorem ss45 (hW : 0 < W.heap.size) (hmo : Tryz.prog.follows .mixedOrders = true) : SumsSound Tryz.prog W S45 := SumsSound.add (ss44 hW hmo) (.inl hW) hmo ok135
theorem ss46 (hW : 0 < W.heap.size) (hmo : Tryz.prog.follows .mixedOrders = true) : SumsSound Tryz.prog W S46 := SumsSound.add (ss45 hW hmo) (.inl hW) hmo ok137
theorem ss47 (hW : 0 < W.heap.size) (hmo : Tryz.prog.follows .mixedOrders = true) : SumsSound Tryz.prog W S47 := SumsSound.add (ss46 hW hmo) (.inl hW) hmo ok88
theorem ss48 (hW : 0 < W.heap.size) (hmo : Tryz.prog.follows .mixedOrders = true) : SumsSound Tryz.prog W S48 := SumsSound.add (ss47 hW hmo) (.inl hW) hmo ok57
theorem ss49 (hW : 0 < W.heap.size) (hmo : Tryz.prog.follows .mixedOrders = true) : SumsSound Tryz.prog W S49 := SumsSound.add (ss48 hW hmo) (.inl hW) hmo ok27
theorem ss50 (hW : 0 < W.heap.size) (hmo : Tryz.prog.follows .mixedOrders = true) : SumsSound Tryz.prog W S50 := SumsSound.add (ss49 hW hmo) (.inl hW) hmo ok10
theorem ss51 (hW : 0 < W.heap.size) (hmo : Tryz.prog.follows .mixedOrders = true) : SumsSound Tryz.prog W S51 := SumsSound.add (ss50 hW hmo) (.inl hW) hmo ok14
theorem ss52 (hW : 0 < W.heap.size) (hmo : Tryz.prog.follows .mixedOrders = true) : SumsSound Tryz.prog W S52 := SumsSound.add (ss51 hW hmo) (.inl hW) hmo ok39
theorem ss53 (hW : 0 < W.heap.size) (hmo : Tryz.prog.follows .mixedOrders = true) : SumsSound Tryz.prog W S53 := SumsSound.add (ss52 hW hmo) (.inl hW) hmo ok106
theorem ss54 (hW : 0 < W.heap.size) (hmo : Tryz.prog.follows .mixedOrders = true) : SumsSound Tryz.prog W S54 := SumsSound.add (ss53 hW hmo) (.inl hW) hmo ok67
theorem ss55 (hW : 0 < W.heap.size) (hmo : Tryz.prog.follows .mixedOrders = true) : SumsSound Tryz.prog W S55 := SumsSound.add (ss54 hW hmo) (.inl hW) hmo ok68
theorem ss56 (hW : 0 < W.heap.size) (hmo : Tryz.prog.follows .mixedOrders = true) : SumsSound Tryz.prog W S56 := SumsSound.add (ss55 hW hmo) (.inl hW) hmo ok40
theorem ss57 (hW : 0 < W.heap.size) (hmo : Tryz.prog.follows .mixedOrders = true) : SumsSound Tryz.prog W S57 := SumsSound.add (ss56 hW hmo) (.inl hW) hmo ok15
noncomputable def S : Sums := S57
theorem ss (hW : 0 < W.heap.size) (hmo : Tryz.prog.follows .mixedOrders = true) : SumsSound Tryz.prog W S := ss57 hW hmo
end Go.Proofs.YtpdnbphdjcipfaaGreatDoor.Cut
