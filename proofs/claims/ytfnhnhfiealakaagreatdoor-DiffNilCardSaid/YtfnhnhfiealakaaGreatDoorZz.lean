/-
  PROVED: calls that were run over abstract values, one by one: what each reads, writes, makes and answers. Conditions: the program follows 'mixedOrders'; the world's heap is not empty.
-/
import Derived.Test.YtfnhnhfiealakaaGreatDoorZ0
import Derived.Test.YtfnhnhfiealakaaGreatDoorZ1
import Derived.Test.YtfnhnhfiealakaaGreatDoorZ2
import Derived.Test.YtfnhnhfiealakaaGreatDoorZ3
namespace Go.Proofs.YtfnhnhfiealakaaGreatDoor.Cut
open Go.X
variable {W : World}
theorem ss0 : SumsSound Tryz.prog W S0 := fun _ _ h => by cases h
theorem ss1 (hW : 0 < W.heap.size) (hmo : Tryz.prog.follows .mixedOrders = true)  : SumsSound Tryz.prog W S1 := SumsSound.add (ss0) (.inl hW) hmo ok25
theorem ss2 (hW : 0 < W.heap.size) (hmo : Tryz.prog.follows .mixedOrders = true)  : SumsSound Tryz.prog W S2 := SumsSound.add (ss1 hW hmo) (.inl hW) hmo ok10
theorem ss3 (hW : 0 < W.heap.size) (hmo : Tryz.prog.follows .mixedOrders = true)  : SumsSound Tryz.prog W S3 := SumsSound.add (ss2 hW hmo) (.inl hW) hmo ok49
theorem ss4 (hW : 0 < W.heap.size) (hmo : Tryz.prog.follows .mixedOrders = true)  : SumsSound Tryz.prog W S4 := SumsSound.add (ss3 hW hmo) (.inl hW) hmo ok27
theorem ss5 (hW : 0 < W.heap.size) (hmo : Tryz.prog.follows .mixedOrders = true)  : SumsSound Tryz.prog W S5 := SumsSound.add (ss4 hW hmo) (.inl hW) hmo ok11
theorem ss6 (hW : 0 < W.heap.size) (hmo : Tryz.prog.follows .mixedOrders = true)  : SumsSound Tryz.prog W S6 := SumsSound.add (ss5 hW hmo) (.inl hW) hmo ok16
theorem ss7 (hW : 0 < W.heap.size) (hmo : Tryz.prog.follows .mixedOrders = true)  : SumsSound Tryz.prog W S7 := SumsSound.add (ss6 hW hmo) (.inl hW) hmo ok18
theorem ss8 (hW : 0 < W.heap.size) (hmo : Tryz.prog.follows .mixedOrders = true)  : SumsSound Tryz.prog W S8 := SumsSound.add (ss7 hW hmo) (.inl hW) hmo ok207
theorem ss9 (hW : 0 < W.heap.size) (hmo : Tryz.prog.follows .mixedOrders = true)  : SumsSound Tryz.prog W S9 := SumsSound.add (ss8 hW hmo) (.inl hW) hmo ok167
theorem ss10 (hW : 0 < W.heap.size) (hmo : Tryz.prog.follows .mixedOrders = true)  : SumsSound Tryz.prog W S10 := SumsSound.add (ss9 hW hmo) (.inl hW) hmo ok66
theorem ss11 (hW : 0 < W.heap.size) (hmo : Tryz.prog.follows .mixedOrders = true)  : SumsSound Tryz.prog W S11 := SumsSound.add (ss10 hW hmo) (.inl hW) hmo ok162
theorem ss12 (hW : 0 < W.heap.size) (hmo : Tryz.prog.follows .mixedOrders = true)  : SumsSound Tryz.prog W S12 := SumsSound.add (ss11 hW hmo) (.inl hW) hmo ok98
theorem ss13 (hW : 0 < W.heap.size) (hmo : Tryz.prog.follows .mixedOrders = true)  : SumsSound Tryz.prog W S13 := SumsSound.add (ss12 hW hmo) (.inl hW) hmo ok100
theorem ss14 (hW : 0 < W.heap.size) (hmo : Tryz.prog.follows .mixedOrders = true)  : SumsSound Tryz.prog W S14 := SumsSound.add (ss13 hW hmo) (.inl hW) hmo ok59
theorem ss15 (hW : 0 < W.heap.size) (hmo : Tryz.prog.follows .mixedOrders = true)  : SumsSound Tryz.prog W S15 := SumsSound.add (ss14 hW hmo) (.inl hW) hmo ok37
theorem ss16 (hW : 0 < W.heap.size) (hmo : Tryz.prog.follows .mixedOrders = true)  : SumsSound Tryz.prog W S16 := SumsSound.add (ss15 hW hmo) (.inl hW) hmo ok31
theorem ss17 (hW : 0 < W.heap.size) (hmo : Tryz.prog.follows .mixedOrders = true)  : SumsSound Tryz.prog W S17 := SumsSound.add (ss16 hW hmo) (.inl hW) hmo ok19
theorem ss18 (hW : 0 < W.heap.size) (hmo : Tryz.prog.follows .mixedOrders = true)  : SumsSound Tryz.prog W S18 := SumsSound.add (ss17 hW hmo) (.inl hW) hmo ok14
theorem ss19 (hW : 0 < W.heap.size) (hmo : Tryz.prog.follows .mixedOrders = true)  : SumsSound Tryz.prog W S19 := SumsSound.add (ss18 hW hmo) (.inl hW) hmo ok6
noncomputable def S : Sums := S19
theorem ss (hW : 0 < W.heap.size) (hmo : Tryz.prog.follows .mixedOrders = true)  : SumsSound Tryz.prog W S := ss19 hW hmo
end Go.Proofs.YtfnhnhfiealakaaGreatDoor.Cut
