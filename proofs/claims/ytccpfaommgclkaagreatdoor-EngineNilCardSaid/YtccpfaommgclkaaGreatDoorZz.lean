/-
  PROVED: calls that were run over abstract values, one by one: what each reads, writes, makes and answers. Conditions: the program follows 'mixedOrders'; the world's heap is not empty.
-/
import Derived.Test.YtccpfaommgclkaaGreatDoorZ0
import Derived.Test.YtccpfaommgclkaaGreatDoorZ1
import Derived.Test.YtccpfaommgclkaaGreatDoorZ2
import Derived.Test.YtccpfaommgclkaaGreatDoorZ3
import Derived.Test.YtccpfaommgclkaaGreatDoorZ4
import Derived.Test.YtccpfaommgclkaaGreatDoorZ5
import Derived.Test.YtccpfaommgclkaaGreatDoorZ6
import Derived.Test.YtccpfaommgclkaaGreatDoorZ7
import Derived.Test.YtccpfaommgclkaaGreatDoorZ8
import Derived.Test.YtccpfaommgclkaaGreatDoorZ9
import Derived.Test.YtccpfaommgclkaaGreatDoorZ10
import Derived.Test.YtccpfaommgclkaaGreatDoorZ11
import Derived.Test.YtccpfaommgclkaaGreatDoorZ12
namespace Go.Proofs.YtccpfaommgclkaaGreatDoor.Cut
open Go.X
variable {W : World}
abbrev Hg (W : World) : Prop := W.cell? ⟨0, 0, none⟩ = some (.iface 223 (.agg #[.pointer (some ⟨3, 34, none⟩)]))
theorem ss0 (hW : 3 ≤ W.heap.size) (hg : Hg W) : SumsSound Tryz.prog W S0 := as_sound (SuN.more_sound noSums hW) (Go.Proofs.YtccpfaommgclkaaGreatDoor.As.facts hg)
theorem ss1 (hW : 3 ≤ W.heap.size) (hmo : Tryz.prog.follows .mixedOrders = true) (hg : Hg W) : SumsSound Tryz.prog W S1 := SumsSound.add (ss0 hW hg) (.inl (Nat.lt_of_lt_of_le (by decide) hW)) hmo ok67
theorem ss2 (hW : 3 ≤ W.heap.size) (hmo : Tryz.prog.follows .mixedOrders = true) (hg : Hg W) : SumsSound Tryz.prog W S2 := SumsSound.add (ss1 hW hmo hg) (.inl (Nat.lt_of_lt_of_le (by decide) hW)) hmo ok33
theorem ss3 (hW : 3 ≤ W.heap.size) (hmo : Tryz.prog.follows .mixedOrders = true) (hg : Hg W) : SumsSound Tryz.prog W S3 := SumsSound.add (ss2 hW hmo hg) (.inl (Nat.lt_of_lt_of_le (by decide) hW)) hmo ok16
theorem ss4 (hW : 3 ≤ W.heap.size) (hmo : Tryz.prog.follows .mixedOrders = true) (hg : Hg W) : SumsSound Tryz.prog W S4 := SumsSound.add (ss3 hW hmo hg) (.inl (Nat.lt_of_lt_of_le (by decide) hW)) hmo ok54
theorem ss5 (hW : 3 ≤ W.heap.size) (hmo : Tryz.prog.follows .mixedOrders = true) (hg : Hg W) : SumsSound Tryz.prog W S5 := SumsSound.add (ss4 hW hmo hg) (.inl (Nat.lt_of_lt_of_le (by decide) hW)) hmo ok35
theorem ss6 (hW : 3 ≤ W.heap.size) (hmo : Tryz.prog.follows .mixedOrders = true) (hg : Hg W) : SumsSound Tryz.prog W S6 := SumsSound.add (ss5 hW hmo hg) (.inl (Nat.lt_of_lt_of_le (by decide) hW)) hmo ok37
theorem ss7 (hW : 3 ≤ W.heap.size) (hmo : Tryz.prog.follows .mixedOrders = true) (hg : Hg W) : SumsSound Tryz.prog W S7 := SumsSound.add (ss6 hW hmo hg) (.inl (Nat.lt_of_lt_of_le (by decide) hW)) hmo ok39
theorem ss8 (hW : 3 ≤ W.heap.size) (hmo : Tryz.prog.follows .mixedOrders = true) (hg : Hg W) : SumsSound Tryz.prog W S8 := SumsSound.add (ss7 hW hmo hg) (.inl (Nat.lt_of_lt_of_le (by decide) hW)) hmo ok129
theorem ss9 (hW : 3 ≤ W.heap.size) (hmo : Tryz.prog.follows .mixedOrders = true) (hg : Hg W) : SumsSound Tryz.prog W S9 := SumsSound.add (ss8 hW hmo hg) (.inl (Nat.lt_of_lt_of_le (by decide) hW)) hmo ok119
theorem ss10 (hW : 3 ≤ W.heap.size) (hmo : Tryz.prog.follows .mixedOrders = true) (hg : Hg W) : SumsSound Tryz.prog W S10 := SumsSound.add (ss9 hW hmo hg) (.inl (Nat.lt_of_lt_of_le (by decide) hW)) hmo ok65
theorem ss11 (hW : 3 ≤ W.heap.size) (hmo : Tryz.prog.follows .mixedOrders = true) (hg : Hg W) : SumsSound Tryz.prog W S11 := SumsSound.add (ss10 hW hmo hg) (.inl (Nat.lt_of_lt_of_le (by decide) hW)) hmo ok200
theorem ss12 (hW : 3 ≤ W.heap.size) (hmo : Tryz.prog.follows .mixedOrders = true) (hg : Hg W) : SumsSound Tryz.prog W S12 := SumsSound.add (ss11 hW hmo hg) (.inl (Nat.lt_of_lt_of_le (by decide) hW)) hmo ok167
theorem ss13 (hW : 3 ≤ W.heap.size) (hmo : Tryz.prog.follows .mixedOrders = true) (hg : Hg W) : SumsSound Tryz.prog W S13 := SumsSound.add (ss12 hW hmo hg) (.inl (Nat.lt_of_lt_of_le (by decide) hW)) hmo ok170
theorem ss14 (hW : 3 ≤ W.heap.size) (hmo : Tryz.prog.follows .mixedOrders = true) (hg : Hg W) : SumsSound Tryz.prog W S14 := SumsSound.add (ss13 hW hmo hg) (.inl (Nat.lt_of_lt_of_le (by decide) hW)) hmo ok124
theorem ss15 (hW : 3 ≤ W.heap.size) (hmo : Tryz.prog.follows .mixedOrders = true) (hg : Hg W) : SumsSound Tryz.prog W S15 := SumsSound.add (ss14 hW hmo hg) (.inl (Nat.lt_of_lt_of_le (by decide) hW)) hmo ok71
theorem ss16 (hW : 3 ≤ W.heap.size) (hmo : Tryz.prog.follows .mixedOrders = true) (hg : Hg W) : SumsSound Tryz.prog W S16 := SumsSound.add (ss15 hW hmo hg) (.inl (Nat.lt_of_lt_of_le (by decide) hW)) hmo ok40
theorem ss17 (hW : 3 ≤ W.heap.size) (hmo : Tryz.prog.follows .mixedOrders = true) (hg : Hg W) : SumsSound Tryz.prog W S17 := SumsSound.add (ss16 hW hmo hg) (.inl (Nat.lt_of_lt_of_le (by decide) hW)) hmo ok17
theorem ss18 (hW : 3 ≤ W.heap.size) (hmo : Tryz.prog.follows .mixedOrders = true) (hg : Hg W) : SumsSound Tryz.prog W S18 := SumsSound.add (ss17 hW hmo hg) (.inl (Nat.lt_of_lt_of_le (by decide) hW)) hmo ok132
theorem ss19 (hW : 3 ≤ W.heap.size) (hmo : Tryz.prog.follows .mixedOrders = true) (hg : Hg W) : SumsSound Tryz.prog W S19 := SumsSound.add (ss18 hW hmo hg) (.inl (Nat.lt_of_lt_of_le (by decide) hW)) hmo ok75
theorem ss20 (hW : 3 ≤ W.heap.size) (hmo : Tryz.prog.follows .mixedOrders = true) (hg : Hg W) : SumsSound Tryz.prog W S20 := SumsSound.add (ss19 hW hmo hg) (.inl (Nat.lt_of_lt_of_le (by decide) hW)) hmo ok42
theorem ss21 (hW : 3 ≤ W.heap.size) (hmo : Tryz.prog.follows .mixedOrders = true) (hg : Hg W) : SumsSound Tryz.prog W S21 := SumsSound.add (ss20 hW hmo hg) (.inl (Nat.lt_of_lt_of_le (by decide) hW)) hmo ok44
theorem ss22 (hW : 3 ≤ W.heap.size) (hmo : Tryz.prog.follows .mixedOrders = true) (hg : Hg W) : SumsSound Tryz.prog W S22 := SumsSound.add (ss21 hW hmo hg) (.inl (Nat.lt_of_lt_of_le (by decide) hW)) hmo ok134
theorem ss23 (hW : 3 ≤ W.heap.size) (hmo : Tryz.prog.follows .mixedOrders = true) (hg : Hg W) : SumsSound Tryz.prog W S23 := SumsSound.add (ss22 hW hmo hg) (.inl (Nat.lt_of_lt_of_le (by decide) hW)) hmo ok78
theorem ss24 (hW : 3 ≤ W.heap.size) (hmo : Tryz.prog.follows .mixedOrders = true) (hg : Hg W) : SumsSound Tryz.prog W S24 := SumsSound.add (ss23 hW hmo hg) (.inl (Nat.lt_of_lt_of_le (by decide) hW)) hmo ok45
theorem ss25 (hW : 3 ≤ W.heap.size) (hmo : Tryz.prog.follows .mixedOrders = true) (hg : Hg W) : SumsSound Tryz.prog W S25 := SumsSound.add (ss24 hW hmo hg) (.inl (Nat.lt_of_lt_of_le (by decide) hW)) hmo ok19
theorem ss26 (hW : 3 ≤ W.heap.size) (hmo : Tryz.prog.follows .mixedOrders = true) (hg : Hg W) : SumsSound Tryz.prog W S26 := SumsSound.add (ss25 hW hmo hg) (.inl (Nat.lt_of_lt_of_le (by decide) hW)) hmo ok48
theorem ss27 (hW : 3 ≤ W.heap.size) (hmo : Tryz.prog.follows .mixedOrders = true) (hg : Hg W) : SumsSound Tryz.prog W S27 := SumsSound.add (ss26 hW hmo hg) (.inl (Nat.lt_of_lt_of_le (by decide) hW)) hmo ok47
theorem ss28 (hW : 3 ≤ W.heap.size) (hmo : Tryz.prog.follows .mixedOrders = true) (hg : Hg W) : SumsSound Tryz.prog W S28 := SumsSound.add (ss27 hW hmo hg) (.inl (Nat.lt_of_lt_of_le (by decide) hW)) hmo ok20
theorem ss29 (hW : 3 ≤ W.heap.size) (hmo : Tryz.prog.follows .mixedOrders = true) (hg : Hg W) : SumsSound Tryz.prog W S29 := SumsSound.add (ss28 hW hmo hg) (.inl (Nat.lt_of_lt_of_le (by decide) hW)) hmo ok7
theorem ss30 (hW : 3 ≤ W.heap.size) (hmo : Tryz.prog.follows .mixedOrders = true) (hg : Hg W) : SumsSound Tryz.prog W S30 := SumsSound.add (ss29 hW hmo hg) (.inl (Nat.lt_of_lt_of_le (by decide) hW)) hmo ok86
theorem ss31 (hW : 3 ≤ W.heap.size) (hmo : Tryz.prog.follows .mixedOrders = true) (hg : Hg W) : SumsSound Tryz.prog W S31 := SumsSound.add (ss30 hW hmo hg) (.inl (Nat.lt_of_lt_of_le (by decide) hW)) hmo ok140
theorem ss32 (hW : 3 ≤ W.heap.size) (hmo : Tryz.prog.follows .mixedOrders = true) (hg : Hg W) : SumsSound Tryz.prog W S32 := SumsSound.add (ss31 hW hmo hg) (.inl (Nat.lt_of_lt_of_le (by decide) hW)) hmo ok87
theorem ss33 (hW : 3 ≤ W.heap.size) (hmo : Tryz.prog.follows .mixedOrders = true) (hg : Hg W) : SumsSound Tryz.prog W S33 := SumsSound.add (ss32 hW hmo hg) (.inl (Nat.lt_of_lt_of_le (by decide) hW)) hmo ok50
theorem ss34 (hW : 3 ≤ W.heap.size) (hmo : Tryz.prog.follows .mixedOrders = true) (hg : Hg W) : SumsSound Tryz.prog W S34 := SumsSound.add (ss33 hW hmo hg) (.inl (Nat.lt_of_lt_of_le (by decide) hW)) hmo ok51
theorem ss35 (hW : 3 ≤ W.heap.size) (hmo : Tryz.prog.follows .mixedOrders = true) (hg : Hg W) : SumsSound Tryz.prog W S35 := SumsSound.add (ss34 hW hmo hg) (.inl (Nat.lt_of_lt_of_le (by decide) hW)) hmo ok52
theorem ss36 (hW : 3 ≤ W.heap.size) (hmo : Tryz.prog.follows .mixedOrders = true) (hg : Hg W) : SumsSound Tryz.prog W S36 := SumsSound.add (ss35 hW hmo hg) (.inl (Nat.lt_of_lt_of_le (by decide) hW)) hmo ok22
theorem ss37 (hW : 3 ≤ W.heap.size) (hmo : Tryz.prog.follows .mixedOrders = true) (hg : Hg W) : SumsSound Tryz.prog W S37 := SumsSound.add (ss36 hW hmo hg) (.inl (Nat.lt_of_lt_of_le (by decide) hW)) hmo ok151
theorem ss38 (hW : 3 ≤ W.heap.size) (hmo : Tryz.prog.follows .mixedOrders = true) (hg : Hg W) : SumsSound Tryz.prog W S38 := SumsSound.add (ss37 hW hmo hg) (.inl (Nat.lt_of_lt_of_le (by decide) hW)) hmo ok105
theorem ss39 (hW : 3 ≤ W.heap.size) (hmo : Tryz.prog.follows .mixedOrders = true) (hg : Hg W) : SumsSound Tryz.prog W S39 := SumsSound.add (ss38 hW hmo hg) (.inl (Nat.lt_of_lt_of_le (by decide) hW)) hmo ok59
theorem ss40 (hW : 3 ≤ W.heap.size) (hmo : Tryz.prog.follows .mixedOrders = true) (hg : Hg W) : SumsSound Tryz.prog W S40 := SumsSound.add (ss39 hW hmo hg) (.inl (Nat.lt_of_lt_of_le (by decide) hW)) hmo ok23
theorem ss41 (hW : 3 ≤ W.heap.size) (hmo : Tryz.prog.follows .mixedOrders = true) (hg : Hg W) : SumsSound Tryz.prog W S41 := SumsSound.add (ss40 hW hmo hg) (.inl (Nat.lt_of_lt_of_le (by decide) hW)) hmo ok8
theorem ss42 (hW : 3 ≤ W.heap.size) (hmo : Tryz.prog.follows .mixedOrders = true) (hg : Hg W) : SumsSound Tryz.prog W S42 := SumsSound.add (ss41 hW hmo hg) (.inl (Nat.lt_of_lt_of_le (by decide) hW)) hmo ok27
theorem ss43 (hW : 3 ≤ W.heap.size) (hmo : Tryz.prog.follows .mixedOrders = true) (hg : Hg W) : SumsSound Tryz.prog W S43 := SumsSound.add (ss42 hW hmo hg) (.inl (Nat.lt_of_lt_of_le (by decide) hW)) hmo ok12
theorem ss44 (hW : 3 ≤ W.heap.size) (hmo : Tryz.prog.follows .mixedOrders = true) (hg : Hg W) : SumsSound Tryz.prog W S44 := SumsSound.add (ss43 hW hmo hg) (.inl (Nat.lt_of_lt_of_le (by decide) hW)) hmo ok13
theorem ss45 (hW : 3 ≤ W.heap.size) (hmo : Tryz.prog.follows .mixedOrders = true) (hg : Hg W) : SumsSound Tryz.prog W S45 := SumsSound.add (ss44 hW hmo hg) (.inl (Nat.lt_of_lt_of_le (by decide) hW)) hmo ok31
theorem ss46 (hW : 3 ≤ W.heap.size) (hmo : Tryz.prog.follows .mixedOrders = true) (hg : Hg W) : SumsSound Tryz.prog W S46 := SumsSound.add (ss45 hW hmo hg) (.inl (Nat.lt_of_lt_of_le (by decide) hW)) hmo ok14
theorem ss47 (hW : 3 ≤ W.heap.size) (hmo : Tryz.prog.follows .mixedOrders = true) (hg : Hg W) : SumsSound Tryz.prog W S47 := SumsSound.add (ss46 hW hmo hg) (.inl (Nat.lt_of_lt_of_le (by decide) hW)) hmo ok15
noncomputable def S : Sums := S47
theorem ss (hW : 3 ≤ W.heap.size) (hmo : Tryz.prog.follows .mixedOrders = true) (hg : Hg W) : SumsSound Tryz.prog W S := ss47 hW hmo hg
end Go.Proofs.YtccpfaommgclkaaGreatDoor.Cut
