/-
  PROVED: calls that were run over abstract values, one by one: what each reads, writes, makes and answers. Conditions: the program follows 'mixedOrders'; the world's heap is not empty.
-/
import Derived.Test.YtccpfaommgclkaaGreatDoorZ0
import Derived.Test.YtccpfaommgclkaaGreatDoorZ1
import Derived.Test.YtccpfaommgclkaaGreatDoorZ2
import Derived.Test.YtccpfaommgclkaaGreatDoorZ3
import Derived.Test.YtccpfaommgclkaaGreatDoorZ4
import Derived.Test.YtccpfaommgclkaaGreatDoorZ5
import Derived.Test.YtccpfaommgclkaaGreatDoorZ6
import Derived.Test.YtccpfaommgclkaaGreatDoorZ7
import Derived.Test.YtccpfaommgclkaaGreatDoorZ8
import Derived.Test.YtccpfaommgclkaaGreatDoorZ9
import Derived.Test.YtccpfaommgclkaaGreatDoorZ10
import Derived.Test.YtccpfaommgclkaaGreatDoorZ11
import Derived.Test.YtccpfaommgclkaaGreatDoorZ12
import Derived.Test.YtccpfaommgclkaaGreatDoorZ13
namespace Go.Proofs.YtccpfaommgclkaaGreatDoor.Cut
open Go.X
variable {W : World}
theorem ss0 (hg : W.cell? ⟨0, 0, none⟩ = some (.iface 223 (.agg #[.pointer (some ⟨3, 34, none⟩)]))) : SumsSound Tryz.prog W S0 := as_sound noSums (Go.Proofs.YtccpfaommgclkaaGreatDoor.As.facts hg)
theorem ss1 (hW : 0 < W.heap.size) (hmo : Tryz.prog.follows .mixedOrders = true) (hg : W.cell? ⟨0, 0, none⟩ = some (.iface 223 (.agg #[.pointer (some ⟨3, 34, none⟩)]))) : SumsSound Tryz.prog W S1 := SumsSound.add (ss0 hg) (.inl hW) hmo ok67
theorem ss2 (hW : 0 < W.heap.size) (hmo : Tryz.prog.follows .mixedOrders = true) (hg : W.cell? ⟨0, 0, none⟩ = some (.iface 223 (.agg #[.pointer (some ⟨3, 34, none⟩)]))) : SumsSound Tryz.prog W S2 := SumsSound.add (ss1 hW hmo hg) (.inl hW) hmo ok33
theorem ss3 (hW : 0 < W.heap.size) (hmo : Tryz.prog.follows .mixedOrders = true) (hg : W.cell? ⟨0, 0, none⟩ = some (.iface 223 (.agg #[.pointer (some ⟨3, 34, none⟩)]))) : SumsSound Tryz.prog W S3 := SumsSound.add (ss2 hW hmo hg) (.inl hW) hmo ok16
theorem ss4 (hW : 0 < W.heap.size) (hmo : Tryz.prog.follows .mixedOrders = true) (hg : W.cell? ⟨0, 0, none⟩ = some (.iface 223 (.agg #[.pointer (some ⟨3, 34, none⟩)]))) : SumsSound Tryz.prog W S4 := SumsSound.add (ss3 hW hmo hg) (.inl hW) hmo ok54
theorem ss5 (hW : 0 < W.heap.size) (hmo : Tryz.prog.follows .mixedOrders = true) (hg : W.cell? ⟨0, 0, none⟩ = some (.iface 223 (.agg #[.pointer (some ⟨3, 34, none⟩)]))) : SumsSound Tryz.prog W S5 := SumsSound.add (ss4 hW hmo hg) (.inl hW) hmo ok35
theorem ss6 (hW : 0 < W.heap.size) (hmo : Tryz.prog.follows .mixedOrders = true) (hg : W.cell? ⟨0, 0, none⟩ = some (.iface 223 (.agg #[.pointer (some ⟨3, 34, none⟩)]))) : SumsSound Tryz.prog W S6 := SumsSound.add (ss5 hW hmo hg) (.inl hW) hmo ok37
theorem ss7 (hW : 0 < W.heap.size) (hmo : Tryz.prog.follows .mixedOrders = true) (hg : W.cell? ⟨0, 0, none⟩ = some (.iface 223 (.agg #[.pointer (some ⟨3, 34, none⟩)]))) : SumsSound Tryz.prog W S7 := SumsSound.add (ss6 hW hmo hg) (.inl hW) hmo ok39
theorem ss8 (hW : 0 < W.heap.size) (hmo : Tryz.prog.follows .mixedOrders = true) (hg : W.cell? ⟨0, 0, none⟩ = some (.iface 223 (.agg #[.pointer (some ⟨3, 34, none⟩)]))) : SumsSound Tryz.prog W S8 := SumsSound.add (ss7 hW hmo hg) (.inl hW) hmo ok204
theorem ss9 (hW : 0 < W.heap.size) (hmo : Tryz.prog.follows .mixedOrders = true) (hg : W.cell? ⟨0, 0, none⟩ = some (.iface 223 (.agg #[.pointer (some ⟨3, 34, none⟩)]))) : SumsSound Tryz.prog W S9 := SumsSound.add (ss8 hW hmo hg) (.inl hW) hmo ok182
theorem ss10 (hW : 0 < W.heap.size) (hmo : Tryz.prog.follows .mixedOrders = true) (hg : W.cell? ⟨0, 0, none⟩ = some (.iface 223 (.agg #[.pointer (some ⟨3, 34, none⟩)]))) : SumsSound Tryz.prog W S10 := SumsSound.add (ss9 hW hmo hg) (.inl hW) hmo ok129
theorem ss11 (hW : 0 < W.heap.size) (hmo : Tryz.prog.follows .mixedOrders = true) (hg : W.cell? ⟨0, 0, none⟩ = some (.iface 223 (.agg #[.pointer (some ⟨3, 34, none⟩)]))) : SumsSound Tryz.prog W S11 := SumsSound.add (ss10 hW hmo hg) (.inl hW) hmo ok119
theorem ss12 (hW : 0 < W.heap.size) (hmo : Tryz.prog.follows .mixedOrders = true) (hg : W.cell? ⟨0, 0, none⟩ = some (.iface 223 (.agg #[.pointer (some ⟨3, 34, none⟩)]))) : SumsSound Tryz.prog W S12 := SumsSound.add (ss11 hW hmo hg) (.inl hW) hmo ok65
theorem ss13 (hW : 0 < W.heap.size) (hmo : Tryz.prog.follows .mixedOrders = true) (hg : W.cell? ⟨0, 0, none⟩ = some (.iface 223 (.agg #[.pointer (some ⟨3, 34, none⟩)]))) : SumsSound Tryz.prog W S13 := SumsSound.add (ss12 hW hmo hg) (.inl hW) hmo ok200
theorem ss14 (hW : 0 < W.heap.size) (hmo : Tryz.prog.follows .mixedOrders = true) (hg : W.cell? ⟨0, 0, none⟩ = some (.iface 223 (.agg #[.pointer (some ⟨3, 34, none⟩)]))) : SumsSound Tryz.prog W S14 := SumsSound.add (ss13 hW hmo hg) (.inl hW) hmo ok167
theorem ss15 (hW : 0 < W.heap.size) (hmo : Tryz.prog.follows .mixedOrders = true) (hg : W.cell? ⟨0, 0, none⟩ = some (.iface 223 (.agg #[.pointer (some ⟨3, 34, none⟩)]))) : SumsSound Tryz.prog W S15 := SumsSound.add (ss14 hW hmo hg) (.inl hW) hmo ok170
theorem ss16 (hW : 0 < W.heap.size) (hmo : Tryz.prog.follows .mixedOrders = true) (hg : W.cell? ⟨0, 0, none⟩ = some (.iface 223 (.agg #[.pointer (some ⟨3, 34, none⟩)]))) : SumsSound Tryz.prog W S16 := SumsSound.add (ss15 hW hmo hg) (.inl hW) hmo ok124
theorem ss17 (hW : 0 < W.heap.size) (hmo : Tryz.prog.follows .mixedOrders = true) (hg : W.cell? ⟨0, 0, none⟩ = some (.iface 223 (.agg #[.pointer (some ⟨3, 34, none⟩)]))) : SumsSound Tryz.prog W S17 := SumsSound.add (ss16 hW hmo hg) (.inl hW) hmo ok71
theorem ss18 (hW : 0 < W.heap.size) (hmo : Tryz.prog.follows .mixedOrders = true) (hg : W.cell? ⟨0, 0, none⟩ = some (.iface 223 (.agg #[.pointer (some ⟨3, 34, none⟩)]))) : SumsSound Tryz.prog W S18 := SumsSound.add (ss17 hW hmo hg) (.inl hW) hmo ok40
theorem ss19 (hW : 0 < W.heap.size) (hmo : Tryz.prog.follows .mixedOrders = true) (hg : W.cell? ⟨0, 0, none⟩ = some (.iface 223 (.agg #[.pointer (some ⟨3, 34, none⟩)]))) : SumsSound Tryz.prog W S19 := SumsSound.add (ss18 hW hmo hg) (.inl hW) hmo ok17
theorem ss20 (hW : 0 < W.heap.size) (hmo : Tryz.prog.follows .mixedOrders = true) (hg : W.cell? ⟨0, 0, none⟩ = some (.iface 223 (.agg #[.pointer (some ⟨3, 34, none⟩)]))) : SumsSound Tryz.prog W S20 := SumsSound.add (ss19 hW hmo hg) (.inl hW) hmo ok132
theorem ss21 (hW : 0 < W.heap.size) (hmo : Tryz.prog.follows .mixedOrders = true) (hg : W.cell? ⟨0, 0, none⟩ = some (.iface 223 (.agg #[.pointer (some ⟨3, 34, none⟩)]))) : SumsSound Tryz.prog W S21 := SumsSound.add (ss20 hW hmo hg) (.inl hW) hmo ok75
theorem ss22 (hW : 0 < W.heap.size) (hmo : Tryz.prog.follows .mixedOrders = true) (hg : W.cell? ⟨0, 0, none⟩ = some (.iface 223 (.agg #[.pointer (some ⟨3, 34, none⟩)]))) : SumsSound Tryz.prog W S22 := SumsSound.add (ss21 hW hmo hg) (.inl hW) hmo ok42
theorem ss23 (hW : 0 < W.heap.size) (hmo : Tryz.prog.follows .mixedOrders = true) (hg : W.cell? ⟨0, 0, none⟩ = some (.iface 223 (.agg #[.pointer (some ⟨3, 34, none⟩)]))) : SumsSound Tryz.prog W S23 := SumsSound.add (ss22 hW hmo hg) (.inl hW) hmo ok44
theorem ss24 (hW : 0 < W.heap.size) (hmo : Tryz.prog.follows .mixedOrders = true) (hg : W.cell? ⟨0, 0, none⟩ = some (.iface 223 (.agg #[.pointer (some ⟨3, 34, none⟩)]))) : SumsSound Tryz.prog W S24 := SumsSound.add (ss23 hW hmo hg) (.inl hW) hmo ok134
theorem ss25 (hW : 0 < W.heap.size) (hmo : Tryz.prog.follows .mixedOrders = true) (hg : W.cell? ⟨0, 0, none⟩ = some (.iface 223 (.agg #[.pointer (some ⟨3, 34, none⟩)]))) : SumsSound Tryz.prog W S25 := SumsSound.add (ss24 hW hmo hg) (.inl hW) hmo ok78
theorem ss26 (hW : 0 < W.heap.size) (hmo : Tryz.prog.follows .mixedOrders = true) (hg : W.cell? ⟨0, 0, none⟩ = some (.iface 223 (.agg #[.pointer (some ⟨3, 34, none⟩)]))) : SumsSound Tryz.prog W S26 := SumsSound.add (ss25 hW hmo hg) (.inl hW) hmo ok45
theorem ss27 (hW : 0 < W.heap.size) (hmo : Tryz.prog.follows .mixedOrders = true) (hg : W.cell? ⟨0, 0, none⟩ = some (.iface 223 (.agg #[.pointer (some ⟨3, 34, none⟩)]))) : SumsSound Tryz.prog W S27 := SumsSound.add (ss26 hW hmo hg) (.inl hW) hmo ok19
theorem ss28 (hW : 0 < W.heap.size) (hmo : Tryz.prog.follows .mixedOrders = true) (hg : W.cell? ⟨0, 0, none⟩ = some (.iface 223 (.agg #[.pointer (some ⟨3, 34, none⟩)]))) : SumsSound Tryz.prog W S28 := SumsSound.add (ss27 hW hmo hg) (.inl hW) hmo ok48
theorem ss29 (hW : 0 < W.heap.size) (hmo : Tryz.prog.follows .mixedOrders = true) (hg : W.cell? ⟨0, 0, none⟩ = some (.iface 223 (.agg #[.pointer (some ⟨3, 34, none⟩)]))) : SumsSound Tryz.prog W S29 := SumsSound.add (ss28 hW hmo hg) (.inl hW) hmo ok47
theorem ss30 (hW : 0 < W.heap.size) (hmo : Tryz.prog.follows .mixedOrders = true) (hg : W.cell? ⟨0, 0, none⟩ = some (.iface 223 (.agg #[.pointer (some ⟨3, 34, none⟩)]))) : SumsSound Tryz.prog W S30 := SumsSound.add (ss29 hW hmo hg) (.inl hW) hmo ok20
theorem ss31 (hW : 0 < W.heap.size) (hmo : Tryz.prog.follows .mixedOrders = true) (hg : W.cell? ⟨0, 0, none⟩ = some (.iface 223 (.agg #[.pointer (some ⟨3, 34, none⟩)]))) : SumsSound Tryz.prog W S31 := SumsSound.add (ss30 hW hmo hg) (.inl hW) hmo ok7
theorem ss32 (hW : 0 < W.heap.size) (hmo : Tryz.prog.follows .mixedOrders = true) (hg : W.cell? ⟨0, 0, none⟩ = some (.iface 223 (.agg #[.pointer (some ⟨3, 34, none⟩)]))) : SumsSound Tryz.prog W S32 := SumsSound.add (ss31 hW hmo hg) (.inl hW) hmo ok86
theorem ss33 (hW : 0 < W.heap.size) (hmo : Tryz.prog.follows .mixedOrders = true) (hg : W.cell? ⟨0, 0, none⟩ = some (.iface 223 (.agg #[.pointer (some ⟨3, 34, none⟩)]))) : SumsSound Tryz.prog W S33 := SumsSound.add (ss32 hW hmo hg) (.inl hW) hmo ok140
theorem ss34 (hW : 0 < W.heap.size) (hmo : Tryz.prog.follows .mixedOrders = true) (hg : W.cell? ⟨0, 0, none⟩ = some (.iface 223 (.agg #[.pointer (some ⟨3, 34, none⟩)]))) : SumsSound Tryz.prog W S34 := SumsSound.add (ss33 hW hmo hg) (.inl hW) hmo ok87
theorem ss35 (hW : 0 < W.heap.size) (hmo : Tryz.prog.follows .mixedOrders = true) (hg : W.cell? ⟨0, 0, none⟩ = some (.iface 223 (.agg #[.pointer (some ⟨3, 34, none⟩)]))) : SumsSound Tryz.prog W S35 := SumsSound.add (ss34 hW hmo hg) (.inl hW) hmo ok50
theorem ss36 (hW : 0 < W.heap.size) (hmo : Tryz.prog.follows .mixedOrders = true) (hg : W.cell? ⟨0, 0, none⟩ = some (.iface 223 (.agg #[.pointer (some ⟨3, 34, none⟩)]))) : SumsSound Tryz.prog W S36 := SumsSound.add (ss35 hW hmo hg) (.inl hW) hmo ok51
theorem ss37 (hW : 0 < W.heap.size) (hmo : Tryz.prog.follows .mixedOrders = true) (hg : W.cell? ⟨0, 0, none⟩ = some (.iface 223 (.agg #[.pointer (some ⟨3, 34, none⟩)]))) : SumsSound Tryz.prog W S37 := SumsSound.add (ss36 hW hmo hg) (.inl hW) hmo ok52
theorem ss38 (hW : 0 < W.heap.size) (hmo : Tryz.prog.follows .mixedOrders = true) (hg : W.cell? ⟨0, 0, none⟩ = some (.iface 223 (.agg #[.pointer (some ⟨3, 34, none⟩)]))) : SumsSound Tryz.prog W S38 := SumsSound.add (ss37 hW hmo hg) (.inl hW) hmo ok22
theorem ss39 (hW : 0 < W.heap.size) (hmo : Tryz.prog.follows .mixedOrders = true) (hg : W.cell? ⟨0, 0, none⟩ = some (.iface 223 (.agg #[.pointer (some ⟨3, 34, none⟩)]))) : SumsSound Tryz.prog W S39 := SumsSound.add (ss38 hW hmo hg) (.inl hW) hmo ok151
theorem ss40 (hW : 0 < W.heap.size) (hmo : Tryz.prog.follows .mixedOrders = true) (hg : W.cell? ⟨0, 0, none⟩ = some (.iface 223 (.agg #[.pointer (some ⟨3, 34, none⟩)]))) : SumsSound Tryz.prog W S40 := SumsSound.add (ss39 hW hmo hg) (.inl hW) hmo ok105
theorem ss41 (hW : 0 < W.heap.size) (hmo : Tryz.prog.follows .mixedOrders = true) (hg : W.cell? ⟨0, 0, none⟩ = some (.iface 223 (.agg #[.pointer (some ⟨3, 34, none⟩)]))) : SumsSound Tryz.prog W S41 := SumsSound.add (ss40 hW hmo hg) (.inl hW) hmo ok59
theorem ss42 (hW : 0 < W.heap.size) (hmo : Tryz.prog.follows .mixedOrders = true) (hg : W.cell? ⟨0, 0, none⟩ = some (.iface 223 (.agg #[.pointer (some ⟨3, 34, none⟩)]))) : SumsSound Tryz.prog W S42 := SumsSound.add (ss41 hW hmo hg) (.inl hW) hmo ok23
theorem ss43 (hW : 0 < W.heap.size) (hmo : Tryz.prog.follows .mixedOrders = true) (hg : W.cell? ⟨0, 0, none⟩ = some (.iface 223 (.agg #[.pointer (some ⟨3, 34, none⟩)]))) : SumsSound Tryz.prog W S43 := SumsSound.add (ss42 hW hmo hg) (.inl hW) hmo ok8
theorem ss44 (hW : 0 < W.heap.size) (hmo : Tryz.prog.follows .mixedOrders = true) (hg : W.cell? ⟨0, 0, none⟩ = some (.iface 223 (.agg #[.pointer (some ⟨3, 34, none⟩)]))) : SumsSound Tryz.prog W S44 := SumsSound.add (ss43 hW hmo hg) (.inl hW) hmo ok27
theorem ss45 (hW : 0 < W.heap.size) (hmo : Tryz.prog.follows .mixedOrders = true) (hg : W.cell? ⟨0, 0, none⟩ = some (.iface 223 (.agg #[.pointer (some ⟨3, 34, none⟩)]))) : SumsSound Tryz.prog W S45 := SumsSound.add (ss44 hW hmo hg) (.inl hW) hmo ok12
theorem ss46 (hW : 0 < W.heap.size) (hmo : Tryz.prog.follows .mixedOrders = true) (hg : W.cell? ⟨0, 0, none⟩ = some (.iface 223 (.agg #[.pointer (some ⟨3, 34, none⟩)]))) : SumsSound Tryz.prog W S46 := SumsSound.add (ss45 hW hmo hg) (.inl hW) hmo ok13
theorem ss47 (hW : 0 < W.heap.size) (hmo : Tryz.prog.follows .mixedOrders = true) (hg : W.cell? ⟨0, 0, none⟩ = some (.iface 223 (.agg #[.pointer (some ⟨3, 34, none⟩)]))) : SumsSound Tryz.prog W S47 := SumsSound.add (ss46 hW hmo hg) (.inl hW) hmo ok31
theorem ss48 (hW : 0 < W.heap.size) (hmo : Tryz.prog.follows .mixedOrders = true) (hg : W.cell? ⟨0, 0, none⟩ = some (.iface 223 (.agg #[.pointer (some ⟨3, 34, none⟩)]))) : SumsSound Tryz.prog W S48 := SumsSound.add (ss47 hW hmo hg) (.inl hW) hmo ok14
theorem ss49 (hW : 0 < W.heap.size) (hmo : Tryz.prog.follows .mixedOrders = true) (hg : W.cell? ⟨0, 0, none⟩ = some (.iface 223 (.agg #[.pointer (some ⟨3, 34, none⟩)]))) : SumsSound Tryz.prog W S49 := SumsSound.add (ss48 hW hmo hg) (.inl hW) hmo ok15
noncomputable def S : Sums := S49
theorem ss (hW : 0 < W.heap.size) (hmo : Tryz.prog.follows .mixedOrders = true) (hg : W.cell? ⟨0, 0, none⟩ = some (.iface 223 (.agg #[.pointer (some ⟨3, 34, none⟩)]))) : SumsSound Tryz.prog W S := ss49 hW hmo hg
end Go.Proofs.YtccpfaommgclkaaGreatDoor.Cut
