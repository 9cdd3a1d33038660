/-
  PROVED: awake of banyanlaw22, run over abstract values, answers true on every way. No condition.
-/
import Derived.Test.YtccpfaommgclkaaGreatDoorZz
import Derived.Test.YtccpfaommgclkaaGreatDoorL0
namespace Go.Proofs.YtccpfaommgclkaaGreatDoor.engineNil
theorem awake_runs : Go.X.allTrue ((Go.X.xCall Tryz.prog Cut.hints Cut.S 5000 60 5 []).run 0 (Go.X.startT 3 1 EnB.tabA) Go.X.Log.nil) = true := by decide +kernel
end Go.Proofs.YtccpfaommgclkaaGreatDoor.engineNil
