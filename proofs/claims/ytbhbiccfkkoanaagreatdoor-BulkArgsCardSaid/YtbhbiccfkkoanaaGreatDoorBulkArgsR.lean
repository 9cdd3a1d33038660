/-
  PROVED: alive of banyanlaw15, run over abstract values, answers true on every way. No condition.
-/
import Derived.Test.YtbhbiccfkkoanaaGreatDoorZz
import Derived.Test.YtbhbiccfkkoanaaGreatDoorBaN
namespace Go.Proofs.YtbhbiccfkkoanaaGreatDoor.bulkArgs
theorem alive_runs : Go.X.allTrue ((Go.X.xCall Tryz.prog Cut.hints Cut.S 5000 60 5 []).run 0 (Go.X.startT 3 1 BaN.tabA) Go.X.Log.nil) = true := by decide +kernel
end Go.Proofs.YtbhbiccfkkoanaaGreatDoor.bulkArgs
