/-
  DERIVED. GIVEN WITH THE SEED: THE CARDS: each row of YtjchcfiiijgmdaaGreatDoorRows.lean that lists a variable, with what it lists TIED to the program's text (the seventh form; the later family's looks); each row that meets fmt, with fmt's text TOLD by the authors' own Lean function (tested against real Go, not proved from fmt's source: count such statements apart). THE CARD IS WHAT COUNTS. Prove the row's statement (the work); the ties are given (YtjchcfiiijgmdaaGreatDoorTie.lean); close each card by the builder's one call (the guide's Derived/Test/ToyasCard.lean, 'card_holds'). Laid BY PROGRAM, IN A SANDBOX (cutbox-door.mjs). By AI agents, Wed Nov 11 2026. No macro, syntax, notation, axiom, sorry.
-/
import Derived.Test.YtjchcfiiijgmdaaGreatDoorRows
import GoSem.ClaimSeven
namespace Go.Proofs.YtjchcfiiijgmdaaGreatDoor
namespace Rows

/-- THE TIED CARD OF 'banyanlaw15.BulkLeaves'. -/
def bulkLeavesCard : Claim7 := { stood := { row := bulkLeavesRow, standIns := [], harness := (true, "ab48dea3beb9e5aa4d1e32036f26ad80f44622f5b75117b3963fdc9b4bef4cbf"), looks := true }, kinds := [], alts := [], laidByText := true, laidKinds := [.data, .handle], laidTests := true, laidLooks := .later }
def BulkLeavesCardSaid : Prop := Claim7.holds Tryz.pinned (.plain (OpenSpec.ofChange bulkLeavesSpec)) bulkLeavesCard

/-- THE SECOND FORM's CARD OF 'banyanlaw15.BulkLeaves'. -/
def bulkLeavesUptoCard : Claim7 := { stood := { row := bulkLeavesUptoRow, standIns := [], harness := (true, "ab48dea3beb9e5aa4d1e32036f26ad80f44622f5b75117b3963fdc9b4bef4cbf"), looks := true }, kinds := [], alts := [], laidByText := true, laidKinds := [.data, .handle], laidTests := true, laidLooks := .later }
def BulkLeavesUptoCardSaid : Prop := Claim7.holds Tryz.pinned (.plain (OpenSpec.upto bulkLeavesSpec)) bulkLeavesUptoCard
end Rows
end Go.Proofs.YtjchcfiiijgmdaaGreatDoor
