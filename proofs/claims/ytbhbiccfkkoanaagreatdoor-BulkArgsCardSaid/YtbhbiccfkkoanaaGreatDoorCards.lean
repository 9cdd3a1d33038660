/-
  DERIVED. GIVEN WITH THE SEED: THE CARDS: each row of YtbhbiccfkkoanaaGreatDoorRows.lean that lists a variable, with what it lists TIED to the program's text (the seventh form; the later family's looks); each row that meets fmt, with fmt's text TOLD by the authors' own Lean function (tested against real Go, not proved from fmt's source: count such statements apart). THE CARD IS WHAT COUNTS. Prove the row's statement (the work); the ties are given (YtbhbiccfkkoanaaGreatDoorTie.lean); close each card by the builder's one call (the guide's Derived/Test/ToyasCard.lean, 'card_holds'). Laid BY PROGRAM, IN A SANDBOX (cutbox-door.mjs). By AI agents, Wed Nov 11 2026. No macro, syntax, notation, axiom, sorry.
-/
import Derived.Test.YtbhbiccfkkoanaaGreatDoorRows
import GoSem.ClaimSeven
namespace Go.Proofs.YtbhbiccfkkoanaaGreatDoor
namespace Rows

/-- THE TIED CARD OF 'banyanlaw15.BulkNames'. -/
def bulkNamesCard : Claim7 := { stood := { row := bulkNamesRow, standIns := [], harness := (true, "707e96810584b41be77199484c0608abd7a8b39d4cb3792e626e0a383402d66a"), looks := true }, kinds := [], alts := [], laidByText := true, laidKinds := [.data, .handle], laidTests := true, laidLooks := .later }
def BulkNamesCardSaid : Prop := Claim7.holds Tryz.pinned (.plain (OpenSpec.ofChange bulkNamesSpec)) bulkNamesCard

/-- THE TIED CARD OF 'banyanlaw15.BulkArgs'. -/
def bulkArgsCard : Claim7 := { stood := { row := bulkArgsRow, standIns := [], harness := (true, "707e96810584b41be77199484c0608abd7a8b39d4cb3792e626e0a383402d66a"), looks := true }, kinds := [], alts := [], laidByText := true, laidKinds := [.data, .handle], laidTests := true, laidLooks := .later }
def BulkArgsCardSaid : Prop := Claim7.holds Tryz.pinned (.plain (OpenSpec.ofChange bulkArgsSpec)) bulkArgsCard

/-- THE SECOND FORM's CARD OF 'banyanlaw15.BulkNames'. -/
def bulkNamesUptoCard : Claim7 := { stood := { row := bulkNamesUptoRow, standIns := [], harness := (true, "707e96810584b41be77199484c0608abd7a8b39d4cb3792e626e0a383402d66a"), looks := true }, kinds := [], alts := [], laidByText := true, laidKinds := [.data, .handle], laidTests := true, laidLooks := .later }
def BulkNamesUptoCardSaid : Prop := Claim7.holds Tryz.pinned (.plain (OpenSpec.upto bulkNamesSpec)) bulkNamesUptoCard

/-- THE SECOND FORM's CARD OF 'banyanlaw15.BulkArgs'. -/
def bulkArgsUptoCard : Claim7 := { stood := { row := bulkArgsUptoRow, standIns := [], harness := (true, "707e96810584b41be77199484c0608abd7a8b39d4cb3792e626e0a383402d66a"), looks := true }, kinds := [], alts := [], laidByText := true, laidKinds := [.data, .handle], laidTests := true, laidLooks := .later }
def BulkArgsUptoCardSaid : Prop := Claim7.holds Tryz.pinned (.plain (OpenSpec.upto bulkArgsSpec)) bulkArgsUptoCard
end Rows
end Go.Proofs.YtbhbiccfkkoanaaGreatDoor
