/-
  DERIVED. GIVEN WITH THE SEED: THE CARDS: each row of YtdeccneggkhggaaGreatDoorRows.lean that lists a variable, with what it lists TIED to the program's text (the seventh form; the later family's looks); each row that meets fmt, with fmt's text TOLD by the authors' own Lean function (tested against real Go, not proved from fmt's source: count such statements apart). THE CARD IS WHAT COUNTS. Prove the row's statement (the work); the ties are given (YtdeccneggkhggaaGreatDoorTie.lean); close each card by the builder's one call (the guide's Derived/Test/ToyasCard.lean, 'card_holds'). Laid BY PROGRAM, IN A SANDBOX (cutbox-door.mjs). By AI agents, Wed Nov 11 2026. No macro, syntax, notation, axiom, sorry.
-/
import Derived.Test.YtdeccneggkhggaaGreatDoorRows
import GoSem.ClaimSeven
namespace Go.Proofs.YtdeccneggkhggaaGreatDoor
namespace Rows

/-- THE TIED CARD OF 'banyanlaw21.MoveNames'. -/
def moveNamesCard : Claim7 := { stood := { row := moveNamesRow, standIns := [], harness := (true, "65c985b60353d2f1a67ba7f1eb537aee2021ff29855f1302f6610dea3f0b9723"), looks := true }, kinds := [], alts := [], laidByText := true, laidKinds := [.data, .handle], laidTests := true, laidLooks := .later }
def MoveNamesCardSaid : Prop := Claim7.holds Tryz.pinned (.plain (OpenSpec.ofChange moveNamesSpec)) moveNamesCard

/-- THE SECOND FORM's CARD OF 'banyanlaw21.MoveNames'. -/
def moveNamesUptoCard : Claim7 := { stood := { row := moveNamesUptoRow, standIns := [], harness := (true, "65c985b60353d2f1a67ba7f1eb537aee2021ff29855f1302f6610dea3f0b9723"), looks := true }, kinds := [], alts := [], laidByText := true, laidKinds := [.data, .handle], laidTests := true, laidLooks := .later }
def MoveNamesUptoCardSaid : Prop := Claim7.holds Tryz.pinned (.plain (OpenSpec.upto moveNamesSpec)) moveNamesUptoCard
end Rows
end Go.Proofs.YtdeccneggkhggaaGreatDoor
