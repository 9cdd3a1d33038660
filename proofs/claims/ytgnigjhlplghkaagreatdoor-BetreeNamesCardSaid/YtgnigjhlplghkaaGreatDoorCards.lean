/-
  DERIVED. GIVEN WITH THE SEED: THE CARDS: each row of YtgnigjhlplghkaaGreatDoorRows.lean that lists a variable, with what it lists TIED to the program's text (the seventh form; the later family's looks); each row that meets fmt, with fmt's text TOLD by the authors' own Lean function (tested against real Go, not proved from fmt's source: count such statements apart). THE CARD IS WHAT COUNTS. Prove the row's statement (the work); the ties are given (YtgnigjhlplghkaaGreatDoorTie.lean); close each card by the builder's one call (the guide's Derived/Test/ToyasCard.lean, 'card_holds'). Laid BY PROGRAM, IN A SANDBOX (cutbox-door.mjs). By AI agents, Wed Nov 11 2026. No macro, syntax, notation, axiom, sorry.
-/
import Derived.Test.YtgnigjhlplghkaaGreatDoorRows
import GoSem.ClaimSeven
namespace Go.Proofs.YtgnigjhlplghkaaGreatDoor
namespace Rows

/-- THE TIED CARD OF 'banyanlaw17.BetreeNames'. -/
def betreeNamesCard : Claim7 := { stood := { row := betreeNamesRow, standIns := [], harness := (true, "2d00dede3bdbd50b799865f8e039382f53013d9fff4097e8387249eb8c7084d0"), looks := true }, kinds := [], alts := [], laidByText := true, laidKinds := [.data, .handle], laidTests := true, laidLooks := .later }
def BetreeNamesCardSaid : Prop := Claim7.holds Tryz.pinned (.plain (OpenSpec.ofChange betreeNamesSpec)) betreeNamesCard

/-- THE SECOND FORM's CARD OF 'banyanlaw17.BetreeNames'. -/
def betreeNamesUptoCard : Claim7 := { stood := { row := betreeNamesUptoRow, standIns := [], harness := (true, "2d00dede3bdbd50b799865f8e039382f53013d9fff4097e8387249eb8c7084d0"), looks := true }, kinds := [], alts := [], laidByText := true, laidKinds := [.data, .handle], laidTests := true, laidLooks := .later }
def BetreeNamesUptoCardSaid : Prop := Claim7.holds Tryz.pinned (.plain (OpenSpec.upto betreeNamesSpec)) betreeNamesUptoCard
end Rows
end Go.Proofs.YtgnigjhlplghkaaGreatDoor
