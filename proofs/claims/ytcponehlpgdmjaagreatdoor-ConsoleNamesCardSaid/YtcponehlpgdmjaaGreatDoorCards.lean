/-
  DERIVED. GIVEN WITH THE SEED: THE CARDS: each row of YtcponehlpgdmjaaGreatDoorRows.lean that lists a variable, with what it lists TIED to the program's text (the seventh form; the later family's looks); each row that meets fmt, with fmt's text TOLD by the authors' own Lean function (tested against real Go, not proved from fmt's source: count such statements apart). THE CARD IS WHAT COUNTS. Prove the row's statement (the work); the ties are given (YtcponehlpgdmjaaGreatDoorTie.lean); close each card by the builder's one call (the guide's Derived/Test/ToyasCard.lean, 'card_holds'). Laid BY PROGRAM, IN A SANDBOX (cutbox-door.mjs). By AI agents, Wed Nov 11 2026. No macro, syntax, notation, axiom, sorry.
-/
import Derived.Test.YtcponehlpgdmjaaGreatDoorRows
import GoSem.ClaimSeven
namespace Go.Proofs.YtcponehlpgdmjaaGreatDoor
namespace Rows

/-- THE TIED CARD OF 'banyanlaw23.ConsoleNames'. -/
def consoleNamesCard : Claim7 := { stood := { row := consoleNamesRow, standIns := [], harness := (true, "d22082de901a18e0fdb49d87d194b4d772ea0bc67cc7c6171b98de2e63f3407f"), looks := true }, kinds := [], alts := [], laidByText := true, laidKinds := [.data, .handle, .data, .data, .pinned, .data], laidTests := true, laidLooks := .later }
def ConsoleNamesCardSaid : Prop := Claim7.holds Tryz.pinned (.plain (OpenSpec.ofChange consoleNamesSpec)) consoleNamesCard

/-- THE SECOND FORM's CARD OF 'banyanlaw23.ConsoleNames'. -/
def consoleNamesUptoCard : Claim7 := { stood := { row := consoleNamesUptoRow, standIns := [], harness := (true, "d22082de901a18e0fdb49d87d194b4d772ea0bc67cc7c6171b98de2e63f3407f"), looks := true }, kinds := [], alts := [], laidByText := true, laidKinds := [.data, .handle, .data, .data, .pinned, .data], laidTests := true, laidLooks := .later }
def ConsoleNamesUptoCardSaid : Prop := Claim7.holds Tryz.pinned (.plain (OpenSpec.upto consoleNamesSpec)) consoleNamesUptoCard
end Rows
end Go.Proofs.YtcponehlpgdmjaaGreatDoor
