/-
  DERIVED. GIVEN WITH THE SEED: THE CARDS: each row of YtligncjhmmgajaaGreatDoorRows.lean that lists a variable, with what it lists TIED to the program's text (the seventh form; the later family's looks); each row that meets fmt, with fmt's text TOLD by the authors' own Lean function (tested against real Go, not proved from fmt's source: count such statements apart). THE CARD IS WHAT COUNTS. Prove the row's statement (the work); the ties are given (YtligncjhmmgajaaGreatDoorTie.lean); close each card by the builder's one call (the guide's Derived/Test/ToyasCard.lean, 'card_holds'). Laid BY PROGRAM, IN A SANDBOX (cutbox-door.mjs). By AI agents, Wed Nov 11 2026. No macro, syntax, notation, axiom, sorry.
-/
import Derived.Test.YtligncjhmmgajaaGreatDoorRows
import GoSem.ClaimSeven
namespace Go.Proofs.YtligncjhmmgajaaGreatDoor
namespace Rows

/-- THE TIED CARD OF 'banyanlaw21.MoveNone'. -/
def moveNoneCard : Claim7 := { stood := { row := moveNoneRow, standIns := [], harness := (true, "43e6536b0c3c85fc6ec42637b044d151b0508104b1102633353d0facb1346249"), looks := true }, kinds := [], alts := [], laidByText := true, laidKinds := [.data, .handle], laidTests := true, laidLooks := .later }
def MoveNoneCardSaid : Prop := Claim7.holds Tryz.pinned (.plain (OpenSpec.ofChange moveNoneSpec)) moveNoneCard

/-- THE SECOND FORM's CARD OF 'banyanlaw21.MoveNone'. -/
def moveNoneUptoCard : Claim7 := { stood := { row := moveNoneUptoRow, standIns := [], harness := (true, "43e6536b0c3c85fc6ec42637b044d151b0508104b1102633353d0facb1346249"), looks := true }, kinds := [], alts := [], laidByText := true, laidKinds := [.data, .handle], laidTests := true, laidLooks := .later }
def MoveNoneUptoCardSaid : Prop := Claim7.holds Tryz.pinned (.plain (OpenSpec.upto moveNoneSpec)) moveNoneUptoCard
end Rows
end Go.Proofs.YtligncjhmmgajaaGreatDoor
