/-
  DERIVED. GIVEN WITH THE SEED: THE CARDS: each row of YtghpkpddmicleaaGreatDoorRows.lean that lists a variable, with what it lists TIED to the program's text (the seventh form; the later family's looks); each row that meets fmt, with fmt's text TOLD by the authors' own Lean function (tested against real Go, not proved from fmt's source: count such statements apart). THE CARD IS WHAT COUNTS. Prove the row's statement (the work); the ties are given (YtghpkpddmicleaaGreatDoorTie.lean); close each card by the builder's one call (the guide's Derived/Test/ToyasCard.lean, 'card_holds'). Laid BY PROGRAM, IN A SANDBOX (cutbox-door.mjs). By AI agents, Wed Nov 11 2026. No macro, syntax, notation, axiom, sorry.
-/
import Derived.Test.YtghpkpddmicleaaGreatDoorRows
import GoSem.ClaimSeven
namespace Go.Proofs.YtghpkpddmicleaaGreatDoor
namespace Rows

/-- THE TIED CARD OF 'banyanlaw14.BtreeNil'. -/
def btreeNilCard : Claim7 := { stood := { row := btreeNilRow, standIns := [], harness := (true, "fac9882b2259c7184419dd3a781dd435a08043e7d67037abedca06b625eec6bb"), looks := true }, kinds := [], alts := [], laidByText := true, laidKinds := [.data], laidTests := true, laidLooks := .later }
def BtreeNilCardSaid : Prop := Claim7.holds Tryz.pinned (.plain (OpenSpec.ofChange btreeNilSpec)) btreeNilCard

/-- THE SECOND FORM's CARD OF 'banyanlaw14.BtreeNil'. -/
def btreeNilUptoCard : Claim7 := { stood := { row := btreeNilUptoRow, standIns := [], harness := (true, "fac9882b2259c7184419dd3a781dd435a08043e7d67037abedca06b625eec6bb"), looks := true }, kinds := [], alts := [], laidByText := true, laidKinds := [.data], laidTests := true, laidLooks := .later }
def BtreeNilUptoCardSaid : Prop := Claim7.holds Tryz.pinned (.plain (OpenSpec.upto btreeNilSpec)) btreeNilUptoCard
end Rows
end Go.Proofs.YtghpkpddmicleaaGreatDoor
