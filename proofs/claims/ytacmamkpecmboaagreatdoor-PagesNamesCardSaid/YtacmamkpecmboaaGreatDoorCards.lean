/-
  DERIVED. GIVEN WITH THE SEED: THE CARDS: each row of YtacmamkpecmboaaGreatDoorRows.lean that lists a variable, with what it lists TIED to the program's text (the seventh form; the later family's looks); each row that meets fmt, with fmt's text TOLD by the authors' own Lean function (tested against real Go, not proved from fmt's source: count such statements apart). THE CARD IS WHAT COUNTS. Prove the row's statement (the work); the ties are given (YtacmamkpecmboaaGreatDoorTie.lean); close each card by the builder's one call (the guide's Derived/Test/ToyasCard.lean, 'card_holds'). Laid BY PROGRAM, IN A SANDBOX (cutbox-door.mjs). By AI agents, Wed Nov 11 2026. No macro, syntax, notation, axiom, sorry.
-/
import Derived.Test.YtacmamkpecmboaaGreatDoorRows
import GoSem.ClaimSeven
namespace Go.Proofs.YtacmamkpecmboaaGreatDoor
namespace Rows

/-- THE TIED CARD OF 'banyanlaw11.PagesNames'. -/
def pagesNamesCard : Claim7 := { stood := { row := pagesNamesRow, standIns := [], harness := (true, "87240cbbc901548c33f66ea27fde1eb843ce8c69301e6696906f250b77b0805b"), looks := true }, kinds := [], alts := [], laidByText := true, laidKinds := [.data], laidTests := true, laidLooks := .later }
def PagesNamesCardSaid : Prop := Claim7.holds Tryz.pinned (.plain (OpenSpec.ofChange pagesNamesSpec)) pagesNamesCard

/-- THE TIED CARD OF 'banyanlaw11.PagesNil'. -/
def pagesNilCard : Claim7 := { stood := { row := pagesNilRow, standIns := [], harness := (true, "87240cbbc901548c33f66ea27fde1eb843ce8c69301e6696906f250b77b0805b"), looks := true }, kinds := [], alts := [], laidByText := true, laidKinds := [.data], laidTests := true, laidLooks := .later }
def PagesNilCardSaid : Prop := Claim7.holds Tryz.pinned (.plain (OpenSpec.ofChange pagesNilSpec)) pagesNilCard

/-- THE SECOND FORM's CARD OF 'banyanlaw11.PagesNames'. -/
def pagesNamesUptoCard : Claim7 := { stood := { row := pagesNamesUptoRow, standIns := [], harness := (true, "87240cbbc901548c33f66ea27fde1eb843ce8c69301e6696906f250b77b0805b"), looks := true }, kinds := [], alts := [], laidByText := true, laidKinds := [.data], laidTests := true, laidLooks := .later }
def PagesNamesUptoCardSaid : Prop := Claim7.holds Tryz.pinned (.plain (OpenSpec.upto pagesNamesSpec)) pagesNamesUptoCard

/-- THE SECOND FORM's CARD OF 'banyanlaw11.PagesNil'. -/
def pagesNilUptoCard : Claim7 := { stood := { row := pagesNilUptoRow, standIns := [], harness := (true, "87240cbbc901548c33f66ea27fde1eb843ce8c69301e6696906f250b77b0805b"), looks := true }, kinds := [], alts := [], laidByText := true, laidKinds := [.data], laidTests := true, laidLooks := .later }
def PagesNilUptoCardSaid : Prop := Claim7.holds Tryz.pinned (.plain (OpenSpec.upto pagesNilSpec)) pagesNilUptoCard
end Rows
end Go.Proofs.YtacmamkpecmboaaGreatDoor
