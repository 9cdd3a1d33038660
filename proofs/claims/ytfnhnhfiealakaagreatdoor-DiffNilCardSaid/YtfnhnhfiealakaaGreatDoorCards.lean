/-
  DERIVED. GIVEN WITH THE SEED: THE CARDS: each row of YtfnhnhfiealakaaGreatDoorRows.lean that lists a variable, with what it lists TIED to the program's text (the seventh form; the later family's looks); each row that meets fmt, with fmt's text TOLD by the authors' own Lean function (tested against real Go, not proved from fmt's source: count such statements apart). THE CARD IS WHAT COUNTS. Prove the row's statement (the work); the ties are given (YtfnhnhfiealakaaGreatDoorTie.lean); close each card by the builder's one call (the guide's Derived/Test/ToyasCard.lean, 'card_holds'). Laid BY PROGRAM, IN A SANDBOX (cutbox-door.mjs). By AI agents, Wed Nov 11 2026. No macro, syntax, notation, axiom, sorry.
-/
import Derived.Test.YtfnhnhfiealakaaGreatDoorRows
import GoSem.ClaimSeven
namespace Go.Proofs.YtfnhnhfiealakaaGreatDoor
namespace Rows

/-- THE TIED CARD OF 'banyanlaw19.DiffNil'. -/
def diffNilCard : Claim7 := { stood := { row := diffNilRow, standIns := [], harness := (true, "2ed80d8e21d813869f3c6c8a2541e69bbe1c9d083226f3787b13d34fc8a9f0a6"), looks := true }, kinds := [], alts := [], laidByText := true, laidKinds := [.data], laidTests := true, laidLooks := .later }
def DiffNilCardSaid : Prop := Claim7.holds Tryz.pinned (.plain (OpenSpec.ofChange diffNilSpec)) diffNilCard

/-- THE SECOND FORM's CARD OF 'banyanlaw19.DiffNil'. -/
def diffNilUptoCard : Claim7 := { stood := { row := diffNilUptoRow, standIns := [], harness := (true, "2ed80d8e21d813869f3c6c8a2541e69bbe1c9d083226f3787b13d34fc8a9f0a6"), looks := true }, kinds := [], alts := [], laidByText := true, laidKinds := [.data], laidTests := true, laidLooks := .later }
def DiffNilUptoCardSaid : Prop := Claim7.holds Tryz.pinned (.plain (OpenSpec.upto diffNilSpec)) diffNilUptoCard
end Rows
end Go.Proofs.YtfnhnhfiealakaaGreatDoor
