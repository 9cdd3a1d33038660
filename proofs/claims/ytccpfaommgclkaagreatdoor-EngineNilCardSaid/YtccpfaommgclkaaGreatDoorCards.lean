/-
  DERIVED. GIVEN WITH THE SEED: THE CARDS: each row of YtccpfaommgclkaaGreatDoorRows.lean that lists a variable, with what it lists TIED to the program's text (the seventh form; the later family's looks); each row that meets fmt, with fmt's text TOLD by the authors' own Lean function (tested against real Go, not proved from fmt's source: count such statements apart). THE CARD IS WHAT COUNTS. Prove the row's statement (the work); the ties are given (YtccpfaommgclkaaGreatDoorTie.lean); close each card by the builder's one call (the guide's Derived/Test/ToyasCard.lean, 'card_holds'). Laid BY PROGRAM, IN A SANDBOX (cutbox-door.mjs). By AI agents, Wed Nov 11 2026. No macro, syntax, notation, axiom, sorry.
-/
import Derived.Test.YtccpfaommgclkaaGreatDoorRows
import GoSem.ClaimSeven
namespace Go.Proofs.YtccpfaommgclkaaGreatDoor
namespace Rows

/-- THE TIED CARD OF 'banyanlaw22.EngineNames'. -/
def engineNamesCard : Claim7 := { stood := { row := engineNamesRow, standIns := [], harness := (true, "b55e86ac48c693542a7f07c770c572ffc08addb98f62eaae8e125331028fecc8"), looks := true }, kinds := [], alts := [], laidByText := true, laidKinds := [.data, .handle], laidTests := true, laidLooks := .later }
def EngineNamesCardSaid : Prop := Claim7.holds Tryz.pinned (.plain (OpenSpec.ofChange engineNamesSpec)) engineNamesCard

/-- THE TIED CARD OF 'banyanlaw22.EngineNil'. -/
def engineNilCard : Claim7 := { stood := { row := engineNilRow, standIns := [], harness := (true, "b55e86ac48c693542a7f07c770c572ffc08addb98f62eaae8e125331028fecc8"), looks := true }, kinds := [], alts := [], laidByText := true, laidKinds := [.data, .handle], laidTests := true, laidLooks := .later }
def EngineNilCardSaid : Prop := Claim7.holds Tryz.pinned (.plain (OpenSpec.ofChange engineNilSpec)) engineNilCard

/-- THE SECOND FORM's CARD OF 'banyanlaw22.EngineNames'. -/
def engineNamesUptoCard : Claim7 := { stood := { row := engineNamesUptoRow, standIns := [], harness := (true, "b55e86ac48c693542a7f07c770c572ffc08addb98f62eaae8e125331028fecc8"), looks := true }, kinds := [], alts := [], laidByText := true, laidKinds := [.data, .handle], laidTests := true, laidLooks := .later }
def EngineNamesUptoCardSaid : Prop := Claim7.holds Tryz.pinned (.plain (OpenSpec.upto engineNamesSpec)) engineNamesUptoCard

/-- THE SECOND FORM's CARD OF 'banyanlaw22.EngineNil'. -/
def engineNilUptoCard : Claim7 := { stood := { row := engineNilUptoRow, standIns := [], harness := (true, "b55e86ac48c693542a7f07c770c572ffc08addb98f62eaae8e125331028fecc8"), looks := true }, kinds := [], alts := [], laidByText := true, laidKinds := [.data, .handle], laidTests := true, laidLooks := .later }
def EngineNilUptoCardSaid : Prop := Claim7.holds Tryz.pinned (.plain (OpenSpec.upto engineNilSpec)) engineNilUptoCard
end Rows
end Go.Proofs.YtccpfaommgclkaaGreatDoor
