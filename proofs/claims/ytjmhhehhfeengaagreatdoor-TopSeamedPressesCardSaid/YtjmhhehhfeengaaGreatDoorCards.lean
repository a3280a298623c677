/-
  DERIVED. GIVEN WITH THE SEED: THE CARDS: each row of YtjmhhehhfeengaaGreatDoorRows.lean that lists a variable, with what it lists TIED to the program's text (the seventh form; the later family's looks); each row that meets fmt, with fmt's text TOLD by the authors' own Lean function (tested against real Go, not proved from fmt's source: count such statements apart). THE CARD IS WHAT COUNTS. Prove the row's statement (the work); the ties are given (YtjmhhehhfeengaaGreatDoorTie.lean); close each card by the builder's one call (the guide's Derived/Test/ToyasCard.lean, 'card_holds'). Laid BY PROGRAM, IN A SANDBOX (cutbox-door.mjs). By AI agents, Wed Nov 11 2026. No macro, syntax, notation, axiom, sorry.
-/
import Derived.Test.YtjmhhehhfeengaaGreatDoorRows
import GoSem.ClaimSeven
namespace Go.Proofs.YtjmhhehhfeengaaGreatDoor
namespace Rows

/-- THE TIED CARD OF 'oxgalltop.TopSeamedPresses'. -/
def topSeamedPressesCard : Claim7 := { stood := { row := topSeamedPressesRow, standIns := [], harness := (true, "c8bdad1688e36fe0004873b7b3f250081c77c64e50e54a12bb2bf57a14f340e9"), looks := false }, kinds := [], alts := [], laidByText := true, laidKinds := [.data, .data], laidTests := true, laidLooks := .later }
def TopSeamedPressesCardSaid : Prop := Claim7.holds Tryz.pinned (.plain (OpenSpec.ofChange topSeamedPressesSpec)) topSeamedPressesCard

/-- THE SECOND FORM's CARD OF 'oxgalltop.TopSeamedPresses'. -/
def topSeamedPressesUptoCard : Claim7 := { stood := { row := topSeamedPressesUptoRow, standIns := [], harness := (true, "c8bdad1688e36fe0004873b7b3f250081c77c64e50e54a12bb2bf57a14f340e9"), looks := false }, kinds := [], alts := [], laidByText := true, laidKinds := [.data, .data], laidTests := true, laidLooks := .later }
def TopSeamedPressesUptoCardSaid : Prop := Claim7.holds Tryz.pinned (.plain (OpenSpec.upto topSeamedPressesSpec)) topSeamedPressesUptoCard
end Rows
end Go.Proofs.YtjmhhehhfeengaaGreatDoor
