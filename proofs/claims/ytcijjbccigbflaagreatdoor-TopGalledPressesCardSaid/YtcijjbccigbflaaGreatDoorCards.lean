/-
  DERIVED. GIVEN WITH THE SEED: THE CARDS: each row of YtcijjbccigbflaaGreatDoorRows.lean that lists a variable, with what it lists TIED to the program's text (the seventh form; the later family's looks); each row that meets fmt, with fmt's text TOLD by the authors' own Lean function (tested against real Go, not proved from fmt's source: count such statements apart). THE CARD IS WHAT COUNTS. Prove the row's statement (the work); the ties are given (YtcijjbccigbflaaGreatDoorTie.lean); close each card by the builder's one call (the guide's Derived/Test/ToyasCard.lean, 'card_holds'). Laid BY PROGRAM, IN A SANDBOX (cutbox-door.mjs). By AI agents, Wed Nov 11 2026. No macro, syntax, notation, axiom, sorry.
-/
import Derived.Test.YtcijjbccigbflaaGreatDoorRows
import GoSem.ClaimSeven
namespace Go.Proofs.YtcijjbccigbflaaGreatDoor
namespace Rows

/-- THE TIED CARD OF 'oxgalltop.TopGalledPresses'. -/
def topGalledPressesCard : Claim7 := { stood := { row := topGalledPressesRow, standIns := [], harness := (true, "162d04a6f843acb5c0df7c3286a84fa367ee0ed3178b857ca15b1af45f6634d2"), looks := false }, kinds := [], alts := [], laidByText := true, laidKinds := [.data, .data], laidTests := true, laidLooks := .later }
def TopGalledPressesCardSaid : Prop := Claim7.holds Tryz.pinned (.plain (OpenSpec.ofChange topGalledPressesSpec)) topGalledPressesCard

/-- THE SECOND FORM's CARD OF 'oxgalltop.TopGalledPresses'. -/
def topGalledPressesUptoCard : Claim7 := { stood := { row := topGalledPressesUptoRow, standIns := [], harness := (true, "162d04a6f843acb5c0df7c3286a84fa367ee0ed3178b857ca15b1af45f6634d2"), looks := false }, kinds := [], alts := [], laidByText := true, laidKinds := [.data, .data], laidTests := true, laidLooks := .later }
def TopGalledPressesUptoCardSaid : Prop := Claim7.holds Tryz.pinned (.plain (OpenSpec.upto topGalledPressesSpec)) topGalledPressesUptoCard
end Rows
end Go.Proofs.YtcijjbccigbflaaGreatDoor
