/-
  DERIVED. GIVEN WITH THE SEED: THE CARDS: each row of YtjfafggkkjgpeaaGreatDoorRows.lean that lists a variable, with what it lists TIED to the program's text (the seventh form; the later family's looks); each row that meets fmt, with fmt's text TOLD by the authors' own Lean function (tested against real Go, not proved from fmt's source: count such statements apart). THE CARD IS WHAT COUNTS. Prove the row's statement (the work); the ties are given (YtjfafggkkjgpeaaGreatDoorTie.lean); close each card by the builder's one call (the guide's Derived/Test/ToyasCard.lean, 'card_holds'). Laid BY PROGRAM, IN A SANDBOX (cutbox-door.mjs). By AI agents, Wed Nov 11 2026. No macro, syntax, notation, axiom, sorry.
-/
import Derived.Test.YtjfafggkkjgpeaaGreatDoorRows
import GoSem.ClaimSeven
namespace Go.Proofs.YtjfafggkkjgpeaaGreatDoor
namespace Rows

/-- THE TIED CARD OF 'oxgalltop.TopDrawnSeams'. -/
def topDrawnSeamsCard : Claim7 := { stood := { row := topDrawnSeamsRow, standIns := [], harness := (true, "ea7e0e9e0562ab17aca962062e5e869f5595b8b56452b16fef6428251833b2e6"), looks := false }, kinds := [], alts := [], laidByText := true, laidKinds := [.data, .data], laidTests := true, laidLooks := .later }
def TopDrawnSeamsCardSaid : Prop := Claim7.holds Tryz.pinned (.plain (OpenSpec.ofChange topDrawnSeamsSpec)) topDrawnSeamsCard

/-- THE TIED CARD OF 'oxgalltop.TopCombedSeams'. -/
def topCombedSeamsCard : Claim7 := { stood := { row := topCombedSeamsRow, standIns := [], harness := (true, "ea7e0e9e0562ab17aca962062e5e869f5595b8b56452b16fef6428251833b2e6"), looks := false }, kinds := [], alts := [], laidByText := true, laidKinds := [.data, .data], laidTests := true, laidLooks := .later }
def TopCombedSeamsCardSaid : Prop := Claim7.holds Tryz.pinned (.plain (OpenSpec.ofChange topCombedSeamsSpec)) topCombedSeamsCard

/-- THE SECOND FORM's CARD OF 'oxgalltop.TopDrawnSeams'. -/
def topDrawnSeamsUptoCard : Claim7 := { stood := { row := topDrawnSeamsUptoRow, standIns := [], harness := (true, "ea7e0e9e0562ab17aca962062e5e869f5595b8b56452b16fef6428251833b2e6"), looks := false }, kinds := [], alts := [], laidByText := true, laidKinds := [.data, .data], laidTests := true, laidLooks := .later }
def TopDrawnSeamsUptoCardSaid : Prop := Claim7.holds Tryz.pinned (.plain (OpenSpec.upto topDrawnSeamsSpec)) topDrawnSeamsUptoCard

/-- THE SECOND FORM's CARD OF 'oxgalltop.TopCombedSeams'. -/
def topCombedSeamsUptoCard : Claim7 := { stood := { row := topCombedSeamsUptoRow, standIns := [], harness := (true, "ea7e0e9e0562ab17aca962062e5e869f5595b8b56452b16fef6428251833b2e6"), looks := false }, kinds := [], alts := [], laidByText := true, laidKinds := [.data, .data], laidTests := true, laidLooks := .later }
def TopCombedSeamsUptoCardSaid : Prop := Claim7.holds Tryz.pinned (.plain (OpenSpec.upto topCombedSeamsSpec)) topCombedSeamsUptoCard
end Rows
end Go.Proofs.YtjfafggkkjgpeaaGreatDoor
