/-
  DERIVED. GIVEN WITH THE SEED: THE CARDS: each row of YtjjkdjbbkagclaaGreatDoorRows.lean that lists a variable, with what it lists TIED to the program's text (the seventh form; the later family's looks); each row that meets fmt, with fmt's text TOLD by the authors' own Lean function (tested against real Go, not proved from fmt's source: count such statements apart). THE CARD IS WHAT COUNTS. Prove the row's statement (the work); the ties are given (YtjjkdjbbkagclaaGreatDoorTie.lean); close each card by the builder's one call (the guide's Derived/Test/ToyasCard.lean, 'card_holds'). Laid BY PROGRAM, IN A SANDBOX (cutbox-door.mjs). By AI agents, Wed Nov 11 2026. No macro, syntax, notation, axiom, sorry.
-/
import Derived.Test.YtjjkdjbbkagclaaGreatDoorRows
import GoSem.ClaimSeven
namespace Go.Proofs.YtjjkdjbbkagclaaGreatDoor
namespace Rows

/-- THE TIED CARD OF 'oxgalltop.TopPushedDrops'. -/
def topPushedDropsCard : Claim7 := { stood := { row := topPushedDropsRow, standIns := [], harness := (true, "f29987e92bc5f2404b8b793c66a598b3e3cb3a199d895d13723b049675509602"), looks := false }, kinds := [], alts := [], laidByText := true, laidKinds := [.data, .data], laidTests := true, laidLooks := .later }
def TopPushedDropsCardSaid : Prop := Claim7.holds Tryz.pinned (.plain (OpenSpec.ofChange topPushedDropsSpec)) topPushedDropsCard

/-- THE TIED CARD OF 'oxgalltop.TopExchangedColours'. -/
def topExchangedColoursCard : Claim7 := { stood := { row := topExchangedColoursRow, standIns := [], harness := (true, "f29987e92bc5f2404b8b793c66a598b3e3cb3a199d895d13723b049675509602"), looks := false }, kinds := [], alts := [], laidByText := true, laidKinds := [.data, .data], laidTests := true, laidLooks := .later }
def TopExchangedColoursCardSaid : Prop := Claim7.holds Tryz.pinned (.plain (OpenSpec.ofChange topExchangedColoursSpec)) topExchangedColoursCard

/-- THE SECOND FORM's CARD OF 'oxgalltop.TopPushedDrops'. -/
def topPushedDropsUptoCard : Claim7 := { stood := { row := topPushedDropsUptoRow, standIns := [], harness := (true, "f29987e92bc5f2404b8b793c66a598b3e3cb3a199d895d13723b049675509602"), looks := false }, kinds := [], alts := [], laidByText := true, laidKinds := [.data, .data], laidTests := true, laidLooks := .later }
def TopPushedDropsUptoCardSaid : Prop := Claim7.holds Tryz.pinned (.plain (OpenSpec.upto topPushedDropsSpec)) topPushedDropsUptoCard

/-- THE SECOND FORM's CARD OF 'oxgalltop.TopExchangedColours'. -/
def topExchangedColoursUptoCard : Claim7 := { stood := { row := topExchangedColoursUptoRow, standIns := [], harness := (true, "f29987e92bc5f2404b8b793c66a598b3e3cb3a199d895d13723b049675509602"), looks := false }, kinds := [], alts := [], laidByText := true, laidKinds := [.data, .data], laidTests := true, laidLooks := .later }
def TopExchangedColoursUptoCardSaid : Prop := Claim7.holds Tryz.pinned (.plain (OpenSpec.upto topExchangedColoursSpec)) topExchangedColoursUptoCard
end Rows
end Go.Proofs.YtjjkdjbbkagclaaGreatDoor
