/-
  DERIVED. GIVEN WITH THE SEED: THE CARDS: each row of YtjecebccchhmhaaGreatDoorRows.lean that lists a variable, with what it lists TIED to the program's text (the seventh form; the later family's looks); each row that meets fmt, with fmt's text TOLD by the authors' own Lean function (tested against real Go, not proved from fmt's source: count such statements apart). THE CARD IS WHAT COUNTS. Prove the row's statement (the work); the ties are given (YtjecebccchhmhaaGreatDoorTie.lean); close each card by the builder's one call (the guide's Derived/Test/ToyasCard.lean, 'card_holds'). Laid BY PROGRAM, IN A SANDBOX (cutbox-door.mjs). By AI agents, Wed Nov 11 2026. No macro, syntax, notation, axiom, sorry.
-/
import Derived.Test.YtjecebccchhmhaaGreatDoorRows
import GoSem.ClaimSeven
namespace Go.Proofs.YtjecebccchhmhaaGreatDoor
namespace Rows

/-- THE TIED CARD OF 'oxgalltop.TopCombedDrops'. -/
def topCombedDropsCard : Claim7 := { stood := { row := topCombedDropsRow, standIns := [], harness := (true, "40a5c84b5823e9816e6c5af13f8b4fb03a980d5fed7798fe8bb0579a40eca3ef"), looks := false }, kinds := [], alts := [], laidByText := true, laidKinds := [.data, .data], laidTests := true, laidLooks := .later }
def TopCombedDropsCardSaid : Prop := Claim7.holds Tryz.pinned (.plain (OpenSpec.ofChange topCombedDropsSpec)) topCombedDropsCard

/-- THE TIED CARD OF 'oxgalltop.TopCombedStrokes'. -/
def topCombedStrokesCard : Claim7 := { stood := { row := topCombedStrokesRow, standIns := [], harness := (true, "40a5c84b5823e9816e6c5af13f8b4fb03a980d5fed7798fe8bb0579a40eca3ef"), looks := false }, kinds := [], alts := [], laidByText := true, laidKinds := [.data, .data], laidTests := true, laidLooks := .later }
def TopCombedStrokesCardSaid : Prop := Claim7.holds Tryz.pinned (.plain (OpenSpec.ofChange topCombedStrokesSpec)) topCombedStrokesCard

/-- THE SECOND FORM's CARD OF 'oxgalltop.TopCombedDrops'. -/
def topCombedDropsUptoCard : Claim7 := { stood := { row := topCombedDropsUptoRow, standIns := [], harness := (true, "40a5c84b5823e9816e6c5af13f8b4fb03a980d5fed7798fe8bb0579a40eca3ef"), looks := false }, kinds := [], alts := [], laidByText := true, laidKinds := [.data, .data], laidTests := true, laidLooks := .later }
def TopCombedDropsUptoCardSaid : Prop := Claim7.holds Tryz.pinned (.plain (OpenSpec.upto topCombedDropsSpec)) topCombedDropsUptoCard

/-- THE SECOND FORM's CARD OF 'oxgalltop.TopCombedStrokes'. -/
def topCombedStrokesUptoCard : Claim7 := { stood := { row := topCombedStrokesUptoRow, standIns := [], harness := (true, "40a5c84b5823e9816e6c5af13f8b4fb03a980d5fed7798fe8bb0579a40eca3ef"), looks := false }, kinds := [], alts := [], laidByText := true, laidKinds := [.data, .data], laidTests := true, laidLooks := .later }
def TopCombedStrokesUptoCardSaid : Prop := Claim7.holds Tryz.pinned (.plain (OpenSpec.upto topCombedStrokesSpec)) topCombedStrokesUptoCard
end Rows
end Go.Proofs.YtjecebccchhmhaaGreatDoor
