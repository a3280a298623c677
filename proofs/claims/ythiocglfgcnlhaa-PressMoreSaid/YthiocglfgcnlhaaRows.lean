/-
  No cell of these rows narrows 'for every input' (looked for: loops, veiled, ifaces, maps, wideKeys, modest, calm, conditions, laid).
  DERIVED. THE GIVEN ROWS OF THIS SEAT. 12 by the template 'for every input the law returns true; each argument reads behind the call as it read before'; 0 by the template 'total and deterministic' (their statements: YthiocglfgcnlhaaTotals.lean).
  GIVEN WITH THE SEED: the statements are not yours to turn. If you find one false, say at which input.
  Laid BY PROGRAM, IN A SANDBOX (cutbox-rows.mjs): the forced cells as the released guide's own fill.sh prints them over the translation eb2ec131a670ae00… (all of the seat's roots in one cut). By AI agents, Wed Nov 11 2026. No macro, syntax, notation, axiom, sorry.
-/
import Derived.Test.YthiocglfgcnlhaaChecked
import GoSem.Claim
import GoSem.ClaimJoined
import GoSem.ClaimMapViews
import Derived.JoinedTies
import Derived.KernelRfl
namespace Go.Proofs.Ythiocglfgcnlhaa
/- THE CELL 'sum', in the pinned program and in every row, IS THE sha256 OF THE DUMP (.gsa) THAT YthiocglfgcnlhaaProg.lean LOADS. Nothing in Lean hashes anything: it is a label: what it is worth is what the hold of that sum in a sandbox is worth. -/
noncomputable def Try.pinned : Pinned := { name := "ythiocglfgcnlhaa", sum := "eb2ec131a670ae006619ad717e8bfc11e08f357346cf095b8ca50ce87912bd5c", checked := Try.checked }
namespace Rows
def none {H : Type} : Left H := { results := [], args := [] }

/-- 'oxgalllaw06.PressEnds': WHATEVER THE INPUT: true; the input reads as it did. -/
def pressEndsSpec : ChangeSpec := { name := "pressEnds", fn := fun _ => fun
  | [d1, d2] => { results := [.lit (.bool true)], args := [d1, d2] }
  | _ => none }
def pressEndsRow : OpenClaim := { program := "ythiocglfgcnlhaa", sum := "eb2ec131a670ae006619ad717e8bfc11e08f357346cf095b8ca50ce87912bd5c", func := "oxgall/oxgalllaw06.PressEnds", spec := "pressEnds", unfollowed := true, recurses := true, plainKeys := false, apart := false }
def PressEndsSaid : Prop := pressEndsRow.holds Try.pinned (OpenSpec.ofChange pressEndsSpec)

/-- ITS FALSE NEIGHBOUR: 'it returns false'. Refute it at one input. -/
def pressEndsWrong : ChangeSpec := { name := "pressEnds", fn := fun _ => fun
  | [d1, d2] => { results := [.lit (.bool false)], args := [d1, d2] }
  | _ => none }
def PressEndsWrongFalsely : Prop := pressEndsRow.holds Try.pinned (OpenSpec.ofChange pressEndsWrong)

/-- 'oxgalllaw06.PressRows': WHATEVER THE INPUT: true; the input reads as it did. -/
def pressRowsSpec : ChangeSpec := { name := "pressRows", fn := fun _ => fun
  | [d1, d2] => { results := [.lit (.bool true)], args := [d1, d2] }
  | _ => none }
def pressRowsRow : OpenClaim := { program := "ythiocglfgcnlhaa", sum := "eb2ec131a670ae006619ad717e8bfc11e08f357346cf095b8ca50ce87912bd5c", func := "oxgall/oxgalllaw06.PressRows", spec := "pressRows", unfollowed := true, recurses := true, plainKeys := false, apart := false }
def PressRowsSaid : Prop := pressRowsRow.holds Try.pinned (OpenSpec.ofChange pressRowsSpec)

/-- ITS FALSE NEIGHBOUR: 'it returns false'. Refute it at one input. -/
def pressRowsWrong : ChangeSpec := { name := "pressRows", fn := fun _ => fun
  | [d1, d2] => { results := [.lit (.bool false)], args := [d1, d2] }
  | _ => none }
def PressRowsWrongFalsely : Prop := pressRowsRow.holds Try.pinned (OpenSpec.ofChange pressRowsWrong)

/-- 'oxgalllaw06.PressBests': WHATEVER THE INPUT: true; the input reads as it did. -/
def pressBestsSpec : ChangeSpec := { name := "pressBests", fn := fun _ => fun
  | [d1, d2] => { results := [.lit (.bool true)], args := [d1, d2] }
  | _ => none }
def pressBestsRow : OpenClaim := { program := "ythiocglfgcnlhaa", sum := "eb2ec131a670ae006619ad717e8bfc11e08f357346cf095b8ca50ce87912bd5c", func := "oxgall/oxgalllaw06.PressBests", spec := "pressBests", unfollowed := true, recurses := true, plainKeys := false, apart := false }
def PressBestsSaid : Prop := pressBestsRow.holds Try.pinned (OpenSpec.ofChange pressBestsSpec)

/-- ITS FALSE NEIGHBOUR: 'it returns false'. Refute it at one input. -/
def pressBestsWrong : ChangeSpec := { name := "pressBests", fn := fun _ => fun
  | [d1, d2] => { results := [.lit (.bool false)], args := [d1, d2] }
  | _ => none }
def PressBestsWrongFalsely : Prop := pressBestsRow.holds Try.pinned (OpenSpec.ofChange pressBestsWrong)

/-- 'oxgalllaw06.PressKinds': WHATEVER THE INPUT: true; the input reads as it did. -/
def pressKindsSpec : ChangeSpec := { name := "pressKinds", fn := fun _ => fun
  | [d1, d2, d3] => { results := [.lit (.bool true)], args := [d1, d2, d3] }
  | _ => none }
def pressKindsRow : OpenClaim := { program := "ythiocglfgcnlhaa", sum := "eb2ec131a670ae006619ad717e8bfc11e08f357346cf095b8ca50ce87912bd5c", func := "oxgall/oxgalllaw06.PressKinds", spec := "pressKinds", unfollowed := true, recurses := true, plainKeys := false, apart := false }
def PressKindsSaid : Prop := pressKindsRow.holds Try.pinned (OpenSpec.ofChange pressKindsSpec)

/-- ITS FALSE NEIGHBOUR: 'it returns false'. Refute it at one input. -/
def pressKindsWrong : ChangeSpec := { name := "pressKinds", fn := fun _ => fun
  | [d1, d2, d3] => { results := [.lit (.bool false)], args := [d1, d2, d3] }
  | _ => none }
def PressKindsWrongFalsely : Prop := pressKindsRow.holds Try.pinned (OpenSpec.ofChange pressKindsWrong)

/-- 'oxgalllaw06.PressSpares': WHATEVER THE INPUT: true; the input reads as it did. -/
def pressSparesSpec : ChangeSpec := { name := "pressSpares", fn := fun _ => fun
  | [d1, d2] => { results := [.lit (.bool true)], args := [d1, d2] }
  | _ => none }
def pressSparesRow : OpenClaim := { program := "ythiocglfgcnlhaa", sum := "eb2ec131a670ae006619ad717e8bfc11e08f357346cf095b8ca50ce87912bd5c", func := "oxgall/oxgalllaw06.PressSpares", spec := "pressSpares", unfollowed := true, recurses := true, plainKeys := false, apart := false }
def PressSparesSaid : Prop := pressSparesRow.holds Try.pinned (OpenSpec.ofChange pressSparesSpec)

/-- ITS FALSE NEIGHBOUR: 'it returns false'. Refute it at one input. -/
def pressSparesWrong : ChangeSpec := { name := "pressSpares", fn := fun _ => fun
  | [d1, d2] => { results := [.lit (.bool false)], args := [d1, d2] }
  | _ => none }
def PressSparesWrongFalsely : Prop := pressSparesRow.holds Try.pinned (OpenSpec.ofChange pressSparesWrong)

/-- 'oxgalllaw06.PressProved': WHATEVER THE INPUT: true; the input reads as it did. -/
def pressProvedSpec : ChangeSpec := { name := "pressProved", fn := fun _ => fun
  | [d1, d2, d3, d4] => { results := [.lit (.bool true)], args := [d1, d2, d3, d4] }
  | _ => none }
def pressProvedRow : OpenClaim := { program := "ythiocglfgcnlhaa", sum := "eb2ec131a670ae006619ad717e8bfc11e08f357346cf095b8ca50ce87912bd5c", func := "oxgall/oxgalllaw06.PressProved", spec := "pressProved", unfollowed := true, recurses := true, plainKeys := false, apart := false }
def PressProvedSaid : Prop := pressProvedRow.holds Try.pinned (OpenSpec.ofChange pressProvedSpec)

/-- ITS FALSE NEIGHBOUR: 'it returns false'. Refute it at one input. -/
def pressProvedWrong : ChangeSpec := { name := "pressProved", fn := fun _ => fun
  | [d1, d2, d3, d4] => { results := [.lit (.bool false)], args := [d1, d2, d3, d4] }
  | _ => none }
def PressProvedWrongFalsely : Prop := pressProvedRow.holds Try.pinned (OpenSpec.ofChange pressProvedWrong)

/-- 'oxgalllaw06.PressRowed': WHATEVER THE INPUT: true; the input reads as it did. -/
def pressRowedSpec : ChangeSpec := { name := "pressRowed", fn := fun _ => fun
  | [d1, d2] => { results := [.lit (.bool true)], args := [d1, d2] }
  | _ => none }
def pressRowedRow : OpenClaim := { program := "ythiocglfgcnlhaa", sum := "eb2ec131a670ae006619ad717e8bfc11e08f357346cf095b8ca50ce87912bd5c", func := "oxgall/oxgalllaw06.PressRowed", spec := "pressRowed", unfollowed := true, recurses := true, plainKeys := false, apart := false }
def PressRowedSaid : Prop := pressRowedRow.holds Try.pinned (OpenSpec.ofChange pressRowedSpec)

/-- ITS FALSE NEIGHBOUR: 'it returns false'. Refute it at one input. -/
def pressRowedWrong : ChangeSpec := { name := "pressRowed", fn := fun _ => fun
  | [d1, d2] => { results := [.lit (.bool false)], args := [d1, d2] }
  | _ => none }
def PressRowedWrongFalsely : Prop := pressRowedRow.holds Try.pinned (OpenSpec.ofChange pressRowedWrong)

/-- 'oxgalllaw06.PressTurned': WHATEVER THE INPUT: true; the input reads as it did. -/
def pressTurnedSpec : ChangeSpec := { name := "pressTurned", fn := fun _ => fun
  | [d1, d2, d3] => { results := [.lit (.bool true)], args := [d1, d2, d3] }
  | _ => none }
def pressTurnedRow : OpenClaim := { program := "ythiocglfgcnlhaa", sum := "eb2ec131a670ae006619ad717e8bfc11e08f357346cf095b8ca50ce87912bd5c", func := "oxgall/oxgalllaw06.PressTurned", spec := "pressTurned", unfollowed := true, recurses := true, plainKeys := false, apart := false }
def PressTurnedSaid : Prop := pressTurnedRow.holds Try.pinned (OpenSpec.ofChange pressTurnedSpec)

/-- ITS FALSE NEIGHBOUR: 'it returns false'. Refute it at one input. -/
def pressTurnedWrong : ChangeSpec := { name := "pressTurned", fn := fun _ => fun
  | [d1, d2, d3] => { results := [.lit (.bool false)], args := [d1, d2, d3] }
  | _ => none }
def PressTurnedWrongFalsely : Prop := pressTurnedRow.holds Try.pinned (OpenSpec.ofChange pressTurnedWrong)

/-- 'oxgalllaw06.PressMore': WHATEVER THE INPUT: true; the input reads as it did. -/
def pressMoreSpec : ChangeSpec := { name := "pressMore", fn := fun _ => fun
  | [d1, d2, d3, d4, d5] => { results := [.lit (.bool true)], args := [d1, d2, d3, d4, d5] }
  | _ => none }
def pressMoreRow : OpenClaim := { program := "ythiocglfgcnlhaa", sum := "eb2ec131a670ae006619ad717e8bfc11e08f357346cf095b8ca50ce87912bd5c", func := "oxgall/oxgalllaw06.PressMore", spec := "pressMore", unfollowed := true, recurses := true, plainKeys := false, apart := false }
def PressMoreSaid : Prop := pressMoreRow.holds Try.pinned (OpenSpec.ofChange pressMoreSpec)

/-- ITS FALSE NEIGHBOUR: 'it returns false'. Refute it at one input. -/
def pressMoreWrong : ChangeSpec := { name := "pressMore", fn := fun _ => fun
  | [d1, d2, d3, d4, d5] => { results := [.lit (.bool false)], args := [d1, d2, d3, d4, d5] }
  | _ => none }
def PressMoreWrongFalsely : Prop := pressMoreRow.holds Try.pinned (OpenSpec.ofChange pressMoreWrong)

/-- 'oxgalllaw06.PressTimes': WHATEVER THE INPUT: true; the input reads as it did. -/
def pressTimesSpec : ChangeSpec := { name := "pressTimes", fn := fun _ => fun
  | [d1, d2, d3, d4] => { results := [.lit (.bool true)], args := [d1, d2, d3, d4] }
  | _ => none }
def pressTimesRow : OpenClaim := { program := "ythiocglfgcnlhaa", sum := "eb2ec131a670ae006619ad717e8bfc11e08f357346cf095b8ca50ce87912bd5c", func := "oxgall/oxgalllaw06.PressTimes", spec := "pressTimes", unfollowed := true, recurses := true, plainKeys := false, apart := false }
def PressTimesSaid : Prop := pressTimesRow.holds Try.pinned (OpenSpec.ofChange pressTimesSpec)

/-- ITS FALSE NEIGHBOUR: 'it returns false'. Refute it at one input. -/
def pressTimesWrong : ChangeSpec := { name := "pressTimes", fn := fun _ => fun
  | [d1, d2, d3, d4] => { results := [.lit (.bool false)], args := [d1, d2, d3, d4] }
  | _ => none }
def PressTimesWrongFalsely : Prop := pressTimesRow.holds Try.pinned (OpenSpec.ofChange pressTimesWrong)

/-- 'oxgalllaw06.PressSpared': WHATEVER THE INPUT: true; the input reads as it did. -/
def pressSparedSpec : ChangeSpec := { name := "pressSpared", fn := fun _ => fun
  | [d1, d2, d3] => { results := [.lit (.bool true)], args := [d1, d2, d3] }
  | _ => none }
def pressSparedRow : OpenClaim := { program := "ythiocglfgcnlhaa", sum := "eb2ec131a670ae006619ad717e8bfc11e08f357346cf095b8ca50ce87912bd5c", func := "oxgall/oxgalllaw06.PressSpared", spec := "pressSpared", unfollowed := true, recurses := true, plainKeys := false, apart := false }
def PressSparedSaid : Prop := pressSparedRow.holds Try.pinned (OpenSpec.ofChange pressSparedSpec)

/-- ITS FALSE NEIGHBOUR: 'it returns false'. Refute it at one input. -/
def pressSparedWrong : ChangeSpec := { name := "pressSpared", fn := fun _ => fun
  | [d1, d2, d3] => { results := [.lit (.bool false)], args := [d1, d2, d3] }
  | _ => none }
def PressSparedWrongFalsely : Prop := pressSparedRow.holds Try.pinned (OpenSpec.ofChange pressSparedWrong)

/-- 'oxgalllaw06.PressKnown': WHATEVER THE INPUT: true; the input reads as it did. -/
def pressKnownSpec : ChangeSpec := { name := "pressKnown", fn := fun _ => fun
  | [] => { results := [.lit (.bool true)], args := [] }
  | _ => none }
def pressKnownRow : OpenClaim := { program := "ythiocglfgcnlhaa", sum := "eb2ec131a670ae006619ad717e8bfc11e08f357346cf095b8ca50ce87912bd5c", func := "oxgall/oxgalllaw06.PressKnown", spec := "pressKnown", unfollowed := true, recurses := true, plainKeys := false, apart := false }
def PressKnownSaid : Prop := pressKnownRow.holds Try.pinned (OpenSpec.ofChange pressKnownSpec)

/-- ITS FALSE NEIGHBOUR: 'it returns false'. Refute it at one input. -/
def pressKnownWrong : ChangeSpec := { name := "pressKnown", fn := fun _ => fun
  | [] => { results := [.lit (.bool false)], args := [] }
  | _ => none }
def PressKnownWrongFalsely : Prop := pressKnownRow.holds Try.pinned (OpenSpec.ofChange pressKnownWrong)

/- THE SECOND FORM. 'bulk': how many values and letters a reading holds, each counted each time it is reached (what is shared counts as often as it is met; a slice's spare places count too). A statement '..UptoSaid' is the law's where the arguments, and the package variables that the reading takes, are together of bulk at most 1048576: NARROWER than '..Said'. Prove '..Said' where nothing that the law and all that it calls make is longer than what came in: it says more and counts as full. Else prove '..UptoSaid'. A law counts once. -/
mutual
def uptoBulk {H : Type} : DataW H → Nat
  | .lit (.string bytes) => bytes.length + 1
  | .lit _ => 1
  | .nil => 1
  | .ptr d => uptoBulk d + 1
  | .slice elems spare => uptoBulkAll elems + uptoBulkAll spare + 1
  | .agg parts => uptoBulkAll parts + 1
  | .iface _ d => uptoBulk d + 1
  | .map entries => uptoBulkEntries entries + 1
  | .held _ => 1
def uptoBulkAll {H : Type} : List (DataW H) → Nat
  | [] => 0
  | d :: r => uptoBulk d + uptoBulkAll r
def uptoBulkEntries {H : Type} : List (Lit × DataW H) → Nat
  | [] => 0
  | x :: r => uptoBulkEntry x + uptoBulkEntries r
def uptoBulkEntry {H : Type} : Lit × DataW H → Nat
  | (.string bytes, d) => bytes.length + uptoBulk d + 1
  | (_, d) => uptoBulk d + 1
 end
def uptoSmall : (H : Type) → List (DataW H) → Bool := fun _ ds => decide (uptoBulkAll ds ≤ 1048576)
def OpenSpec.upto (s : _root_.Go.ChangeSpec) : _root_.Go.OpenSpec := { _root_.Go.OpenSpec.ofChange s with cond := some uptoSmall }

/-- 'oxgalllaw06.PressEnds', WHERE WHAT IT READS IS OF BULK AT MOST 1048576: true; the input reads as it did. -/
def pressEndsUptoRow : OpenClaim := { program := "ythiocglfgcnlhaa", sum := "eb2ec131a670ae006619ad717e8bfc11e08f357346cf095b8ca50ce87912bd5c", func := "oxgall/oxgalllaw06.PressEnds", spec := "pressEnds", unfollowed := true, recurses := true, plainKeys := false, apart := false, narrowed := true }
def PressEndsUptoSaid : Prop := pressEndsUptoRow.holds Try.pinned (OpenSpec.upto pressEndsSpec)

/-- 'oxgalllaw06.PressRows', WHERE WHAT IT READS IS OF BULK AT MOST 1048576: true; the input reads as it did. -/
def pressRowsUptoRow : OpenClaim := { program := "ythiocglfgcnlhaa", sum := "eb2ec131a670ae006619ad717e8bfc11e08f357346cf095b8ca50ce87912bd5c", func := "oxgall/oxgalllaw06.PressRows", spec := "pressRows", unfollowed := true, recurses := true, plainKeys := false, apart := false, narrowed := true }
def PressRowsUptoSaid : Prop := pressRowsUptoRow.holds Try.pinned (OpenSpec.upto pressRowsSpec)

/-- 'oxgalllaw06.PressBests', WHERE WHAT IT READS IS OF BULK AT MOST 1048576: true; the input reads as it did. -/
def pressBestsUptoRow : OpenClaim := { program := "ythiocglfgcnlhaa", sum := "eb2ec131a670ae006619ad717e8bfc11e08f357346cf095b8ca50ce87912bd5c", func := "oxgall/oxgalllaw06.PressBests", spec := "pressBests", unfollowed := true, recurses := true, plainKeys := false, apart := false, narrowed := true }
def PressBestsUptoSaid : Prop := pressBestsUptoRow.holds Try.pinned (OpenSpec.upto pressBestsSpec)

/-- 'oxgalllaw06.PressKinds', WHERE WHAT IT READS IS OF BULK AT MOST 1048576: true; the input reads as it did. -/
def pressKindsUptoRow : OpenClaim := { program := "ythiocglfgcnlhaa", sum := "eb2ec131a670ae006619ad717e8bfc11e08f357346cf095b8ca50ce87912bd5c", func := "oxgall/oxgalllaw06.PressKinds", spec := "pressKinds", unfollowed := true, recurses := true, plainKeys := false, apart := false, narrowed := true }
def PressKindsUptoSaid : Prop := pressKindsUptoRow.holds Try.pinned (OpenSpec.upto pressKindsSpec)

/-- 'oxgalllaw06.PressSpares', WHERE WHAT IT READS IS OF BULK AT MOST 1048576: true; the input reads as it did. -/
def pressSparesUptoRow : OpenClaim := { program := "ythiocglfgcnlhaa", sum := "eb2ec131a670ae006619ad717e8bfc11e08f357346cf095b8ca50ce87912bd5c", func := "oxgall/oxgalllaw06.PressSpares", spec := "pressSpares", unfollowed := true, recurses := true, plainKeys := false, apart := false, narrowed := true }
def PressSparesUptoSaid : Prop := pressSparesUptoRow.holds Try.pinned (OpenSpec.upto pressSparesSpec)

/-- 'oxgalllaw06.PressProved', WHERE WHAT IT READS IS OF BULK AT MOST 1048576: true; the input reads as it did. -/
def pressProvedUptoRow : OpenClaim := { program := "ythiocglfgcnlhaa", sum := "eb2ec131a670ae006619ad717e8bfc11e08f357346cf095b8ca50ce87912bd5c", func := "oxgall/oxgalllaw06.PressProved", spec := "pressProved", unfollowed := true, recurses := true, plainKeys := false, apart := false, narrowed := true }
def PressProvedUptoSaid : Prop := pressProvedUptoRow.holds Try.pinned (OpenSpec.upto pressProvedSpec)

/-- 'oxgalllaw06.PressRowed', WHERE WHAT IT READS IS OF BULK AT MOST 1048576: true; the input reads as it did. -/
def pressRowedUptoRow : OpenClaim := { program := "ythiocglfgcnlhaa", sum := "eb2ec131a670ae006619ad717e8bfc11e08f357346cf095b8ca50ce87912bd5c", func := "oxgall/oxgalllaw06.PressRowed", spec := "pressRowed", unfollowed := true, recurses := true, plainKeys := false, apart := false, narrowed := true }
def PressRowedUptoSaid : Prop := pressRowedUptoRow.holds Try.pinned (OpenSpec.upto pressRowedSpec)

/-- 'oxgalllaw06.PressTurned', WHERE WHAT IT READS IS OF BULK AT MOST 1048576: true; the input reads as it did. -/
def pressTurnedUptoRow : OpenClaim := { program := "ythiocglfgcnlhaa", sum := "eb2ec131a670ae006619ad717e8bfc11e08f357346cf095b8ca50ce87912bd5c", func := "oxgall/oxgalllaw06.PressTurned", spec := "pressTurned", unfollowed := true, recurses := true, plainKeys := false, apart := false, narrowed := true }
def PressTurnedUptoSaid : Prop := pressTurnedUptoRow.holds Try.pinned (OpenSpec.upto pressTurnedSpec)

/-- 'oxgalllaw06.PressMore', WHERE WHAT IT READS IS OF BULK AT MOST 1048576: true; the input reads as it did. -/
def pressMoreUptoRow : OpenClaim := { program := "ythiocglfgcnlhaa", sum := "eb2ec131a670ae006619ad717e8bfc11e08f357346cf095b8ca50ce87912bd5c", func := "oxgall/oxgalllaw06.PressMore", spec := "pressMore", unfollowed := true, recurses := true, plainKeys := false, apart := false, narrowed := true }
def PressMoreUptoSaid : Prop := pressMoreUptoRow.holds Try.pinned (OpenSpec.upto pressMoreSpec)

/-- 'oxgalllaw06.PressTimes', WHERE WHAT IT READS IS OF BULK AT MOST 1048576: true; the input reads as it did. -/
def pressTimesUptoRow : OpenClaim := { program := "ythiocglfgcnlhaa", sum := "eb2ec131a670ae006619ad717e8bfc11e08f357346cf095b8ca50ce87912bd5c", func := "oxgall/oxgalllaw06.PressTimes", spec := "pressTimes", unfollowed := true, recurses := true, plainKeys := false, apart := false, narrowed := true }
def PressTimesUptoSaid : Prop := pressTimesUptoRow.holds Try.pinned (OpenSpec.upto pressTimesSpec)

/-- 'oxgalllaw06.PressSpared', WHERE WHAT IT READS IS OF BULK AT MOST 1048576: true; the input reads as it did. -/
def pressSparedUptoRow : OpenClaim := { program := "ythiocglfgcnlhaa", sum := "eb2ec131a670ae006619ad717e8bfc11e08f357346cf095b8ca50ce87912bd5c", func := "oxgall/oxgalllaw06.PressSpared", spec := "pressSpared", unfollowed := true, recurses := true, plainKeys := false, apart := false, narrowed := true }
def PressSparedUptoSaid : Prop := pressSparedUptoRow.holds Try.pinned (OpenSpec.upto pressSparedSpec)

/-- 'oxgalllaw06.PressKnown', WHERE WHAT IT READS IS OF BULK AT MOST 1048576: true; the input reads as it did. -/
def pressKnownUptoRow : OpenClaim := { program := "ythiocglfgcnlhaa", sum := "eb2ec131a670ae006619ad717e8bfc11e08f357346cf095b8ca50ce87912bd5c", func := "oxgall/oxgalllaw06.PressKnown", spec := "pressKnown", unfollowed := true, recurses := true, plainKeys := false, apart := false, narrowed := true }
def PressKnownUptoSaid : Prop := pressKnownUptoRow.holds Try.pinned (OpenSpec.upto pressKnownSpec)

end Rows
end Go.Proofs.Ythiocglfgcnlhaa
