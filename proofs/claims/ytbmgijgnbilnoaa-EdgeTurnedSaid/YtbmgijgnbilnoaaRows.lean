/-
  No cell of these rows narrows 'for every input' (looked for: loops, veiled, ifaces, maps, wideKeys, modest, calm, conditions, laid).
  DERIVED. THE GIVEN ROWS OF THIS SEAT. 12 by the template 'for every input the law returns true; each argument reads behind the call as it read before'; 0 by the template 'total and deterministic' (their statements: YtbmgijgnbilnoaaTotals.lean).
  GIVEN WITH THE SEED: the statements are not yours to turn. If you find one false, say at which input.
  Laid BY PROGRAM, IN A SANDBOX (cutbox-rows.mjs): the forced cells as the released guide's own fill.sh prints them over the translation 28f22384c7756318… (all of the seat's roots in one cut). By AI agents, Wed Nov 11 2026. No macro, syntax, notation, axiom, sorry.
-/
import Derived.Test.YtbmgijgnbilnoaaChecked
import GoSem.Claim
import GoSem.ClaimJoined
import GoSem.ClaimMapViews
import Derived.JoinedTies
import Derived.KernelRfl
namespace Go.Proofs.Ytbmgijgnbilnoaa
/- THE CELL 'sum', in the pinned program and in every row, IS THE sha256 OF THE DUMP (.gsa) THAT YtbmgijgnbilnoaaProg.lean LOADS. Nothing in Lean hashes anything: it is a label: what it is worth is what the hold of that sum in a sandbox is worth. -/
noncomputable def Try.pinned : Pinned := { name := "ytbmgijgnbilnoaa", sum := "28f22384c7756318ad924dc36ad38d24a1328388444ffd194635e92c56ea8848", checked := Try.checked }
namespace Rows
def none {H : Type} : Left H := { results := [], args := [] }

/-- 'oxgalllaw10.EdgeDays': WHATEVER THE INPUT: true; the input reads as it did. -/
def edgeDaysSpec : ChangeSpec := { name := "edgeDays", fn := fun _ => fun
  | [d1, d2] => { results := [.lit (.bool true)], args := [d1, d2] }
  | _ => none }
def edgeDaysRow : OpenClaim := { program := "ytbmgijgnbilnoaa", sum := "28f22384c7756318ad924dc36ad38d24a1328388444ffd194635e92c56ea8848", func := "oxgall/oxgalllaw10.EdgeDays", spec := "edgeDays", unfollowed := true, recurses := true, plainKeys := false, apart := false }
def EdgeDaysSaid : Prop := edgeDaysRow.holds Try.pinned (OpenSpec.ofChange edgeDaysSpec)

/-- ITS FALSE NEIGHBOUR: 'it returns false'. Refute it at one input. -/
def edgeDaysWrong : ChangeSpec := { name := "edgeDays", fn := fun _ => fun
  | [d1, d2] => { results := [.lit (.bool false)], args := [d1, d2] }
  | _ => none }
def EdgeDaysWrongFalsely : Prop := edgeDaysRow.holds Try.pinned (OpenSpec.ofChange edgeDaysWrong)

/-- 'oxgalllaw10.EdgePlans': WHATEVER THE INPUT: true; the input reads as it did. -/
def edgePlansSpec : ChangeSpec := { name := "edgePlans", fn := fun _ => fun
  | [d1, d2, d3] => { results := [.lit (.bool true)], args := [d1, d2, d3] }
  | _ => none }
def edgePlansRow : OpenClaim := { program := "ytbmgijgnbilnoaa", sum := "28f22384c7756318ad924dc36ad38d24a1328388444ffd194635e92c56ea8848", func := "oxgall/oxgalllaw10.EdgePlans", spec := "edgePlans", unfollowed := true, recurses := true, plainKeys := false, apart := false }
def EdgePlansSaid : Prop := edgePlansRow.holds Try.pinned (OpenSpec.ofChange edgePlansSpec)

/-- ITS FALSE NEIGHBOUR: 'it returns false'. Refute it at one input. -/
def edgePlansWrong : ChangeSpec := { name := "edgePlans", fn := fun _ => fun
  | [d1, d2, d3] => { results := [.lit (.bool false)], args := [d1, d2, d3] }
  | _ => none }
def EdgePlansWrongFalsely : Prop := edgePlansRow.holds Try.pinned (OpenSpec.ofChange edgePlansWrong)

/-- 'oxgalllaw10.EdgeBests': WHATEVER THE INPUT: true; the input reads as it did. -/
def edgeBestsSpec : ChangeSpec := { name := "edgeBests", fn := fun _ => fun
  | [d] => { results := [.lit (.bool true)], args := [d] }
  | _ => none }
def edgeBestsRow : OpenClaim := { program := "ytbmgijgnbilnoaa", sum := "28f22384c7756318ad924dc36ad38d24a1328388444ffd194635e92c56ea8848", func := "oxgall/oxgalllaw10.EdgeBests", spec := "edgeBests", unfollowed := true, recurses := true, plainKeys := false, apart := false }
def EdgeBestsSaid : Prop := edgeBestsRow.holds Try.pinned (OpenSpec.ofChange edgeBestsSpec)

/-- ITS FALSE NEIGHBOUR: 'it returns false'. Refute it at one input. -/
def edgeBestsWrong : ChangeSpec := { name := "edgeBests", fn := fun _ => fun
  | [d] => { results := [.lit (.bool false)], args := [d] }
  | _ => none }
def EdgeBestsWrongFalsely : Prop := edgeBestsRow.holds Try.pinned (OpenSpec.ofChange edgeBestsWrong)

/-- 'oxgalllaw10.EdgeMoments': WHATEVER THE INPUT: true; the input reads as it did. -/
def edgeMomentsSpec : ChangeSpec := { name := "edgeMoments", fn := fun _ => fun
  | [d1, d2] => { results := [.lit (.bool true)], args := [d1, d2] }
  | _ => none }
def edgeMomentsRow : OpenClaim := { program := "ytbmgijgnbilnoaa", sum := "28f22384c7756318ad924dc36ad38d24a1328388444ffd194635e92c56ea8848", func := "oxgall/oxgalllaw10.EdgeMoments", spec := "edgeMoments", unfollowed := true, recurses := true, plainKeys := false, apart := false }
def EdgeMomentsSaid : Prop := edgeMomentsRow.holds Try.pinned (OpenSpec.ofChange edgeMomentsSpec)

/-- ITS FALSE NEIGHBOUR: 'it returns false'. Refute it at one input. -/
def edgeMomentsWrong : ChangeSpec := { name := "edgeMoments", fn := fun _ => fun
  | [d1, d2] => { results := [.lit (.bool false)], args := [d1, d2] }
  | _ => none }
def EdgeMomentsWrongFalsely : Prop := edgeMomentsRow.holds Try.pinned (OpenSpec.ofChange edgeMomentsWrong)

/-- 'oxgalllaw10.EdgeKinds': WHATEVER THE INPUT: true; the input reads as it did. -/
def edgeKindsSpec : ChangeSpec := { name := "edgeKinds", fn := fun _ => fun
  | [d1, d2] => { results := [.lit (.bool true)], args := [d1, d2] }
  | _ => none }
def edgeKindsRow : OpenClaim := { program := "ytbmgijgnbilnoaa", sum := "28f22384c7756318ad924dc36ad38d24a1328388444ffd194635e92c56ea8848", func := "oxgall/oxgalllaw10.EdgeKinds", spec := "edgeKinds", unfollowed := true, recurses := true, plainKeys := false, apart := false }
def EdgeKindsSaid : Prop := edgeKindsRow.holds Try.pinned (OpenSpec.ofChange edgeKindsSpec)

/-- ITS FALSE NEIGHBOUR: 'it returns false'. Refute it at one input. -/
def edgeKindsWrong : ChangeSpec := { name := "edgeKinds", fn := fun _ => fun
  | [d1, d2] => { results := [.lit (.bool false)], args := [d1, d2] }
  | _ => none }
def EdgeKindsWrongFalsely : Prop := edgeKindsRow.holds Try.pinned (OpenSpec.ofChange edgeKindsWrong)

/-- 'oxgalllaw10.EdgeProved': WHATEVER THE INPUT: true; the input reads as it did. -/
def edgeProvedSpec : ChangeSpec := { name := "edgeProved", fn := fun _ => fun
  | [d1, d2, d3] => { results := [.lit (.bool true)], args := [d1, d2, d3] }
  | _ => none }
def edgeProvedRow : OpenClaim := { program := "ytbmgijgnbilnoaa", sum := "28f22384c7756318ad924dc36ad38d24a1328388444ffd194635e92c56ea8848", func := "oxgall/oxgalllaw10.EdgeProved", spec := "edgeProved", unfollowed := true, recurses := true, plainKeys := false, apart := false }
def EdgeProvedSaid : Prop := edgeProvedRow.holds Try.pinned (OpenSpec.ofChange edgeProvedSpec)

/-- ITS FALSE NEIGHBOUR: 'it returns false'. Refute it at one input. -/
def edgeProvedWrong : ChangeSpec := { name := "edgeProved", fn := fun _ => fun
  | [d1, d2, d3] => { results := [.lit (.bool false)], args := [d1, d2, d3] }
  | _ => none }
def EdgeProvedWrongFalsely : Prop := edgeProvedRow.holds Try.pinned (OpenSpec.ofChange edgeProvedWrong)

/-- 'oxgalllaw10.EdgeKept': WHATEVER THE INPUT: true; the input reads as it did. -/
def edgeKeptSpec : ChangeSpec := { name := "edgeKept", fn := fun _ => fun
  | [d1, d2, d3] => { results := [.lit (.bool true)], args := [d1, d2, d3] }
  | _ => none }
def edgeKeptRow : OpenClaim := { program := "ytbmgijgnbilnoaa", sum := "28f22384c7756318ad924dc36ad38d24a1328388444ffd194635e92c56ea8848", func := "oxgall/oxgalllaw10.EdgeKept", spec := "edgeKept", unfollowed := true, recurses := true, plainKeys := false, apart := false }
def EdgeKeptSaid : Prop := edgeKeptRow.holds Try.pinned (OpenSpec.ofChange edgeKeptSpec)

/-- ITS FALSE NEIGHBOUR: 'it returns false'. Refute it at one input. -/
def edgeKeptWrong : ChangeSpec := { name := "edgeKept", fn := fun _ => fun
  | [d1, d2, d3] => { results := [.lit (.bool false)], args := [d1, d2, d3] }
  | _ => none }
def EdgeKeptWrongFalsely : Prop := edgeKeptRow.holds Try.pinned (OpenSpec.ofChange edgeKeptWrong)

/-- 'oxgalllaw10.EdgeCurved': WHATEVER THE INPUT: true; the input reads as it did. -/
def edgeCurvedSpec : ChangeSpec := { name := "edgeCurved", fn := fun _ => fun
  | [d] => { results := [.lit (.bool true)], args := [d] }
  | _ => none }
def edgeCurvedRow : OpenClaim := { program := "ytbmgijgnbilnoaa", sum := "28f22384c7756318ad924dc36ad38d24a1328388444ffd194635e92c56ea8848", func := "oxgall/oxgalllaw10.EdgeCurved", spec := "edgeCurved", unfollowed := true, recurses := true, plainKeys := false, apart := false }
def EdgeCurvedSaid : Prop := edgeCurvedRow.holds Try.pinned (OpenSpec.ofChange edgeCurvedSpec)

/-- ITS FALSE NEIGHBOUR: 'it returns false'. Refute it at one input. -/
def edgeCurvedWrong : ChangeSpec := { name := "edgeCurved", fn := fun _ => fun
  | [d] => { results := [.lit (.bool false)], args := [d] }
  | _ => none }
def EdgeCurvedWrongFalsely : Prop := edgeCurvedRow.holds Try.pinned (OpenSpec.ofChange edgeCurvedWrong)

/-- 'oxgalllaw10.EdgeMore': WHATEVER THE INPUT: true; the input reads as it did. -/
def edgeMoreSpec : ChangeSpec := { name := "edgeMore", fn := fun _ => fun
  | [d1, d2] => { results := [.lit (.bool true)], args := [d1, d2] }
  | _ => none }
def edgeMoreRow : OpenClaim := { program := "ytbmgijgnbilnoaa", sum := "28f22384c7756318ad924dc36ad38d24a1328388444ffd194635e92c56ea8848", func := "oxgall/oxgalllaw10.EdgeMore", spec := "edgeMore", unfollowed := true, recurses := true, plainKeys := false, apart := false }
def EdgeMoreSaid : Prop := edgeMoreRow.holds Try.pinned (OpenSpec.ofChange edgeMoreSpec)

/-- ITS FALSE NEIGHBOUR: 'it returns false'. Refute it at one input. -/
def edgeMoreWrong : ChangeSpec := { name := "edgeMore", fn := fun _ => fun
  | [d1, d2] => { results := [.lit (.bool false)], args := [d1, d2] }
  | _ => none }
def EdgeMoreWrongFalsely : Prop := edgeMoreRow.holds Try.pinned (OpenSpec.ofChange edgeMoreWrong)

/-- 'oxgalllaw10.EdgeTurned': WHATEVER THE INPUT: true; the input reads as it did. -/
def edgeTurnedSpec : ChangeSpec := { name := "edgeTurned", fn := fun _ => fun
  | [d1, d2, d3] => { results := [.lit (.bool true)], args := [d1, d2, d3] }
  | _ => none }
def edgeTurnedRow : OpenClaim := { program := "ytbmgijgnbilnoaa", sum := "28f22384c7756318ad924dc36ad38d24a1328388444ffd194635e92c56ea8848", func := "oxgall/oxgalllaw10.EdgeTurned", spec := "edgeTurned", unfollowed := true, recurses := true, plainKeys := false, apart := false }
def EdgeTurnedSaid : Prop := edgeTurnedRow.holds Try.pinned (OpenSpec.ofChange edgeTurnedSpec)

/-- ITS FALSE NEIGHBOUR: 'it returns false'. Refute it at one input. -/
def edgeTurnedWrong : ChangeSpec := { name := "edgeTurned", fn := fun _ => fun
  | [d1, d2, d3] => { results := [.lit (.bool false)], args := [d1, d2, d3] }
  | _ => none }
def EdgeTurnedWrongFalsely : Prop := edgeTurnedRow.holds Try.pinned (OpenSpec.ofChange edgeTurnedWrong)

/-- 'oxgalllaw10.EdgeTold': WHATEVER THE INPUT: true; the input reads as it did. -/
def edgeToldSpec : ChangeSpec := { name := "edgeTold", fn := fun _ => fun
  | [d1, d2] => { results := [.lit (.bool true)], args := [d1, d2] }
  | _ => none }
def edgeToldRow : OpenClaim := { program := "ytbmgijgnbilnoaa", sum := "28f22384c7756318ad924dc36ad38d24a1328388444ffd194635e92c56ea8848", func := "oxgall/oxgalllaw10.EdgeTold", spec := "edgeTold", unfollowed := true, recurses := true, plainKeys := false, apart := false }
def EdgeToldSaid : Prop := edgeToldRow.holds Try.pinned (OpenSpec.ofChange edgeToldSpec)

/-- ITS FALSE NEIGHBOUR: 'it returns false'. Refute it at one input. -/
def edgeToldWrong : ChangeSpec := { name := "edgeTold", fn := fun _ => fun
  | [d1, d2] => { results := [.lit (.bool false)], args := [d1, d2] }
  | _ => none }
def EdgeToldWrongFalsely : Prop := edgeToldRow.holds Try.pinned (OpenSpec.ofChange edgeToldWrong)

/-- 'oxgalllaw10.EdgeKnown': WHATEVER THE INPUT: true; the input reads as it did. -/
def edgeKnownSpec : ChangeSpec := { name := "edgeKnown", fn := fun _ => fun
  | [] => { results := [.lit (.bool true)], args := [] }
  | _ => none }
def edgeKnownRow : OpenClaim := { program := "ytbmgijgnbilnoaa", sum := "28f22384c7756318ad924dc36ad38d24a1328388444ffd194635e92c56ea8848", func := "oxgall/oxgalllaw10.EdgeKnown", spec := "edgeKnown", unfollowed := true, recurses := true, plainKeys := false, apart := false }
def EdgeKnownSaid : Prop := edgeKnownRow.holds Try.pinned (OpenSpec.ofChange edgeKnownSpec)

/-- ITS FALSE NEIGHBOUR: 'it returns false'. Refute it at one input. -/
def edgeKnownWrong : ChangeSpec := { name := "edgeKnown", fn := fun _ => fun
  | [] => { results := [.lit (.bool false)], args := [] }
  | _ => none }
def EdgeKnownWrongFalsely : Prop := edgeKnownRow.holds Try.pinned (OpenSpec.ofChange edgeKnownWrong)

/- THE SECOND FORM. 'bulk': how many values and letters a reading holds, each counted each time it is reached (what is shared counts as often as it is met; a slice's spare places count too). A statement '..UptoSaid' is the law's where the arguments, and the package variables that the reading takes, are together of bulk at most 1048576: NARROWER than '..Said'. Prove '..Said' where nothing that the law and all that it calls make is longer than what came in: it says more and counts as full. Else prove '..UptoSaid'. A law counts once. -/
mutual
def uptoBulk {H : Type} : DataW H → Nat
  | .lit (.string bytes) => bytes.length + 1
  | .lit _ => 1
  | .nil => 1
  | .ptr d => uptoBulk d + 1
  | .slice elems spare => uptoBulkAll elems + uptoBulkAll spare + 1
  | .agg parts => uptoBulkAll parts + 1
  | .iface _ d => uptoBulk d + 1
  | .map entries => uptoBulkEntries entries + 1
  | .held _ => 1
def uptoBulkAll {H : Type} : List (DataW H) → Nat
  | [] => 0
  | d :: r => uptoBulk d + uptoBulkAll r
def uptoBulkEntries {H : Type} : List (Lit × DataW H) → Nat
  | [] => 0
  | x :: r => uptoBulkEntry x + uptoBulkEntries r
def uptoBulkEntry {H : Type} : Lit × DataW H → Nat
  | (.string bytes, d) => bytes.length + uptoBulk d + 1
  | (_, d) => uptoBulk d + 1
 end
def uptoSmall : (H : Type) → List (DataW H) → Bool := fun _ ds => decide (uptoBulkAll ds ≤ 1048576)
def OpenSpec.upto (s : _root_.Go.ChangeSpec) : _root_.Go.OpenSpec := { _root_.Go.OpenSpec.ofChange s with cond := some uptoSmall }

/-- 'oxgalllaw10.EdgeDays', WHERE WHAT IT READS IS OF BULK AT MOST 1048576: true; the input reads as it did. -/
def edgeDaysUptoRow : OpenClaim := { program := "ytbmgijgnbilnoaa", sum := "28f22384c7756318ad924dc36ad38d24a1328388444ffd194635e92c56ea8848", func := "oxgall/oxgalllaw10.EdgeDays", spec := "edgeDays", unfollowed := true, recurses := true, plainKeys := false, apart := false, narrowed := true }
def EdgeDaysUptoSaid : Prop := edgeDaysUptoRow.holds Try.pinned (OpenSpec.upto edgeDaysSpec)

/-- 'oxgalllaw10.EdgePlans', WHERE WHAT IT READS IS OF BULK AT MOST 1048576: true; the input reads as it did. -/
def edgePlansUptoRow : OpenClaim := { program := "ytbmgijgnbilnoaa", sum := "28f22384c7756318ad924dc36ad38d24a1328388444ffd194635e92c56ea8848", func := "oxgall/oxgalllaw10.EdgePlans", spec := "edgePlans", unfollowed := true, recurses := true, plainKeys := false, apart := false, narrowed := true }
def EdgePlansUptoSaid : Prop := edgePlansUptoRow.holds Try.pinned (OpenSpec.upto edgePlansSpec)

/-- 'oxgalllaw10.EdgeBests', WHERE WHAT IT READS IS OF BULK AT MOST 1048576: true; the input reads as it did. -/
def edgeBestsUptoRow : OpenClaim := { program := "ytbmgijgnbilnoaa", sum := "28f22384c7756318ad924dc36ad38d24a1328388444ffd194635e92c56ea8848", func := "oxgall/oxgalllaw10.EdgeBests", spec := "edgeBests", unfollowed := true, recurses := true, plainKeys := false, apart := false, narrowed := true }
def EdgeBestsUptoSaid : Prop := edgeBestsUptoRow.holds Try.pinned (OpenSpec.upto edgeBestsSpec)

/-- 'oxgalllaw10.EdgeMoments', WHERE WHAT IT READS IS OF BULK AT MOST 1048576: true; the input reads as it did. -/
def edgeMomentsUptoRow : OpenClaim := { program := "ytbmgijgnbilnoaa", sum := "28f22384c7756318ad924dc36ad38d24a1328388444ffd194635e92c56ea8848", func := "oxgall/oxgalllaw10.EdgeMoments", spec := "edgeMoments", unfollowed := true, recurses := true, plainKeys := false, apart := false, narrowed := true }
def EdgeMomentsUptoSaid : Prop := edgeMomentsUptoRow.holds Try.pinned (OpenSpec.upto edgeMomentsSpec)

/-- 'oxgalllaw10.EdgeKinds', WHERE WHAT IT READS IS OF BULK AT MOST 1048576: true; the input reads as it did. -/
def edgeKindsUptoRow : OpenClaim := { program := "ytbmgijgnbilnoaa", sum := "28f22384c7756318ad924dc36ad38d24a1328388444ffd194635e92c56ea8848", func := "oxgall/oxgalllaw10.EdgeKinds", spec := "edgeKinds", unfollowed := true, recurses := true, plainKeys := false, apart := false, narrowed := true }
def EdgeKindsUptoSaid : Prop := edgeKindsUptoRow.holds Try.pinned (OpenSpec.upto edgeKindsSpec)

/-- 'oxgalllaw10.EdgeProved', WHERE WHAT IT READS IS OF BULK AT MOST 1048576: true; the input reads as it did. -/
def edgeProvedUptoRow : OpenClaim := { program := "ytbmgijgnbilnoaa", sum := "28f22384c7756318ad924dc36ad38d24a1328388444ffd194635e92c56ea8848", func := "oxgall/oxgalllaw10.EdgeProved", spec := "edgeProved", unfollowed := true, recurses := true, plainKeys := false, apart := false, narrowed := true }
def EdgeProvedUptoSaid : Prop := edgeProvedUptoRow.holds Try.pinned (OpenSpec.upto edgeProvedSpec)

/-- 'oxgalllaw10.EdgeKept', WHERE WHAT IT READS IS OF BULK AT MOST 1048576: true; the input reads as it did. -/
def edgeKeptUptoRow : OpenClaim := { program := "ytbmgijgnbilnoaa", sum := "28f22384c7756318ad924dc36ad38d24a1328388444ffd194635e92c56ea8848", func := "oxgall/oxgalllaw10.EdgeKept", spec := "edgeKept", unfollowed := true, recurses := true, plainKeys := false, apart := false, narrowed := true }
def EdgeKeptUptoSaid : Prop := edgeKeptUptoRow.holds Try.pinned (OpenSpec.upto edgeKeptSpec)

/-- 'oxgalllaw10.EdgeCurved', WHERE WHAT IT READS IS OF BULK AT MOST 1048576: true; the input reads as it did. -/
def edgeCurvedUptoRow : OpenClaim := { program := "ytbmgijgnbilnoaa", sum := "28f22384c7756318ad924dc36ad38d24a1328388444ffd194635e92c56ea8848", func := "oxgall/oxgalllaw10.EdgeCurved", spec := "edgeCurved", unfollowed := true, recurses := true, plainKeys := false, apart := false, narrowed := true }
def EdgeCurvedUptoSaid : Prop := edgeCurvedUptoRow.holds Try.pinned (OpenSpec.upto edgeCurvedSpec)

/-- 'oxgalllaw10.EdgeMore', WHERE WHAT IT READS IS OF BULK AT MOST 1048576: true; the input reads as it did. -/
def edgeMoreUptoRow : OpenClaim := { program := "ytbmgijgnbilnoaa", sum := "28f22384c7756318ad924dc36ad38d24a1328388444ffd194635e92c56ea8848", func := "oxgall/oxgalllaw10.EdgeMore", spec := "edgeMore", unfollowed := true, recurses := true, plainKeys := false, apart := false, narrowed := true }
def EdgeMoreUptoSaid : Prop := edgeMoreUptoRow.holds Try.pinned (OpenSpec.upto edgeMoreSpec)

/-- 'oxgalllaw10.EdgeTurned', WHERE WHAT IT READS IS OF BULK AT MOST 1048576: true; the input reads as it did. -/
def edgeTurnedUptoRow : OpenClaim := { program := "ytbmgijgnbilnoaa", sum := "28f22384c7756318ad924dc36ad38d24a1328388444ffd194635e92c56ea8848", func := "oxgall/oxgalllaw10.EdgeTurned", spec := "edgeTurned", unfollowed := true, recurses := true, plainKeys := false, apart := false, narrowed := true }
def EdgeTurnedUptoSaid : Prop := edgeTurnedUptoRow.holds Try.pinned (OpenSpec.upto edgeTurnedSpec)

/-- 'oxgalllaw10.EdgeTold', WHERE WHAT IT READS IS OF BULK AT MOST 1048576: true; the input reads as it did. -/
def edgeToldUptoRow : OpenClaim := { program := "ytbmgijgnbilnoaa", sum := "28f22384c7756318ad924dc36ad38d24a1328388444ffd194635e92c56ea8848", func := "oxgall/oxgalllaw10.EdgeTold", spec := "edgeTold", unfollowed := true, recurses := true, plainKeys := false, apart := false, narrowed := true }
def EdgeToldUptoSaid : Prop := edgeToldUptoRow.holds Try.pinned (OpenSpec.upto edgeToldSpec)

/-- 'oxgalllaw10.EdgeKnown', WHERE WHAT IT READS IS OF BULK AT MOST 1048576: true; the input reads as it did. -/
def edgeKnownUptoRow : OpenClaim := { program := "ytbmgijgnbilnoaa", sum := "28f22384c7756318ad924dc36ad38d24a1328388444ffd194635e92c56ea8848", func := "oxgall/oxgalllaw10.EdgeKnown", spec := "edgeKnown", unfollowed := true, recurses := true, plainKeys := false, apart := false, narrowed := true }
def EdgeKnownUptoSaid : Prop := edgeKnownUptoRow.holds Try.pinned (OpenSpec.upto edgeKnownSpec)

end Rows
end Go.Proofs.Ytbmgijgnbilnoaa
