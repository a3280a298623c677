/-
  No cell of these rows narrows 'for every input' (looked for: loops, veiled, ifaces, maps, wideKeys, modest, calm, conditions, laid).
  DERIVED. THE GIVEN ROWS OF THIS SEAT. 14 by the template 'for every input the law returns true; each argument reads behind the call as it read before'; 0 by the template 'total and deterministic' (their statements: YtinehlphcckkmaaTotals.lean).
  GIVEN WITH THE SEED: the statements are not yours to turn. If you find one false, say at which input.
  Laid BY PROGRAM, IN A SANDBOX (cutbox-rows.mjs): the forced cells as the released guide's own fill.sh prints them over the translation 8176c80149d1f59b… (all of the seat's roots in one cut). By AI agents, Wed Nov 11 2026. No macro, syntax, notation, axiom, sorry.
-/
import Derived.Test.YtinehlphcckkmaaChecked
import GoSem.Claim
import GoSem.ClaimJoined
import GoSem.ClaimMapViews
import Derived.JoinedTies
import Derived.KernelRfl
namespace Go.Proofs.Ytinehlphcckkmaa
/- THE CELL 'sum', in the pinned program and in every row, IS THE sha256 OF THE DUMP (.gsa) THAT YtinehlphcckkmaaProg.lean LOADS. Nothing in Lean hashes anything: it is a label: what it is worth is what the hold of that sum in a sandbox is worth. -/
noncomputable def Try.pinned : Pinned := { name := "ytinehlphcckkmaa", sum := "8176c80149d1f59b688153ab28579c899a0a7c117c29fb79a90a61b4ff21448a", checked := Try.checked }
namespace Rows
def none {H : Type} : Left H := { results := [], args := [] }

/-- 'oxgalllaw04.SeamSets': WHATEVER THE INPUT: true; the input reads as it did. -/
def seamSetsSpec : ChangeSpec := { name := "seamSets", fn := fun _ => fun
  | [d1, d2, d3, d4] => { results := [.lit (.bool true)], args := [d1, d2, d3, d4] }
  | _ => none }
def seamSetsRow : OpenClaim := { program := "ytinehlphcckkmaa", sum := "8176c80149d1f59b688153ab28579c899a0a7c117c29fb79a90a61b4ff21448a", func := "oxgall/oxgalllaw04.SeamSets", spec := "seamSets", unfollowed := true, recurses := true, plainKeys := false, apart := false }
def SeamSetsSaid : Prop := seamSetsRow.holds Try.pinned (OpenSpec.ofChange seamSetsSpec)

/-- ITS FALSE NEIGHBOUR: 'it returns false'. Refute it at one input. -/
def seamSetsWrong : ChangeSpec := { name := "seamSets", fn := fun _ => fun
  | [d1, d2, d3, d4] => { results := [.lit (.bool false)], args := [d1, d2, d3, d4] }
  | _ => none }
def SeamSetsWrongFalsely : Prop := seamSetsRow.holds Try.pinned (OpenSpec.ofChange seamSetsWrong)

/-- 'oxgalllaw04.SeamPlaces': WHATEVER THE INPUT: true; the input reads as it did. -/
def seamPlacesSpec : ChangeSpec := { name := "seamPlaces", fn := fun _ => fun
  | [d1, d2] => { results := [.lit (.bool true)], args := [d1, d2] }
  | _ => none }
def seamPlacesRow : OpenClaim := { program := "ytinehlphcckkmaa", sum := "8176c80149d1f59b688153ab28579c899a0a7c117c29fb79a90a61b4ff21448a", func := "oxgall/oxgalllaw04.SeamPlaces", spec := "seamPlaces", unfollowed := true, recurses := true, plainKeys := false, apart := false }
def SeamPlacesSaid : Prop := seamPlacesRow.holds Try.pinned (OpenSpec.ofChange seamPlacesSpec)

/-- ITS FALSE NEIGHBOUR: 'it returns false'. Refute it at one input. -/
def seamPlacesWrong : ChangeSpec := { name := "seamPlaces", fn := fun _ => fun
  | [d1, d2] => { results := [.lit (.bool false)], args := [d1, d2] }
  | _ => none }
def SeamPlacesWrongFalsely : Prop := seamPlacesRow.holds Try.pinned (OpenSpec.ofChange seamPlacesWrong)

/-- 'oxgalllaw04.SeamOrders': WHATEVER THE INPUT: true; the input reads as it did. -/
def seamOrdersSpec : ChangeSpec := { name := "seamOrders", fn := fun _ => fun
  | [d1, d2] => { results := [.lit (.bool true)], args := [d1, d2] }
  | _ => none }
def seamOrdersRow : OpenClaim := { program := "ytinehlphcckkmaa", sum := "8176c80149d1f59b688153ab28579c899a0a7c117c29fb79a90a61b4ff21448a", func := "oxgall/oxgalllaw04.SeamOrders", spec := "seamOrders", unfollowed := true, recurses := true, plainKeys := false, apart := false }
def SeamOrdersSaid : Prop := seamOrdersRow.holds Try.pinned (OpenSpec.ofChange seamOrdersSpec)

/-- ITS FALSE NEIGHBOUR: 'it returns false'. Refute it at one input. -/
def seamOrdersWrong : ChangeSpec := { name := "seamOrders", fn := fun _ => fun
  | [d1, d2] => { results := [.lit (.bool false)], args := [d1, d2] }
  | _ => none }
def SeamOrdersWrongFalsely : Prop := seamOrdersRow.holds Try.pinned (OpenSpec.ofChange seamOrdersWrong)

/-- 'oxgalllaw04.SeamBests': WHATEVER THE INPUT: true; the input reads as it did. -/
def seamBestsSpec : ChangeSpec := { name := "seamBests", fn := fun _ => fun
  | [d] => { results := [.lit (.bool true)], args := [d] }
  | _ => none }
def seamBestsRow : OpenClaim := { program := "ytinehlphcckkmaa", sum := "8176c80149d1f59b688153ab28579c899a0a7c117c29fb79a90a61b4ff21448a", func := "oxgall/oxgalllaw04.SeamBests", spec := "seamBests", unfollowed := true, recurses := true, plainKeys := false, apart := false }
def SeamBestsSaid : Prop := seamBestsRow.holds Try.pinned (OpenSpec.ofChange seamBestsSpec)

/-- ITS FALSE NEIGHBOUR: 'it returns false'. Refute it at one input. -/
def seamBestsWrong : ChangeSpec := { name := "seamBests", fn := fun _ => fun
  | [d] => { results := [.lit (.bool false)], args := [d] }
  | _ => none }
def SeamBestsWrongFalsely : Prop := seamBestsRow.holds Try.pinned (OpenSpec.ofChange seamBestsWrong)

/-- 'oxgalllaw04.SeamAparts': WHATEVER THE INPUT: true; the input reads as it did. -/
def seamApartsSpec : ChangeSpec := { name := "seamAparts", fn := fun _ => fun
  | [d1, d2] => { results := [.lit (.bool true)], args := [d1, d2] }
  | _ => none }
def seamApartsRow : OpenClaim := { program := "ytinehlphcckkmaa", sum := "8176c80149d1f59b688153ab28579c899a0a7c117c29fb79a90a61b4ff21448a", func := "oxgall/oxgalllaw04.SeamAparts", spec := "seamAparts", unfollowed := true, recurses := true, plainKeys := false, apart := false }
def SeamApartsSaid : Prop := seamApartsRow.holds Try.pinned (OpenSpec.ofChange seamApartsSpec)

/-- ITS FALSE NEIGHBOUR: 'it returns false'. Refute it at one input. -/
def seamApartsWrong : ChangeSpec := { name := "seamAparts", fn := fun _ => fun
  | [d1, d2] => { results := [.lit (.bool false)], args := [d1, d2] }
  | _ => none }
def SeamApartsWrongFalsely : Prop := seamApartsRow.holds Try.pinned (OpenSpec.ofChange seamApartsWrong)

/-- 'oxgalllaw04.SeamKinds': WHATEVER THE INPUT: true; the input reads as it did. -/
def seamKindsSpec : ChangeSpec := { name := "seamKinds", fn := fun _ => fun
  | [d1, d2, d3] => { results := [.lit (.bool true)], args := [d1, d2, d3] }
  | _ => none }
def seamKindsRow : OpenClaim := { program := "ytinehlphcckkmaa", sum := "8176c80149d1f59b688153ab28579c899a0a7c117c29fb79a90a61b4ff21448a", func := "oxgall/oxgalllaw04.SeamKinds", spec := "seamKinds", unfollowed := true, recurses := true, plainKeys := false, apart := false }
def SeamKindsSaid : Prop := seamKindsRow.holds Try.pinned (OpenSpec.ofChange seamKindsSpec)

/-- ITS FALSE NEIGHBOUR: 'it returns false'. Refute it at one input. -/
def seamKindsWrong : ChangeSpec := { name := "seamKinds", fn := fun _ => fun
  | [d1, d2, d3] => { results := [.lit (.bool false)], args := [d1, d2, d3] }
  | _ => none }
def SeamKindsWrongFalsely : Prop := seamKindsRow.holds Try.pinned (OpenSpec.ofChange seamKindsWrong)

/-- 'oxgalllaw04.SeamEither': WHATEVER THE INPUT: true; the input reads as it did. -/
def seamEitherSpec : ChangeSpec := { name := "seamEither", fn := fun _ => fun
  | [d1, d2] => { results := [.lit (.bool true)], args := [d1, d2] }
  | _ => none }
def seamEitherRow : OpenClaim := { program := "ytinehlphcckkmaa", sum := "8176c80149d1f59b688153ab28579c899a0a7c117c29fb79a90a61b4ff21448a", func := "oxgall/oxgalllaw04.SeamEither", spec := "seamEither", unfollowed := true, recurses := true, plainKeys := false, apart := false }
def SeamEitherSaid : Prop := seamEitherRow.holds Try.pinned (OpenSpec.ofChange seamEitherSpec)

/-- ITS FALSE NEIGHBOUR: 'it returns false'. Refute it at one input. -/
def seamEitherWrong : ChangeSpec := { name := "seamEither", fn := fun _ => fun
  | [d1, d2] => { results := [.lit (.bool false)], args := [d1, d2] }
  | _ => none }
def SeamEitherWrongFalsely : Prop := seamEitherRow.holds Try.pinned (OpenSpec.ofChange seamEitherWrong)

/-- 'oxgalllaw04.SeamProved': WHATEVER THE INPUT: true; the input reads as it did. -/
def seamProvedSpec : ChangeSpec := { name := "seamProved", fn := fun _ => fun
  | [d1, d2, d3, d4] => { results := [.lit (.bool true)], args := [d1, d2, d3, d4] }
  | _ => none }
def seamProvedRow : OpenClaim := { program := "ytinehlphcckkmaa", sum := "8176c80149d1f59b688153ab28579c899a0a7c117c29fb79a90a61b4ff21448a", func := "oxgall/oxgalllaw04.SeamProved", spec := "seamProved", unfollowed := true, recurses := true, plainKeys := false, apart := false }
def SeamProvedSaid : Prop := seamProvedRow.holds Try.pinned (OpenSpec.ofChange seamProvedSpec)

/-- ITS FALSE NEIGHBOUR: 'it returns false'. Refute it at one input. -/
def seamProvedWrong : ChangeSpec := { name := "seamProved", fn := fun _ => fun
  | [d1, d2, d3, d4] => { results := [.lit (.bool false)], args := [d1, d2, d3, d4] }
  | _ => none }
def SeamProvedWrongFalsely : Prop := seamProvedRow.holds Try.pinned (OpenSpec.ofChange seamProvedWrong)

/-- 'oxgalllaw04.SeamWasted': WHATEVER THE INPUT: true; the input reads as it did. -/
def seamWastedSpec : ChangeSpec := { name := "seamWasted", fn := fun _ => fun
  | [d1, d2, d3] => { results := [.lit (.bool true)], args := [d1, d2, d3] }
  | _ => none }
def seamWastedRow : OpenClaim := { program := "ytinehlphcckkmaa", sum := "8176c80149d1f59b688153ab28579c899a0a7c117c29fb79a90a61b4ff21448a", func := "oxgall/oxgalllaw04.SeamWasted", spec := "seamWasted", unfollowed := true, recurses := true, plainKeys := false, apart := false }
def SeamWastedSaid : Prop := seamWastedRow.holds Try.pinned (OpenSpec.ofChange seamWastedSpec)

/-- ITS FALSE NEIGHBOUR: 'it returns false'. Refute it at one input. -/
def seamWastedWrong : ChangeSpec := { name := "seamWasted", fn := fun _ => fun
  | [d1, d2, d3] => { results := [.lit (.bool false)], args := [d1, d2, d3] }
  | _ => none }
def SeamWastedWrongFalsely : Prop := seamWastedRow.holds Try.pinned (OpenSpec.ofChange seamWastedWrong)

/-- 'oxgalllaw04.SeamTurned': WHATEVER THE INPUT: true; the input reads as it did. -/
def seamTurnedSpec : ChangeSpec := { name := "seamTurned", fn := fun _ => fun
  | [d1, d2, d3, d4] => { results := [.lit (.bool true)], args := [d1, d2, d3, d4] }
  | _ => none }
def seamTurnedRow : OpenClaim := { program := "ytinehlphcckkmaa", sum := "8176c80149d1f59b688153ab28579c899a0a7c117c29fb79a90a61b4ff21448a", func := "oxgall/oxgalllaw04.SeamTurned", spec := "seamTurned", unfollowed := true, recurses := true, plainKeys := false, apart := false }
def SeamTurnedSaid : Prop := seamTurnedRow.holds Try.pinned (OpenSpec.ofChange seamTurnedSpec)

/-- ITS FALSE NEIGHBOUR: 'it returns false'. Refute it at one input. -/
def seamTurnedWrong : ChangeSpec := { name := "seamTurned", fn := fun _ => fun
  | [d1, d2, d3, d4] => { results := [.lit (.bool false)], args := [d1, d2, d3, d4] }
  | _ => none }
def SeamTurnedWrongFalsely : Prop := seamTurnedRow.holds Try.pinned (OpenSpec.ofChange seamTurnedWrong)

/-- 'oxgalllaw04.SeamMore': WHATEVER THE INPUT: true; the input reads as it did. -/
def seamMoreSpec : ChangeSpec := { name := "seamMore", fn := fun _ => fun
  | [d1, d2, d3, d4, d5] => { results := [.lit (.bool true)], args := [d1, d2, d3, d4, d5] }
  | _ => none }
def seamMoreRow : OpenClaim := { program := "ytinehlphcckkmaa", sum := "8176c80149d1f59b688153ab28579c899a0a7c117c29fb79a90a61b4ff21448a", func := "oxgall/oxgalllaw04.SeamMore", spec := "seamMore", unfollowed := true, recurses := true, plainKeys := false, apart := false }
def SeamMoreSaid : Prop := seamMoreRow.holds Try.pinned (OpenSpec.ofChange seamMoreSpec)

/-- ITS FALSE NEIGHBOUR: 'it returns false'. Refute it at one input. -/
def seamMoreWrong : ChangeSpec := { name := "seamMore", fn := fun _ => fun
  | [d1, d2, d3, d4, d5] => { results := [.lit (.bool false)], args := [d1, d2, d3, d4, d5] }
  | _ => none }
def SeamMoreWrongFalsely : Prop := seamMoreRow.holds Try.pinned (OpenSpec.ofChange seamMoreWrong)

/-- 'oxgalllaw04.SeamSided': WHATEVER THE INPUT: true; the input reads as it did. -/
def seamSidedSpec : ChangeSpec := { name := "seamSided", fn := fun _ => fun
  | [d1, d2, d3] => { results := [.lit (.bool true)], args := [d1, d2, d3] }
  | _ => none }
def seamSidedRow : OpenClaim := { program := "ytinehlphcckkmaa", sum := "8176c80149d1f59b688153ab28579c899a0a7c117c29fb79a90a61b4ff21448a", func := "oxgall/oxgalllaw04.SeamSided", spec := "seamSided", unfollowed := true, recurses := true, plainKeys := false, apart := false }
def SeamSidedSaid : Prop := seamSidedRow.holds Try.pinned (OpenSpec.ofChange seamSidedSpec)

/-- ITS FALSE NEIGHBOUR: 'it returns false'. Refute it at one input. -/
def seamSidedWrong : ChangeSpec := { name := "seamSided", fn := fun _ => fun
  | [d1, d2, d3] => { results := [.lit (.bool false)], args := [d1, d2, d3] }
  | _ => none }
def SeamSidedWrongFalsely : Prop := seamSidedRow.holds Try.pinned (OpenSpec.ofChange seamSidedWrong)

/-- 'oxgalllaw04.SeamKinded': WHATEVER THE INPUT: true; the input reads as it did. -/
def seamKindedSpec : ChangeSpec := { name := "seamKinded", fn := fun _ => fun
  | [d1, d2] => { results := [.lit (.bool true)], args := [d1, d2] }
  | _ => none }
def seamKindedRow : OpenClaim := { program := "ytinehlphcckkmaa", sum := "8176c80149d1f59b688153ab28579c899a0a7c117c29fb79a90a61b4ff21448a", func := "oxgall/oxgalllaw04.SeamKinded", spec := "seamKinded", unfollowed := true, recurses := true, plainKeys := false, apart := false }
def SeamKindedSaid : Prop := seamKindedRow.holds Try.pinned (OpenSpec.ofChange seamKindedSpec)

/-- ITS FALSE NEIGHBOUR: 'it returns false'. Refute it at one input. -/
def seamKindedWrong : ChangeSpec := { name := "seamKinded", fn := fun _ => fun
  | [d1, d2] => { results := [.lit (.bool false)], args := [d1, d2] }
  | _ => none }
def SeamKindedWrongFalsely : Prop := seamKindedRow.holds Try.pinned (OpenSpec.ofChange seamKindedWrong)

/-- 'oxgalllaw04.SeamKnown': WHATEVER THE INPUT: true; the input reads as it did. -/
def seamKnownSpec : ChangeSpec := { name := "seamKnown", fn := fun _ => fun
  | [] => { results := [.lit (.bool true)], args := [] }
  | _ => none }
def seamKnownRow : OpenClaim := { program := "ytinehlphcckkmaa", sum := "8176c80149d1f59b688153ab28579c899a0a7c117c29fb79a90a61b4ff21448a", func := "oxgall/oxgalllaw04.SeamKnown", spec := "seamKnown", unfollowed := true, recurses := true, plainKeys := false, apart := false }
def SeamKnownSaid : Prop := seamKnownRow.holds Try.pinned (OpenSpec.ofChange seamKnownSpec)

/-- ITS FALSE NEIGHBOUR: 'it returns false'. Refute it at one input. -/
def seamKnownWrong : ChangeSpec := { name := "seamKnown", fn := fun _ => fun
  | [] => { results := [.lit (.bool false)], args := [] }
  | _ => none }
def SeamKnownWrongFalsely : Prop := seamKnownRow.holds Try.pinned (OpenSpec.ofChange seamKnownWrong)

/- THE SECOND FORM. 'bulk': how many values and letters a reading holds, each counted each time it is reached (what is shared counts as often as it is met; a slice's spare places count too). A statement '..UptoSaid' is the law's where the arguments, and the package variables that the reading takes, are together of bulk at most 1048576: NARROWER than '..Said'. Prove '..Said' where nothing that the law and all that it calls make is longer than what came in: it says more and counts as full. Else prove '..UptoSaid'. A law counts once. -/
mutual
def uptoBulk {H : Type} : DataW H → Nat
  | .lit (.string bytes) => bytes.length + 1
  | .lit _ => 1
  | .nil => 1
  | .ptr d => uptoBulk d + 1
  | .slice elems spare => uptoBulkAll elems + uptoBulkAll spare + 1
  | .agg parts => uptoBulkAll parts + 1
  | .iface _ d => uptoBulk d + 1
  | .map entries => uptoBulkEntries entries + 1
  | .held _ => 1
def uptoBulkAll {H : Type} : List (DataW H) → Nat
  | [] => 0
  | d :: r => uptoBulk d + uptoBulkAll r
def uptoBulkEntries {H : Type} : List (Lit × DataW H) → Nat
  | [] => 0
  | x :: r => uptoBulkEntry x + uptoBulkEntries r
def uptoBulkEntry {H : Type} : Lit × DataW H → Nat
  | (.string bytes, d) => bytes.length + uptoBulk d + 1
  | (_, d) => uptoBulk d + 1
 end
def uptoSmall : (H : Type) → List (DataW H) → Bool := fun _ ds => decide (uptoBulkAll ds ≤ 1048576)
def OpenSpec.upto (s : _root_.Go.ChangeSpec) : _root_.Go.OpenSpec := { _root_.Go.OpenSpec.ofChange s with cond := some uptoSmall }

/-- 'oxgalllaw04.SeamSets', WHERE WHAT IT READS IS OF BULK AT MOST 1048576: true; the input reads as it did. -/
def seamSetsUptoRow : OpenClaim := { program := "ytinehlphcckkmaa", sum := "8176c80149d1f59b688153ab28579c899a0a7c117c29fb79a90a61b4ff21448a", func := "oxgall/oxgalllaw04.SeamSets", spec := "seamSets", unfollowed := true, recurses := true, plainKeys := false, apart := false, narrowed := true }
def SeamSetsUptoSaid : Prop := seamSetsUptoRow.holds Try.pinned (OpenSpec.upto seamSetsSpec)

/-- 'oxgalllaw04.SeamPlaces', WHERE WHAT IT READS IS OF BULK AT MOST 1048576: true; the input reads as it did. -/
def seamPlacesUptoRow : OpenClaim := { program := "ytinehlphcckkmaa", sum := "8176c80149d1f59b688153ab28579c899a0a7c117c29fb79a90a61b4ff21448a", func := "oxgall/oxgalllaw04.SeamPlaces", spec := "seamPlaces", unfollowed := true, recurses := true, plainKeys := false, apart := false, narrowed := true }
def SeamPlacesUptoSaid : Prop := seamPlacesUptoRow.holds Try.pinned (OpenSpec.upto seamPlacesSpec)

/-- 'oxgalllaw04.SeamOrders', WHERE WHAT IT READS IS OF BULK AT MOST 1048576: true; the input reads as it did. -/
def seamOrdersUptoRow : OpenClaim := { program := "ytinehlphcckkmaa", sum := "8176c80149d1f59b688153ab28579c899a0a7c117c29fb79a90a61b4ff21448a", func := "oxgall/oxgalllaw04.SeamOrders", spec := "seamOrders", unfollowed := true, recurses := true, plainKeys := false, apart := false, narrowed := true }
def SeamOrdersUptoSaid : Prop := seamOrdersUptoRow.holds Try.pinned (OpenSpec.upto seamOrdersSpec)

/-- 'oxgalllaw04.SeamBests', WHERE WHAT IT READS IS OF BULK AT MOST 1048576: true; the input reads as it did. -/
def seamBestsUptoRow : OpenClaim := { program := "ytinehlphcckkmaa", sum := "8176c80149d1f59b688153ab28579c899a0a7c117c29fb79a90a61b4ff21448a", func := "oxgall/oxgalllaw04.SeamBests", spec := "seamBests", unfollowed := true, recurses := true, plainKeys := false, apart := false, narrowed := true }
def SeamBestsUptoSaid : Prop := seamBestsUptoRow.holds Try.pinned (OpenSpec.upto seamBestsSpec)

/-- 'oxgalllaw04.SeamAparts', WHERE WHAT IT READS IS OF BULK AT MOST 1048576: true; the input reads as it did. -/
def seamApartsUptoRow : OpenClaim := { program := "ytinehlphcckkmaa", sum := "8176c80149d1f59b688153ab28579c899a0a7c117c29fb79a90a61b4ff21448a", func := "oxgall/oxgalllaw04.SeamAparts", spec := "seamAparts", unfollowed := true, recurses := true, plainKeys := false, apart := false, narrowed := true }
def SeamApartsUptoSaid : Prop := seamApartsUptoRow.holds Try.pinned (OpenSpec.upto seamApartsSpec)

/-- 'oxgalllaw04.SeamKinds', WHERE WHAT IT READS IS OF BULK AT MOST 1048576: true; the input reads as it did. -/
def seamKindsUptoRow : OpenClaim := { program := "ytinehlphcckkmaa", sum := "8176c80149d1f59b688153ab28579c899a0a7c117c29fb79a90a61b4ff21448a", func := "oxgall/oxgalllaw04.SeamKinds", spec := "seamKinds", unfollowed := true, recurses := true, plainKeys := false, apart := false, narrowed := true }
def SeamKindsUptoSaid : Prop := seamKindsUptoRow.holds Try.pinned (OpenSpec.upto seamKindsSpec)

/-- 'oxgalllaw04.SeamEither', WHERE WHAT IT READS IS OF BULK AT MOST 1048576: true; the input reads as it did. -/
def seamEitherUptoRow : OpenClaim := { program := "ytinehlphcckkmaa", sum := "8176c80149d1f59b688153ab28579c899a0a7c117c29fb79a90a61b4ff21448a", func := "oxgall/oxgalllaw04.SeamEither", spec := "seamEither", unfollowed := true, recurses := true, plainKeys := false, apart := false, narrowed := true }
def SeamEitherUptoSaid : Prop := seamEitherUptoRow.holds Try.pinned (OpenSpec.upto seamEitherSpec)

/-- 'oxgalllaw04.SeamProved', WHERE WHAT IT READS IS OF BULK AT MOST 1048576: true; the input reads as it did. -/
def seamProvedUptoRow : OpenClaim := { program := "ytinehlphcckkmaa", sum := "8176c80149d1f59b688153ab28579c899a0a7c117c29fb79a90a61b4ff21448a", func := "oxgall/oxgalllaw04.SeamProved", spec := "seamProved", unfollowed := true, recurses := true, plainKeys := false, apart := false, narrowed := true }
def SeamProvedUptoSaid : Prop := seamProvedUptoRow.holds Try.pinned (OpenSpec.upto seamProvedSpec)

/-- 'oxgalllaw04.SeamWasted', WHERE WHAT IT READS IS OF BULK AT MOST 1048576: true; the input reads as it did. -/
def seamWastedUptoRow : OpenClaim := { program := "ytinehlphcckkmaa", sum := "8176c80149d1f59b688153ab28579c899a0a7c117c29fb79a90a61b4ff21448a", func := "oxgall/oxgalllaw04.SeamWasted", spec := "seamWasted", unfollowed := true, recurses := true, plainKeys := false, apart := false, narrowed := true }
def SeamWastedUptoSaid : Prop := seamWastedUptoRow.holds Try.pinned (OpenSpec.upto seamWastedSpec)

/-- 'oxgalllaw04.SeamTurned', WHERE WHAT IT READS IS OF BULK AT MOST 1048576: true; the input reads as it did. -/
def seamTurnedUptoRow : OpenClaim := { program := "ytinehlphcckkmaa", sum := "8176c80149d1f59b688153ab28579c899a0a7c117c29fb79a90a61b4ff21448a", func := "oxgall/oxgalllaw04.SeamTurned", spec := "seamTurned", unfollowed := true, recurses := true, plainKeys := false, apart := false, narrowed := true }
def SeamTurnedUptoSaid : Prop := seamTurnedUptoRow.holds Try.pinned (OpenSpec.upto seamTurnedSpec)

/-- 'oxgalllaw04.SeamMore', WHERE WHAT IT READS IS OF BULK AT MOST 1048576: true; the input reads as it did. -/
def seamMoreUptoRow : OpenClaim := { program := "ytinehlphcckkmaa", sum := "8176c80149d1f59b688153ab28579c899a0a7c117c29fb79a90a61b4ff21448a", func := "oxgall/oxgalllaw04.SeamMore", spec := "seamMore", unfollowed := true, recurses := true, plainKeys := false, apart := false, narrowed := true }
def SeamMoreUptoSaid : Prop := seamMoreUptoRow.holds Try.pinned (OpenSpec.upto seamMoreSpec)

/-- 'oxgalllaw04.SeamSided', WHERE WHAT IT READS IS OF BULK AT MOST 1048576: true; the input reads as it did. -/
def seamSidedUptoRow : OpenClaim := { program := "ytinehlphcckkmaa", sum := "8176c80149d1f59b688153ab28579c899a0a7c117c29fb79a90a61b4ff21448a", func := "oxgall/oxgalllaw04.SeamSided", spec := "seamSided", unfollowed := true, recurses := true, plainKeys := false, apart := false, narrowed := true }
def SeamSidedUptoSaid : Prop := seamSidedUptoRow.holds Try.pinned (OpenSpec.upto seamSidedSpec)

/-- 'oxgalllaw04.SeamKinded', WHERE WHAT IT READS IS OF BULK AT MOST 1048576: true; the input reads as it did. -/
def seamKindedUptoRow : OpenClaim := { program := "ytinehlphcckkmaa", sum := "8176c80149d1f59b688153ab28579c899a0a7c117c29fb79a90a61b4ff21448a", func := "oxgall/oxgalllaw04.SeamKinded", spec := "seamKinded", unfollowed := true, recurses := true, plainKeys := false, apart := false, narrowed := true }
def SeamKindedUptoSaid : Prop := seamKindedUptoRow.holds Try.pinned (OpenSpec.upto seamKindedSpec)

/-- 'oxgalllaw04.SeamKnown', WHERE WHAT IT READS IS OF BULK AT MOST 1048576: true; the input reads as it did. -/
def seamKnownUptoRow : OpenClaim := { program := "ytinehlphcckkmaa", sum := "8176c80149d1f59b688153ab28579c899a0a7c117c29fb79a90a61b4ff21448a", func := "oxgall/oxgalllaw04.SeamKnown", spec := "seamKnown", unfollowed := true, recurses := true, plainKeys := false, apart := false, narrowed := true }
def SeamKnownUptoSaid : Prop := seamKnownUptoRow.holds Try.pinned (OpenSpec.upto seamKnownSpec)

end Rows
end Go.Proofs.Ytinehlphcckkmaa
