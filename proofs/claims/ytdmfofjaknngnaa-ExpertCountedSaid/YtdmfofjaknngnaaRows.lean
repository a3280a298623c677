/-
  No cell of these rows narrows 'for every input' (looked for: loops, veiled, ifaces, maps, wideKeys, modest, calm, conditions, laid).
  DERIVED. THE GIVEN ROWS OF THIS SEAT. 11 by the template 'for every input the law returns true; each argument reads behind the call as it read before'; 0 by the template 'total and deterministic' (their statements: YtdmfofjaknngnaaTotals.lean).
  GIVEN WITH THE SEED: the statements are not yours to turn. If you find one false, say at which input.
  Laid BY PROGRAM, IN A SANDBOX (cutbox-rows.mjs): the forced cells as the released guide's own fill.sh prints them over the translation ac9c111e59ba05b3… (all of the seat's roots in one cut). By AI agents, Wed Nov 11 2026. No macro, syntax, notation, axiom, sorry.
-/
import Derived.Test.YtdmfofjaknngnaaChecked
import GoSem.Claim
import GoSem.ClaimJoined
import GoSem.ClaimMapViews
import Derived.JoinedTies
import Derived.KernelRfl
namespace Go.Proofs.Ytdmfofjaknngnaa
/- THE CELL 'sum', in the pinned program and in every row, IS THE sha256 OF THE DUMP (.gsa) THAT YtdmfofjaknngnaaProg.lean LOADS. Nothing in Lean hashes anything: it is a label: what it is worth is what the hold of that sum in a sandbox is worth. -/
noncomputable def Try.pinned : Pinned := { name := "ytdmfofjaknngnaa", sum := "ac9c111e59ba05b3f6813fb6bcd335bdc854e0ec0e7113af517e10f97ebf0f88", checked := Try.checked }
namespace Rows
def none {H : Type} : Left H := { results := [], args := [] }

/-- 'oxgalllaw08.ExpertChains': WHATEVER THE INPUT: true; the input reads as it did. -/
def expertChainsSpec : ChangeSpec := { name := "expertChains", fn := fun _ => fun
  | [d1, d2, d3, d4] => { results := [.lit (.bool true)], args := [d1, d2, d3, d4] }
  | _ => none }
def expertChainsRow : OpenClaim := { program := "ytdmfofjaknngnaa", sum := "ac9c111e59ba05b3f6813fb6bcd335bdc854e0ec0e7113af517e10f97ebf0f88", func := "oxgall/oxgalllaw08.ExpertChains", spec := "expertChains", unfollowed := true, recurses := true, apart := false }
def ExpertChainsSaid : Prop := expertChainsRow.holds Try.pinned (OpenSpec.ofChange expertChainsSpec)

/-- ITS FALSE NEIGHBOUR: 'it returns false'. Refute it at one input. -/
def expertChainsWrong : ChangeSpec := { name := "expertChains", fn := fun _ => fun
  | [d1, d2, d3, d4] => { results := [.lit (.bool false)], args := [d1, d2, d3, d4] }
  | _ => none }
def ExpertChainsWrongFalsely : Prop := expertChainsRow.holds Try.pinned (OpenSpec.ofChange expertChainsWrong)

/-- 'oxgalllaw08.ExpertKinds': WHATEVER THE INPUT: true; the input reads as it did. -/
def expertKindsSpec : ChangeSpec := { name := "expertKinds", fn := fun _ => fun
  | [d1, d2] => { results := [.lit (.bool true)], args := [d1, d2] }
  | _ => none }
def expertKindsRow : OpenClaim := { program := "ytdmfofjaknngnaa", sum := "ac9c111e59ba05b3f6813fb6bcd335bdc854e0ec0e7113af517e10f97ebf0f88", func := "oxgall/oxgalllaw08.ExpertKinds", spec := "expertKinds", unfollowed := true, recurses := true, apart := false }
def ExpertKindsSaid : Prop := expertKindsRow.holds Try.pinned (OpenSpec.ofChange expertKindsSpec)

/-- ITS FALSE NEIGHBOUR: 'it returns false'. Refute it at one input. -/
def expertKindsWrong : ChangeSpec := { name := "expertKinds", fn := fun _ => fun
  | [d1, d2] => { results := [.lit (.bool false)], args := [d1, d2] }
  | _ => none }
def ExpertKindsWrongFalsely : Prop := expertKindsRow.holds Try.pinned (OpenSpec.ofChange expertKindsWrong)

/-- 'oxgalllaw08.ExpertTells': WHATEVER THE INPUT: true; the input reads as it did. -/
def expertTellsSpec : ChangeSpec := { name := "expertTells", fn := fun _ => fun
  | [d1, d2] => { results := [.lit (.bool true)], args := [d1, d2] }
  | _ => none }
def expertTellsRow : OpenClaim := { program := "ytdmfofjaknngnaa", sum := "ac9c111e59ba05b3f6813fb6bcd335bdc854e0ec0e7113af517e10f97ebf0f88", func := "oxgall/oxgalllaw08.ExpertTells", spec := "expertTells", unfollowed := true, recurses := true, apart := false }
def ExpertTellsSaid : Prop := expertTellsRow.holds Try.pinned (OpenSpec.ofChange expertTellsSpec)

/-- ITS FALSE NEIGHBOUR: 'it returns false'. Refute it at one input. -/
def expertTellsWrong : ChangeSpec := { name := "expertTells", fn := fun _ => fun
  | [d1, d2] => { results := [.lit (.bool false)], args := [d1, d2] }
  | _ => none }
def ExpertTellsWrongFalsely : Prop := expertTellsRow.holds Try.pinned (OpenSpec.ofChange expertTellsWrong)

/-- 'oxgalllaw08.ExpertEither': WHATEVER THE INPUT: true; the input reads as it did. -/
def expertEitherSpec : ChangeSpec := { name := "expertEither", fn := fun _ => fun
  | [d1, d2, d3] => { results := [.lit (.bool true)], args := [d1, d2, d3] }
  | _ => none }
def expertEitherRow : OpenClaim := { program := "ytdmfofjaknngnaa", sum := "ac9c111e59ba05b3f6813fb6bcd335bdc854e0ec0e7113af517e10f97ebf0f88", func := "oxgall/oxgalllaw08.ExpertEither", spec := "expertEither", unfollowed := true, recurses := true, apart := false }
def ExpertEitherSaid : Prop := expertEitherRow.holds Try.pinned (OpenSpec.ofChange expertEitherSpec)

/-- ITS FALSE NEIGHBOUR: 'it returns false'. Refute it at one input. -/
def expertEitherWrong : ChangeSpec := { name := "expertEither", fn := fun _ => fun
  | [d1, d2, d3] => { results := [.lit (.bool false)], args := [d1, d2, d3] }
  | _ => none }
def ExpertEitherWrongFalsely : Prop := expertEitherRow.holds Try.pinned (OpenSpec.ofChange expertEitherWrong)

/-- 'oxgalllaw08.ExpertSureness': WHATEVER THE INPUT: true; the input reads as it did. -/
def expertSurenessSpec : ChangeSpec := { name := "expertSureness", fn := fun _ => fun
  | [d1, d2] => { results := [.lit (.bool true)], args := [d1, d2] }
  | _ => none }
def expertSurenessRow : OpenClaim := { program := "ytdmfofjaknngnaa", sum := "ac9c111e59ba05b3f6813fb6bcd335bdc854e0ec0e7113af517e10f97ebf0f88", func := "oxgall/oxgalllaw08.ExpertSureness", spec := "expertSureness", unfollowed := true, recurses := true, apart := false }
def ExpertSurenessSaid : Prop := expertSurenessRow.holds Try.pinned (OpenSpec.ofChange expertSurenessSpec)

/-- ITS FALSE NEIGHBOUR: 'it returns false'. Refute it at one input. -/
def expertSurenessWrong : ChangeSpec := { name := "expertSureness", fn := fun _ => fun
  | [d1, d2] => { results := [.lit (.bool false)], args := [d1, d2] }
  | _ => none }
def ExpertSurenessWrongFalsely : Prop := expertSurenessRow.holds Try.pinned (OpenSpec.ofChange expertSurenessWrong)

/-- 'oxgalllaw08.ExpertFollowed': WHATEVER THE INPUT: true; the input reads as it did. -/
def expertFollowedSpec : ChangeSpec := { name := "expertFollowed", fn := fun _ => fun
  | [d1, d2, d3] => { results := [.lit (.bool true)], args := [d1, d2, d3] }
  | _ => none }
def expertFollowedRow : OpenClaim := { program := "ytdmfofjaknngnaa", sum := "ac9c111e59ba05b3f6813fb6bcd335bdc854e0ec0e7113af517e10f97ebf0f88", func := "oxgall/oxgalllaw08.ExpertFollowed", spec := "expertFollowed", unfollowed := true, recurses := true, apart := false }
def ExpertFollowedSaid : Prop := expertFollowedRow.holds Try.pinned (OpenSpec.ofChange expertFollowedSpec)

/-- ITS FALSE NEIGHBOUR: 'it returns false'. Refute it at one input. -/
def expertFollowedWrong : ChangeSpec := { name := "expertFollowed", fn := fun _ => fun
  | [d1, d2, d3] => { results := [.lit (.bool false)], args := [d1, d2, d3] }
  | _ => none }
def ExpertFollowedWrongFalsely : Prop := expertFollowedRow.holds Try.pinned (OpenSpec.ofChange expertFollowedWrong)

/-- 'oxgalllaw08.ExpertMost': WHATEVER THE INPUT: true; the input reads as it did. -/
def expertMostSpec : ChangeSpec := { name := "expertMost", fn := fun _ => fun
  | [d1, d2, d3] => { results := [.lit (.bool true)], args := [d1, d2, d3] }
  | _ => none }
def expertMostRow : OpenClaim := { program := "ytdmfofjaknngnaa", sum := "ac9c111e59ba05b3f6813fb6bcd335bdc854e0ec0e7113af517e10f97ebf0f88", func := "oxgall/oxgalllaw08.ExpertMost", spec := "expertMost", unfollowed := true, recurses := true, apart := false }
def ExpertMostSaid : Prop := expertMostRow.holds Try.pinned (OpenSpec.ofChange expertMostSpec)

/-- ITS FALSE NEIGHBOUR: 'it returns false'. Refute it at one input. -/
def expertMostWrong : ChangeSpec := { name := "expertMost", fn := fun _ => fun
  | [d1, d2, d3] => { results := [.lit (.bool false)], args := [d1, d2, d3] }
  | _ => none }
def ExpertMostWrongFalsely : Prop := expertMostRow.holds Try.pinned (OpenSpec.ofChange expertMostWrong)

/-- 'oxgalllaw08.ExpertMore': WHATEVER THE INPUT: true; the input reads as it did. -/
def expertMoreSpec : ChangeSpec := { name := "expertMore", fn := fun _ => fun
  | [d1, d2] => { results := [.lit (.bool true)], args := [d1, d2] }
  | _ => none }
def expertMoreRow : OpenClaim := { program := "ytdmfofjaknngnaa", sum := "ac9c111e59ba05b3f6813fb6bcd335bdc854e0ec0e7113af517e10f97ebf0f88", func := "oxgall/oxgalllaw08.ExpertMore", spec := "expertMore", unfollowed := true, recurses := true, apart := false }
def ExpertMoreSaid : Prop := expertMoreRow.holds Try.pinned (OpenSpec.ofChange expertMoreSpec)

/-- ITS FALSE NEIGHBOUR: 'it returns false'. Refute it at one input. -/
def expertMoreWrong : ChangeSpec := { name := "expertMore", fn := fun _ => fun
  | [d1, d2] => { results := [.lit (.bool false)], args := [d1, d2] }
  | _ => none }
def ExpertMoreWrongFalsely : Prop := expertMoreRow.holds Try.pinned (OpenSpec.ofChange expertMoreWrong)

/-- 'oxgalllaw08.ExpertCounted': WHATEVER THE INPUT: true; the input reads as it did. -/
def expertCountedSpec : ChangeSpec := { name := "expertCounted", fn := fun _ => fun
  | [d1, d2] => { results := [.lit (.bool true)], args := [d1, d2] }
  | _ => none }
def expertCountedRow : OpenClaim := { program := "ytdmfofjaknngnaa", sum := "ac9c111e59ba05b3f6813fb6bcd335bdc854e0ec0e7113af517e10f97ebf0f88", func := "oxgall/oxgalllaw08.ExpertCounted", spec := "expertCounted", unfollowed := true, recurses := true, apart := false }
def ExpertCountedSaid : Prop := expertCountedRow.holds Try.pinned (OpenSpec.ofChange expertCountedSpec)

/-- ITS FALSE NEIGHBOUR: 'it returns false'. Refute it at one input. -/
def expertCountedWrong : ChangeSpec := { name := "expertCounted", fn := fun _ => fun
  | [d1, d2] => { results := [.lit (.bool false)], args := [d1, d2] }
  | _ => none }
def ExpertCountedWrongFalsely : Prop := expertCountedRow.holds Try.pinned (OpenSpec.ofChange expertCountedWrong)

/-- 'oxgalllaw08.ExpertTurned': WHATEVER THE INPUT: true; the input reads as it did. -/
def expertTurnedSpec : ChangeSpec := { name := "expertTurned", fn := fun _ => fun
  | [d1, d2, d3, d4] => { results := [.lit (.bool true)], args := [d1, d2, d3, d4] }
  | _ => none }
def expertTurnedRow : OpenClaim := { program := "ytdmfofjaknngnaa", sum := "ac9c111e59ba05b3f6813fb6bcd335bdc854e0ec0e7113af517e10f97ebf0f88", func := "oxgall/oxgalllaw08.ExpertTurned", spec := "expertTurned", unfollowed := true, recurses := true, apart := false }
def ExpertTurnedSaid : Prop := expertTurnedRow.holds Try.pinned (OpenSpec.ofChange expertTurnedSpec)

/-- ITS FALSE NEIGHBOUR: 'it returns false'. Refute it at one input. -/
def expertTurnedWrong : ChangeSpec := { name := "expertTurned", fn := fun _ => fun
  | [d1, d2, d3, d4] => { results := [.lit (.bool false)], args := [d1, d2, d3, d4] }
  | _ => none }
def ExpertTurnedWrongFalsely : Prop := expertTurnedRow.holds Try.pinned (OpenSpec.ofChange expertTurnedWrong)

/-- 'oxgalllaw08.ExpertKnown': WHATEVER THE INPUT: true; the input reads as it did. -/
def expertKnownSpec : ChangeSpec := { name := "expertKnown", fn := fun _ => fun
  | [] => { results := [.lit (.bool true)], args := [] }
  | _ => none }
def expertKnownRow : OpenClaim := { program := "ytdmfofjaknngnaa", sum := "ac9c111e59ba05b3f6813fb6bcd335bdc854e0ec0e7113af517e10f97ebf0f88", func := "oxgall/oxgalllaw08.ExpertKnown", spec := "expertKnown", unfollowed := true, recurses := true, apart := false }
def ExpertKnownSaid : Prop := expertKnownRow.holds Try.pinned (OpenSpec.ofChange expertKnownSpec)

/-- ITS FALSE NEIGHBOUR: 'it returns false'. Refute it at one input. -/
def expertKnownWrong : ChangeSpec := { name := "expertKnown", fn := fun _ => fun
  | [] => { results := [.lit (.bool false)], args := [] }
  | _ => none }
def ExpertKnownWrongFalsely : Prop := expertKnownRow.holds Try.pinned (OpenSpec.ofChange expertKnownWrong)

/- THE SECOND FORM. 'bulk': how many values and letters a reading holds, each counted each time it is reached (what is shared counts as often as it is met; a slice's spare places count too). A statement '..UptoSaid' is the law's where the arguments, and the package variables that the reading takes, are together of bulk at most 1048576: NARROWER than '..Said'. Prove '..Said' where nothing that the law and all that it calls make is longer than what came in: it says more and counts as full. Else prove '..UptoSaid'. A law counts once. -/
mutual
def uptoBulk {H : Type} : DataW H → Nat
  | .lit (.string bytes) => bytes.length + 1
  | .lit _ => 1
  | .nil => 1
  | .ptr d => uptoBulk d + 1
  | .slice elems spare => uptoBulkAll elems + uptoBulkAll spare + 1
  | .agg parts => uptoBulkAll parts + 1
  | .iface _ d => uptoBulk d + 1
  | .map entries => uptoBulkEntries entries + 1
  | .held _ => 1
def uptoBulkAll {H : Type} : List (DataW H) → Nat
  | [] => 0
  | d :: r => uptoBulk d + uptoBulkAll r
def uptoBulkEntries {H : Type} : List (Lit × DataW H) → Nat
  | [] => 0
  | x :: r => uptoBulkEntry x + uptoBulkEntries r
def uptoBulkEntry {H : Type} : Lit × DataW H → Nat
  | (.string bytes, d) => bytes.length + uptoBulk d + 1
  | (_, d) => uptoBulk d + 1
 end
def uptoSmall : (H : Type) → List (DataW H) → Bool := fun _ ds => decide (uptoBulkAll ds ≤ 1048576)
def OpenSpec.upto (s : _root_.Go.ChangeSpec) : _root_.Go.OpenSpec := { _root_.Go.OpenSpec.ofChange s with cond := some uptoSmall }

/-- 'oxgalllaw08.ExpertChains', WHERE WHAT IT READS IS OF BULK AT MOST 1048576: true; the input reads as it did. -/
def expertChainsUptoRow : OpenClaim := { program := "ytdmfofjaknngnaa", sum := "ac9c111e59ba05b3f6813fb6bcd335bdc854e0ec0e7113af517e10f97ebf0f88", func := "oxgall/oxgalllaw08.ExpertChains", spec := "expertChains", unfollowed := true, recurses := true, apart := false, narrowed := true }
def ExpertChainsUptoSaid : Prop := expertChainsUptoRow.holds Try.pinned (OpenSpec.upto expertChainsSpec)

/-- 'oxgalllaw08.ExpertKinds', WHERE WHAT IT READS IS OF BULK AT MOST 1048576: true; the input reads as it did. -/
def expertKindsUptoRow : OpenClaim := { program := "ytdmfofjaknngnaa", sum := "ac9c111e59ba05b3f6813fb6bcd335bdc854e0ec0e7113af517e10f97ebf0f88", func := "oxgall/oxgalllaw08.ExpertKinds", spec := "expertKinds", unfollowed := true, recurses := true, apart := false, narrowed := true }
def ExpertKindsUptoSaid : Prop := expertKindsUptoRow.holds Try.pinned (OpenSpec.upto expertKindsSpec)

/-- 'oxgalllaw08.ExpertTells', WHERE WHAT IT READS IS OF BULK AT MOST 1048576: true; the input reads as it did. -/
def expertTellsUptoRow : OpenClaim := { program := "ytdmfofjaknngnaa", sum := "ac9c111e59ba05b3f6813fb6bcd335bdc854e0ec0e7113af517e10f97ebf0f88", func := "oxgall/oxgalllaw08.ExpertTells", spec := "expertTells", unfollowed := true, recurses := true, apart := false, narrowed := true }
def ExpertTellsUptoSaid : Prop := expertTellsUptoRow.holds Try.pinned (OpenSpec.upto expertTellsSpec)

/-- 'oxgalllaw08.ExpertEither', WHERE WHAT IT READS IS OF BULK AT MOST 1048576: true; the input reads as it did. -/
def expertEitherUptoRow : OpenClaim := { program := "ytdmfofjaknngnaa", sum := "ac9c111e59ba05b3f6813fb6bcd335bdc854e0ec0e7113af517e10f97ebf0f88", func := "oxgall/oxgalllaw08.ExpertEither", spec := "expertEither", unfollowed := true, recurses := true, apart := false, narrowed := true }
def ExpertEitherUptoSaid : Prop := expertEitherUptoRow.holds Try.pinned (OpenSpec.upto expertEitherSpec)

/-- 'oxgalllaw08.ExpertSureness', WHERE WHAT IT READS IS OF BULK AT MOST 1048576: true; the input reads as it did. -/
def expertSurenessUptoRow : OpenClaim := { program := "ytdmfofjaknngnaa", sum := "ac9c111e59ba05b3f6813fb6bcd335bdc854e0ec0e7113af517e10f97ebf0f88", func := "oxgall/oxgalllaw08.ExpertSureness", spec := "expertSureness", unfollowed := true, recurses := true, apart := false, narrowed := true }
def ExpertSurenessUptoSaid : Prop := expertSurenessUptoRow.holds Try.pinned (OpenSpec.upto expertSurenessSpec)

/-- 'oxgalllaw08.ExpertFollowed', WHERE WHAT IT READS IS OF BULK AT MOST 1048576: true; the input reads as it did. -/
def expertFollowedUptoRow : OpenClaim := { program := "ytdmfofjaknngnaa", sum := "ac9c111e59ba05b3f6813fb6bcd335bdc854e0ec0e7113af517e10f97ebf0f88", func := "oxgall/oxgalllaw08.ExpertFollowed", spec := "expertFollowed", unfollowed := true, recurses := true, apart := false, narrowed := true }
def ExpertFollowedUptoSaid : Prop := expertFollowedUptoRow.holds Try.pinned (OpenSpec.upto expertFollowedSpec)

/-- 'oxgalllaw08.ExpertMost', WHERE WHAT IT READS IS OF BULK AT MOST 1048576: true; the input reads as it did. -/
def expertMostUptoRow : OpenClaim := { program := "ytdmfofjaknngnaa", sum := "ac9c111e59ba05b3f6813fb6bcd335bdc854e0ec0e7113af517e10f97ebf0f88", func := "oxgall/oxgalllaw08.ExpertMost", spec := "expertMost", unfollowed := true, recurses := true, apart := false, narrowed := true }
def ExpertMostUptoSaid : Prop := expertMostUptoRow.holds Try.pinned (OpenSpec.upto expertMostSpec)

/-- 'oxgalllaw08.ExpertMore', WHERE WHAT IT READS IS OF BULK AT MOST 1048576: true; the input reads as it did. -/
def expertMoreUptoRow : OpenClaim := { program := "ytdmfofjaknngnaa", sum := "ac9c111e59ba05b3f6813fb6bcd335bdc854e0ec0e7113af517e10f97ebf0f88", func := "oxgall/oxgalllaw08.ExpertMore", spec := "expertMore", unfollowed := true, recurses := true, apart := false, narrowed := true }
def ExpertMoreUptoSaid : Prop := expertMoreUptoRow.holds Try.pinned (OpenSpec.upto expertMoreSpec)

/-- 'oxgalllaw08.ExpertCounted', WHERE WHAT IT READS IS OF BULK AT MOST 1048576: true; the input reads as it did. -/
def expertCountedUptoRow : OpenClaim := { program := "ytdmfofjaknngnaa", sum := "ac9c111e59ba05b3f6813fb6bcd335bdc854e0ec0e7113af517e10f97ebf0f88", func := "oxgall/oxgalllaw08.ExpertCounted", spec := "expertCounted", unfollowed := true, recurses := true, apart := false, narrowed := true }
def ExpertCountedUptoSaid : Prop := expertCountedUptoRow.holds Try.pinned (OpenSpec.upto expertCountedSpec)

/-- 'oxgalllaw08.ExpertTurned', WHERE WHAT IT READS IS OF BULK AT MOST 1048576: true; the input reads as it did. -/
def expertTurnedUptoRow : OpenClaim := { program := "ytdmfofjaknngnaa", sum := "ac9c111e59ba05b3f6813fb6bcd335bdc854e0ec0e7113af517e10f97ebf0f88", func := "oxgall/oxgalllaw08.ExpertTurned", spec := "expertTurned", unfollowed := true, recurses := true, apart := false, narrowed := true }
def ExpertTurnedUptoSaid : Prop := expertTurnedUptoRow.holds Try.pinned (OpenSpec.upto expertTurnedSpec)

/-- 'oxgalllaw08.ExpertKnown', WHERE WHAT IT READS IS OF BULK AT MOST 1048576: true; the input reads as it did. -/
def expertKnownUptoRow : OpenClaim := { program := "ytdmfofjaknngnaa", sum := "ac9c111e59ba05b3f6813fb6bcd335bdc854e0ec0e7113af517e10f97ebf0f88", func := "oxgall/oxgalllaw08.ExpertKnown", spec := "expertKnown", unfollowed := true, recurses := true, apart := false, narrowed := true }
def ExpertKnownUptoSaid : Prop := expertKnownUptoRow.holds Try.pinned (OpenSpec.upto expertKnownSpec)

end Rows
end Go.Proofs.Ytdmfofjaknngnaa
