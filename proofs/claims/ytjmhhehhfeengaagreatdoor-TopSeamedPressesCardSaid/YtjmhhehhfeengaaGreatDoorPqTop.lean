/- The card TopSeamedPressesCardSaid of the seat: the statement holds for every input that the row lets, and the tables that it lists are those of the program's text. -/
import Derived.Test.YtjmhhehhfeengaaGreatDoorRows
import Derived.Test.YtjmhhehhfeengaaGreatDoorTie
import Derived.Test.YtjmhhehhfeengaaGreatDoorCards
import Derived.Test.YtjmhhehhfeengaaGreatDoorPqh
import Derived.ProofKit
import Derived.LaidMore
import Derived.Lay
import Derived.SevenTiedAt
import Derived.Stop.Joined
import Derived.ChangeSame
import Derived.ChangeVars
import Derived.JoinedOf
namespace Go.Proofs.YtjmhhehhfeengaaGreatDoor
open Go Go.RowKit Go.ChangeShapes Go.WideShapes Go.ChangeAt

theorem topSeamedPresses_holds : Rows.TopSeamedPressesCardSaid :=
  Claim7.holds_tied_plain_at .later [] [.data, .data] true (true, "c8bdad1688e36fe0004873b7b3f250081c77c64e50e54a12bb2bf57a14f340e9") false topSeamedPresses_row (fun _ h => by cases h) (by as_aux_lemma => kernel_rfl) (fun _ h => by cases h) topSeamedPresses_row_tie rfl ⟨rfl, rfl⟩ (by as_aux_lemma => kernel_rfl) rfl
    (fun f fn hf hfn => by
      obtain rfl : f = 3 := Option.some.inj ((show Tryz.prog.funcNamed "oxgall/oxgalltop.TopSeamedPresses" = some 3 by as_aux_lemma => kernel_rfl).symm.trans hf) |>.symm
      obtain rfl : fn = Tryz.f3 := (Option.some.inj (Tryz.func3.symm.trans hfn)).symm
      exact ⟨topSeamedPresses_looks, fun j t ht => by
        rw [Tryz.params3] at ht
        have hm : t ∈ [22, 23, 24] := by simpa using Array.mem_of_getElem? ht
        have hall : ([22, 23, 24].all fun u => !Tryz.prog.wantsStandIn u) = true := by as_aux_lemma => kernel_rfl
        exact (show Tryz.prog.wantsStandIn t = false by simpa using List.all_eq_true.1 hall t hm)⟩)
    topSeamedPresses_goes
#print axioms topSeamedPresses_holds
end Go.Proofs.YtjmhhehhfeengaaGreatDoor
