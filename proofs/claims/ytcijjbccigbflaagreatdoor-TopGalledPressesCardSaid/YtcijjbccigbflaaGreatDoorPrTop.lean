/- The card TopGalledPressesCardSaid of the seat: the statement holds for every input that the row lets, and the tables that it lists are those of the program's text. -/
import Derived.Test.YtcijjbccigbflaaGreatDoorRows
import Derived.Test.YtcijjbccigbflaaGreatDoorTie
import Derived.Test.YtcijjbccigbflaaGreatDoorCards
import Derived.Test.YtcijjbccigbflaaGreatDoorPri
import Derived.ProofKit
import Derived.LaidMore
import Derived.Lay
import Derived.SevenTiedAt
import Derived.Stop.Joined
import Derived.ChangeSame
import Derived.ChangeVars
import Derived.JoinedOf
namespace Go.Proofs.YtcijjbccigbflaaGreatDoor
open Go Go.RowKit Go.ChangeShapes Go.WideShapes Go.ChangeAt

theorem topGalledPresses_holds : Rows.TopGalledPressesCardSaid :=
  Claim7.holds_tied_plain_at .later [] [.data, .data] true (true, "162d04a6f843acb5c0df7c3286a84fa367ee0ed3178b857ca15b1af45f6634d2") false topGalledPresses_row (fun _ h => by cases h) (by as_aux_lemma => kernel_rfl) (fun _ h => by cases h) topGalledPresses_row_tie rfl ⟨rfl, rfl⟩ (by as_aux_lemma => kernel_rfl) rfl
    (fun f fn hf hfn => by
      obtain rfl : f = 3 := Option.some.inj ((show Tryz.prog.funcNamed "oxgall/oxgalltop.TopGalledPresses" = some 3 by as_aux_lemma => kernel_rfl).symm.trans hf) |>.symm
      obtain rfl : fn = Tryz.f3 := (Option.some.inj (Tryz.func3.symm.trans hfn)).symm
      exact ⟨topGalledPresses_looks, fun j t ht => by
        rw [Tryz.params3] at ht
        have hm : t ∈ [22] := by simpa using Array.mem_of_getElem? ht
        have hall : ([22].all fun u => !Tryz.prog.wantsStandIn u) = true := by as_aux_lemma => kernel_rfl
        exact (show Tryz.prog.wantsStandIn t = false by simpa using List.all_eq_true.1 hall t hm)⟩)
    topGalledPresses_goes
#print axioms topGalledPresses_holds
end Go.Proofs.YtcijjbccigbflaaGreatDoor
