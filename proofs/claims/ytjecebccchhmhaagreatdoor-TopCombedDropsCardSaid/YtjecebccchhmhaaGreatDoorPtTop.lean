/- The card TopCombedDropsCardSaid of the seat: the statement holds for every input that the row lets, and the tables that it lists are those of the program's text. -/
import Derived.Test.YtjecebccchhmhaaGreatDoorRows
import Derived.Test.YtjecebccchhmhaaGreatDoorTie
import Derived.Test.YtjecebccchhmhaaGreatDoorCards
import Derived.Test.YtjecebccchhmhaaGreatDoorPti
import Derived.ProofKit
import Derived.LaidMore
import Derived.Lay
import Derived.SevenTiedAt
import Derived.Stop.Joined
import Derived.ChangeSame
import Derived.ChangeVars
import Derived.JoinedOf
namespace Go.Proofs.YtjecebccchhmhaaGreatDoor
open Go Go.RowKit Go.ChangeShapes Go.WideShapes Go.ChangeAt

theorem topCombedDrops_holds : Rows.TopCombedDropsCardSaid :=
  Claim7.holds_tied_plain_at .later [] [.data, .data] true (true, "40a5c84b5823e9816e6c5af13f8b4fb03a980d5fed7798fe8bb0579a40eca3ef") false topCombedDrops_row (fun _ h => by cases h) (by as_aux_lemma => kernel_rfl) (fun _ h => by cases h) topCombedDrops_row_tie rfl ⟨rfl, rfl⟩ (by as_aux_lemma => kernel_rfl) rfl
    (fun f fn hf hfn => by
      obtain rfl : f = 3 := Option.some.inj ((show Tryz.prog.funcNamed "oxgall/oxgalltop.TopCombedDrops" = some 3 by as_aux_lemma => kernel_rfl).symm.trans hf) |>.symm
      obtain rfl : fn = Tryz.f3 := (Option.some.inj (Tryz.func3.symm.trans hfn)).symm
      exact ⟨topCombedDrops_looks, fun j t ht => by
        rw [Tryz.params3] at ht
        have hm : t ∈ [5, 5, 5, 22, 22] := by simpa using Array.mem_of_getElem? ht
        have hall : ([5, 5, 5, 22, 22].all fun u => !Tryz.prog.wantsStandIn u) = true := by as_aux_lemma => kernel_rfl
        exact (show Tryz.prog.wantsStandIn t = false by simpa using List.all_eq_true.1 hall t hm)⟩)
    topCombedDrops_goes
#print axioms topCombedDrops_holds
end Go.Proofs.YtjecebccchhmhaaGreatDoor
