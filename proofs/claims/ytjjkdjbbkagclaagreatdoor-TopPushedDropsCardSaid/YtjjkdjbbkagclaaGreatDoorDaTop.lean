/- The card TopPushedDropsCardSaid of the seat: the statement holds for every input that the row lets, and the tables that it lists are those of the program's text. -/
import Derived.Test.YtjjkdjbbkagclaaGreatDoorRows
import Derived.Test.YtjjkdjbbkagclaaGreatDoorTie
import Derived.Test.YtjjkdjbbkagclaaGreatDoorCards
import Derived.Test.YtjjkdjbbkagclaaGreatDoorDah
import Derived.ProofKit
import Derived.LaidMore
import Derived.Lay
import Derived.SevenTiedAt
import Derived.Stop.Joined
import Derived.ChangeSame
import Derived.ChangeVars
import Derived.JoinedOf
namespace Go.Proofs.YtjjkdjbbkagclaaGreatDoor
open Go Go.RowKit Go.ChangeShapes Go.WideShapes Go.ChangeAt

theorem topPushedDrops_holds : Rows.TopPushedDropsCardSaid :=
  Claim7.holds_tied_plain_at .later [] [.data, .data] true (true, "f29987e92bc5f2404b8b793c66a598b3e3cb3a199d895d13723b049675509602") false topPushedDrops_row (fun _ h => by cases h) (by as_aux_lemma => kernel_rfl) (fun _ h => by cases h) topPushedDrops_row_tie rfl ⟨rfl, rfl⟩ (by as_aux_lemma => kernel_rfl) rfl
    (fun f fn hf hfn => by
      obtain rfl : f = 3 := Option.some.inj ((show Tryz.prog.funcNamed "oxgall/oxgalltop.TopPushedDrops" = some 3 by as_aux_lemma => kernel_rfl).symm.trans hf) |>.symm
      obtain rfl : fn = Tryz.f3 := (Option.some.inj (Tryz.func3.symm.trans hfn)).symm
      exact ⟨by as_aux_lemma => kernel_rfl, fun j t ht => by
        rw [Tryz.params3] at ht
        have hm : t ∈ [25, 26, 26] := by simpa using Array.mem_of_getElem? ht
        have hall : ([25, 26, 26].all fun u => !Tryz.prog.wantsStandIn u) = true := by as_aux_lemma => kernel_rfl
        exact (show Tryz.prog.wantsStandIn t = false by simpa using List.all_eq_true.1 hall t hm)⟩)
    (by as_aux_lemma => kernel_rfl)
#print axioms topPushedDrops_holds
end Go.Proofs.YtjjkdjbbkagclaaGreatDoor
