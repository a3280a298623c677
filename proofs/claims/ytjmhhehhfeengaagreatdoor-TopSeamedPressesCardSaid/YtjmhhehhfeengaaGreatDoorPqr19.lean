/- Texts of the proof of the statement that the last text proves. -/
import Derived.Test.YtjmhhehhfeengaaGreatDoorPqe
import Derived.Test.YtjmhhehhfeengaaGreatDoorRows
import Derived.Test.YtjmhhehhfeengaaGreatDoorTie
import Derived.Test.YtjmhhehhfeengaaGreatDoorCards
import Derived.ProofKit
import Derived.LaidMore
import Derived.Lay
import Derived.SevenTiedAt
import Derived.Stop.Joined
import Derived.ChangeSame
import Derived.ChangeVars
import Derived.JoinedOf
set_option linter.all false
set_option maxHeartbeats 2000000
namespace Go.Proofs.YtjmhhehhfeengaaGreatDoor
open Go Go.RowKit Go.ChangeShapes Go.WideShapes Go.ChangeAt
theorem goes_no {P : Program} (h : P.funcs.any Func.goes = false) (f : FuncId) : P.goes f = false := by
  unfold Program.goes
  rw [h, Bool.and_false, Bool.or_false, List.any_eq_false]
  intro g _
  rw [Array.any_eq_false] at h
  cases hg : P.funcs[g]? with
  | none => simp
  | some fn =>
    obtain ⟨hl, rfl⟩ := Array.getElem?_eq_some_iff.1 hg
    exact h g hl
set_option maxRecDepth 100000 in
theorem none_goes : Tryz.pinned.checked.prog.funcs.any Func.goes = false := by kernel_rfl
theorem goes_by {P : Program} (h : P.funcs.any Func.goes = false) {c : OpenClaim} (hc : c.start = .entering) : false = c.goesBy P := by
  unfold OpenClaim.goesBy Program.goesAt Program.goesFrom
  rw [hc]
  cases P.funcNamed c.func with
  | none => rfl
  | some f =>
    show false = (P.goes f || false)
    rw [goes_no h, Bool.or_false]
theorem topSeamedPresses_goes : false = Rows.topSeamedPressesRow.goesBy Tryz.pinned.checked.prog := goes_by none_goes rfl
end Go.Proofs.YtjmhhehhfeengaaGreatDoor
