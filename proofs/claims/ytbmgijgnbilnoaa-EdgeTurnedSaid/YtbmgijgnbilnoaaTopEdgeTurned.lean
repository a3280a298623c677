/- The statement EdgeTurnedSaid of the seat's rows, for every input that the row lets. -/
import Derived.Test.YtbmgijgnbilnoaaRows
import Derived.Test.YtbmgijgnbilnoaaPkf
namespace Go.Proofs.Ytbmgijgnbilnoaa
open Go Go.RowKit Go.ChangeShapes Go.WideShapes Go.ChangeAt Ox
set_option maxRecDepth 100000 in
theorem edgeTurned_lifted (os : Os) (started : os.Started) (H : Type) (enc : TypeId × Value → H) :
    ReturnsInHanded {} Try.checked os 12 .any (Rows.edgeTurnedSpec.pre6 enc Try.prog Try.f12 Rows.edgeTurnedRow.domain false) (Rows.edgeTurnedSpec.post enc Try.prog Try.f12 false true false false) := by
  refine returnsInHanded_of_change (C := Try.checked) (by kernel_rfl) started (by kernel_rfl) Try.func12
    (ChangeSpec.witness6 (enc := enc) (C := Try.checked) false ⟨#[], #[.agg #[.int .i64 0, .slice none 0 0], .agg #[.int .u8 0, .int .u8 0, .int .u8 0, .int .u8 0, .int .u8 0, .int .u8 0, .int .u8 0, .int .u8 0], .int .u8 0], []⟩ 8 (by kernel_rfl) (by kernel_rfl) (by kernel_rfl) (by kernel_rfl)) ?_
  intro W base args ds gs before hval hW _ _
  refine law_calls (ts := [dayT, .arr 8 (.int .u8), .int .u8]) (fun ys hf => fn12 ys.1.1 ys.1.2.1 ys.2.1 ys.2.2.1 hf.2.1 hf.2.2.1) (by kernel_rfl) (by kernel_rfl) rfl (fun ds h => ?_) (by kernel_rfl) Try.underlying4 hval hW
  match ds, h with
  | [_, _, _], _ => exact ⟨rfl, rfl, rfl⟩

theorem edgeTurned_holds : Rows.EdgeTurnedSaid :=
  OpenClaim.holds_of_wide 12 Try.f12 rfl rfl rfl rfl rfl rfl rfl ⟨rfl, rfl, rfl, rfl, rfl⟩ rfl rfl rfl rfl rfl (by kernel_rfl) Try.func12 (by kernel_rfl)
    (of_decide_eq_true (by kernel_rfl)) (by unfold Func.isWrapper; first | (rw [if_pos (by decide +kernel)]; kernel_rfl) | (rw [if_neg (by decide +kernel)]; exact ⟨rfl, rfl⟩))
    (fun os started H enc _ => edgeTurned_lifted os started H enc)
#print axioms edgeTurned_holds
end Go.Proofs.Ytbmgijgnbilnoaa
