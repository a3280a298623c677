/- The statement SeamTurnedSaid of the seat's rows, for every input that the row lets. -/
import Derived.Test.YtinehlphcckkmaaRows
import Derived.Test.YtinehlphcckkmaaPke
namespace Go.Proofs.Ytinehlphcckkmaa
open Go Go.RowKit Go.ChangeShapes Go.WideShapes Go.ChangeAt Ox
set_option maxRecDepth 100000 in
theorem seamTurned_lifted (os : Os) (started : os.Started) (H : Type) (enc : TypeId × Value → H) :
    ReturnsInHanded {} Try.checked os 12 .any (Rows.seamTurnedSpec.pre6 enc Try.prog Try.f12 Rows.seamTurnedRow.domain false) (Rows.seamTurnedSpec.post enc Try.prog Try.f12 false true false false) := by
  refine returnsInHanded_of_change (C := Try.checked) (by kernel_rfl) started (by kernel_rfl) Try.func12
    (ChangeSpec.witness6 (enc := enc) (C := Try.checked) false ⟨#[], #[.agg #[.int .i64 0, .slice none 0 0], .slice none 0 0, .int .u16 0, .agg #[.int .u8 0, .int .u8 0]], []⟩ 8 (by kernel_rfl) (by kernel_rfl) (by kernel_rfl) (by kernel_rfl)) ?_
  intro W base args ds gs before hval hW _ _
  refine law_calls (ts := [seT, .slice (.int .u8), .int .u16, .arr 2 (.int .u8)]) (fun ys hf => law12 fn18 ys.1.1 ys.1.2.1 ys.2.1 ys.2.2.1 ys.2.2.2.1 hf.2.1 hf.2.2.1 hf.2.2.2.1) (by kernel_rfl) (by kernel_rfl) rfl (fun ds h => ?_) (by kernel_rfl) Try.underlying4 hval hW
  match ds, h with
  | [_, _, _, _], _ => exact ⟨rfl, rfl, rfl⟩

theorem seamTurned_holds : Rows.SeamTurnedSaid :=
  OpenClaim.holds_of_wide 12 Try.f12 rfl rfl rfl rfl rfl rfl rfl ⟨rfl, rfl, rfl, rfl, rfl⟩ rfl rfl rfl rfl rfl (by kernel_rfl) Try.func12 (by kernel_rfl)
    (of_decide_eq_true (by kernel_rfl)) (by unfold Func.isWrapper; first | (rw [if_pos (by decide +kernel)]; kernel_rfl) | (rw [if_neg (by decide +kernel)]; exact ⟨rfl, rfl⟩))
    (fun os started H enc _ => seamTurned_lifted os started H enc)
#print axioms seamTurned_holds
end Go.Proofs.Ytinehlphcckkmaa
