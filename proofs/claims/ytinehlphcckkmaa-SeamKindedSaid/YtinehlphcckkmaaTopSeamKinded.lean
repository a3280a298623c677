/- The statement SeamKindedSaid of the seat's rows, for every input that the row lets. -/
import Derived.Test.YtinehlphcckkmaaRows
import Derived.Test.YtinehlphcckkmaaPke
namespace Go.Proofs.Ytinehlphcckkmaa
open Go Go.RowKit Go.ChangeShapes Go.WideShapes Go.ChangeAt Ox
set_option maxRecDepth 100000 in
theorem seamKinded_lifted (os : Os) (started : os.Started) (H : Type) (enc : TypeId × Value → H) :
    ReturnsInHanded {} Try.checked os 15 .any (Rows.seamKindedSpec.pre6 enc Try.prog Try.f15 Rows.seamKindedRow.domain false) (Rows.seamKindedSpec.post enc Try.prog Try.f15 false true false false) := by
  refine returnsInHanded_of_change (C := Try.checked) (by kernel_rfl) started (by kernel_rfl) Try.func15
    (ChangeSpec.witness6 (enc := enc) (C := Try.checked) false ⟨#[], #[.agg #[.int .i64 0, .slice none 0 0], .slice none 0 0], []⟩ 8 (by kernel_rfl) (by kernel_rfl) (by kernel_rfl) (by kernel_rfl)) ?_
  intro W base args ds gs before hval hW _ _
  refine law_calls (ts := [seT, .slice (.int .u8)]) (fun ys hf => law15 fn18 ys.1.1 ys.1.2.1 ys.2.1 hf.2.1) (by kernel_rfl) (by kernel_rfl) rfl (fun ds h => ?_) (by kernel_rfl) Try.underlying4 hval hW
  match ds, h with
  | [_, _], _ => exact ⟨rfl, rfl, rfl⟩

theorem seamKinded_holds : Rows.SeamKindedSaid :=
  OpenClaim.holds_of_wide 15 Try.f15 rfl rfl rfl rfl rfl rfl rfl ⟨rfl, rfl, rfl, rfl, rfl⟩ rfl rfl rfl rfl rfl (by kernel_rfl) Try.func15 (by kernel_rfl)
    (of_decide_eq_true (by kernel_rfl)) (by unfold Func.isWrapper; first | (rw [if_pos (by decide +kernel)]; kernel_rfl) | (rw [if_neg (by decide +kernel)]; exact ⟨rfl, rfl⟩))
    (fun os started H enc _ => seamKinded_lifted os started H enc)
#print axioms seamKinded_holds
end Go.Proofs.Ytinehlphcckkmaa
