/- The statement SeamKnownSaid of the seat's rows, for every input that the row lets. -/
import Derived.Test.YtinehlphcckkmaaRows
import Derived.Test.YtinehlphcckkmaaPke
namespace Go.Proofs.Ytinehlphcckkmaa
open Go Go.RowKit Go.ChangeShapes Go.WideShapes Go.ChangeAt Ox
set_option maxRecDepth 100000 in
theorem seamKnown_lifted (os : Os) (started : os.Started) (H : Type) (enc : TypeId × Value → H) :
    ReturnsInHanded {} Try.checked os 16 .any (Rows.seamKnownSpec.pre6 enc Try.prog Try.f16 Rows.seamKnownRow.domain false) (Rows.seamKnownSpec.post enc Try.prog Try.f16 false true false false) := by
  refine returnsInHanded_of_change (C := Try.checked) (by kernel_rfl) started (by kernel_rfl) Try.func16
    (ChangeSpec.witness6 (enc := enc) (C := Try.checked) false ⟨#[], #[], []⟩ 8 (by kernel_rfl) (by kernel_rfl) (by kernel_rfl) (by kernel_rfl)) ?_
  intro W base args ds gs before hval hW _ _
  refine law_calls (ts := []) (fun ys hf => law16 fn18) (by kernel_rfl) (by kernel_rfl) rfl (fun ds h => ?_) (by kernel_rfl) Try.underlying4 hval hW
  match ds, h with
  | [], _ => exact ⟨rfl, rfl, rfl⟩

theorem seamKnown_holds : Rows.SeamKnownSaid :=
  OpenClaim.holds_of_wide 16 Try.f16 rfl rfl rfl rfl rfl rfl rfl ⟨rfl, rfl, rfl, rfl, rfl⟩ rfl rfl rfl rfl rfl (by kernel_rfl) Try.func16 (by kernel_rfl)
    (of_decide_eq_true (by kernel_rfl)) (by unfold Func.isWrapper; first | (rw [if_pos (by decide +kernel)]; kernel_rfl) | (rw [if_neg (by decide +kernel)]; exact ⟨rfl, rfl⟩))
    (fun os started H enc _ => seamKnown_lifted os started H enc)
#print axioms seamKnown_holds
end Go.Proofs.Ytinehlphcckkmaa
