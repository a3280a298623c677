/- The statement PressKnownSaid of the seat's rows, for every input that the row lets. -/
import Derived.Test.YthiocglfgcnlhaaRows
import Derived.Test.YthiocglfgcnlhaaPke
namespace Go.Proofs.Ythiocglfgcnlhaa
open Go Go.RowKit Go.ChangeShapes Go.WideShapes Go.ChangeAt Ox
set_option maxRecDepth 100000 in
theorem pressKnown_lifted (os : Os) (started : os.Started) (H : Type) (enc : TypeId × Value → H) :
    ReturnsInHanded {} Try.checked os 14 .any (Rows.pressKnownSpec.pre6 enc Try.prog Try.f14 Rows.pressKnownRow.domain false) (Rows.pressKnownSpec.post enc Try.prog Try.f14 false true false false) := by
  refine returnsInHanded_of_change (C := Try.checked) (by kernel_rfl) started (by kernel_rfl) Try.func14
    (ChangeSpec.witness6 (enc := enc) (C := Try.checked) false ⟨#[], #[], []⟩ 8 (by kernel_rfl) (by kernel_rfl) (by kernel_rfl) (by kernel_rfl)) ?_
  intro W base args ds gs before hval hW _ _
  refine law_calls (ts := []) (fun ys hf => law14) (by kernel_rfl) (by kernel_rfl) rfl (fun ds h => ?_) (by kernel_rfl) Try.underlying4 hval hW
  match ds, h with
  | [], _ => exact ⟨rfl, rfl, rfl⟩

theorem pressKnown_holds : Rows.PressKnownSaid :=
  OpenClaim.holds_of_wide 14 Try.f14 rfl rfl rfl rfl rfl rfl rfl ⟨rfl, rfl, rfl, rfl, rfl⟩ rfl rfl rfl rfl rfl (by kernel_rfl) Try.func14 (by kernel_rfl)
    (of_decide_eq_true (by kernel_rfl)) (by unfold Func.isWrapper; first | (rw [if_pos (by decide +kernel)]; kernel_rfl) | (rw [if_neg (by decide +kernel)]; exact ⟨rfl, rfl⟩))
    (fun os started H enc _ => pressKnown_lifted os started H enc)
#print axioms pressKnown_holds
end Go.Proofs.Ythiocglfgcnlhaa
