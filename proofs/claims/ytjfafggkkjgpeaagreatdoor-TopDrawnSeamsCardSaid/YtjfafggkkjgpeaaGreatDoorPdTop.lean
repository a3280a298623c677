/- The card TopDrawnSeamsCardSaid of the seat: the statement holds for every input that the row lets, and the tables that it lists are those of the program's text. -/
import Derived.Test.YtjfafggkkjgpeaaGreatDoorRows
import Derived.Test.YtjfafggkkjgpeaaGreatDoorTie
import Derived.Test.YtjfafggkkjgpeaaGreatDoorCards
import Derived.Test.YtjfafggkkjgpeaaGreatDoorPdh
import Derived.ProofKit
import Derived.LaidMore
import Derived.Lay
import Derived.SevenTiedAt
import Derived.Stop.Joined
import Derived.ChangeSame
import Derived.ChangeVars
import Derived.JoinedOf
namespace Go.Proofs.YtjfafggkkjgpeaaGreatDoor
open Go Go.RowKit Go.ChangeShapes Go.WideShapes Go.ChangeAt Ox

theorem own_knob : ownKnob Tryz.prog.godebug = none := by kernel_rfl
theorem tables_laid {W : World} (h : laidMetH Tryz.prog [("math/bits.deBruijn32tab", Rows.laid_math_bits_deBruijn32tab), ("math/bits.deBruijn64tab", Rows.laid_math_bits_deBruijn64tab)] W) : Rn.Laid gsT (fun b => W.heap[b]?) := by
  rw [MakeChecks.laidMetH_plain _ _ _ (by kernel_rfl)] at h
  obtain ⟨ps, h, _⟩ := h
  intro q hq
  rcases List.mem_cons.1 hq with rfl | hq
  · exact laid_one (name := "math/bits.deBruijn32tab") (k := .u8) (xs := g0.2.2.2) (e := 5) (by kernel_rfl) rfl (by kernel_rfl) (by kernel_rfl) (by kernel_rfl) h List.mem_cons_self
  rcases List.mem_cons.1 hq with rfl | hq
  · exact laid_one (name := "math/bits.deBruijn64tab") (k := .u8) (xs := g1.2.2.2) (e := 5) (by kernel_rfl) rfl (by kernel_rfl) (by kernel_rfl) (by kernel_rfl) h (List.mem_cons_of_mem _ List.mem_cons_self)
  · cases hq
set_option maxRecDepth 100000 in
theorem topDrawnSeams_lifted (os : Os) (started : os.Started) (H : Type) (enc : TypeId × Value → H) :
    ReturnsInHanded {} Tryz.checked os 3 .any (fun w args => (Rows.topDrawnSeamsSpec.pre enc Tryz.prog Tryz.f3 [] false w args ∧ laidMetH Tryz.prog [("math/bits.deBruijn32tab", Rows.laid_math_bits_deBruijn32tab), ("math/bits.deBruijn64tab", Rows.laid_math_bits_deBruijn64tab)] w) ∧ sizedMet enc Tryz.prog Tryz.f3 (OpenSpec.ofChange Rows.topDrawnSeamsSpec) false w args)
      (Rows.topDrawnSeamsSpec.post enc Tryz.prog Tryz.f3 false true false false) := by
  refine returnsInHanded_of_change_and (C := Tryz.checked) (X := fun w _ => laidMetH Tryz.prog [("math/bits.deBruijn32tab", Rows.laid_math_bits_deBruijn32tab), ("math/bits.deBruijn64tab", Rows.laid_math_bits_deBruijn64tab)] w) (fun _ _ _ hh h => h.of_heap hh) own_knob started (by kernel_rfl) Tryz.func3
    (ChangeSpec.witness_shaped (enc := enc) (C := Tryz.checked) (os := os) (X := fun w _ => laidMetH Tryz.prog [("math/bits.deBruijn32tab", Rows.laid_math_bits_deBruijn32tab), ("math/bits.deBruijn64tab", Rows.laid_math_bits_deBruijn64tab)] w) false (World.laidAll Tryz.prog os [("math/bits.deBruijn32tab", Rows.laid_math_bits_deBruijn32tab), ("math/bits.deBruijn64tab", Rows.laid_math_bits_deBruijn64tab)]) #[.agg #[.int .i64 0, .slice none 0 0], .slice none 0 0, .agg #[.int .i64 0, .slice none 0 0], .slice none 0 0] 8 (World.laidAll_os _ _ _)
      (World.shaped_of_ZipB (by kernel_rfl) (by kernel_rfl)) (by kernel_rfl) (by kernel_rfl) (by kernel_rfl)
      (by rw [MakeChecks.laidMetH_plain _ _ _ (by kernel_rfl)]; exact laidMet_laidAll _ (by kernel_rfl) (by kernel_rfl))) ?_
  intro W base args ds gs before hval hW _ _ hL _
  refine law_callsL (ts := [beT, .slice (.int .i64), seT, .slice (.int .u8)]) (tables_laid hL) (fun ys hf => law3 (n := ys.1.1) (ps := ys.1.2.1) (z := ys.2.1) (P := ys.2.2.1.1) (l := ys.2.2.1.2.1) (u := ys.2.2.2.1) hf.2.2.2.1) (by kernel_rfl) (by kernel_rfl) rfl (fun ds h => ?_) (by kernel_rfl) Tryz.underlying4 hval hW
  match ds, h with
  | [_, _, _, _], _ => exact ⟨rfl, rfl, rfl⟩
theorem topDrawnSeams_named : Tryz.pinned.checked.prog.funcNamed Rows.topDrawnSeamsRow.func = some 3 := by kernel_rfl
theorem topDrawnSeams_facts : joinedFacts Tryz.pinned.checked.prog 3 Tryz.f3 Rows.topDrawnSeamsSpec Rows.topDrawnSeamsRow = true := by kernel_rfl
theorem topDrawnSeams_inst : Tryz.f3.isInstance Tryz.pinned.checked.prog Rows.topDrawnSeamsRow.origin Rows.topDrawnSeamsRow.targs := of_decide_eq_true (by kernel_rfl)
theorem topDrawnSeams_wrap : Tryz.f3.isWrapper Tryz.pinned.checked.prog Rows.topDrawnSeamsRow.wrapper Rows.topDrawnSeamsRow.mainSum := by
  unfold Func.isWrapper; first | (rw [if_pos (by decide +kernel)]; kernel_rfl) | (rw [if_neg (by decide +kernel)]; exact ⟨rfl, rfl⟩)
theorem topDrawnSeams_row : Rows.TopDrawnSeamsSaid :=
  OpenClaim.holds_of_wide 3 Tryz.f3 rfl rfl rfl rfl rfl rfl rfl ⟨rfl, rfl, rfl, rfl, rfl⟩ rfl rfl rfl rfl rfl topDrawnSeams_named Tryz.func3 topDrawnSeams_facts topDrawnSeams_inst topDrawnSeams_wrap
    (fun os started H enc _ => topDrawnSeams_lifted os started H enc)
theorem topDrawnSeams_holds : Rows.TopDrawnSeamsCardSaid :=
  Claim7.holds_tied_plain_at .later [] [.data, .data] true (true, "ea7e0e9e0562ab17aca962062e5e869f5595b8b56452b16fef6428251833b2e6") false topDrawnSeams_row (fun _ h => by cases h) (by kernel_rfl) (fun _ h => by cases h) topDrawnSeams_row_tie rfl ⟨rfl, rfl⟩ (by kernel_rfl) rfl
    (fun f fn hf hfn => by
      obtain rfl : f = 3 := Option.some.inj ((show Tryz.prog.funcNamed "oxgall/oxgalltop.TopDrawnSeams" = some 3 by kernel_rfl).symm.trans hf) |>.symm
      obtain rfl : fn = Tryz.f3 := (Option.some.inj (Tryz.func3.symm.trans hfn)).symm
      exact ⟨by kernel_rfl, fun j t ht => by
        rw [Tryz.params3] at ht
        have hm : t ∈ [24, 25, 28, 29] := by simpa using Array.mem_of_getElem? ht
        have hall : ([24, 25, 28, 29].all fun u => !Tryz.prog.wantsStandIn u) = true := by kernel_rfl
        exact (show Tryz.prog.wantsStandIn t = false by simpa using List.all_eq_true.1 hall t hm)⟩)
    (by kernel_rfl)
#print axioms topDrawnSeams_holds
end Go.Proofs.YtjfafggkkjgpeaaGreatDoor
