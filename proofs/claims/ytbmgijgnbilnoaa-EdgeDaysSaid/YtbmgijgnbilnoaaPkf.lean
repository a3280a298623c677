/- A statement of the seat, proved: see the last theorem. Texts of the proof, part 6 of 6.
  Moments, Before, Curve.
  Kind, Count.
  The engine, part ZP: sequences, but for those that begin with an 'if'.
  The definitions: Played.
  The definitions: Planned, Fetches, Kept, Bench.
  The definitions: CheckMoments.
  Day, example, great, Works.
  The laws EdgeDays, EdgeKnown: walks.
  The engine, part ZT: from a function's contract to the row of a law: arguments that are plain data.
  From contracts to the rows: what all statements of the seat share. -/
import Derived.Test.YtbmgijgnbilnoaaPke
import Derived.ProofKit
import Derived.OpenShut
import Derived.Carry
import Derived.JoinedOf
import Derived.Test.YtbmgijgnbilnoaaRows
namespace Go.Proofs.Ytbmgijgnbilnoaa
open Go Go.RowKit Ox
attribute [local irreducible] JC JL JW

def momentsD (r : Int) (xs : List Int) : List Int := if dayErr r xs = 0 then momentsS r (lasts xs xs.length) else []
theorem fn34 (r : Int) (xs : List Int) : Ox.Fn Go.Proofs.Try.prog 34 (.acons (vD r xs) .anil) (· = .tup (.acons (vL (momentsD r xs)) (.acons (vI (dayErr r xs)) .anil))) := by
  refine Ox.Fn.intro xok Go.Proofs.Try.func34 rfl Go.Proofs.Try.call34 (Nat.le_of_ble_eq_true rfl) (fun E M0 up => ?_)
  have hon := openE_nil r xs
  by_cases ho : dayErr r xs = 0
  · obtain ⟨hr, hl, hx⟩ := dayErr_zero.1 ho
    rw [momentsD, if_pos ho]
    (repeat (first   | refine JL.Q1 (xok rfl rfl rfl rfl) rfl rfl ?_   | refine JL.G1 (xok rfl rfl rfl rfl) rfl rfl rfl ?_   | refine JL.M1 (xok rfl rfl rfl rfl) rfl rfl ?_   | refine JL.M0 (xok rfl rfl rfl rfl) rfl ?_   | refine JL.Q0 (xok rfl rfl rfl rfl) rfl ?_   | refine JL.nilF ?_   | refine JL.nil ?_   | refine JC.scope ?_   | refine QX.tn ?_   | refine JC.seq ?_   | refine JC.region ?_   | refine JC.Draw (xok rfl rfl rfl rfl) ?_   | refine JC.block ?_   | refine JC.skip ?_   | refine JC.label ?_   | refine JC.exit ?_   | refine JC.ret ?_   | refine QX.te ?_ | refine QX.tr ?_ | refine QX.bn ?_ | refine QX.be ?_ | refine QX.bx rfl ?_ | refine QX.br ?_ | refine QX.sn ?_ | refine QX.se ?_ | refine QX.sr ?_ | refine QX.ee ?_ | refine QX.eo rfl ?_ | refine QX.er ?_ | refine QX.en ?_ | refine JL.S1 rfl (fn46ok r xs List.nil (hon.trans ho)) rfl trivial rfl ?_ | refine JL.C1 rfl (fn46ok r xs List.nil (hon.trans ho)) rfl (fun r hr => ?_); subst hr | refine JL.S1g rfl rfl (fun hgd => fn46ok r xs List.nil (hon.trans ho)) rfl trivial rfl ?_))
    refine JC.cond rfl (fun hc => absurd hc (by decide)) (fun _ => ?_)
    (repeat (first   | refine JL.Q1 (xok rfl rfl rfl rfl) rfl rfl ?_   | refine JL.G1 (xok rfl rfl rfl rfl) rfl rfl rfl ?_   | refine JL.M1 (xok rfl rfl rfl rfl) rfl rfl ?_   | refine JL.M0 (xok rfl rfl rfl rfl) rfl ?_   | refine JL.Q0 (xok rfl rfl rfl rfl) rfl ?_   | refine JL.nilF ?_   | refine JL.nil ?_   | refine JC.scope ?_   | refine QX.tn ?_   | refine JC.seq ?_   | refine JC.region ?_   | refine JC.Draw (xok rfl rfl rfl rfl) ?_   | refine JC.block ?_   | refine JC.skip ?_   | refine JC.label ?_   | refine JC.exit ?_   | refine JC.ret ?_   | refine QX.te ?_ | refine QX.tr ?_ | refine QX.bn ?_ | refine QX.be ?_ | refine QX.bx rfl ?_ | refine QX.br ?_ | refine QX.sn ?_ | refine QX.se ?_ | refine QX.sr ?_ | refine QX.ee ?_ | refine QX.eo rfl ?_ | refine QX.er ?_ | refine QX.en ?_ | refine JL.S1 rfl (fn62 r xs (lasts xs xs.length) (nexts xs xs.length) hr hl.2 (lasts_length xs xs.length)) rfl trivial rfl ?_ | refine JL.C1 rfl (fn62 r xs (lasts xs xs.length) (nexts xs xs.length) hr hl.2 (lasts_length xs xs.length)) rfl (fun r hr => ?_); subst hr | refine JL.S1g rfl rfl (fun hgd => fn62 r xs (lasts xs xs.length) (nexts xs xs.length) hr hl.2 (lasts_length xs xs.length)) rfl trivial rfl ?_))
    refine ⟨.inl rfl, _, _, rfl, trivial, ?_⟩
    rw [ho]
  · have her := fn46er r xs List.nil (by rw [hon]; exact ho)
    (repeat (first   | refine JL.Q1 (xok rfl rfl rfl rfl) rfl rfl ?_   | refine JL.G1 (xok rfl rfl rfl rfl) rfl rfl rfl ?_   | refine JL.M1 (xok rfl rfl rfl rfl) rfl rfl ?_   | refine JL.M0 (xok rfl rfl rfl rfl) rfl ?_   | refine JL.Q0 (xok rfl rfl rfl rfl) rfl ?_   | refine JL.nilF ?_   | refine JL.nil ?_   | refine JC.scope ?_   | refine QX.tn ?_   | refine JC.seq ?_   | refine JC.region ?_   | refine JC.Draw (xok rfl rfl rfl rfl) ?_   | refine JC.block ?_   | refine JC.skip ?_   | refine JC.label ?_   | refine JC.exit ?_   | refine JC.ret ?_   | refine QX.te ?_ | refine QX.tr ?_ | refine QX.bn ?_ | refine QX.be ?_ | refine QX.bx rfl ?_ | refine QX.br ?_ | refine QX.sn ?_ | refine QX.se ?_ | refine QX.sr ?_ | refine QX.ee ?_ | refine QX.eo rfl ?_ | refine QX.er ?_ | refine QX.en ?_ | refine JL.S1 rfl (her) rfl trivial rfl ?_ | refine JL.C1 rfl (her) rfl (fun r hr => ?_); subst hr | refine JL.S1g rfl rfl (fun hgd => her) rfl trivial rfl ?_))
    refine JC.cond rfl (fun hc => ?_) (fun hc => ?_)
    · (repeat (first   | refine JL.Q1 (xok rfl rfl rfl rfl) rfl rfl ?_   | refine JL.G1 (xok rfl rfl rfl rfl) rfl rfl rfl ?_   | refine JL.M1 (xok rfl rfl rfl rfl) rfl rfl ?_   | refine JL.M0 (xok rfl rfl rfl rfl) rfl ?_   | refine JL.Q0 (xok rfl rfl rfl rfl) rfl ?_   | refine JL.nilF ?_   | refine JL.nil ?_   | refine JC.scope ?_   | refine QX.tn ?_   | refine JC.seq ?_   | refine JC.region ?_   | refine JC.Draw (xok rfl rfl rfl rfl) ?_   | refine JC.block ?_   | refine JC.skip ?_   | refine JC.label ?_   | refine JC.exit ?_   | refine JC.ret ?_   | refine QX.te ?_ | refine QX.tr ?_ | refine QX.bn ?_ | refine QX.be ?_ | refine QX.bx rfl ?_ | refine QX.br ?_ | refine QX.sn ?_ | refine QX.se ?_ | refine QX.sr ?_ | refine QX.ee ?_ | refine QX.eo rfl ?_ | refine QX.er ?_ | refine QX.en ?_))
      refine ⟨.inl rfl, _, _, rfl, trivial, ?_⟩
      rw [momentsD, if_neg ho, hon]
    · (simp only [↓bif_or, ↓bif_and, ↓Bool.or_eq_true, ↓Bool.or_eq_false_iff, ↓Bool.and_eq_true, ↓Bool.and_eq_false_iff, ↓Bool.not_eq_true', ↓Bool.not_eq_false', ↓decide_eq_true_eq, ↓decide_eq_false_iff_not, ↓beq_iff_eq, ↓bne_iff_ne, ↓bne_eq_false_iff_eq, ↓ne_eq, ↓beq_eq_false_iff_ne, ↓Bool.not_eq_true] at hc; try simp only [Ty.dflt, Int.toNat_natCast] at hc)
      exact absurd (hon.symm.trans hc) ho

def curveV (xs : List Int) (m : Nat) : Int := ((playS (m + 1) xs (planS (m + 1) xs)).countP (fun x => !x.2.1) : Nat)
def curveS (r : Int) (xs : List Int) : List Int := if dayErr r xs = 0 then (List.range 4).map (curveV xs) else []
theorem fn29 (r : Int) (xs : List Int) : Ox.Fn Go.Proofs.Try.prog 29 (.acons (vD r xs) .anil) (· = .tup (.acons (vL (curveS r xs)) (.acons (vI (dayErr r xs)) .anil))) := by
  refine Ox.Fn.intro xok Go.Proofs.Try.func29 rfl Go.Proofs.Try.call29 (Nat.le_of_ble_eq_true rfl) (fun E M0 up => ?_)
  (repeat (first   | refine JL.Q1 (xok rfl rfl rfl rfl) rfl rfl ?_   | refine JL.G1 (xok rfl rfl rfl rfl) rfl rfl rfl ?_   | refine JL.M1 (xok rfl rfl rfl rfl) rfl rfl ?_   | refine JL.M0 (xok rfl rfl rfl rfl) rfl ?_   | refine JL.Q0 (xok rfl rfl rfl rfl) rfl ?_   | refine JL.nilF ?_   | refine JL.nil ?_   | refine JC.scope ?_   | refine QX.tn ?_   | refine JC.seq ?_   | refine JC.region ?_   | refine JC.Draw (xok rfl rfl rfl rfl) ?_   | refine JC.block ?_   | refine JC.skip ?_   | refine JC.label ?_   | refine JC.exit ?_   | refine JC.ret ?_   | refine QX.te ?_ | refine QX.tr ?_ | refine QX.bn ?_ | refine QX.be ?_ | refine QX.bx rfl ?_ | refine QX.br ?_ | refine QX.sn ?_ | refine QX.se ?_ | refine QX.sr ?_ | refine QX.ee ?_ | refine QX.eo rfl ?_ | refine QX.er ?_ | refine QX.en ?_ | refine JL.S1 rfl (fn19 r xs) rfl trivial rfl ?_ | refine JL.C1 rfl (fn19 r xs) rfl (fun r hr => ?_); subst hr | refine JL.S1g rfl rfl (fun hgd => fn19 r xs) rfl trivial rfl ?_))
  refine JC.cond rfl (fun hc => ?_) (fun hc => ?_)
  · (simp only [↓bif_or, ↓bif_and, ↓Bool.or_eq_true, ↓Bool.or_eq_false_iff, ↓Bool.and_eq_true, ↓Bool.and_eq_false_iff, ↓Bool.not_eq_true', ↓Bool.not_eq_false', ↓decide_eq_true_eq, ↓decide_eq_false_iff_not, ↓beq_iff_eq, ↓bne_iff_ne, ↓bne_eq_false_iff_eq, ↓ne_eq, ↓beq_eq_false_iff_ne, ↓Bool.not_eq_true] at hc; try simp only [Ty.dflt, Int.toNat_natCast] at hc)
    (repeat (first   | refine JL.Q1 (xok rfl rfl rfl rfl) rfl rfl ?_   | refine JL.G1 (xok rfl rfl rfl rfl) rfl rfl rfl ?_   | refine JL.M1 (xok rfl rfl rfl rfl) rfl rfl ?_   | refine JL.M0 (xok rfl rfl rfl rfl) rfl ?_   | refine JL.Q0 (xok rfl rfl rfl rfl) rfl ?_   | refine JL.nilF ?_   | refine JL.nil ?_   | refine JC.scope ?_   | refine QX.tn ?_   | refine JC.seq ?_   | refine JC.region ?_   | refine JC.Draw (xok rfl rfl rfl rfl) ?_   | refine JC.block ?_   | refine JC.skip ?_   | refine JC.label ?_   | refine JC.exit ?_   | refine JC.ret ?_   | refine QX.te ?_ | refine QX.tr ?_ | refine QX.bn ?_ | refine QX.be ?_ | refine QX.bx rfl ?_ | refine QX.br ?_ | refine QX.sn ?_ | refine QX.se ?_ | refine QX.sr ?_ | refine QX.ee ?_ | refine QX.eo rfl ?_ | refine QX.er ?_ | refine QX.en ?_))
    refine ⟨.inl rfl, _, _, rfl, trivial, ?_⟩
    rw [curveS, if_neg hc]
  · (simp only [↓bif_or, ↓bif_and, ↓Bool.or_eq_true, ↓Bool.or_eq_false_iff, ↓Bool.and_eq_true, ↓Bool.and_eq_false_iff, ↓Bool.not_eq_true', ↓Bool.not_eq_false', ↓decide_eq_true_eq, ↓decide_eq_false_iff_not, ↓beq_iff_eq, ↓bne_iff_ne, ↓bne_eq_false_iff_eq, ↓ne_eq, ↓beq_eq_false_iff_ne, ↓Bool.not_eq_true] at hc; try simp only [Ty.dflt, Int.toNat_natCast] at hc)
    obtain ⟨hr, hl, hx⟩ := dayErr_zero.1 hc
    (repeat (first   | refine JL.Q1 (xok rfl rfl rfl rfl) rfl rfl ?_   | refine JL.G1 (xok rfl rfl rfl rfl) rfl rfl rfl ?_   | refine JL.M1 (xok rfl rfl rfl rfl) rfl rfl ?_   | refine JL.M0 (xok rfl rfl rfl rfl) rfl ?_   | refine JL.Q0 (xok rfl rfl rfl rfl) rfl ?_   | refine JL.nilF ?_   | refine JL.nil ?_   | refine JC.scope ?_   | refine QX.tn ?_   | refine JC.seq ?_   | refine JC.region ?_   | refine JC.Draw (xok rfl rfl rfl rfl) ?_   | refine JC.block ?_   | refine JC.skip ?_   | refine JC.label ?_   | refine JC.exit ?_   | refine JC.ret ?_   | refine QX.te ?_ | refine QX.tr ?_ | refine QX.bn ?_ | refine QX.be ?_ | refine QX.bx rfl ?_ | refine QX.br ?_ | refine QX.sn ?_ | refine QX.se ?_ | refine QX.sr ?_ | refine QX.ee ?_ | refine QX.eo rfl ?_ | refine QX.er ?_ | refine QX.en ?_))
    refine JC.ghost 5 3 (.int .i64) rfl ?_
    refine JC.loop (fun m : Nat => ⟨[(1, .lf (.optr 0 [])), (5, .lf (.osl 1)), (13, vI (m : Int))], [(0, .cell dayT (vD r xs)), (1, .sl 3 (.int .i64) ((List.range m).map (curveV xs)))], 2⟩)
      (fun m => m ≤ 4) (fun m => 4 - m) 0 (by simp) (by (exact JW.Auto rfl)) fun m hm => ?_
    have hlm : ((List.range m).map (curveV xs)).length = m := by simp
    (repeat (first   | refine JL.Q1 (xok rfl rfl rfl rfl) rfl rfl ?_   | refine JL.G1 (xok rfl rfl rfl rfl) rfl rfl rfl ?_   | refine JL.M1 (xok rfl rfl rfl rfl) rfl rfl ?_   | refine JL.M0 (xok rfl rfl rfl rfl) rfl ?_   | refine JL.Q0 (xok rfl rfl rfl rfl) rfl ?_   | refine JL.nilF ?_   | refine JL.nil ?_   | refine JC.scope ?_   | refine QX.tn ?_   | refine JC.seq ?_   | refine JC.region ?_   | refine JC.Draw (xok rfl rfl rfl rfl) ?_   | refine JC.block ?_   | refine JC.skip ?_   | refine JC.label ?_   | refine JC.exit ?_   | refine JC.ret ?_   | refine QX.te ?_ | refine QX.tr ?_ | refine QX.bn ?_ | refine QX.be ?_ | refine QX.bx rfl ?_ | refine QX.br ?_ | refine QX.sn ?_ | refine QX.se ?_ | refine QX.sr ?_ | refine QX.ee ?_ | refine QX.eo rfl ?_ | refine QX.er ?_ | refine QX.en ?_))
    refine JC.cond rfl (fun hd => ?_) (fun hd => ?_)
    · (simp only [↓bif_or, ↓bif_and, ↓Bool.or_eq_true, ↓Bool.or_eq_false_iff, ↓Bool.and_eq_true, ↓Bool.and_eq_false_iff, ↓Bool.not_eq_true', ↓Bool.not_eq_false', ↓decide_eq_true_eq, ↓decide_eq_false_iff_not, ↓beq_iff_eq, ↓bne_iff_ne, ↓bne_eq_false_iff_eq, ↓ne_eq, ↓beq_eq_false_iff_ne, ↓Bool.not_eq_true] at hd; try simp only [Ty.dflt, Int.toNat_natCast] at hd)
      (repeat (first   | refine JL.Q1 (xok rfl rfl rfl rfl) rfl rfl ?_   | refine JL.G1 (xok rfl rfl rfl rfl) rfl rfl rfl ?_   | refine JL.M1 (xok rfl rfl rfl rfl) rfl rfl ?_   | refine JL.M0 (xok rfl rfl rfl rfl) rfl ?_   | refine JL.Q0 (xok rfl rfl rfl rfl) rfl ?_   | refine JL.nilF ?_   | refine JL.nil ?_   | refine JC.scope ?_   | refine QX.tn ?_   | refine JC.seq ?_   | refine JC.region ?_   | refine JC.block ?_   | refine JC.skip ?_   | refine JC.label ?_   | refine JC.exit ?_   | refine JC.ret ?_   | refine QX.te ?_ | refine QX.tr ?_ | refine QX.bn ?_ | refine QX.be ?_ | refine QX.bx rfl ?_ | refine QX.br ?_ | refine QX.sn ?_ | refine QX.se ?_ | refine QX.sr ?_ | refine QX.ee ?_ | refine QX.eo rfl ?_ | refine QX.er ?_ | refine QX.en ?_ | refine JL.S1 rfl (fn56 ((m : Int) + 1) xs hx hl.2) rfl trivial rfl ?_ | refine JL.C1 rfl (fn56 ((m : Int) + 1) xs hx hl.2) rfl (fun r hr => ?_); subst hr | refine JL.S1g rfl rfl (fun hgd => fn56 ((m : Int) + 1) xs hx hl.2) rfl trivial rfl ?_))
      have h54 := fn54 ((m : Int) + 1) xs (lasts xs xs.length) (nexts xs xs.length) (by omega) hx (by omega)
      have h55 := fn55 ((m : Int) + 1) xs (lasts xs xs.length) (nexts xs xs.length) (planS ((m : Int) + 1) xs) hx (by omega) (planS_len _ xs)
      refine JC.drawE (xok rfl rfl rfl rfl) (Go.Proofs.Try.f29.body.getD .skip) ⟨[(1, .lf (.optr 0 [])), (5, .lf (.osl 1)), (13, vI (m : Int))], [(0, .cell dayT (vD r xs)), (1, .sl 3 (.int .i64) ((List.range (m + 1)).map (curveV xs)))], 2⟩ rfl 12 rfl ?_ (fun _ => rfl) ?_
      · (refine JF.First 0 (xok rfl rfl rfl rfl) rfl rfl ?_; refine JF.First 1 (xok rfl rfl rfl rfl) rfl rfl ?_; refine JF.First 2 (xok rfl rfl rfl rfl) rfl rfl ?_; refine JF.First 3 (xok rfl rfl rfl rfl) rfl rfl ?_; refine JF.First 4 (xok rfl rfl rfl rfl) rfl rfl ?_; refine JF.First 5 (xok rfl rfl rfl rfl) rfl rfl ?_; refine JF.Branch 6 [] (xok rfl rfl rfl rfl) ?_ ?_; (focus (repeat (first | exact StF.nil | refine StF.One rfl rfl rfl ?_))); refine BrF.one rfl rfl ?_ BrF.nil; (· (first | refine JL.Q1 (xok rfl rfl rfl rfl) rfl rfl ?_ | refine JL.G1 (xok rfl rfl rfl rfl) rfl rfl rfl ?_ | refine JL.M1 (xok rfl rfl rfl rfl) rfl rfl ?_ | refine JL.M0 (xok rfl rfl rfl rfl) rfl ?_ | refine JL.Q0 (xok rfl rfl rfl rfl) rfl ?_ | refine JL.S1 rfl (h54) rfl trivial rfl ?_ | refine JL.C1 rfl (h54) rfl (fun r hr => ?_); subst hr | refine JL.S1g rfl rfl (fun hgd => h54) rfl trivial rfl ?_ | refine JL.S1 rfl (h55) rfl trivial rfl ?_ | refine JL.C1 rfl (h55) rfl (fun r hr => ?_); subst hr | refine JL.S1g rfl rfl (fun hgd => h55) rfl trivial rfl ?_ | refine JL.S1 rfl (fn51 (playS ((m : Int) + 1) xs (planS ((m : Int) + 1) xs))) rfl trivial rfl ?_ | refine JL.C1 rfl (fn51 (playS ((m : Int) + 1) xs (planS ((m : Int) + 1) xs))) rfl (fun r hr => ?_); subst hr | refine JL.S1g rfl rfl (fun hgd => fn51 (playS ((m : Int) + 1) xs (planS ((m : Int) + 1) xs))) rfl trivial rfl ?_); refine JL.finN ?_; refine JF.Branch 7 [] (xok rfl rfl rfl rfl) ?_ ?_; (focus (repeat (first | exact StF.nil | refine StF.One rfl rfl rfl ?_))); refine BrF.one rfl rfl ?_ BrF.nil; (· (first | refine JL.Q1 (xok rfl rfl rfl rfl) rfl rfl ?_ | refine JL.G1 (xok rfl rfl rfl rfl) rfl rfl rfl ?_ | refine JL.M1 (xok rfl rfl rfl rfl) rfl rfl ?_ | refine JL.M0 (xok rfl rfl rfl rfl) rfl ?_ | refine JL.Q0 (xok rfl rfl rfl rfl) rfl ?_ | refine JL.S1 rfl (h54) rfl trivial rfl ?_ | refine JL.C1 rfl (h54) rfl (fun r hr => ?_); subst hr | refine JL.S1g rfl rfl (fun hgd => h54) rfl trivial rfl ?_ | refine JL.S1 rfl (h55) rfl trivial rfl ?_ | refine JL.C1 rfl (h55) rfl (fun r hr => ?_); subst hr | refine JL.S1g rfl rfl (fun hgd => h55) rfl trivial rfl ?_ | refine JL.S1 rfl (fn51 (playS ((m : Int) + 1) xs (planS ((m : Int) + 1) xs))) rfl trivial rfl ?_ | refine JL.C1 rfl (fn51 (playS ((m : Int) + 1) xs (planS ((m : Int) + 1) xs))) rfl (fun r hr => ?_); subst hr | refine JL.S1g rfl rfl (fun hgd => fn51 (playS ((m : Int) + 1) xs (planS ((m : Int) + 1) xs))) rfl trivial rfl ?_); refine JL.finN ?_; refine JF.Branch 8 [] (xok rfl rfl rfl rfl) ?_ ?_; (focus (repeat (first | exact StF.nil | refine StF.One rfl rfl rfl ?_))); refine BrF.one rfl rfl ?_ BrF.nil; (· (first | refine JL.Q1 (xok rfl rfl rfl rfl) rfl rfl ?_ | refine JL.G1 (xok rfl rfl rfl rfl) rfl rfl rfl ?_ | refine JL.M1 (xok rfl rfl rfl rfl) rfl rfl ?_ | refine JL.M0 (xok rfl rfl rfl rfl) rfl ?_ | refine JL.Q0 (xok rfl rfl rfl rfl) rfl ?_ | refine JL.S1 rfl (h54) rfl trivial rfl ?_ | refine JL.C1 rfl (h54) rfl (fun r hr => ?_); subst hr | refine JL.S1g rfl rfl (fun hgd => h54) rfl trivial rfl ?_ | refine JL.S1 rfl (h55) rfl trivial rfl ?_ | refine JL.C1 rfl (h55) rfl (fun r hr => ?_); subst hr | refine JL.S1g rfl rfl (fun hgd => h55) rfl trivial rfl ?_ | refine JL.S1 rfl (fn51 (playS ((m : Int) + 1) xs (planS ((m : Int) + 1) xs))) rfl trivial rfl ?_ | refine JL.C1 rfl (fn51 (playS ((m : Int) + 1) xs (planS ((m : Int) + 1) xs))) rfl (fun r hr => ?_); subst hr | refine JL.S1g rfl rfl (fun hgd => fn51 (playS ((m : Int) + 1) xs (planS ((m : Int) + 1) xs))) rfl trivial rfl ?_); refine JL.finN ?_; refine JF.Branch 9 [] (xok rfl rfl rfl rfl) ?_ ?_; (focus (repeat (first | exact StF.nil | refine StF.One rfl rfl rfl ?_))); refine BrF.one rfl rfl ?_ BrF.nil; (· (first | refine JL.Q1 (xok rfl rfl rfl rfl) rfl rfl ?_ | refine JL.G1 (xok rfl rfl rfl rfl) rfl rfl rfl ?_ | refine JL.M1 (xok rfl rfl rfl rfl) rfl rfl ?_ | refine JL.M0 (xok rfl rfl rfl rfl) rfl ?_ | refine JL.Q0 (xok rfl rfl rfl rfl) rfl ?_ | refine JL.S1 rfl (h54) rfl trivial rfl ?_ | refine JL.C1 rfl (h54) rfl (fun r hr => ?_); subst hr | refine JL.S1g rfl rfl (fun hgd => h54) rfl trivial rfl ?_ | refine JL.S1 rfl (h55) rfl trivial rfl ?_ | refine JL.C1 rfl (h55) rfl (fun r hr => ?_); subst hr | refine JL.S1g rfl rfl (fun hgd => h55) rfl trivial rfl ?_ | refine JL.S1 rfl (fn51 (playS ((m : Int) + 1) xs (planS ((m : Int) + 1) xs))) rfl trivial rfl ?_ | refine JL.C1 rfl (fn51 (playS ((m : Int) + 1) xs (planS ((m : Int) + 1) xs))) rfl (fun r hr => ?_); subst hr | refine JL.S1g rfl rfl (fun hgd => fn51 (playS ((m : Int) + 1) xs (planS ((m : Int) + 1) xs))) rfl trivial rfl ?_); refine JL.finN ?_; refine JF.Branch 10 [] (xok rfl rfl rfl rfl) ?_ ?_; (focus (repeat (first | exact StF.nil | refine StF.One rfl rfl rfl ?_))); refine BrF.one rfl rfl ?_ BrF.nil; (· (first | refine JL.Q1 (xok rfl rfl rfl rfl) rfl rfl ?_ | refine JL.G1 (xok rfl rfl rfl rfl) rfl rfl rfl ?_ | refine JL.M1 (xok rfl rfl rfl rfl) rfl rfl ?_ | refine JL.M0 (xok rfl rfl rfl rfl) rfl ?_ | refine JL.Q0 (xok rfl rfl rfl rfl) rfl ?_ | refine JL.S1 rfl (h54) rfl trivial rfl ?_ | refine JL.C1 rfl (h54) rfl (fun r hr => ?_); subst hr | refine JL.S1g rfl rfl (fun hgd => h54) rfl trivial rfl ?_ | refine JL.S1 rfl (h55) rfl trivial rfl ?_ | refine JL.C1 rfl (h55) rfl (fun r hr => ?_); subst hr | refine JL.S1g rfl rfl (fun hgd => h55) rfl trivial rfl ?_ | refine JL.S1 rfl (fn51 (playS ((m : Int) + 1) xs (planS ((m : Int) + 1) xs))) rfl trivial rfl ?_ | refine JL.C1 rfl (fn51 (playS ((m : Int) + 1) xs (planS ((m : Int) + 1) xs))) rfl (fun r hr => ?_); subst hr | refine JL.S1g rfl rfl (fun hgd => fn51 (playS ((m : Int) + 1) xs (planS ((m : Int) + 1) xs))) rfl trivial rfl ?_); refine JL.finN ?_; refine JF.First 11 (xok rfl rfl rfl rfl) rfl rfl ?_; refine JF.Done (xok rfl rfl rfl rfl) ?_ ?_; (focus (repeat (first | exact StF.nil | refine StF.One rfl rfl rfl ?_))); ((refine JW.auto rfl ?_ ?_ ?_ ?_ rfl <;> (repeat' (first | exact trivial | exact rfl | refine And.intro ?_ ?_ | exact Nat.le_of_ble_eq_true rfl | refine HO.bdF ?_ | refine HO.bdP ?_ | (refine congrArg (fun z : Int => some (AV.val (.int .i64) z)) ?_; push_cast; omega) | (refine congrArg (fun z : List Int => some (HO.sl 3 (.int .i64) z)) ?_; show List.take m ((List.range m).map (curveV xs)) ++ [curveV xs m] = (List.range (m + 1)).map (curveV xs); rw [List.take_of_length_le (by simp), List.range_succ]; simp)))))))))))
      · (repeat (first   | refine JL.Q1 (xok rfl rfl rfl rfl) rfl rfl ?_   | refine JL.G1 (xok rfl rfl rfl rfl) rfl rfl rfl ?_   | refine JL.M1 (xok rfl rfl rfl rfl) rfl rfl ?_   | refine JL.M0 (xok rfl rfl rfl rfl) rfl ?_   | refine JL.Q0 (xok rfl rfl rfl rfl) rfl ?_   | refine JL.nilF ?_   | refine JL.nil ?_   | refine JC.scope ?_   | refine QX.tn ?_   | refine JC.seq ?_   | refine JC.region ?_   | refine JC.Draw (xok rfl rfl rfl rfl) ?_   | refine JC.block ?_   | refine JC.skip ?_   | refine JC.label ?_   | refine JC.exit ?_   | refine JC.ret ?_   | refine QX.te ?_ | refine QX.tr ?_ | refine QX.bn ?_ | refine QX.be ?_ | refine QX.bx rfl ?_ | refine QX.br ?_ | refine QX.sn ?_ | refine QX.se ?_ | refine QX.sr ?_ | refine QX.ee ?_ | refine QX.eo rfl ?_ | refine QX.er ?_ | refine QX.en ?_))
        exact ⟨m + 1, by (exact JW.Auto rfl), by omega, by omega⟩
    · (simp only [↓bif_or, ↓bif_and, ↓Bool.or_eq_true, ↓Bool.or_eq_false_iff, ↓Bool.and_eq_true, ↓Bool.and_eq_false_iff, ↓Bool.not_eq_true', ↓Bool.not_eq_false', ↓decide_eq_true_eq, ↓decide_eq_false_iff_not, ↓beq_iff_eq, ↓bne_iff_ne, ↓bne_eq_false_iff_eq, ↓ne_eq, ↓beq_eq_false_iff_ne, ↓Bool.not_eq_true] at hd; try simp only [Ty.dflt, Int.toNat_natCast] at hd)
      obtain rfl : m = 4 := by omega
      (repeat (first   | refine JL.Q1 (xok rfl rfl rfl rfl) rfl rfl ?_   | refine JL.G1 (xok rfl rfl rfl rfl) rfl rfl rfl ?_   | refine JL.M1 (xok rfl rfl rfl rfl) rfl rfl ?_   | refine JL.M0 (xok rfl rfl rfl rfl) rfl ?_   | refine JL.Q0 (xok rfl rfl rfl rfl) rfl ?_   | refine JL.nilF ?_   | refine JL.nil ?_   | refine JC.scope ?_   | refine QX.tn ?_   | refine JC.seq ?_   | refine JC.region ?_   | refine JC.Draw (xok rfl rfl rfl rfl) ?_   | refine JC.block ?_   | refine JC.skip ?_   | refine JC.label ?_   | refine JC.exit ?_   | refine JC.ret ?_   | refine QX.te ?_ | refine QX.tr ?_ | refine QX.bn ?_ | refine QX.be ?_ | refine QX.bx rfl ?_ | refine QX.br ?_ | refine QX.sn ?_ | refine QX.se ?_ | refine QX.sr ?_ | refine QX.ee ?_ | refine QX.eo rfl ?_ | refine QX.er ?_ | refine QX.en ?_))
      refine ⟨.inl rfl, _, _, rfl, trivial, ?_⟩
      rw [hc, curveS, if_pos hc]

theorem fn17 (r : Int) (xs : List Int) (n : Int) : Ox.Fn Go.Proofs.Try.prog 17 (.acons (vD r xs) (.acons (vI n) .anil)) (· = vT2 (beforeS r xs n).1 (beforeS r xs n).2) := by
  refine Ox.Fn.intro xok Go.Proofs.Try.func17 rfl Go.Proofs.Try.call17 (Nat.le_of_ble_eq_true rfl) (fun E M0 up => ?_)
  by_cases ho : openE r xs [n] = 0
  · have hcall := fn46ok r xs (n :: List.nil) ho
    obtain ⟨hv, hbk⟩ := openE_valid ho
    have hb := hbk n (by simp)
    have hll := lasts_length xs xs.length
    have hlt : n.toNat < xs.length := by omega
    have hlg : (lasts xs xs.length).getD n.toNat 0 = lastB xs (xs.getD n.toNat 0) n.toNat := by
      rw [lasts, List.getD_eq_getElem?_getD, List.getElem?_eq_getElem (by simpa using hlt)]
      simp
    (repeat (first   | refine JL.Q1 (xok rfl rfl rfl rfl) rfl rfl ?_   | refine JL.G1 (xok rfl rfl rfl rfl) rfl rfl rfl ?_   | refine JL.M1 (xok rfl rfl rfl rfl) rfl rfl ?_   | refine JL.M0 (xok rfl rfl rfl rfl) rfl ?_   | refine JL.Q0 (xok rfl rfl rfl rfl) rfl ?_   | refine JL.nilF ?_   | refine JL.nil ?_   | refine JC.scope ?_   | refine QX.tn ?_   | refine JC.seq ?_   | refine JC.region ?_   | refine JC.Draw (xok rfl rfl rfl rfl) ?_   | refine JC.block ?_   | refine JC.skip ?_   | refine JC.label ?_   | refine JC.exit ?_   | refine JC.ret ?_   | refine QX.te ?_ | refine QX.tr ?_ | refine QX.bn ?_ | refine QX.be ?_ | refine QX.bx rfl ?_ | refine QX.br ?_ | refine QX.sn ?_ | refine QX.se ?_ | refine QX.sr ?_ | refine QX.ee ?_ | refine QX.eo rfl ?_ | refine QX.er ?_ | refine QX.en ?_))
    (refine JL.frz [1] [1,2,9,11] rfl (by (first | exact trivial | (try dsimp only [allP, inK, idxC, loC, lohiC, fullC, underG, List.append, List.nil_append, List.cons_append, Ty.den, Ty.dflt, Int.toNat_natCast, List.length_cons, List.length_nil] at *); first | omega | ((repeat' (first | exact trivial | assumption | refine And.intro ?_ ?_ | exact fun h => h | (intro hpk; first | exact hpk | simp only [wantB, hpk, Bool.not_false, Bool.not_true]))) <;> omega) | fail)) ?_)
    (repeat (first   | refine JL.Q1 (xok rfl rfl rfl rfl) rfl rfl ?_   | refine JL.G1 (xok rfl rfl rfl rfl) rfl rfl rfl ?_   | refine JL.M1 (xok rfl rfl rfl rfl) rfl rfl ?_   | refine JL.M0 (xok rfl rfl rfl rfl) rfl ?_   | refine JL.Q0 (xok rfl rfl rfl rfl) rfl ?_   | refine JL.nilF ?_   | refine JL.nil ?_   | refine JC.scope ?_   | refine QX.tn ?_   | refine JC.seq ?_   | refine JC.region ?_   | refine JC.Draw (xok rfl rfl rfl rfl) ?_   | refine JC.block ?_   | refine JC.skip ?_   | refine JC.label ?_   | refine JC.exit ?_   | refine JC.ret ?_   | refine QX.te ?_ | refine QX.tr ?_ | refine QX.bn ?_ | refine QX.be ?_ | refine QX.bx rfl ?_ | refine QX.br ?_ | refine QX.sn ?_ | refine QX.se ?_ | refine QX.sr ?_ | refine QX.ee ?_ | refine QX.eo rfl ?_ | refine QX.er ?_ | refine QX.en ?_ | refine JL.S1 rfl (hcall) rfl trivial rfl ?_ | refine JL.C1 rfl (hcall) rfl (fun r hr => ?_); subst hr | refine JL.S1g rfl rfl (fun hgd => hcall) rfl trivial rfl ?_))
    refine JC.cond rfl (fun hc => absurd hc (by decide)) (fun _ => ?_)
    (repeat (first   | refine JL.Q1 (xok rfl rfl rfl rfl) rfl rfl ?_   | refine JL.G1 (xok rfl rfl rfl rfl) rfl rfl rfl ?_   | refine JL.M1 (xok rfl rfl rfl rfl) rfl rfl ?_   | refine JL.M0 (xok rfl rfl rfl rfl) rfl ?_   | refine JL.Q0 (xok rfl rfl rfl rfl) rfl ?_   | refine JL.nilF ?_   | refine JL.nil ?_   | refine JC.scope ?_   | refine QX.tn ?_   | refine JC.seq ?_   | refine JC.region ?_   | refine JC.Draw (xok rfl rfl rfl rfl) ?_   | refine JC.block ?_   | refine JC.skip ?_   | refine JC.label ?_   | refine JC.exit ?_   | refine JC.ret ?_   | refine QX.te ?_ | refine QX.tr ?_ | refine QX.bn ?_ | refine QX.be ?_ | refine QX.bx rfl ?_ | refine QX.br ?_ | refine QX.sn ?_ | refine QX.se ?_ | refine QX.sr ?_ | refine QX.ee ?_ | refine QX.eo rfl ?_ | refine QX.er ?_ | refine QX.en ?_))
    refine JC.cond rfl (fun hc => ?_) (fun hc => ?_)
    · (simp only [↓bif_or, ↓bif_and, ↓Bool.or_eq_true, ↓Bool.or_eq_false_iff, ↓Bool.and_eq_true, ↓Bool.and_eq_false_iff, ↓Bool.not_eq_true', ↓Bool.not_eq_false', ↓decide_eq_true_eq, ↓decide_eq_false_iff_not, ↓beq_iff_eq, ↓bne_iff_ne, ↓bne_eq_false_iff_eq, ↓ne_eq, ↓beq_eq_false_iff_ne, ↓Bool.not_eq_true] at hc; try simp only [Ty.dflt, Int.toNat_natCast] at hc)
      (repeat (first   | refine JL.Q1 (xok rfl rfl rfl rfl) rfl rfl ?_   | refine JL.G1 (xok rfl rfl rfl rfl) rfl rfl rfl ?_   | refine JL.M1 (xok rfl rfl rfl rfl) rfl rfl ?_   | refine JL.M0 (xok rfl rfl rfl rfl) rfl ?_   | refine JL.Q0 (xok rfl rfl rfl rfl) rfl ?_   | refine JL.nilF ?_   | refine JL.nil ?_   | refine JC.scope ?_   | refine QX.tn ?_   | refine JC.seq ?_   | refine JC.region ?_   | refine JC.Draw (xok rfl rfl rfl rfl) ?_   | refine JC.block ?_   | refine JC.skip ?_   | refine JC.label ?_   | refine JC.exit ?_   | refine JC.ret ?_   | refine QX.te ?_ | refine QX.tr ?_ | refine QX.bn ?_ | refine QX.be ?_ | refine QX.bx rfl ?_ | refine QX.br ?_ | refine QX.sn ?_ | refine QX.se ?_ | refine QX.sr ?_ | refine QX.ee ?_ | refine QX.eo rfl ?_ | refine QX.er ?_ | refine QX.en ?_))
      refine ⟨.inl rfl, _, _, rfl, trivial, ?_⟩
      rw [beforeS, if_neg (by omega), if_pos (by omega), ← hlg, if_pos hc]
    · (simp only [↓bif_or, ↓bif_and, ↓Bool.or_eq_true, ↓Bool.or_eq_false_iff, ↓Bool.and_eq_true, ↓Bool.and_eq_false_iff, ↓Bool.not_eq_true', ↓Bool.not_eq_false', ↓decide_eq_true_eq, ↓decide_eq_false_iff_not, ↓beq_iff_eq, ↓bne_iff_ne, ↓bne_eq_false_iff_eq, ↓ne_eq, ↓beq_eq_false_iff_ne, ↓Bool.not_eq_true] at hc; try simp only [Ty.dflt, Int.toNat_natCast] at hc)
      (repeat (first   | refine JL.Q1 (xok rfl rfl rfl rfl) rfl rfl ?_   | refine JL.G1 (xok rfl rfl rfl rfl) rfl rfl rfl ?_   | refine JL.M1 (xok rfl rfl rfl rfl) rfl rfl ?_   | refine JL.M0 (xok rfl rfl rfl rfl) rfl ?_   | refine JL.Q0 (xok rfl rfl rfl rfl) rfl ?_   | refine JL.nilF ?_   | refine JL.nil ?_   | refine JC.scope ?_   | refine QX.tn ?_   | refine JC.seq ?_   | refine JC.region ?_   | refine JC.Draw (xok rfl rfl rfl rfl) ?_   | refine JC.block ?_   | refine JC.skip ?_   | refine JC.label ?_   | refine JC.exit ?_   | refine JC.ret ?_   | refine QX.te ?_ | refine QX.tr ?_ | refine QX.bn ?_ | refine QX.be ?_ | refine QX.bx rfl ?_ | refine QX.br ?_ | refine QX.sn ?_ | refine QX.se ?_ | refine QX.sr ?_ | refine QX.ee ?_ | refine QX.eo rfl ?_ | refine QX.er ?_ | refine QX.en ?_))
      refine ⟨.inl rfl, _, _, rfl, trivial, ?_⟩
      rw [beforeS, if_neg (by omega), if_pos (by omega), ← hlg, if_neg hc]
      rfl
  · have hcall := fn46er r xs (n :: List.nil) ho
    (repeat (first   | refine JL.Q1 (xok rfl rfl rfl rfl) rfl rfl ?_   | refine JL.G1 (xok rfl rfl rfl rfl) rfl rfl rfl ?_   | refine JL.M1 (xok rfl rfl rfl rfl) rfl rfl ?_   | refine JL.M0 (xok rfl rfl rfl rfl) rfl ?_   | refine JL.Q0 (xok rfl rfl rfl rfl) rfl ?_   | refine JL.nilF ?_   | refine JL.nil ?_   | refine JC.scope ?_   | refine QX.tn ?_   | refine JC.seq ?_   | refine JC.region ?_   | refine JC.Draw (xok rfl rfl rfl rfl) ?_   | refine JC.block ?_   | refine JC.skip ?_   | refine JC.label ?_   | refine JC.exit ?_   | refine JC.ret ?_   | refine QX.te ?_ | refine QX.tr ?_ | refine QX.bn ?_ | refine QX.be ?_ | refine QX.bx rfl ?_ | refine QX.br ?_ | refine QX.sn ?_ | refine QX.se ?_ | refine QX.sr ?_ | refine QX.ee ?_ | refine QX.eo rfl ?_ | refine QX.er ?_ | refine QX.en ?_))
    (refine JL.frz [1] [1,2,9,11] rfl (by (first | exact trivial | (try dsimp only [allP, inK, idxC, loC, lohiC, fullC, underG, List.append, List.nil_append, List.cons_append, Ty.den, Ty.dflt, Int.toNat_natCast, List.length_cons, List.length_nil] at *); first | omega | ((repeat' (first | exact trivial | assumption | refine And.intro ?_ ?_ | exact fun h => h | (intro hpk; first | exact hpk | simp only [wantB, hpk, Bool.not_false, Bool.not_true]))) <;> omega) | fail)) ?_)
    (repeat (first   | refine JL.Q1 (xok rfl rfl rfl rfl) rfl rfl ?_   | refine JL.G1 (xok rfl rfl rfl rfl) rfl rfl rfl ?_   | refine JL.M1 (xok rfl rfl rfl rfl) rfl rfl ?_   | refine JL.M0 (xok rfl rfl rfl rfl) rfl ?_   | refine JL.Q0 (xok rfl rfl rfl rfl) rfl ?_   | refine JL.nilF ?_   | refine JL.nil ?_   | refine JC.scope ?_   | refine QX.tn ?_   | refine JC.seq ?_   | refine JC.region ?_   | refine JC.Draw (xok rfl rfl rfl rfl) ?_   | refine JC.block ?_   | refine JC.skip ?_   | refine JC.label ?_   | refine JC.exit ?_   | refine JC.ret ?_   | refine QX.te ?_ | refine QX.tr ?_ | refine QX.bn ?_ | refine QX.be ?_ | refine QX.bx rfl ?_ | refine QX.br ?_ | refine QX.sn ?_ | refine QX.se ?_ | refine QX.sr ?_ | refine QX.ee ?_ | refine QX.eo rfl ?_ | refine QX.er ?_ | refine QX.en ?_ | refine JL.S1 rfl (hcall) rfl trivial rfl ?_ | refine JL.C1 rfl (hcall) rfl (fun r hr => ?_); subst hr | refine JL.S1g rfl rfl (fun hgd => hcall) rfl trivial rfl ?_))
    refine JC.cond rfl (fun hc => ?_) (fun hc => ?_)
    · (repeat (first   | refine JL.Q1 (xok rfl rfl rfl rfl) rfl rfl ?_   | refine JL.G1 (xok rfl rfl rfl rfl) rfl rfl rfl ?_   | refine JL.M1 (xok rfl rfl rfl rfl) rfl rfl ?_   | refine JL.M0 (xok rfl rfl rfl rfl) rfl ?_   | refine JL.Q0 (xok rfl rfl rfl rfl) rfl ?_   | refine JL.nilF ?_   | refine JL.nil ?_   | refine JC.scope ?_   | refine QX.tn ?_   | refine JC.seq ?_   | refine JC.region ?_   | refine JC.Draw (xok rfl rfl rfl rfl) ?_   | refine JC.block ?_   | refine JC.skip ?_   | refine JC.label ?_   | refine JC.exit ?_   | refine JC.ret ?_   | refine QX.te ?_ | refine QX.tr ?_ | refine QX.bn ?_ | refine QX.be ?_ | refine QX.bx rfl ?_ | refine QX.br ?_ | refine QX.sn ?_ | refine QX.se ?_ | refine QX.sr ?_ | refine QX.ee ?_ | refine QX.eo rfl ?_ | refine QX.er ?_ | refine QX.en ?_))
      refine ⟨.inl rfl, _, _, rfl, trivial, ?_⟩
      have : beforeS r xs n = (0, openE r xs [n]) := by
        unfold beforeS
        unfold openE at ho ⊢
        by_cases h1 : dayErr r xs = 0
        · rw [if_neg (by simpa using h1)] at ho
          rw [if_neg (by simpa using h1)]
          by_cases h2 : 0 ≤ n ∧ n ≤ (xs.length : Int) - 1
          · rw [if_pos (by simpa using h2)] at ho; exact absurd rfl ho
          · rw [if_neg (by omega)]
            simp only [h1]
            rw [if_neg (show ¬ ∀ x ∈ [n], 0 ≤ x ∧ x ≤ (xs.length : Int) - 1 from fun h => h2 (h n (by simp)))]
            simp [h1]
        · rw [if_pos h1]
          simp [h1]
      rw [this]
    · (simp only [↓bif_or, ↓bif_and, ↓Bool.or_eq_true, ↓Bool.or_eq_false_iff, ↓Bool.and_eq_true, ↓Bool.and_eq_false_iff, ↓Bool.not_eq_true', ↓Bool.not_eq_false', ↓decide_eq_true_eq, ↓decide_eq_false_iff_not, ↓beq_iff_eq, ↓bne_iff_ne, ↓bne_eq_false_iff_eq, ↓ne_eq, ↓beq_eq_false_iff_ne, ↓Bool.not_eq_true] at hc; try simp only [Ty.dflt, Int.toNat_natCast] at hc)
      exact absurd hc ho
end Go.Proofs.Ytbmgijgnbilnoaa

namespace Go.Proofs.Ytbmgijgnbilnoaa
open Go Go.RowKit Ox
attribute [local irreducible] JC JL JW

abbrev cntS (r : Int) (xs : List Int) (book : Int) : Int := countS r xs (nexts xs xs.length) book
def countD (r : Int) (xs : List Int) : Int := if dayErr r xs = 0 then cntS r xs (-1) else 0
theorem fn63v (r : Int) (xs : List Int) (book : Int) (ho : dayErr r xs = 0) : Ox.Fn Go.Proofs.Try.prog 63 (.acons (.val (.ptr binT) (some (vDay r xs))) (.acons (vI book) .anil)) (· = vI (cntS r xs book)) := by
  obtain ⟨hr, hl, hx⟩ := dayErr_zero.1 ho
  exact fn63 r xs _ _ book hr hx hl.2 (nexts_length xs xs.length) (planS_len r xs)

theorem fn38 (r : Int) (xs : List Int) : Ox.Fn Go.Proofs.Try.prog 38 (.acons (vD r xs) .anil) (· = .tup (.acons (vI (countD r xs)) (.acons (vI (dayErr r xs)) .anil))) := by
  refine Ox.Fn.intro xok Go.Proofs.Try.func38 rfl Go.Proofs.Try.call38 (Nat.le_of_ble_eq_true rfl) (fun E M0 up => ?_)
  have hon := openE_nil r xs
  by_cases ho : dayErr r xs = 0
  · rw [countD, if_pos ho]
    (repeat (first   | refine JL.Q1 (xok rfl rfl rfl rfl) rfl rfl ?_   | refine JL.G1 (xok rfl rfl rfl rfl) rfl rfl rfl ?_   | refine JL.g1 (xok rfl rfl rfl rfl) rfl rfl rfl (fun hgd => And.intro hgd (fun hpk => Bool.and_eq_true_iff.2 ⟨hgd, by rw [hpk]; rfl⟩)) ?_   | refine JL.G2 (xok rfl rfl rfl rfl) rfl rfl rfl ?_   | refine JL.M1 (xok rfl rfl rfl rfl) rfl rfl ?_   | refine JL.M0 (xok rfl rfl rfl rfl) rfl ?_   | refine JL.Q0 (xok rfl rfl rfl rfl) rfl ?_   | refine JL.nilF ?_   | refine JL.nil ?_   | refine JC.scope ?_   | refine QX.tn ?_   | refine JC.seq ?_   | refine JC.region ?_   | refine JC.Draw (xok rfl rfl rfl rfl) ?_   | refine JC.block ?_   | refine JC.skip ?_   | refine JC.label ?_   | refine JC.exit ?_   | refine JC.ret ?_   | refine QX.te ?_ | refine QX.tr ?_ | refine QX.bn ?_ | refine QX.be ?_ | refine QX.bx rfl ?_ | refine QX.br ?_ | refine QX.sn ?_ | refine QX.se ?_ | refine QX.sr ?_ | refine QX.ee ?_ | refine QX.eo rfl ?_ | refine QX.er ?_ | refine QX.en ?_ | refine JL.S1 rfl (fn46ok r xs List.nil (hon.trans ho)) rfl trivial rfl ?_ | refine JL.T1 rfl (fn46ok r xs List.nil (hon.trans ho)) rfl rfl ?_ | refine JL.C1 rfl (fn46ok r xs List.nil (hon.trans ho)) rfl (fun r hr => ?_); subst hr | refine JL.S1g rfl rfl (fun hgd => fn46ok r xs List.nil (hon.trans ho)) rfl trivial rfl ?_))
    refine JC.cond rfl (fun hc => absurd hc (by decide)) (fun _ => ?_)
    (repeat (first   | refine JL.Q1 (xok rfl rfl rfl rfl) rfl rfl ?_   | refine JL.G1 (xok rfl rfl rfl rfl) rfl rfl rfl ?_   | refine JL.g1 (xok rfl rfl rfl rfl) rfl rfl rfl (fun hgd => And.intro hgd (fun hpk => Bool.and_eq_true_iff.2 ⟨hgd, by rw [hpk]; rfl⟩)) ?_   | refine JL.G2 (xok rfl rfl rfl rfl) rfl rfl rfl ?_   | refine JL.M1 (xok rfl rfl rfl rfl) rfl rfl ?_   | refine JL.M0 (xok rfl rfl rfl rfl) rfl ?_   | refine JL.Q0 (xok rfl rfl rfl rfl) rfl ?_   | refine JL.nilF ?_   | refine JL.nil ?_   | refine JC.scope ?_   | refine QX.tn ?_   | refine JC.seq ?_   | refine JC.region ?_   | refine JC.Draw (xok rfl rfl rfl rfl) ?_   | refine JC.block ?_   | refine JC.skip ?_   | refine JC.label ?_   | refine JC.exit ?_   | refine JC.ret ?_   | refine QX.te ?_ | refine QX.tr ?_ | refine QX.bn ?_ | refine QX.be ?_ | refine QX.bx rfl ?_ | refine QX.br ?_ | refine QX.sn ?_ | refine QX.se ?_ | refine QX.sr ?_ | refine QX.ee ?_ | refine QX.eo rfl ?_ | refine QX.er ?_ | refine QX.en ?_ | refine JL.S1 rfl (fn63v r xs (-1) ho) rfl trivial rfl ?_ | refine JL.T1 rfl (fn63v r xs (-1) ho) rfl rfl ?_ | refine JL.C1 rfl (fn63v r xs (-1) ho) rfl (fun r hr => ?_); subst hr | refine JL.S1g rfl rfl (fun hgd => fn63v r xs (-1) ho) rfl trivial rfl ?_))
    refine ⟨.inl rfl, _, _, rfl, trivial, ?_⟩
    rw [ho]
  · have her := fn46er r xs List.nil (by rw [hon]; exact ho)
    (repeat (first   | refine JL.Q1 (xok rfl rfl rfl rfl) rfl rfl ?_   | refine JL.G1 (xok rfl rfl rfl rfl) rfl rfl rfl ?_   | refine JL.g1 (xok rfl rfl rfl rfl) rfl rfl rfl (fun hgd => And.intro hgd (fun hpk => Bool.and_eq_true_iff.2 ⟨hgd, by rw [hpk]; rfl⟩)) ?_   | refine JL.G2 (xok rfl rfl rfl rfl) rfl rfl rfl ?_   | refine JL.M1 (xok rfl rfl rfl rfl) rfl rfl ?_   | refine JL.M0 (xok rfl rfl rfl rfl) rfl ?_   | refine JL.Q0 (xok rfl rfl rfl rfl) rfl ?_   | refine JL.nilF ?_   | refine JL.nil ?_   | refine JC.scope ?_   | refine QX.tn ?_   | refine JC.seq ?_   | refine JC.region ?_   | refine JC.Draw (xok rfl rfl rfl rfl) ?_   | refine JC.block ?_   | refine JC.skip ?_   | refine JC.label ?_   | refine JC.exit ?_   | refine JC.ret ?_   | refine QX.te ?_ | refine QX.tr ?_ | refine QX.bn ?_ | refine QX.be ?_ | refine QX.bx rfl ?_ | refine QX.br ?_ | refine QX.sn ?_ | refine QX.se ?_ | refine QX.sr ?_ | refine QX.ee ?_ | refine QX.eo rfl ?_ | refine QX.er ?_ | refine QX.en ?_ | refine JL.S1 rfl (her) rfl trivial rfl ?_ | refine JL.T1 rfl (her) rfl rfl ?_ | refine JL.C1 rfl (her) rfl (fun r hr => ?_); subst hr | refine JL.S1g rfl rfl (fun hgd => her) rfl trivial rfl ?_))
    refine JC.cond rfl (fun hc => ?_) (fun hc => ?_)
    · (repeat (first   | refine JL.Q1 (xok rfl rfl rfl rfl) rfl rfl ?_   | refine JL.G1 (xok rfl rfl rfl rfl) rfl rfl rfl ?_   | refine JL.g1 (xok rfl rfl rfl rfl) rfl rfl rfl (fun hgd => And.intro hgd (fun hpk => Bool.and_eq_true_iff.2 ⟨hgd, by rw [hpk]; rfl⟩)) ?_   | refine JL.G2 (xok rfl rfl rfl rfl) rfl rfl rfl ?_   | refine JL.M1 (xok rfl rfl rfl rfl) rfl rfl ?_   | refine JL.M0 (xok rfl rfl rfl rfl) rfl ?_   | refine JL.Q0 (xok rfl rfl rfl rfl) rfl ?_   | refine JL.nilF ?_   | refine JL.nil ?_   | refine JC.scope ?_   | refine QX.tn ?_   | refine JC.seq ?_   | refine JC.region ?_   | refine JC.Draw (xok rfl rfl rfl rfl) ?_   | refine JC.block ?_   | refine JC.skip ?_   | refine JC.label ?_   | refine JC.exit ?_   | refine JC.ret ?_   | refine QX.te ?_ | refine QX.tr ?_ | refine QX.bn ?_ | refine QX.be ?_ | refine QX.bx rfl ?_ | refine QX.br ?_ | refine QX.sn ?_ | refine QX.se ?_ | refine QX.sr ?_ | refine QX.ee ?_ | refine QX.eo rfl ?_ | refine QX.er ?_ | refine QX.en ?_))
      refine ⟨.inl rfl, _, _, rfl, trivial, ?_⟩
      rw [countD, if_neg ho, hon]
    · (simp only [↓bif_or, ↓bif_and, ↓Bool.or_eq_true, ↓Bool.or_eq_false_iff, ↓Bool.and_eq_true, ↓Bool.and_eq_false_iff, ↓Bool.not_eq_true', ↓Bool.not_eq_false', ↓decide_eq_true_eq, ↓decide_eq_false_iff_not, ↓beq_iff_eq, ↓bne_iff_ne, ↓bne_eq_false_iff_eq, ↓ne_eq, ↓beq_eq_false_iff_ne, ↓Bool.not_eq_true] at hc; try simp only [Ty.dflt, Int.toNat_natCast] at hc)
      exact absurd (hon.symm.trans hc) ho

def kindS (r : Int) (xs : List Int) (n : Int) : Int × Int :=
  if openE r xs [n] ≠ 0 then (0, openE r xs [n]) else if cntS r xs n = 0 then (2, 0) else if cntS r xs n = cntS r xs (-1) then (0, 0) else (1, 0)
theorem fn36 (r : Int) (xs : List Int) (n : Int) : Ox.Fn Go.Proofs.Try.prog 36 (.acons (vD r xs) (.acons (vI n) .anil)) (· = vT2 (kindS r xs n).1 (kindS r xs n).2) := by
  refine Ox.Fn.intro xok Go.Proofs.Try.func36 rfl Go.Proofs.Try.call36 (Nat.le_of_ble_eq_true rfl) (fun E M0 up => ?_)
  by_cases ho : openE r xs [n] = 0
  · have hcall := fn46ok r xs (n :: List.nil) ho
    obtain ⟨hv, hbk⟩ := openE_valid ho
    (repeat (first   | refine JL.Q1 (xok rfl rfl rfl rfl) rfl rfl ?_   | refine JL.G1 (xok rfl rfl rfl rfl) rfl rfl rfl ?_   | refine JL.g1 (xok rfl rfl rfl rfl) rfl rfl rfl (fun hgd => And.intro hgd (fun hpk => Bool.and_eq_true_iff.2 ⟨hgd, by rw [hpk]; rfl⟩)) ?_   | refine JL.G2 (xok rfl rfl rfl rfl) rfl rfl rfl ?_   | refine JL.M1 (xok rfl rfl rfl rfl) rfl rfl ?_   | refine JL.M0 (xok rfl rfl rfl rfl) rfl ?_   | refine JL.Q0 (xok rfl rfl rfl rfl) rfl ?_   | refine JL.nilF ?_   | refine JL.nil ?_   | refine JC.scope ?_   | refine QX.tn ?_   | refine JC.seq ?_   | refine JC.region ?_   | refine JC.Draw (xok rfl rfl rfl rfl) ?_   | refine JC.block ?_   | refine JC.skip ?_   | refine JC.label ?_   | refine JC.exit ?_   | refine JC.ret ?_   | refine QX.te ?_ | refine QX.tr ?_ | refine QX.bn ?_ | refine QX.be ?_ | refine QX.bx rfl ?_ | refine QX.br ?_ | refine QX.sn ?_ | refine QX.se ?_ | refine QX.sr ?_ | refine QX.ee ?_ | refine QX.eo rfl ?_ | refine QX.er ?_ | refine QX.en ?_))
    (refine JL.frz [1] [1,2,11,13] rfl (by (first | exact trivial | (try dsimp only [allP, inK, idxC, loC, lohiC, fullC, underG, List.append, List.nil_append, List.cons_append, Ty.den, Ty.dflt, Int.toNat_natCast, List.length_cons, List.length_nil] at *); first | omega | ((repeat' (first | exact trivial | assumption | refine And.intro ?_ ?_ | exact fun h => h | (intro hpk; first | exact hpk | simp only [wantB, hpk, Bool.not_false, Bool.not_true]))) <;> omega) | fail)) ?_)
    (repeat (first   | refine JL.Q1 (xok rfl rfl rfl rfl) rfl rfl ?_   | refine JL.G1 (xok rfl rfl rfl rfl) rfl rfl rfl ?_   | refine JL.g1 (xok rfl rfl rfl rfl) rfl rfl rfl (fun hgd => And.intro hgd (fun hpk => Bool.and_eq_true_iff.2 ⟨hgd, by rw [hpk]; rfl⟩)) ?_   | refine JL.G2 (xok rfl rfl rfl rfl) rfl rfl rfl ?_   | refine JL.M1 (xok rfl rfl rfl rfl) rfl rfl ?_   | refine JL.M0 (xok rfl rfl rfl rfl) rfl ?_   | refine JL.Q0 (xok rfl rfl rfl rfl) rfl ?_   | refine JL.nilF ?_   | refine JL.nil ?_   | refine JC.scope ?_   | refine QX.tn ?_   | refine JC.seq ?_   | refine JC.region ?_   | refine JC.Draw (xok rfl rfl rfl rfl) ?_   | refine JC.block ?_   | refine JC.skip ?_   | refine JC.label ?_   | refine JC.exit ?_   | refine JC.ret ?_   | refine QX.te ?_ | refine QX.tr ?_ | refine QX.bn ?_ | refine QX.be ?_ | refine QX.bx rfl ?_ | refine QX.br ?_ | refine QX.sn ?_ | refine QX.se ?_ | refine QX.sr ?_ | refine QX.ee ?_ | refine QX.eo rfl ?_ | refine QX.er ?_ | refine QX.en ?_ | refine JL.S1 rfl (hcall) rfl trivial rfl ?_ | refine JL.T1 rfl (hcall) rfl rfl ?_ | refine JL.C1 rfl (hcall) rfl (fun r hr => ?_); subst hr | refine JL.S1g rfl rfl (fun hgd => hcall) rfl trivial rfl ?_))
    refine JC.cond rfl (fun hc => absurd hc (by decide)) (fun _ => ?_)
    (repeat (first   | refine JL.Q1 (xok rfl rfl rfl rfl) rfl rfl ?_   | refine JL.G1 (xok rfl rfl rfl rfl) rfl rfl rfl ?_   | refine JL.g1 (xok rfl rfl rfl rfl) rfl rfl rfl (fun hgd => And.intro hgd (fun hpk => Bool.and_eq_true_iff.2 ⟨hgd, by rw [hpk]; rfl⟩)) ?_   | refine JL.G2 (xok rfl rfl rfl rfl) rfl rfl rfl ?_   | refine JL.M1 (xok rfl rfl rfl rfl) rfl rfl ?_   | refine JL.M0 (xok rfl rfl rfl rfl) rfl ?_   | refine JL.Q0 (xok rfl rfl rfl rfl) rfl ?_   | refine JL.nilF ?_   | refine JL.nil ?_   | refine JC.scope ?_   | refine QX.tn ?_   | refine JC.seq ?_   | refine JC.region ?_   | refine JC.Draw (xok rfl rfl rfl rfl) ?_   | refine JC.block ?_   | refine JC.skip ?_   | refine JC.label ?_   | refine JC.exit ?_   | refine JC.ret ?_   | refine QX.te ?_ | refine QX.tr ?_ | refine QX.bn ?_ | refine QX.be ?_ | refine QX.bx rfl ?_ | refine QX.br ?_ | refine QX.sn ?_ | refine QX.se ?_ | refine QX.sr ?_ | refine QX.ee ?_ | refine QX.eo rfl ?_ | refine QX.er ?_ | refine QX.en ?_ | refine JL.S1 rfl (fn63v r xs (-1) hv) rfl trivial rfl ?_ | refine JL.T1 rfl (fn63v r xs (-1) hv) rfl rfl ?_ | refine JL.C1 rfl (fn63v r xs (-1) hv) rfl (fun r hr => ?_); subst hr | refine JL.S1g rfl rfl (fun hgd => fn63v r xs (-1) hv) rfl trivial rfl ?_ | refine JL.S1 rfl (fn63v r xs n hv) rfl trivial rfl ?_ | refine JL.T1 rfl (fn63v r xs n hv) rfl rfl ?_ | refine JL.C1 rfl (fn63v r xs n hv) rfl (fun r hr => ?_); subst hr | refine JL.S1g rfl rfl (fun hgd => fn63v r xs n hv) rfl trivial rfl ?_))
    refine JC.cond rfl (fun hc => ?_) (fun hc => ?_)
    · (simp only [↓bif_or, ↓bif_and, ↓Bool.or_eq_true, ↓Bool.or_eq_false_iff, ↓Bool.and_eq_true, ↓Bool.and_eq_false_iff, ↓Bool.not_eq_true', ↓Bool.not_eq_false', ↓decide_eq_true_eq, ↓decide_eq_false_iff_not, ↓beq_iff_eq, ↓bne_iff_ne, ↓bne_eq_false_iff_eq, ↓ne_eq, ↓beq_eq_false_iff_ne, ↓Bool.not_eq_true] at hc; try simp only [Ty.dflt, Int.toNat_natCast] at hc)
      (repeat (first   | refine JL.Q1 (xok rfl rfl rfl rfl) rfl rfl ?_   | refine JL.G1 (xok rfl rfl rfl rfl) rfl rfl rfl ?_   | refine JL.g1 (xok rfl rfl rfl rfl) rfl rfl rfl (fun hgd => And.intro hgd (fun hpk => Bool.and_eq_true_iff.2 ⟨hgd, by rw [hpk]; rfl⟩)) ?_   | refine JL.G2 (xok rfl rfl rfl rfl) rfl rfl rfl ?_   | refine JL.M1 (xok rfl rfl rfl rfl) rfl rfl ?_   | refine JL.M0 (xok rfl rfl rfl rfl) rfl ?_   | refine JL.Q0 (xok rfl rfl rfl rfl) rfl ?_   | refine JL.nilF ?_   | refine JL.nil ?_   | refine JC.scope ?_   | refine QX.tn ?_   | refine JC.seq ?_   | refine JC.region ?_   | refine JC.Draw (xok rfl rfl rfl rfl) ?_   | refine JC.block ?_   | refine JC.skip ?_   | refine JC.label ?_   | refine JC.exit ?_   | refine JC.ret ?_   | refine QX.te ?_ | refine QX.tr ?_ | refine QX.bn ?_ | refine QX.be ?_ | refine QX.bx rfl ?_ | refine QX.br ?_ | refine QX.sn ?_ | refine QX.se ?_ | refine QX.sr ?_ | refine QX.ee ?_ | refine QX.eo rfl ?_ | refine QX.er ?_ | refine QX.en ?_))
      refine ⟨.inl rfl, _, _, rfl, trivial, ?_⟩
      rw [kindS, if_neg (by simpa using ho), if_pos hc]
    · (simp only [↓bif_or, ↓bif_and, ↓Bool.or_eq_true, ↓Bool.or_eq_false_iff, ↓Bool.and_eq_true, ↓Bool.and_eq_false_iff, ↓Bool.not_eq_true', ↓Bool.not_eq_false', ↓decide_eq_true_eq, ↓decide_eq_false_iff_not, ↓beq_iff_eq, ↓bne_iff_ne, ↓bne_eq_false_iff_eq, ↓ne_eq, ↓beq_eq_false_iff_ne, ↓Bool.not_eq_true] at hc; try simp only [Ty.dflt, Int.toNat_natCast] at hc)
      (repeat (first   | refine JL.Q1 (xok rfl rfl rfl rfl) rfl rfl ?_   | refine JL.G1 (xok rfl rfl rfl rfl) rfl rfl rfl ?_   | refine JL.g1 (xok rfl rfl rfl rfl) rfl rfl rfl (fun hgd => And.intro hgd (fun hpk => Bool.and_eq_true_iff.2 ⟨hgd, by rw [hpk]; rfl⟩)) ?_   | refine JL.G2 (xok rfl rfl rfl rfl) rfl rfl rfl ?_   | refine JL.M1 (xok rfl rfl rfl rfl) rfl rfl ?_   | refine JL.M0 (xok rfl rfl rfl rfl) rfl ?_   | refine JL.Q0 (xok rfl rfl rfl rfl) rfl ?_   | refine JL.nilF ?_   | refine JL.nil ?_   | refine JC.scope ?_   | refine QX.tn ?_   | refine JC.seq ?_   | refine JC.region ?_   | refine JC.Draw (xok rfl rfl rfl rfl) ?_   | refine JC.block ?_   | refine JC.skip ?_   | refine JC.label ?_   | refine JC.exit ?_   | refine JC.ret ?_   | refine QX.te ?_ | refine QX.tr ?_ | refine QX.bn ?_ | refine QX.be ?_ | refine QX.bx rfl ?_ | refine QX.br ?_ | refine QX.sn ?_ | refine QX.se ?_ | refine QX.sr ?_ | refine QX.ee ?_ | refine QX.eo rfl ?_ | refine QX.er ?_ | refine QX.en ?_))
      refine JC.cond rfl (fun hd => ?_) (fun hd => ?_)
      · (simp only [↓bif_or, ↓bif_and, ↓Bool.or_eq_true, ↓Bool.or_eq_false_iff, ↓Bool.and_eq_true, ↓Bool.and_eq_false_iff, ↓Bool.not_eq_true', ↓Bool.not_eq_false', ↓decide_eq_true_eq, ↓decide_eq_false_iff_not, ↓beq_iff_eq, ↓bne_iff_ne, ↓bne_eq_false_iff_eq, ↓ne_eq, ↓beq_eq_false_iff_ne, ↓Bool.not_eq_true] at hd; try simp only [Ty.dflt, Int.toNat_natCast] at hd)
        (repeat (first   | refine JL.Q1 (xok rfl rfl rfl rfl) rfl rfl ?_   | refine JL.G1 (xok rfl rfl rfl rfl) rfl rfl rfl ?_   | refine JL.g1 (xok rfl rfl rfl rfl) rfl rfl rfl (fun hgd => And.intro hgd (fun hpk => Bool.and_eq_true_iff.2 ⟨hgd, by rw [hpk]; rfl⟩)) ?_   | refine JL.G2 (xok rfl rfl rfl rfl) rfl rfl rfl ?_   | refine JL.M1 (xok rfl rfl rfl rfl) rfl rfl ?_   | refine JL.M0 (xok rfl rfl rfl rfl) rfl ?_   | refine JL.Q0 (xok rfl rfl rfl rfl) rfl ?_   | refine JL.nilF ?_   | refine JL.nil ?_   | refine JC.scope ?_   | refine QX.tn ?_   | refine JC.seq ?_   | refine JC.region ?_   | refine JC.Draw (xok rfl rfl rfl rfl) ?_   | refine JC.block ?_   | refine JC.skip ?_   | refine JC.label ?_   | refine JC.exit ?_   | refine JC.ret ?_   | refine QX.te ?_ | refine QX.tr ?_ | refine QX.bn ?_ | refine QX.be ?_ | refine QX.bx rfl ?_ | refine QX.br ?_ | refine QX.sn ?_ | refine QX.se ?_ | refine QX.sr ?_ | refine QX.ee ?_ | refine QX.eo rfl ?_ | refine QX.er ?_ | refine QX.en ?_))
        refine ⟨.inl rfl, _, _, rfl, trivial, ?_⟩
        rw [kindS, if_neg (by simpa using ho), if_neg hc, if_pos hd]
      · (simp only [↓bif_or, ↓bif_and, ↓Bool.or_eq_true, ↓Bool.or_eq_false_iff, ↓Bool.and_eq_true, ↓Bool.and_eq_false_iff, ↓Bool.not_eq_true', ↓Bool.not_eq_false', ↓decide_eq_true_eq, ↓decide_eq_false_iff_not, ↓beq_iff_eq, ↓bne_iff_ne, ↓bne_eq_false_iff_eq, ↓ne_eq, ↓beq_eq_false_iff_ne, ↓Bool.not_eq_true] at hd; try simp only [Ty.dflt, Int.toNat_natCast] at hd)
        (repeat (first   | refine JL.Q1 (xok rfl rfl rfl rfl) rfl rfl ?_   | refine JL.G1 (xok rfl rfl rfl rfl) rfl rfl rfl ?_   | refine JL.g1 (xok rfl rfl rfl rfl) rfl rfl rfl (fun hgd => And.intro hgd (fun hpk => Bool.and_eq_true_iff.2 ⟨hgd, by rw [hpk]; rfl⟩)) ?_   | refine JL.G2 (xok rfl rfl rfl rfl) rfl rfl rfl ?_   | refine JL.M1 (xok rfl rfl rfl rfl) rfl rfl ?_   | refine JL.M0 (xok rfl rfl rfl rfl) rfl ?_   | refine JL.Q0 (xok rfl rfl rfl rfl) rfl ?_   | refine JL.nilF ?_   | refine JL.nil ?_   | refine JC.scope ?_   | refine QX.tn ?_   | refine JC.seq ?_   | refine JC.region ?_   | refine JC.Draw (xok rfl rfl rfl rfl) ?_   | refine JC.block ?_   | refine JC.skip ?_   | refine JC.label ?_   | refine JC.exit ?_   | refine JC.ret ?_   | refine QX.te ?_ | refine QX.tr ?_ | refine QX.bn ?_ | refine QX.be ?_ | refine QX.bx rfl ?_ | refine QX.br ?_ | refine QX.sn ?_ | refine QX.se ?_ | refine QX.sr ?_ | refine QX.ee ?_ | refine QX.eo rfl ?_ | refine QX.er ?_ | refine QX.en ?_))
        refine ⟨.inl rfl, _, _, rfl, trivial, ?_⟩
        rw [kindS, if_neg (by simpa using ho), if_neg hc, if_neg hd]
  · have hcall := fn46er r xs (n :: List.nil) ho
    (repeat (first   | refine JL.Q1 (xok rfl rfl rfl rfl) rfl rfl ?_   | refine JL.G1 (xok rfl rfl rfl rfl) rfl rfl rfl ?_   | refine JL.g1 (xok rfl rfl rfl rfl) rfl rfl rfl (fun hgd => And.intro hgd (fun hpk => Bool.and_eq_true_iff.2 ⟨hgd, by rw [hpk]; rfl⟩)) ?_   | refine JL.G2 (xok rfl rfl rfl rfl) rfl rfl rfl ?_   | refine JL.M1 (xok rfl rfl rfl rfl) rfl rfl ?_   | refine JL.M0 (xok rfl rfl rfl rfl) rfl ?_   | refine JL.Q0 (xok rfl rfl rfl rfl) rfl ?_   | refine JL.nilF ?_   | refine JL.nil ?_   | refine JC.scope ?_   | refine QX.tn ?_   | refine JC.seq ?_   | refine JC.region ?_   | refine JC.Draw (xok rfl rfl rfl rfl) ?_   | refine JC.block ?_   | refine JC.skip ?_   | refine JC.label ?_   | refine JC.exit ?_   | refine JC.ret ?_   | refine QX.te ?_ | refine QX.tr ?_ | refine QX.bn ?_ | refine QX.be ?_ | refine QX.bx rfl ?_ | refine QX.br ?_ | refine QX.sn ?_ | refine QX.se ?_ | refine QX.sr ?_ | refine QX.ee ?_ | refine QX.eo rfl ?_ | refine QX.er ?_ | refine QX.en ?_))
    (refine JL.frz [1] [1,2,11,13] rfl (by (first | exact trivial | (try dsimp only [allP, inK, idxC, loC, lohiC, fullC, underG, List.append, List.nil_append, List.cons_append, Ty.den, Ty.dflt, Int.toNat_natCast, List.length_cons, List.length_nil] at *); first | omega | ((repeat' (first | exact trivial | assumption | refine And.intro ?_ ?_ | exact fun h => h | (intro hpk; first | exact hpk | simp only [wantB, hpk, Bool.not_false, Bool.not_true]))) <;> omega) | fail)) ?_)
    (repeat (first   | refine JL.Q1 (xok rfl rfl rfl rfl) rfl rfl ?_   | refine JL.G1 (xok rfl rfl rfl rfl) rfl rfl rfl ?_   | refine JL.g1 (xok rfl rfl rfl rfl) rfl rfl rfl (fun hgd => And.intro hgd (fun hpk => Bool.and_eq_true_iff.2 ⟨hgd, by rw [hpk]; rfl⟩)) ?_   | refine JL.G2 (xok rfl rfl rfl rfl) rfl rfl rfl ?_   | refine JL.M1 (xok rfl rfl rfl rfl) rfl rfl ?_   | refine JL.M0 (xok rfl rfl rfl rfl) rfl ?_   | refine JL.Q0 (xok rfl rfl rfl rfl) rfl ?_   | refine JL.nilF ?_   | refine JL.nil ?_   | refine JC.scope ?_   | refine QX.tn ?_   | refine JC.seq ?_   | refine JC.region ?_   | refine JC.Draw (xok rfl rfl rfl rfl) ?_   | refine JC.block ?_   | refine JC.skip ?_   | refine JC.label ?_   | refine JC.exit ?_   | refine JC.ret ?_   | refine QX.te ?_ | refine QX.tr ?_ | refine QX.bn ?_ | refine QX.be ?_ | refine QX.bx rfl ?_ | refine QX.br ?_ | refine QX.sn ?_ | refine QX.se ?_ | refine QX.sr ?_ | refine QX.ee ?_ | refine QX.eo rfl ?_ | refine QX.er ?_ | refine QX.en ?_ | refine JL.S1 rfl (hcall) rfl trivial rfl ?_ | refine JL.T1 rfl (hcall) rfl rfl ?_ | refine JL.C1 rfl (hcall) rfl (fun r hr => ?_); subst hr | refine JL.S1g rfl rfl (fun hgd => hcall) rfl trivial rfl ?_))
    refine JC.cond rfl (fun hc => ?_) (fun hc => ?_)
    · (repeat (first   | refine JL.Q1 (xok rfl rfl rfl rfl) rfl rfl ?_   | refine JL.G1 (xok rfl rfl rfl rfl) rfl rfl rfl ?_   | refine JL.g1 (xok rfl rfl rfl rfl) rfl rfl rfl (fun hgd => And.intro hgd (fun hpk => Bool.and_eq_true_iff.2 ⟨hgd, by rw [hpk]; rfl⟩)) ?_   | refine JL.G2 (xok rfl rfl rfl rfl) rfl rfl rfl ?_   | refine JL.M1 (xok rfl rfl rfl rfl) rfl rfl ?_   | refine JL.M0 (xok rfl rfl rfl rfl) rfl ?_   | refine JL.Q0 (xok rfl rfl rfl rfl) rfl ?_   | refine JL.nilF ?_   | refine JL.nil ?_   | refine JC.scope ?_   | refine QX.tn ?_   | refine JC.seq ?_   | refine JC.region ?_   | refine JC.Draw (xok rfl rfl rfl rfl) ?_   | refine JC.block ?_   | refine JC.skip ?_   | refine JC.label ?_   | refine JC.exit ?_   | refine JC.ret ?_   | refine QX.te ?_ | refine QX.tr ?_ | refine QX.bn ?_ | refine QX.be ?_ | refine QX.bx rfl ?_ | refine QX.br ?_ | refine QX.sn ?_ | refine QX.se ?_ | refine QX.sr ?_ | refine QX.ee ?_ | refine QX.eo rfl ?_ | refine QX.er ?_ | refine QX.en ?_))
      refine ⟨.inl rfl, _, _, rfl, trivial, ?_⟩
      rw [kindS, if_pos ho]
    · (simp only [↓bif_or, ↓bif_and, ↓Bool.or_eq_true, ↓Bool.or_eq_false_iff, ↓Bool.and_eq_true, ↓Bool.and_eq_false_iff, ↓Bool.not_eq_true', ↓Bool.not_eq_false', ↓decide_eq_true_eq, ↓decide_eq_false_iff_not, ↓beq_iff_eq, ↓bne_iff_ne, ↓bne_eq_false_iff_eq, ↓ne_eq, ↓beq_eq_false_iff_ne, ↓Bool.not_eq_true] at hc; try simp only [Ty.dflt, Int.toNat_natCast] at hc)
      exact absurd hc ho
end Go.Proofs.Ytbmgijgnbilnoaa

namespace Ox
open Go Go.RowKit
variable {X : Ctx} {s : S} {QA : Exit → S → Prop} {all l : List Oper} {md : Bool} {op : Op} {L : List (Nat × AV)} {H : List (Nat × HO)} {nx d : Nat} {v : AV} {cs : List Prop} {ty : TypeId} {ps : String} {af : Array Edge} {g : Bool} {gg : Nat × Bool}
theorem JC.seqR {id : Nat} {ops : Array Oper} {d : Bool} {y : Code} (h : JC X (.region id ops d) (qThen (JC X y QA) QA) s) : JC X (.seq (.region id ops d) y) QA s := .seq h
theorem JC.seqB {id : Nat} {c y : Code} (h : JC X (.block id c) (qThen (JC X y QA) QA) s) : JC X (.seq (.block id c) y) QA s := .seq h
theorem JC.seqS {y : Code} (h : JC X .skip (qThen (JC X y QA) QA) s) : JC X (.seq .skip y) QA s := .seq h
theorem JC.seqL {n : Nat} {y : Code} (h : JC X (.label n) (qThen (JC X y QA) QA) s) : JC X (.seq (.label n) y) QA s := .seq h
theorem JC.seqC {x : Operand} {n : Nat} {y : Code} (h : JC X (.cond x .skip (.exit n)) (qThen (JC X y QA) QA) s) : JC X (.seq (.cond x .skip (.exit n)) y) QA s := .seq h
theorem JL.G2 (hX : XOK X) (hg : gOf all L (some gg) = some g) (h : evb X.T op ⟨L, H, nx⟩ = some (cs, v)) (hd : ltB d X.n = true) (k : JL X md all QA l ⟨(d, .gd g v) :: L, H, nx⟩) (hc : g = true → allP cs := by (intro hgd; have hge := hgd; simp only [wantB, Bool.and_eq_true, Bool.or_eq_true, Bool.not_not, Bool.not_eq_true', decide_eq_true_eq, decide_eq_false_iff_not, beq_iff_eq, bne_iff_ne, bne_eq_false_iff_eq, ne_eq, beq_eq_false_iff_ne] at hge; (try dsimp only [allP, inK, idxC, loC, lohiC, fullC, underG, List.append, List.nil_append, List.cons_append, Ty.den, Ty.dflt, Int.toNat_natCast, List.length_cons, List.length_nil] at *); first | omega | ((repeat' (first | exact trivial | assumption | refine And.intro ?_ ?_)) <;> omega))) : JL X md all QA (⟨some d, op, ty, ps, af, some gg⟩ :: l) ⟨L, H, nx⟩ := JL.g1 hX hg h hd hc k
mutual
theorem AV.scal_bd {n : Nat} : ∀ {a : AV}, a.scal = true → a.bd n
  | .val .., _ => trivial
  | .undef, _ => trivial
  | .tup a, h => AV.scalL_bd (a := a) (by simpa only [AV.scal] using h)
  | .mix .., h => by simp [AV.scal] at h
  | .lf .., h => by simp [AV.scal] at h
  | .fn .., h => by simp [AV.scal] at h
  | .anil, h => by simp [AV.scal] at h
  | .acons .., h => by simp [AV.scal] at h
  | .gd .., h => by simp [AV.scal] at h
  | .full .., h => by simp [AV.scal] at h
theorem AV.scalL_bd {n : Nat} : ∀ {a : AV}, a.scalL = true → a.bd n
  | .anil, _ => trivial
  | .acons a b, h => by
    simp only [AV.scalL, Bool.and_eq_true] at h
    exact ⟨AV.scal_bd h.1, AV.scalL_bd h.2⟩
  | .val .., h => by simp [AV.scalL] at h
  | .undef, h => by simp [AV.scalL] at h
  | .tup .., h => by simp [AV.scalL] at h
  | .mix .., h => by simp [AV.scalL] at h
  | .lf .., h => by simp [AV.scalL] at h
  | .fn .., h => by simp [AV.scalL] at h
  | .gd .., h => by simp [AV.scalL] at h
  | .full .., h => by simp [AV.scalL] at h
end
/-- A call whose result is a tuple without memory. -/
theorem JL.T1 {f : FuncId} {args r : AV} (h : callA X.T op ⟨L, H, nx⟩ = some (cs, f, args)) (hf : Fn X.P f args (· = .tup r)) (hr : r.scalL = true) (hd : ltB d X.n = true) (k : JL X md all QA l ⟨(d, .tup r) :: L, H, nx⟩) (hc : allP cs := by (first | exact trivial | (try dsimp only [allP, inK, idxC, loC, lohiC, fullC, underG, List.append, List.nil_append, List.cons_append, Ty.den, Ty.dflt, Int.toNat_natCast, List.length_cons, List.length_nil] at *); first | omega | ((repeat' (first | exact trivial | assumption | refine And.intro ?_ ?_ | exact fun h => h | (intro hpk; first | exact hpk | simp only [wantB, hpk, Bool.not_false, Bool.not_true]))) <;> omega) | fail)) :
    JL X md all QA (⟨some d, op, ty, ps, af, none⟩ :: l) ⟨L, H, nx⟩ := JL.S1 h hf hr (AV.scal_bd (a := .tup r) hr) hd k hc
end Ox

namespace Go.Proofs.Ytbmgijgnbilnoaa
open Go Go.RowKit Ox
attribute [local irreducible] JC JL JW

abbrev vLL (l : List (List Int)) : AV := .val (.slice (.slice (.int .i64))) l

/-- The bench behind a book. -/
def nextR (bench : List Int) (k b : Int) : Nat → List Int
  | 0 => []
  | n + 1 => if (n : Int) = k ∨ ((n : Int) ∈ bench ∧ (n : Int) ≠ b) then nextR bench k b n ++ [(n : Int)] else nextR bench k b n
/-- A plan's number for a book is right. -/
def okR (r k b : Int) (bench : List Int) : Prop := ((k ∈ bench ∨ (bench.length : Int) ≠ r) → b = -1) ∧ (¬(k ∈ bench ∨ (bench.length : Int) ≠ r) → b ∈ bench)
instance (r k b : Int) (bench : List Int) : Decidable (okR r k b bench) := by unfold okR; infer_instance
/-- The benches of a plan, and the books that are kept. -/
def playedF (r : Int) : List (Int × Int) → Nat → List Int → Option (List (List Int) × List Int)
  | [], _, _ => some ([], [])
  | (k, b) :: l, i, bench =>
    if okR r k b bench then
      match playedF r l (i + 1) (nextR bench k b 8) with
      | some (bs, ks) => some (nextR bench k b 8 :: bs, if k ∈ bench then (i : Int) :: ks else ks)
      | none => none
    else none
def playedR (r : Int) (xs plan : List Int) : Option (List (List Int) × List Int) := playedF r (xs.zip plan) 0 []
def playedV (o : Option (List (List Int) × List Int)) : AV := match o with | some (bs, ks) => .tup (.acons (vLL bs) (.acons (vL ks) (.acons (vB true) .anil))) | none => .tup (.acons (vLL []) (.acons (vL []) (.acons (vB false) .anil)))
def pre2 (bs : List (List Int)) (ks : List Int) : Option (List (List Int) × List Int) → Option (List (List Int) × List Int)
  | some (a, b) => some (bs ++ a, ks ++ b)
  | none => none

theorem nextR_len (bench : List Int) (k b : Int) : ∀ n, (nextR bench k b n).length ≤ n
  | 0 => by simp [nextR]
  | n + 1 => by have := nextR_len bench k b n; rw [nextR]; split <;> simp <;> omega

theorem pick3 {k x b : Int} {l : List Int} : ((bif k == x then true else bif decide (k ∈ l) then k != b else false) = true) ↔ (k = x ∨ (k ∈ l ∧ k ≠ b)) := by
  by_cases h1 : k = x <;> by_cases h2 : k ∈ l <;> by_cases h3 : k = b <;> simp [h1, h2, h3]
set_option maxHeartbeats 2000000 in
theorem fn53 (r : Int) (xs plan : List Int) (hp : plan.length = xs.length) (hl : xs.length ≤ 1000) : Ox.Fn Go.Proofs.Try.prog 53 (.acons (vD r xs) (.acons (vL plan) .anil)) (· = playedV (playedR r xs plan)) := by
  refine Ox.Fn.intro xok Go.Proofs.Try.func53 rfl Go.Proofs.Try.call53 (Nat.le_of_ble_eq_true rfl) (fun E M0 up => ?_)
  refine JC.lenOf 0 rfl fun hlen => ?_
  replace hlen : xs.length ≤ 9223372036854775807 := hlen.2.1.1
  (repeat (first   | refine JL.Q1 (xok rfl rfl rfl rfl) rfl rfl ?_   | refine JL.G1 (xok rfl rfl rfl rfl) rfl rfl rfl ?_   | refine JL.g1 (xok rfl rfl rfl rfl) rfl rfl rfl (fun hgd => And.intro hgd (fun hpk => Bool.and_eq_true_iff.2 ⟨hgd, by rw [hpk]; rfl⟩)) ?_   | refine JL.M1 (xok rfl rfl rfl rfl) rfl rfl ?_   | refine JL.M0 (xok rfl rfl rfl rfl) rfl ?_   | refine JL.Q0 (xok rfl rfl rfl rfl) rfl ?_   | refine JL.nilF ?_   | refine JL.nil ?_   | refine JC.scope ?_   | refine QX.tn ?_   | refine JC.seq ?_   | refine JC.region ?_   | refine JC.Draw (xok rfl rfl rfl rfl) ?_   | refine JC.block ?_   | refine JC.skip ?_   | refine JC.label ?_   | refine JC.exit ?_   | refine JC.ret ?_   | refine QX.te ?_ | refine QX.tr ?_ | refine QX.bn ?_ | refine QX.be ?_ | refine QX.bx rfl ?_ | refine QX.br ?_ | refine QX.sn ?_ | refine QX.se ?_ | refine QX.sr ?_ | refine QX.ee ?_ | refine QX.eo rfl ?_ | refine QX.er ?_ | refine QX.en ?_))
  refine JC.ghost 7 22 (.slice (.int .i64)) rfl ?_
  refine JC.ghost 8 3 (.int .i64) rfl ?_
  refine JC.ghost 9 3 (.int .i64) rfl ?_
  (refine JC.frz [3] [1,2,7,8,9,10] rfl (by (first | exact trivial | (try dsimp only [allP, inK, idxC, loC, lohiC, fullC, underG, List.append, List.nil_append, List.cons_append, Ty.den, Ty.dflt, Int.toNat_natCast, List.length_cons, List.length_nil] at *); first | omega | ((repeat' (first | exact trivial | assumption | refine And.intro ?_ ?_ | exact fun h => h | (intro hpk; first | exact hpk | simp only [wantB, hpk, Bool.not_false, Bool.not_true]))) <;> omega) | fail)) ?_)
  refine JC.loop (σ := Nat × List Int × List (List Int) × List Int) (fun q => ⟨[(1, vL plan), (2, .lf (.optr 0 [])), (7, .lf (.osl 1)), (8, .lf (.osl 2)), (9, vL q.2.1), (10, vI (q.1 : Int))], [(0, .cell dayT (vD r xs)), (1, .sl 22 (.slice (.int .i64)) q.2.2.1), (2, .sl 3 (.int .i64) q.2.2.2)], 3⟩)
    (fun q => q.1 ≤ xs.length ∧ q.2.2.1.length = q.1 ∧ q.2.2.2.length ≤ q.1 ∧ pre2 q.2.2.1 q.2.2.2 (playedF r ((xs.zip plan).drop q.1) q.1 q.2.1) = playedR r xs plan) (fun q => xs.length - q.1)
    (0, [], [], []) ⟨by simp, rfl, by simp, by rw [List.drop_zero, playedR]; dsimp only; cases playedF r (xs.zip plan) 0 [] <;> rfl⟩ (by (exact JW.Auto rfl)) fun q hq => ?_
  obtain ⟨i, bench, bs, ks⟩ := q
  obtain ⟨hi, hbl, hkl, hinv⟩ := hq
  dsimp only at hi hbl hkl hinv
  (repeat (first   | refine JL.Q1 (xok rfl rfl rfl rfl) rfl rfl ?_   | refine JL.G1 (xok rfl rfl rfl rfl) rfl rfl rfl ?_   | refine JL.g1 (xok rfl rfl rfl rfl) rfl rfl rfl (fun hgd => And.intro hgd (fun hpk => Bool.and_eq_true_iff.2 ⟨hgd, by rw [hpk]; rfl⟩)) ?_   | refine JL.M1 (xok rfl rfl rfl rfl) rfl rfl ?_   | refine JL.M0 (xok rfl rfl rfl rfl) rfl ?_   | refine JL.Q0 (xok rfl rfl rfl rfl) rfl ?_   | refine JL.nilF ?_   | refine JL.nil ?_   | refine JC.scope ?_   | refine QX.tn ?_   | refine JC.seq ?_   | refine JC.region ?_   | refine JC.Draw (xok rfl rfl rfl rfl) ?_   | refine JC.block ?_   | refine JC.skip ?_   | refine JC.label ?_   | refine JC.exit ?_   | refine JC.ret ?_   | refine QX.te ?_ | refine QX.tr ?_ | refine QX.bn ?_ | refine QX.be ?_ | refine QX.bx rfl ?_ | refine QX.br ?_ | refine QX.sn ?_ | refine QX.se ?_ | refine QX.sr ?_ | refine QX.ee ?_ | refine QX.eo rfl ?_ | refine QX.er ?_ | refine QX.en ?_))
  refine JC.cond rfl (fun hc => ?_) (fun hc => ?_)
  · (simp only [↓bif_or, ↓bif_and, ↓Bool.or_eq_true, ↓Bool.or_eq_false_iff, ↓Bool.and_eq_true, ↓Bool.and_eq_false_iff, ↓Bool.not_eq_true', ↓Bool.not_eq_false', ↓decide_eq_true_eq, ↓decide_eq_false_iff_not, ↓beq_iff_eq, ↓bne_iff_ne, ↓bne_eq_false_iff_eq, ↓ne_eq, ↓beq_eq_false_iff_ne, ↓Bool.not_eq_true] at hc; try simp only [Ty.dflt, Int.toNat_natCast] at hc)
    have hi' : i < xs.length := by omega
    have hj' : i < plan.length := by omega
    have hz : (xs.zip plan).drop i = ((xs.getD i 0), (plan.getD i 0)) :: (xs.zip plan).drop (i + 1) := by
      rw [List.drop_eq_getElem_cons (by simp; omega), List.getElem_zip, getD_nat xs hi', getD_nat plan hj']
    rw [hz, playedF] at hinv
    have c43 := fn43 bench (xs.getD i 0)
    have d43 := fn43 bench (plan.getD i 0)
    have hnl := nextR_len bench (xs.getD i 0) (plan.getD i 0) 8
    (repeat (first   | refine JL.Q1 (xok rfl rfl rfl rfl) rfl rfl ?_   | refine JL.G1 (xok rfl rfl rfl rfl) rfl rfl rfl ?_   | refine JL.g1 (xok rfl rfl rfl rfl) rfl rfl rfl (fun hgd => And.intro hgd (fun hpk => Bool.and_eq_true_iff.2 ⟨hgd, by rw [hpk]; rfl⟩)) ?_   | refine JL.M1 (xok rfl rfl rfl rfl) rfl rfl ?_   | refine JL.M0 (xok rfl rfl rfl rfl) rfl ?_   | refine JL.Q0 (xok rfl rfl rfl rfl) rfl ?_   | refine JL.nilF ?_   | refine JL.nil ?_   | refine JC.scope ?_   | refine QX.tn ?_   | refine JC.seqR ?_ | refine JC.seqB ?_ | refine JC.seqS ?_ | refine JC.seqL ?_ | refine JC.seqC ?_   | refine JC.region ?_   | refine JC.Draw (xok rfl rfl rfl rfl) ?_   | refine JC.block ?_   | refine JC.skip ?_   | refine JC.label ?_   | refine JC.exit ?_   | refine JC.ret ?_   | refine QX.te ?_ | refine QX.tr ?_ | refine QX.bn ?_ | refine QX.be ?_ | refine QX.bx rfl ?_ | refine QX.br ?_ | refine QX.sn ?_ | refine QX.se ?_ | refine QX.sr ?_ | refine QX.ee ?_ | refine QX.eo rfl ?_ | refine QX.er ?_ | refine QX.en ?_ | refine JL.S1 rfl (c43) rfl trivial rfl ?_ | refine JL.C1 rfl (c43) rfl (fun r hr => ?_); subst hr | refine JL.S1g rfl rfl (fun hgd => c43) rfl trivial rfl ?_))
    refine JC.cutW (x := .seq _ (.cond _ _ _)) (σ := Unit) (fun _ => ⟨[(1, vL plan), (2, .lf (.optr 0 [])), (7, .lf (.osl 1)), (8, .lf (.osl 2)), (9, vL bench), (10, vI (i : Int)), (11, vI (xs.getD i 0)), (12, vB (decide ((xs.getD i 0) ∈ bench)))], [(0, .cell dayT (vD r xs)), (1, .sl 22 (.slice (.int .i64)) bs), (2, .sl 3 (.int .i64) ks)], 3⟩)
      (fun _ => okR r (xs.getD i 0) (plan.getD i 0) bench) ?_ (fun _ hok => ?_)
    · (repeat (first   | refine JL.Q1 (xok rfl rfl rfl rfl) rfl rfl ?_   | refine JL.G1 (xok rfl rfl rfl rfl) rfl rfl rfl ?_   | refine JL.g1 (xok rfl rfl rfl rfl) rfl rfl rfl (fun hgd => And.intro hgd (fun hpk => Bool.and_eq_true_iff.2 ⟨hgd, by rw [hpk]; rfl⟩)) ?_   | refine JL.M1 (xok rfl rfl rfl rfl) rfl rfl ?_   | refine JL.M0 (xok rfl rfl rfl rfl) rfl ?_   | refine JL.Q0 (xok rfl rfl rfl rfl) rfl ?_   | refine JL.nilF ?_   | refine JL.nil ?_   | refine JC.scope ?_   | refine QX.tn ?_   | refine JC.seq ?_   | refine JC.region ?_   | refine JC.Draw (xok rfl rfl rfl rfl) ?_   | refine JC.block ?_   | refine JC.skip ?_   | refine JC.label ?_   | refine JC.exit ?_   | refine JC.ret ?_   | refine QX.te ?_ | refine QX.tr ?_ | refine QX.bn ?_ | refine QX.be ?_ | refine QX.bx rfl ?_ | refine QX.br ?_ | refine QX.sn ?_ | refine QX.se ?_ | refine QX.sr ?_ | refine QX.ee ?_ | refine QX.eo rfl ?_ | refine QX.er ?_ | refine QX.en ?_))
      refine JC.cond rfl (fun ha => ?_) (fun ha => ?_)
      · (simp only [↓bif_or, ↓bif_and, ↓Bool.or_eq_true, ↓Bool.or_eq_false_iff, ↓Bool.and_eq_true, ↓Bool.and_eq_false_iff, ↓Bool.not_eq_true', ↓Bool.not_eq_false', ↓decide_eq_true_eq, ↓decide_eq_false_iff_not, ↓beq_iff_eq, ↓bne_iff_ne, ↓bne_eq_false_iff_eq, ↓ne_eq, ↓beq_eq_false_iff_ne, ↓Bool.not_eq_true] at ha; try simp only [Ty.dflt, Int.toNat_natCast] at ha)
        have ha' : (xs.getD i 0) ∈ bench ∨ (bench.length : Int) ≠ r := ha
        (repeat (first   | refine JL.Q1 (xok rfl rfl rfl rfl) rfl rfl ?_   | refine JL.G1 (xok rfl rfl rfl rfl) rfl rfl rfl ?_   | refine JL.g1 (xok rfl rfl rfl rfl) rfl rfl rfl (fun hgd => And.intro hgd (fun hpk => Bool.and_eq_true_iff.2 ⟨hgd, by rw [hpk]; rfl⟩)) ?_   | refine JL.M1 (xok rfl rfl rfl rfl) rfl rfl ?_   | refine JL.M0 (xok rfl rfl rfl rfl) rfl ?_   | refine JL.Q0 (xok rfl rfl rfl rfl) rfl ?_   | refine JL.nilF ?_   | refine JL.nil ?_   | refine JC.scope ?_   | refine QX.tn ?_   | refine JC.seq ?_   | refine JC.region ?_   | refine JC.Draw (xok rfl rfl rfl rfl) ?_   | refine JC.block ?_   | refine JC.skip ?_   | refine JC.label ?_   | refine JC.exit ?_   | refine JC.ret ?_   | refine QX.te ?_ | refine QX.tr ?_ | refine QX.bn ?_ | refine QX.be ?_ | refine QX.bx rfl ?_ | refine QX.br ?_ | refine QX.sn ?_ | refine QX.se ?_ | refine QX.sr ?_ | refine QX.ee ?_ | refine QX.eo rfl ?_ | refine QX.er ?_ | refine QX.en ?_))
        refine JC.cond rfl (fun hb => ?_) (fun hb => ?_)
        · (simp only [↓bif_or, ↓bif_and, ↓Bool.or_eq_true, ↓Bool.or_eq_false_iff, ↓Bool.and_eq_true, ↓Bool.and_eq_false_iff, ↓Bool.not_eq_true', ↓Bool.not_eq_false', ↓decide_eq_true_eq, ↓decide_eq_false_iff_not, ↓beq_iff_eq, ↓bne_iff_ne, ↓bne_eq_false_iff_eq, ↓ne_eq, ↓beq_eq_false_iff_ne, ↓Bool.not_eq_true] at hb; try simp only [Ty.dflt, Int.toNat_natCast] at hb)
          rw [if_neg (fun h : okR r (xs.getD i 0) (plan.getD i 0) bench => hb (h.1 ha'))] at hinv
          (repeat (first   | refine JL.Q1 (xok rfl rfl rfl rfl) rfl rfl ?_   | refine JL.G1 (xok rfl rfl rfl rfl) rfl rfl rfl ?_   | refine JL.g1 (xok rfl rfl rfl rfl) rfl rfl rfl (fun hgd => And.intro hgd (fun hpk => Bool.and_eq_true_iff.2 ⟨hgd, by rw [hpk]; rfl⟩)) ?_   | refine JL.M1 (xok rfl rfl rfl rfl) rfl rfl ?_   | refine JL.M0 (xok rfl rfl rfl rfl) rfl ?_   | refine JL.Q0 (xok rfl rfl rfl rfl) rfl ?_   | refine JL.nilF ?_   | refine JL.nil ?_   | refine JC.scope ?_   | refine QX.tn ?_   | refine JC.seq ?_   | refine JC.region ?_   | refine JC.Draw (xok rfl rfl rfl rfl) ?_   | refine JC.block ?_   | refine JC.skip ?_   | refine JC.label ?_   | refine JC.exit ?_   | refine JC.ret ?_   | refine QX.te ?_ | refine QX.tr ?_ | refine QX.bn ?_ | refine QX.be ?_ | refine QX.bx rfl ?_ | refine QX.br ?_ | refine QX.sn ?_ | refine QX.se ?_ | refine QX.sr ?_ | refine QX.ee ?_ | refine QX.eo rfl ?_ | refine QX.er ?_ | refine QX.en ?_))
          refine ⟨.inl rfl, _, _, rfl, trivial, ?_⟩
          rw [← hinv]; rfl
        · (simp only [↓bif_or, ↓bif_and, ↓Bool.or_eq_true, ↓Bool.or_eq_false_iff, ↓Bool.and_eq_true, ↓Bool.and_eq_false_iff, ↓Bool.not_eq_true', ↓Bool.not_eq_false', ↓decide_eq_true_eq, ↓decide_eq_false_iff_not, ↓beq_iff_eq, ↓bne_iff_ne, ↓bne_eq_false_iff_eq, ↓ne_eq, ↓beq_eq_false_iff_ne, ↓Bool.not_eq_true] at hb; try simp only [Ty.dflt, Int.toNat_natCast] at hb)
          have hb' : (plan.getD i 0) = -1 := by omega
          (repeat (first   | refine JL.Q1 (xok rfl rfl rfl rfl) rfl rfl ?_   | refine JL.G1 (xok rfl rfl rfl rfl) rfl rfl rfl ?_   | refine JL.g1 (xok rfl rfl rfl rfl) rfl rfl rfl (fun hgd => And.intro hgd (fun hpk => Bool.and_eq_true_iff.2 ⟨hgd, by rw [hpk]; rfl⟩)) ?_   | refine JL.M1 (xok rfl rfl rfl rfl) rfl rfl ?_   | refine JL.M0 (xok rfl rfl rfl rfl) rfl ?_   | refine JL.Q0 (xok rfl rfl rfl rfl) rfl ?_   | refine JL.nilF ?_   | refine JL.nil ?_   | refine JC.scope ?_   | refine QX.tn ?_   | refine JC.seq ?_   | refine JC.region ?_   | refine JC.Draw (xok rfl rfl rfl rfl) ?_   | refine JC.block ?_   | refine JC.skip ?_   | refine JC.label ?_   | refine JC.exit ?_   | refine JC.ret ?_   | refine QX.te ?_ | refine QX.tr ?_ | refine QX.bn ?_ | refine QX.be ?_ | refine QX.bx rfl ?_ | refine QX.br ?_ | refine QX.sn ?_ | refine QX.se ?_ | refine QX.sr ?_ | refine QX.ee ?_ | refine QX.eo rfl ?_ | refine QX.er ?_ | refine QX.en ?_))
          exact ⟨(), by (exact JW.Auto rfl), fun _ => hb', fun h => absurd ha' h⟩
      · (simp only [↓bif_or, ↓bif_and, ↓Bool.or_eq_true, ↓Bool.or_eq_false_iff, ↓Bool.and_eq_true, ↓Bool.and_eq_false_iff, ↓Bool.not_eq_true', ↓Bool.not_eq_false', ↓decide_eq_true_eq, ↓decide_eq_false_iff_not, ↓beq_iff_eq, ↓bne_iff_ne, ↓bne_eq_false_iff_eq, ↓ne_eq, ↓beq_eq_false_iff_ne, ↓Bool.not_eq_true] at ha; try simp only [Ty.dflt, Int.toNat_natCast] at ha)
        have ha' : ¬((xs.getD i 0) ∈ bench ∨ (bench.length : Int) ≠ r) := by simpa using ha
        (repeat (first   | refine JL.Q1 (xok rfl rfl rfl rfl) rfl rfl ?_   | refine JL.G1 (xok rfl rfl rfl rfl) rfl rfl rfl ?_   | refine JL.g1 (xok rfl rfl rfl rfl) rfl rfl rfl (fun hgd => And.intro hgd (fun hpk => Bool.and_eq_true_iff.2 ⟨hgd, by rw [hpk]; rfl⟩)) ?_   | refine JL.M1 (xok rfl rfl rfl rfl) rfl rfl ?_   | refine JL.M0 (xok rfl rfl rfl rfl) rfl ?_   | refine JL.Q0 (xok rfl rfl rfl rfl) rfl ?_   | refine JL.nilF ?_   | refine JL.nil ?_   | refine JC.scope ?_   | refine QX.tn ?_   | refine JC.seq ?_   | refine JC.region ?_   | refine JC.Draw (xok rfl rfl rfl rfl) ?_   | refine JC.block ?_   | refine JC.skip ?_   | refine JC.label ?_   | refine JC.exit ?_   | refine JC.ret ?_   | refine QX.te ?_ | refine QX.tr ?_ | refine QX.bn ?_ | refine QX.be ?_ | refine QX.bx rfl ?_ | refine QX.br ?_ | refine QX.sn ?_ | refine QX.se ?_ | refine QX.sr ?_ | refine QX.ee ?_ | refine QX.eo rfl ?_ | refine QX.er ?_ | refine QX.en ?_ | refine JL.S1 rfl (d43) rfl trivial rfl ?_ | refine JL.C1 rfl (d43) rfl (fun r hr => ?_); subst hr | refine JL.S1g rfl rfl (fun hgd => d43) rfl trivial rfl ?_))
        refine JC.cond rfl (fun hb => ?_) (fun hb => ?_)
        · (simp only [↓bif_or, ↓bif_and, ↓Bool.or_eq_true, ↓Bool.or_eq_false_iff, ↓Bool.and_eq_true, ↓Bool.and_eq_false_iff, ↓Bool.not_eq_true', ↓Bool.not_eq_false', ↓decide_eq_true_eq, ↓decide_eq_false_iff_not, ↓beq_iff_eq, ↓bne_iff_ne, ↓bne_eq_false_iff_eq, ↓ne_eq, ↓beq_eq_false_iff_ne, ↓Bool.not_eq_true] at hb; try simp only [Ty.dflt, Int.toNat_natCast] at hb)
          rw [if_neg (fun h : okR r (xs.getD i 0) (plan.getD i 0) bench => hb (h.2 ha'))] at hinv
          (repeat (first   | refine JL.Q1 (xok rfl rfl rfl rfl) rfl rfl ?_   | refine JL.G1 (xok rfl rfl rfl rfl) rfl rfl rfl ?_   | refine JL.g1 (xok rfl rfl rfl rfl) rfl rfl rfl (fun hgd => And.intro hgd (fun hpk => Bool.and_eq_true_iff.2 ⟨hgd, by rw [hpk]; rfl⟩)) ?_   | refine JL.M1 (xok rfl rfl rfl rfl) rfl rfl ?_   | refine JL.M0 (xok rfl rfl rfl rfl) rfl ?_   | refine JL.Q0 (xok rfl rfl rfl rfl) rfl ?_   | refine JL.nilF ?_   | refine JL.nil ?_   | refine JC.scope ?_   | refine QX.tn ?_   | refine JC.seq ?_   | refine JC.region ?_   | refine JC.Draw (xok rfl rfl rfl rfl) ?_   | refine JC.block ?_   | refine JC.skip ?_   | refine JC.label ?_   | refine JC.exit ?_   | refine JC.ret ?_   | refine QX.te ?_ | refine QX.tr ?_ | refine QX.bn ?_ | refine QX.be ?_ | refine QX.bx rfl ?_ | refine QX.br ?_ | refine QX.sn ?_ | refine QX.se ?_ | refine QX.sr ?_ | refine QX.ee ?_ | refine QX.eo rfl ?_ | refine QX.er ?_ | refine QX.en ?_))
          refine ⟨.inl rfl, _, _, rfl, trivial, ?_⟩
          rw [← hinv]; rfl
        · (simp only [↓bif_or, ↓bif_and, ↓Bool.or_eq_true, ↓Bool.or_eq_false_iff, ↓Bool.and_eq_true, ↓Bool.and_eq_false_iff, ↓Bool.not_eq_true', ↓Bool.not_eq_false', ↓decide_eq_true_eq, ↓decide_eq_false_iff_not, ↓beq_iff_eq, ↓bne_iff_ne, ↓bne_eq_false_iff_eq, ↓ne_eq, ↓beq_eq_false_iff_ne, ↓Bool.not_eq_true] at hb; try simp only [Ty.dflt, Int.toNat_natCast] at hb)
          (repeat (first   | refine JL.Q1 (xok rfl rfl rfl rfl) rfl rfl ?_   | refine JL.G1 (xok rfl rfl rfl rfl) rfl rfl rfl ?_   | refine JL.g1 (xok rfl rfl rfl rfl) rfl rfl rfl (fun hgd => And.intro hgd (fun hpk => Bool.and_eq_true_iff.2 ⟨hgd, by rw [hpk]; rfl⟩)) ?_   | refine JL.M1 (xok rfl rfl rfl rfl) rfl rfl ?_   | refine JL.M0 (xok rfl rfl rfl rfl) rfl ?_   | refine JL.Q0 (xok rfl rfl rfl rfl) rfl ?_   | refine JL.nilF ?_   | refine JL.nil ?_   | refine JC.scope ?_   | refine QX.tn ?_   | refine JC.seq ?_   | refine JC.region ?_   | refine JC.Draw (xok rfl rfl rfl rfl) ?_   | refine JC.block ?_   | refine JC.skip ?_   | refine JC.label ?_   | refine JC.exit ?_   | refine JC.ret ?_   | refine QX.te ?_ | refine QX.tr ?_ | refine QX.bn ?_ | refine QX.be ?_ | refine QX.bx rfl ?_ | refine QX.br ?_ | refine QX.sn ?_ | refine QX.se ?_ | refine QX.sr ?_ | refine QX.ee ?_ | refine QX.eo rfl ?_ | refine QX.er ?_ | refine QX.en ?_))
          exact ⟨(), by (exact JW.Auto rfl), fun h => absurd h ha', fun _ => hb⟩
    · rw [if_pos hok] at hinv
      (repeat (first   | refine JL.Q1 (xok rfl rfl rfl rfl) rfl rfl ?_   | refine JL.G1 (xok rfl rfl rfl rfl) rfl rfl rfl ?_   | refine JL.g1 (xok rfl rfl rfl rfl) rfl rfl rfl (fun hgd => And.intro hgd (fun hpk => Bool.and_eq_true_iff.2 ⟨hgd, by rw [hpk]; rfl⟩)) ?_   | refine JL.M1 (xok rfl rfl rfl rfl) rfl rfl ?_   | refine JL.M0 (xok rfl rfl rfl rfl) rfl ?_   | refine JL.Q0 (xok rfl rfl rfl rfl) rfl ?_   | refine JL.nilF ?_   | refine JL.nil ?_   | refine JC.scope ?_   | refine QX.tn ?_   | refine JC.seq ?_   | refine JC.region ?_   | refine JC.Draw (xok rfl rfl rfl rfl) ?_   | refine JC.block ?_   | refine JC.skip ?_   | refine JC.label ?_   | refine JC.exit ?_   | refine JC.ret ?_   | refine QX.te ?_ | refine QX.tr ?_ | refine QX.bn ?_ | refine QX.be ?_ | refine QX.bx rfl ?_ | refine QX.br ?_ | refine QX.sn ?_ | refine QX.se ?_ | refine QX.sr ?_ | refine QX.ee ?_ | refine QX.eo rfl ?_ | refine QX.er ?_ | refine QX.en ?_))
      refine JC.ghost 14 3 (.int .i64) rfl ?_
      refine JC.loop (fun k : Nat => ⟨[(1, vL plan), (2, .lf (.optr 0 [])), (7, .lf (.osl 1)), (8, .lf (.osl 2)), (9, vL bench), (10, vI (i : Int)), (11, vI (xs.getD i 0)), (12, vB (decide ((xs.getD i 0) ∈ bench))), (14, .lf (.osl 3)), (15, vI (k : Int))], [(0, .cell dayT (vD r xs)), (1, .sl 22 (.slice (.int .i64)) bs), (2, .sl 3 (.int .i64) ks), (3, .sl 3 (.int .i64) (nextR bench (xs.getD i 0) (plan.getD i 0) k))], 4⟩)
        (fun k => k ≤ 8) (fun k => 8 - k) 0 (by simp) (by (exact JW.Auto rfl)) fun k hk => ?_
      have hkl2 := nextR_len bench (xs.getD i 0) (plan.getD i 0) k
      have e43 := fn43 bench (k : Int)
      (repeat (first   | refine JL.Q1 (xok rfl rfl rfl rfl) rfl rfl ?_   | refine JL.G1 (xok rfl rfl rfl rfl) rfl rfl rfl ?_   | refine JL.g1 (xok rfl rfl rfl rfl) rfl rfl rfl (fun hgd => And.intro hgd (fun hpk => Bool.and_eq_true_iff.2 ⟨hgd, by rw [hpk]; rfl⟩)) ?_   | refine JL.M1 (xok rfl rfl rfl rfl) rfl rfl ?_   | refine JL.M0 (xok rfl rfl rfl rfl) rfl ?_   | refine JL.Q0 (xok rfl rfl rfl rfl) rfl ?_   | refine JL.nilF ?_   | refine JL.nil ?_   | refine JC.scope ?_   | refine QX.tn ?_   | refine JC.seq ?_   | refine JC.region ?_   | refine JC.Draw (xok rfl rfl rfl rfl) ?_   | refine JC.block ?_   | refine JC.skip ?_   | refine JC.label ?_   | refine JC.exit ?_   | refine JC.ret ?_   | refine QX.te ?_ | refine QX.tr ?_ | refine QX.bn ?_ | refine QX.be ?_ | refine QX.bx rfl ?_ | refine QX.br ?_ | refine QX.sn ?_ | refine QX.se ?_ | refine QX.sr ?_ | refine QX.ee ?_ | refine QX.eo rfl ?_ | refine QX.er ?_ | refine QX.en ?_))
      refine JC.cond rfl (fun hd => ?_) (fun hd => ?_)
      · (simp only [↓bif_or, ↓bif_and, ↓Bool.or_eq_true, ↓Bool.or_eq_false_iff, ↓Bool.and_eq_true, ↓Bool.and_eq_false_iff, ↓Bool.not_eq_true', ↓Bool.not_eq_false', ↓decide_eq_true_eq, ↓decide_eq_false_iff_not, ↓beq_iff_eq, ↓bne_iff_ne, ↓bne_eq_false_iff_eq, ↓ne_eq, ↓beq_eq_false_iff_ne, ↓Bool.not_eq_true] at hd; try simp only [Ty.dflt, Int.toNat_natCast] at hd)
        (repeat (first   | refine JL.Q1 (xok rfl rfl rfl rfl) rfl rfl ?_   | refine JL.G1 (xok rfl rfl rfl rfl) rfl rfl rfl ?_   | refine JL.g1 (xok rfl rfl rfl rfl) rfl rfl rfl (fun hgd => And.intro hgd (fun hpk => Bool.and_eq_true_iff.2 ⟨hgd, by rw [hpk]; rfl⟩)) ?_   | refine JL.M1 (xok rfl rfl rfl rfl) rfl rfl ?_   | refine JL.M0 (xok rfl rfl rfl rfl) rfl ?_   | refine JL.Q0 (xok rfl rfl rfl rfl) rfl ?_   | refine JL.nilF ?_   | refine JL.nil ?_   | refine JC.scope ?_   | refine QX.tn ?_   | refine JC.seq ?_   | refine JC.region ?_   | refine JC.Draw (xok rfl rfl rfl rfl) ?_   | refine JC.block ?_   | refine JC.skip ?_   | refine JC.label ?_   | refine JC.exit ?_   | refine JC.ret ?_   | refine QX.te ?_ | refine QX.tr ?_ | refine QX.bn ?_ | refine QX.be ?_ | refine QX.bx rfl ?_ | refine QX.br ?_ | refine QX.sn ?_ | refine QX.se ?_ | refine QX.sr ?_ | refine QX.ee ?_ | refine QX.eo rfl ?_ | refine QX.er ?_ | refine QX.en ?_ | refine JL.S1 rfl (e43) rfl trivial rfl ?_ | refine JL.C1 rfl (e43) rfl (fun r hr => ?_); subst hr | refine JL.S1g rfl rfl (fun hgd => e43) rfl trivial rfl ?_))
        refine JC.cond rfl (fun he => ?_) (fun he => ?_)
        · have he' : (k : Int) = (xs.getD i 0) ∨ ((k : Int) ∈ bench ∧ (k : Int) ≠ (plan.getD i 0)) := pick3.1 he
          (repeat (first   | refine JL.Q1 (xok rfl rfl rfl rfl) rfl rfl ?_   | refine JL.G1 (xok rfl rfl rfl rfl) rfl rfl rfl ?_   | refine JL.g1 (xok rfl rfl rfl rfl) rfl rfl rfl (fun hgd => And.intro hgd (fun hpk => Bool.and_eq_true_iff.2 ⟨hgd, by rw [hpk]; rfl⟩)) ?_   | refine JL.M1 (xok rfl rfl rfl rfl) rfl rfl ?_   | refine JL.M0 (xok rfl rfl rfl rfl) rfl ?_   | refine JL.Q0 (xok rfl rfl rfl rfl) rfl ?_   | refine JL.nilF ?_   | refine JL.nil ?_   | refine JC.scope ?_   | refine QX.tn ?_   | refine JC.seq ?_   | refine JC.region ?_   | refine JC.Draw (xok rfl rfl rfl rfl) ?_   | refine JC.block ?_   | refine JC.skip ?_   | refine JC.label ?_   | refine JC.exit ?_   | refine JC.ret ?_   | refine QX.te ?_ | refine QX.tr ?_ | refine QX.bn ?_ | refine QX.be ?_ | refine QX.bx rfl ?_ | refine QX.br ?_ | refine QX.sn ?_ | refine QX.se ?_ | refine QX.sr ?_ | refine QX.ee ?_ | refine QX.eo rfl ?_ | refine QX.er ?_ | refine QX.en ?_))
          have hn : nextR bench (xs.getD i 0) (plan.getD i 0) (k + 1) = nextR bench (xs.getD i 0) (plan.getD i 0) k ++ [(k : Int)] := by rw [nextR, if_pos he']
          exact ⟨k + 1, by (refine JW.auto rfl ?_ ?_ ?_ ?_ rfl <;> (repeat' (first | exact trivial | exact rfl | refine And.intro ?_ ?_ | exact Nat.le_of_ble_eq_true rfl | refine HO.bdF ?_ | refine HO.bdP ?_ | (refine congrArg (fun z : Int => some (AV.val (.int .i64) z)) ?_; push_cast; omega) | exact congrArg (fun z : List Int => some (HO.sl 3 (.int .i64) z)) hn.symm))), by omega, by omega⟩
        · have he' : ¬((k : Int) = (xs.getD i 0) ∨ ((k : Int) ∈ bench ∧ (k : Int) ≠ (plan.getD i 0))) := fun h => Bool.noConfusion (he.symm.trans (pick3.2 h))
          (repeat (first   | refine JL.Q1 (xok rfl rfl rfl rfl) rfl rfl ?_   | refine JL.G1 (xok rfl rfl rfl rfl) rfl rfl rfl ?_   | refine JL.g1 (xok rfl rfl rfl rfl) rfl rfl rfl (fun hgd => And.intro hgd (fun hpk => Bool.and_eq_true_iff.2 ⟨hgd, by rw [hpk]; rfl⟩)) ?_   | refine JL.M1 (xok rfl rfl rfl rfl) rfl rfl ?_   | refine JL.M0 (xok rfl rfl rfl rfl) rfl ?_   | refine JL.Q0 (xok rfl rfl rfl rfl) rfl ?_   | refine JL.nilF ?_   | refine JL.nil ?_   | refine JC.scope ?_   | refine QX.tn ?_   | refine JC.seq ?_   | refine JC.region ?_   | refine JC.Draw (xok rfl rfl rfl rfl) ?_   | refine JC.block ?_   | refine JC.skip ?_   | refine JC.label ?_   | refine JC.exit ?_   | refine JC.ret ?_   | refine QX.te ?_ | refine QX.tr ?_ | refine QX.bn ?_ | refine QX.be ?_ | refine QX.bx rfl ?_ | refine QX.br ?_ | refine QX.sn ?_ | refine QX.se ?_ | refine QX.sr ?_ | refine QX.ee ?_ | refine QX.eo rfl ?_ | refine QX.er ?_ | refine QX.en ?_))
          exact ⟨k + 1, by (refine JW.auto rfl ?_ ?_ ?_ ?_ rfl <;> (repeat' (first | exact trivial | exact rfl | refine And.intro ?_ ?_ | exact Nat.le_of_ble_eq_true rfl | refine HO.bdF ?_ | refine HO.bdP ?_ | (refine congrArg (fun z : Int => some (AV.val (.int .i64) z)) ?_; push_cast; omega) | (refine congrArg (fun z : List Int => some (HO.sl 3 (.int .i64) z)) ?_; rw [nextR, if_neg he'])))), by omega, by omega⟩
      · (simp only [↓bif_or, ↓bif_and, ↓Bool.or_eq_true, ↓Bool.or_eq_false_iff, ↓Bool.and_eq_true, ↓Bool.and_eq_false_iff, ↓Bool.not_eq_true', ↓Bool.not_eq_false', ↓decide_eq_true_eq, ↓decide_eq_false_iff_not, ↓beq_iff_eq, ↓bne_iff_ne, ↓bne_eq_false_iff_eq, ↓ne_eq, ↓beq_eq_false_iff_ne, ↓Bool.not_eq_true] at hd; try simp only [Ty.dflt, Int.toNat_natCast] at hd)
        obtain rfl : k = 8 := by omega
        (repeat (first   | refine JL.Q1 (xok rfl rfl rfl rfl) rfl rfl ?_   | refine JL.G1 (xok rfl rfl rfl rfl) rfl rfl rfl ?_   | refine JL.g1 (xok rfl rfl rfl rfl) rfl rfl rfl (fun hgd => And.intro hgd (fun hpk => Bool.and_eq_true_iff.2 ⟨hgd, by rw [hpk]; rfl⟩)) ?_   | refine JL.M1 (xok rfl rfl rfl rfl) rfl rfl ?_   | refine JL.M0 (xok rfl rfl rfl rfl) rfl ?_   | refine JL.Q0 (xok rfl rfl rfl rfl) rfl ?_   | refine JL.nilF ?_   | refine JL.nil ?_   | refine JC.scope ?_   | refine QX.tn ?_   | refine JC.seq ?_   | refine JC.region ?_   | refine JC.Draw (xok rfl rfl rfl rfl) ?_   | refine JC.block ?_   | refine JC.skip ?_   | refine JC.label ?_   | refine JC.exit ?_   | refine JC.ret ?_   | refine QX.te ?_ | refine QX.tr ?_ | refine QX.bn ?_ | refine QX.be ?_ | refine QX.bx rfl ?_ | refine QX.br ?_ | refine QX.sn ?_ | refine QX.se ?_ | refine QX.sr ?_ | refine QX.ee ?_ | refine QX.eo rfl ?_ | refine QX.er ?_ | refine QX.en ?_))
        (refine JC.frz [3] [1,2,7,8,9,10,12,14,77] rfl (by (first | exact trivial | (try dsimp only [allP, inK, idxC, loC, lohiC, fullC, underG, List.append, List.nil_append, List.cons_append, Ty.den, Ty.dflt, Int.toNat_natCast, List.length_cons, List.length_nil] at *); first | omega | ((repeat' (first | exact trivial | assumption | refine And.intro ?_ ?_ | exact fun h => h | (intro hpk; first | exact hpk | simp only [wantB, hpk, Bool.not_false, Bool.not_true]))) <;> omega) | fail)) ?_)
        refine JC.cond rfl (fun he => ?_) (fun he => ?_)
        · (simp only [↓bif_or, ↓bif_and, ↓Bool.or_eq_true, ↓Bool.or_eq_false_iff, ↓Bool.and_eq_true, ↓Bool.and_eq_false_iff, ↓Bool.not_eq_true', ↓Bool.not_eq_false', ↓decide_eq_true_eq, ↓decide_eq_false_iff_not, ↓beq_iff_eq, ↓bne_iff_ne, ↓bne_eq_false_iff_eq, ↓ne_eq, ↓beq_eq_false_iff_ne, ↓Bool.not_eq_true] at he; try simp only [Ty.dflt, Int.toNat_natCast] at he)
          (repeat (first   | refine JL.Q1 (xok rfl rfl rfl rfl) rfl rfl ?_   | refine JL.G1 (xok rfl rfl rfl rfl) rfl rfl rfl ?_   | refine JL.g1 (xok rfl rfl rfl rfl) rfl rfl rfl (fun hgd => And.intro hgd (fun hpk => Bool.and_eq_true_iff.2 ⟨hgd, by rw [hpk]; rfl⟩)) ?_   | refine JL.M1 (xok rfl rfl rfl rfl) rfl rfl ?_   | refine JL.M0 (xok rfl rfl rfl rfl) rfl ?_   | refine JL.Q0 (xok rfl rfl rfl rfl) rfl ?_   | refine JL.nilF ?_   | refine JL.nil ?_   | refine JC.scope ?_   | refine QX.tn ?_   | refine JC.seq ?_   | refine JC.region ?_   | refine JC.Draw (xok rfl rfl rfl rfl) ?_   | refine JC.block ?_   | refine JC.skip ?_   | refine JC.label ?_   | refine JC.exit ?_   | refine JC.ret ?_   | refine QX.te ?_ | refine QX.tr ?_ | refine QX.bn ?_ | refine QX.be ?_ | refine QX.bx rfl ?_ | refine QX.br ?_ | refine QX.sn ?_ | refine QX.se ?_ | refine QX.sr ?_ | refine QX.ee ?_ | refine QX.eo rfl ?_ | refine QX.er ?_ | refine QX.en ?_))
          refine ⟨(i + 1, nextR bench (xs.getD i 0) (plan.getD i 0) 8, bs ++ [nextR bench (xs.getD i 0) (plan.getD i 0) 8], ks ++ [(i : Int)]), by (exact JW.Auto rfl), ⟨by omega, by simp [hbl], by simp; omega, ?_⟩, by dsimp only; omega⟩
          rw [← hinv]
          dsimp only
          cases playedF r ((xs.zip plan).drop (i + 1)) (i + 1) (nextR bench (xs.getD i 0) (plan.getD i 0) 8) with
          | none => rfl
          | some q => simp only [pre2]; rw [if_pos he]; simp
        · (simp only [↓bif_or, ↓bif_and, ↓Bool.or_eq_true, ↓Bool.or_eq_false_iff, ↓Bool.and_eq_true, ↓Bool.and_eq_false_iff, ↓Bool.not_eq_true', ↓Bool.not_eq_false', ↓decide_eq_true_eq, ↓decide_eq_false_iff_not, ↓beq_iff_eq, ↓bne_iff_ne, ↓bne_eq_false_iff_eq, ↓ne_eq, ↓beq_eq_false_iff_ne, ↓Bool.not_eq_true] at he; try simp only [Ty.dflt, Int.toNat_natCast] at he)
          (repeat (first   | refine JL.Q1 (xok rfl rfl rfl rfl) rfl rfl ?_   | refine JL.G1 (xok rfl rfl rfl rfl) rfl rfl rfl ?_   | refine JL.g1 (xok rfl rfl rfl rfl) rfl rfl rfl (fun hgd => And.intro hgd (fun hpk => Bool.and_eq_true_iff.2 ⟨hgd, by rw [hpk]; rfl⟩)) ?_   | refine JL.M1 (xok rfl rfl rfl rfl) rfl rfl ?_   | refine JL.M0 (xok rfl rfl rfl rfl) rfl ?_   | refine JL.Q0 (xok rfl rfl rfl rfl) rfl ?_   | refine JL.nilF ?_   | refine JL.nil ?_   | refine JC.scope ?_   | refine QX.tn ?_   | refine JC.seq ?_   | refine JC.region ?_   | refine JC.Draw (xok rfl rfl rfl rfl) ?_   | refine JC.block ?_   | refine JC.skip ?_   | refine JC.label ?_   | refine JC.exit ?_   | refine JC.ret ?_   | refine QX.te ?_ | refine QX.tr ?_ | refine QX.bn ?_ | refine QX.be ?_ | refine QX.bx rfl ?_ | refine QX.br ?_ | refine QX.sn ?_ | refine QX.se ?_ | refine QX.sr ?_ | refine QX.ee ?_ | refine QX.eo rfl ?_ | refine QX.er ?_ | refine QX.en ?_))
          refine ⟨(i + 1, nextR bench (xs.getD i 0) (plan.getD i 0) 8, bs ++ [nextR bench (xs.getD i 0) (plan.getD i 0) 8], ks), by (exact JW.Auto rfl), ⟨by omega, by simp [hbl], by simp; omega, ?_⟩, by dsimp only; omega⟩
          rw [← hinv]
          dsimp only
          cases playedF r ((xs.zip plan).drop (i + 1)) (i + 1) (nextR bench (xs.getD i 0) (plan.getD i 0) 8) with
          | none => rfl
          | some q => simp only [pre2]; rw [if_neg he]; simp
  · (simp only [↓bif_or, ↓bif_and, ↓Bool.or_eq_true, ↓Bool.or_eq_false_iff, ↓Bool.and_eq_true, ↓Bool.and_eq_false_iff, ↓Bool.not_eq_true', ↓Bool.not_eq_false', ↓decide_eq_true_eq, ↓decide_eq_false_iff_not, ↓beq_iff_eq, ↓bne_iff_ne, ↓bne_eq_false_iff_eq, ↓ne_eq, ↓beq_eq_false_iff_ne, ↓Bool.not_eq_true] at hc; try simp only [Ty.dflt, Int.toNat_natCast] at hc)
    obtain rfl : i = xs.length := by omega
    (repeat (first   | refine JL.Q1 (xok rfl rfl rfl rfl) rfl rfl ?_   | refine JL.G1 (xok rfl rfl rfl rfl) rfl rfl rfl ?_   | refine JL.g1 (xok rfl rfl rfl rfl) rfl rfl rfl (fun hgd => And.intro hgd (fun hpk => Bool.and_eq_true_iff.2 ⟨hgd, by rw [hpk]; rfl⟩)) ?_   | refine JL.M1 (xok rfl rfl rfl rfl) rfl rfl ?_   | refine JL.M0 (xok rfl rfl rfl rfl) rfl ?_   | refine JL.Q0 (xok rfl rfl rfl rfl) rfl ?_   | refine JL.nilF ?_   | refine JL.nil ?_   | refine JC.scope ?_   | refine QX.tn ?_   | refine JC.seq ?_   | refine JC.region ?_   | refine JC.Draw (xok rfl rfl rfl rfl) ?_   | refine JC.block ?_   | refine JC.skip ?_   | refine JC.label ?_   | refine JC.exit ?_   | refine JC.ret ?_   | refine QX.te ?_ | refine QX.tr ?_ | refine QX.bn ?_ | refine QX.be ?_ | refine QX.bx rfl ?_ | refine QX.br ?_ | refine QX.sn ?_ | refine QX.se ?_ | refine QX.sr ?_ | refine QX.ee ?_ | refine QX.eo rfl ?_ | refine QX.er ?_ | refine QX.en ?_))
    refine ⟨.inl rfl, _, _, rfl, trivial, ?_⟩
    rw [List.drop_of_length_le (by simp; omega), playedF] at hinv
    rw [← hinv]
    simp [pre2, playedV]
end Go.Proofs.Ytbmgijgnbilnoaa

namespace Go.Proofs.Ytbmgijgnbilnoaa
open Go Go.RowKit Ox
attribute [local irreducible] JC JL JW

def plannedE (r : Int) (xs plan : List Int) : Int :=
  if dayErr r xs ≠ 0 then dayErr r xs else if plan.length ≠ xs.length then 15 else match playedR r xs plan with | some _ => 0 | none => 16

theorem playedV_some {r : Int} {xs plan : List Int} {q : List (List Int) × List Int} (h : playedR r xs plan = some q) : playedV (playedR r xs plan) = .tup (.acons (vLL q.1) (.acons (vL q.2) (.acons (vB true) .anil))) := by rw [h]; rfl
theorem playedV_none {r : Int} {xs plan : List Int} (h : playedR r xs plan = none) : playedV (playedR r xs plan) = .tup (.acons (vLL []) (.acons (vL []) (.acons (vB false) .anil))) := by rw [h]; rfl

theorem fn53s {r : Int} {xs plan : List Int} {q : List (List Int) × List Int} (h : playedR r xs plan = some q) (hp : plan.length = xs.length) (hl : xs.length ≤ 1000) : Ox.Fn Go.Proofs.Try.prog 53 (.acons (vD r xs) (.acons (vL plan) .anil)) (· = .tup (.acons (vLL q.1) (.acons (vL q.2) (.acons (vB true) .anil)))) := by
  have := fn53 r xs plan hp hl
  rwa [playedV_some h] at this
theorem fn53n {r : Int} {xs plan : List Int} (h : playedR r xs plan = none) (hp : plan.length = xs.length) (hl : xs.length ≤ 1000) : Ox.Fn Go.Proofs.Try.prog 53 (.acons (vD r xs) (.acons (vL plan) .anil)) (· = .tup (.acons (vLL []) (.acons (vL []) (.acons (vB false) .anil)))) := by
  have := fn53 r xs plan hp hl
  rwa [playedV_none h] at this

theorem fn52 (r : Int) (xs plan : List Int) : Ox.Fn Go.Proofs.Try.prog 52 (.acons (vD r xs) (.acons (vL plan) .anil)) (· = vI (plannedE r xs plan)) := by
  refine Ox.Fn.intro xok Go.Proofs.Try.func52 rfl Go.Proofs.Try.call52 (Nat.le_of_ble_eq_true rfl) (fun E M0 up => ?_)
  refine JC.lenOf 0 rfl fun hlen => ?_
  replace hlen : xs.length ≤ 9223372036854775807 := hlen.2.1.1
  refine JC.lenOf 1 rfl fun hlen2 => ?_
  replace hlen2 : plan.length ≤ 9223372036854775807 := hlen2.1
  have h20 := fn20 r xs
  (repeat (first   | refine JL.Q1 (xok rfl rfl rfl rfl) rfl rfl ?_   | refine JL.G1 (xok rfl rfl rfl rfl) rfl rfl rfl ?_   | refine JL.g1 (xok rfl rfl rfl rfl) rfl rfl rfl (fun hgd => And.intro hgd (fun hpk => Bool.and_eq_true_iff.2 ⟨hgd, by rw [hpk]; rfl⟩)) ?_   | refine JL.M1 (xok rfl rfl rfl rfl) rfl rfl ?_   | refine JL.M0 (xok rfl rfl rfl rfl) rfl ?_   | refine JL.Q0 (xok rfl rfl rfl rfl) rfl ?_   | refine JL.nilF ?_   | refine JL.nil ?_   | refine JC.scope ?_   | refine QX.tn ?_   | refine JC.seq ?_   | refine JC.region ?_   | refine JC.Draw (xok rfl rfl rfl rfl) ?_   | refine JC.block ?_   | refine JC.skip ?_   | refine JC.label ?_   | refine JC.exit ?_   | refine JC.ret ?_   | refine QX.te ?_ | refine QX.tr ?_ | refine QX.bn ?_ | refine QX.be ?_ | refine QX.bx rfl ?_ | refine QX.br ?_ | refine QX.sn ?_ | refine QX.se ?_ | refine QX.sr ?_ | refine QX.ee ?_ | refine QX.eo rfl ?_ | refine QX.er ?_ | refine QX.en ?_ | refine JL.S1 rfl (h20) rfl trivial rfl ?_ | refine JL.C1 rfl (h20) rfl (fun r hr => ?_); subst hr | refine JL.S1g rfl rfl (fun hgd => h20) rfl trivial rfl ?_))
  refine JC.cond rfl (fun hc => ?_) (fun hc => ?_)
  · (simp only [↓bif_or, ↓bif_and, ↓Bool.or_eq_true, ↓Bool.or_eq_false_iff, ↓Bool.and_eq_true, ↓Bool.and_eq_false_iff, ↓Bool.not_eq_true', ↓Bool.not_eq_false', ↓decide_eq_true_eq, ↓decide_eq_false_iff_not, ↓beq_iff_eq, ↓bne_iff_ne, ↓bne_eq_false_iff_eq, ↓ne_eq, ↓beq_eq_false_iff_ne, ↓Bool.not_eq_true] at hc; try simp only [Ty.dflt, Int.toNat_natCast] at hc)
    (repeat (first   | refine JL.Q1 (xok rfl rfl rfl rfl) rfl rfl ?_   | refine JL.G1 (xok rfl rfl rfl rfl) rfl rfl rfl ?_   | refine JL.g1 (xok rfl rfl rfl rfl) rfl rfl rfl (fun hgd => And.intro hgd (fun hpk => Bool.and_eq_true_iff.2 ⟨hgd, by rw [hpk]; rfl⟩)) ?_   | refine JL.M1 (xok rfl rfl rfl rfl) rfl rfl ?_   | refine JL.M0 (xok rfl rfl rfl rfl) rfl ?_   | refine JL.Q0 (xok rfl rfl rfl rfl) rfl ?_   | refine JL.nilF ?_   | refine JL.nil ?_   | refine JC.scope ?_   | refine QX.tn ?_   | refine JC.seq ?_   | refine JC.region ?_   | refine JC.Draw (xok rfl rfl rfl rfl) ?_   | refine JC.block ?_   | refine JC.skip ?_   | refine JC.label ?_   | refine JC.exit ?_   | refine JC.ret ?_   | refine QX.te ?_ | refine QX.tr ?_ | refine QX.bn ?_ | refine QX.be ?_ | refine QX.bx rfl ?_ | refine QX.br ?_ | refine QX.sn ?_ | refine QX.se ?_ | refine QX.sr ?_ | refine QX.ee ?_ | refine QX.eo rfl ?_ | refine QX.er ?_ | refine QX.en ?_ | refine JL.S1 rfl (h20) rfl trivial rfl ?_ | refine JL.C1 rfl (h20) rfl (fun r hr => ?_); subst hr | refine JL.S1g rfl rfl (fun hgd => h20) rfl trivial rfl ?_))
    refine ⟨.inl rfl, _, _, rfl, trivial, ?_⟩
    rw [plannedE, if_pos hc]
  · (simp only [↓bif_or, ↓bif_and, ↓Bool.or_eq_true, ↓Bool.or_eq_false_iff, ↓Bool.and_eq_true, ↓Bool.and_eq_false_iff, ↓Bool.not_eq_true', ↓Bool.not_eq_false', ↓decide_eq_true_eq, ↓decide_eq_false_iff_not, ↓beq_iff_eq, ↓bne_iff_ne, ↓bne_eq_false_iff_eq, ↓ne_eq, ↓beq_eq_false_iff_ne, ↓Bool.not_eq_true] at hc; try simp only [Ty.dflt, Int.toNat_natCast] at hc)
    have hv := dayErr_zero.1 (by simpa using hc)
    (repeat (first   | refine JL.Q1 (xok rfl rfl rfl rfl) rfl rfl ?_   | refine JL.G1 (xok rfl rfl rfl rfl) rfl rfl rfl ?_   | refine JL.g1 (xok rfl rfl rfl rfl) rfl rfl rfl (fun hgd => And.intro hgd (fun hpk => Bool.and_eq_true_iff.2 ⟨hgd, by rw [hpk]; rfl⟩)) ?_   | refine JL.M1 (xok rfl rfl rfl rfl) rfl rfl ?_   | refine JL.M0 (xok rfl rfl rfl rfl) rfl ?_   | refine JL.Q0 (xok rfl rfl rfl rfl) rfl ?_   | refine JL.nilF ?_   | refine JL.nil ?_   | refine JC.scope ?_   | refine QX.tn ?_   | refine JC.seq ?_   | refine JC.region ?_   | refine JC.Draw (xok rfl rfl rfl rfl) ?_   | refine JC.block ?_   | refine JC.skip ?_   | refine JC.label ?_   | refine JC.exit ?_   | refine JC.ret ?_   | refine QX.te ?_ | refine QX.tr ?_ | refine QX.bn ?_ | refine QX.be ?_ | refine QX.bx rfl ?_ | refine QX.br ?_ | refine QX.sn ?_ | refine QX.se ?_ | refine QX.sr ?_ | refine QX.ee ?_ | refine QX.eo rfl ?_ | refine QX.er ?_ | refine QX.en ?_))
    refine JC.cond rfl (fun hd => ?_) (fun hd => ?_)
    · (simp only [↓bif_or, ↓bif_and, ↓Bool.or_eq_true, ↓Bool.or_eq_false_iff, ↓Bool.and_eq_true, ↓Bool.and_eq_false_iff, ↓Bool.not_eq_true', ↓Bool.not_eq_false', ↓decide_eq_true_eq, ↓decide_eq_false_iff_not, ↓beq_iff_eq, ↓bne_iff_ne, ↓bne_eq_false_iff_eq, ↓ne_eq, ↓beq_eq_false_iff_ne, ↓Bool.not_eq_true] at hd; try simp only [Ty.dflt, Int.toNat_natCast] at hd)
      (repeat (first   | refine JL.Q1 (xok rfl rfl rfl rfl) rfl rfl ?_   | refine JL.G1 (xok rfl rfl rfl rfl) rfl rfl rfl ?_   | refine JL.g1 (xok rfl rfl rfl rfl) rfl rfl rfl (fun hgd => And.intro hgd (fun hpk => Bool.and_eq_true_iff.2 ⟨hgd, by rw [hpk]; rfl⟩)) ?_   | refine JL.M1 (xok rfl rfl rfl rfl) rfl rfl ?_   | refine JL.M0 (xok rfl rfl rfl rfl) rfl ?_   | refine JL.Q0 (xok rfl rfl rfl rfl) rfl ?_   | refine JL.nilF ?_   | refine JL.nil ?_   | refine JC.scope ?_   | refine QX.tn ?_   | refine JC.seq ?_   | refine JC.region ?_   | refine JC.Draw (xok rfl rfl rfl rfl) ?_   | refine JC.block ?_   | refine JC.skip ?_   | refine JC.label ?_   | refine JC.exit ?_   | refine JC.ret ?_   | refine QX.te ?_ | refine QX.tr ?_ | refine QX.bn ?_ | refine QX.be ?_ | refine QX.bx rfl ?_ | refine QX.br ?_ | refine QX.sn ?_ | refine QX.se ?_ | refine QX.sr ?_ | refine QX.ee ?_ | refine QX.eo rfl ?_ | refine QX.er ?_ | refine QX.en ?_))
      refine ⟨.inl rfl, _, _, rfl, trivial, ?_⟩
      rw [plannedE, if_neg (by simpa using hc), if_pos (by omega)]
    · (simp only [↓bif_or, ↓bif_and, ↓Bool.or_eq_true, ↓Bool.or_eq_false_iff, ↓Bool.and_eq_true, ↓Bool.and_eq_false_iff, ↓Bool.not_eq_true', ↓Bool.not_eq_false', ↓decide_eq_true_eq, ↓decide_eq_false_iff_not, ↓beq_iff_eq, ↓bne_iff_ne, ↓bne_eq_false_iff_eq, ↓ne_eq, ↓beq_eq_false_iff_ne, ↓Bool.not_eq_true] at hd; try simp only [Ty.dflt, Int.toNat_natCast] at hd)
      have hpl : plan.length = xs.length := by omega
      cases hq : playedR r xs plan with
      | some q =>
        (repeat (first   | refine JL.Q1 (xok rfl rfl rfl rfl) rfl rfl ?_   | refine JL.G1 (xok rfl rfl rfl rfl) rfl rfl rfl ?_   | refine JL.g1 (xok rfl rfl rfl rfl) rfl rfl rfl (fun hgd => And.intro hgd (fun hpk => Bool.and_eq_true_iff.2 ⟨hgd, by rw [hpk]; rfl⟩)) ?_   | refine JL.M1 (xok rfl rfl rfl rfl) rfl rfl ?_   | refine JL.M0 (xok rfl rfl rfl rfl) rfl ?_   | refine JL.Q0 (xok rfl rfl rfl rfl) rfl ?_   | refine JL.nilF ?_   | refine JL.nil ?_   | refine JC.scope ?_   | refine QX.tn ?_   | refine JC.seq ?_   | refine JC.region ?_   | refine JC.Draw (xok rfl rfl rfl rfl) ?_   | refine JC.block ?_   | refine JC.skip ?_   | refine JC.label ?_   | refine JC.exit ?_   | refine JC.ret ?_   | refine QX.te ?_ | refine QX.tr ?_ | refine QX.bn ?_ | refine QX.be ?_ | refine QX.bx rfl ?_ | refine QX.br ?_ | refine QX.sn ?_ | refine QX.se ?_ | refine QX.sr ?_ | refine QX.ee ?_ | refine QX.eo rfl ?_ | refine QX.er ?_ | refine QX.en ?_ | refine JL.S1 rfl (fn53s hq hpl (by omega)) rfl trivial rfl ?_ | refine JL.C1 rfl (fn53s hq hpl (by omega)) rfl (fun r hr => ?_); subst hr | refine JL.S1g rfl rfl (fun hgd => fn53s hq hpl (by omega)) rfl trivial rfl ?_))
        refine JC.cond rfl (fun he => absurd he (by decide)) (fun he => ?_)
        (repeat (first   | refine JL.Q1 (xok rfl rfl rfl rfl) rfl rfl ?_   | refine JL.G1 (xok rfl rfl rfl rfl) rfl rfl rfl ?_   | refine JL.g1 (xok rfl rfl rfl rfl) rfl rfl rfl (fun hgd => And.intro hgd (fun hpk => Bool.and_eq_true_iff.2 ⟨hgd, by rw [hpk]; rfl⟩)) ?_   | refine JL.M1 (xok rfl rfl rfl rfl) rfl rfl ?_   | refine JL.M0 (xok rfl rfl rfl rfl) rfl ?_   | refine JL.Q0 (xok rfl rfl rfl rfl) rfl ?_   | refine JL.nilF ?_   | refine JL.nil ?_   | refine JC.scope ?_   | refine QX.tn ?_   | refine JC.seq ?_   | refine JC.region ?_   | refine JC.Draw (xok rfl rfl rfl rfl) ?_   | refine JC.block ?_   | refine JC.skip ?_   | refine JC.label ?_   | refine JC.exit ?_   | refine JC.ret ?_   | refine QX.te ?_ | refine QX.tr ?_ | refine QX.bn ?_ | refine QX.be ?_ | refine QX.bx rfl ?_ | refine QX.br ?_ | refine QX.sn ?_ | refine QX.se ?_ | refine QX.sr ?_ | refine QX.ee ?_ | refine QX.eo rfl ?_ | refine QX.er ?_ | refine QX.en ?_))
        refine ⟨.inl rfl, _, _, rfl, trivial, ?_⟩
        rw [plannedE, if_neg (by simpa using hc), if_neg (by omega), hq]
      | none =>
        (repeat (first   | refine JL.Q1 (xok rfl rfl rfl rfl) rfl rfl ?_   | refine JL.G1 (xok rfl rfl rfl rfl) rfl rfl rfl ?_   | refine JL.g1 (xok rfl rfl rfl rfl) rfl rfl rfl (fun hgd => And.intro hgd (fun hpk => Bool.and_eq_true_iff.2 ⟨hgd, by rw [hpk]; rfl⟩)) ?_   | refine JL.M1 (xok rfl rfl rfl rfl) rfl rfl ?_   | refine JL.M0 (xok rfl rfl rfl rfl) rfl ?_   | refine JL.Q0 (xok rfl rfl rfl rfl) rfl ?_   | refine JL.nilF ?_   | refine JL.nil ?_   | refine JC.scope ?_   | refine QX.tn ?_   | refine JC.seq ?_   | refine JC.region ?_   | refine JC.Draw (xok rfl rfl rfl rfl) ?_   | refine JC.block ?_   | refine JC.skip ?_   | refine JC.label ?_   | refine JC.exit ?_   | refine JC.ret ?_   | refine QX.te ?_ | refine QX.tr ?_ | refine QX.bn ?_ | refine QX.be ?_ | refine QX.bx rfl ?_ | refine QX.br ?_ | refine QX.sn ?_ | refine QX.se ?_ | refine QX.sr ?_ | refine QX.ee ?_ | refine QX.eo rfl ?_ | refine QX.er ?_ | refine QX.en ?_ | refine JL.S1 rfl (fn53n hq hpl (by omega)) rfl trivial rfl ?_ | refine JL.C1 rfl (fn53n hq hpl (by omega)) rfl (fun r hr => ?_); subst hr | refine JL.S1g rfl rfl (fun hgd => fn53n hq hpl (by omega)) rfl trivial rfl ?_))
        refine JC.cond rfl (fun he => ?_) (fun he => absurd he (by decide))
        (repeat (first   | refine JL.Q1 (xok rfl rfl rfl rfl) rfl rfl ?_   | refine JL.G1 (xok rfl rfl rfl rfl) rfl rfl rfl ?_   | refine JL.g1 (xok rfl rfl rfl rfl) rfl rfl rfl (fun hgd => And.intro hgd (fun hpk => Bool.and_eq_true_iff.2 ⟨hgd, by rw [hpk]; rfl⟩)) ?_   | refine JL.M1 (xok rfl rfl rfl rfl) rfl rfl ?_   | refine JL.M0 (xok rfl rfl rfl rfl) rfl ?_   | refine JL.Q0 (xok rfl rfl rfl rfl) rfl ?_   | refine JL.nilF ?_   | refine JL.nil ?_   | refine JC.scope ?_   | refine QX.tn ?_   | refine JC.seq ?_   | refine JC.region ?_   | refine JC.Draw (xok rfl rfl rfl rfl) ?_   | refine JC.block ?_   | refine JC.skip ?_   | refine JC.label ?_   | refine JC.exit ?_   | refine JC.ret ?_   | refine QX.te ?_ | refine QX.tr ?_ | refine QX.bn ?_ | refine QX.be ?_ | refine QX.bx rfl ?_ | refine QX.br ?_ | refine QX.sn ?_ | refine QX.se ?_ | refine QX.sr ?_ | refine QX.ee ?_ | refine QX.eo rfl ?_ | refine QX.er ?_ | refine QX.en ?_))
        refine ⟨.inl rfl, _, _, rfl, trivial, ?_⟩
        rw [plannedE, if_neg (by simpa using hc), if_neg (by omega), hq]

theorem planned_zero {r : Int} {xs plan : List Int} (h : plannedE r xs plan = 0) : dayErr r xs = 0 ∧ plan.length = xs.length ∧ ∃ q, playedR r xs plan = some q := by
  unfold plannedE at h
  by_cases h0 : dayErr r xs = 0
  · rw [if_neg (by simpa using h0)] at h
    by_cases h1 : plan.length = xs.length
    · rw [if_neg (by simpa using h1)] at h
      cases hq : playedR r xs plan with
      | some q => exact ⟨h0, h1, q, rfl⟩
      | none => rw [hq] at h; cases h
    · rw [if_pos h1] at h; cases h
  · rw [if_pos h0] at h; exact absurd h h0

def keptR (r : Int) (xs plan : List Int) : List Int := match playedR r xs plan with | some q => q.2 | none => []
def benchR (r : Int) (xs plan : List Int) : List (List Int) := match playedR r xs plan with | some q => q.1 | none => []
def fetchesR (r : Int) (xs plan : List Int) : Int := if plannedE r xs plan = 0 then (xs.length : Int) - (keptR r xs plan).length else 0
def keptRS (r : Int) (xs plan : List Int) : List Int := if plannedE r xs plan = 0 then keptR r xs plan else []

theorem playedF_kept {r : Int} : ∀ {l : List (Int × Int)} {i : Nat} {bench : List Int} {q : List (List Int) × List Int}, playedF r l i bench = some q → q.1.length = l.length ∧ q.2.length ≤ l.length
  | [], i, bench, q, h => by rw [playedF] at h; injection h with h; subst h; simp
  | (k, b) :: l, i, bench, q, h => by
    rw [playedF] at h
    split at h
    · split at h
      · rename_i bs ks hq
        have := playedF_kept hq
        injection h with h; subst h
        dsimp only at this ⊢
        refine ⟨by simp [this.1], ?_⟩
        split <;> simp <;> omega
      · cases h
    · cases h

theorem fn22 (r : Int) (xs plan : List Int) : Ox.Fn Go.Proofs.Try.prog 22 (.acons (vD r xs) (.acons (vL plan) .anil)) (· = vT2 (fetchesR r xs plan) (plannedE r xs plan)) := by
  refine Ox.Fn.intro xok Go.Proofs.Try.func22 rfl Go.Proofs.Try.call22 (Nat.le_of_ble_eq_true rfl) (fun E M0 up => ?_)
  have h52 := fn52 r xs plan
  (repeat (first   | refine JL.Q1 (xok rfl rfl rfl rfl) rfl rfl ?_   | refine JL.G1 (xok rfl rfl rfl rfl) rfl rfl rfl ?_   | refine JL.g1 (xok rfl rfl rfl rfl) rfl rfl rfl (fun hgd => And.intro hgd (fun hpk => Bool.and_eq_true_iff.2 ⟨hgd, by rw [hpk]; rfl⟩)) ?_   | refine JL.M1 (xok rfl rfl rfl rfl) rfl rfl ?_   | refine JL.M0 (xok rfl rfl rfl rfl) rfl ?_   | refine JL.Q0 (xok rfl rfl rfl rfl) rfl ?_   | refine JL.nilF ?_   | refine JL.nil ?_   | refine JC.scope ?_   | refine QX.tn ?_   | refine JC.seq ?_   | refine JC.region ?_   | refine JC.Draw (xok rfl rfl rfl rfl) ?_   | refine JC.block ?_   | refine JC.skip ?_   | refine JC.label ?_   | refine JC.exit ?_   | refine JC.ret ?_   | refine QX.te ?_ | refine QX.tr ?_ | refine QX.bn ?_ | refine QX.be ?_ | refine QX.bx rfl ?_ | refine QX.br ?_ | refine QX.sn ?_ | refine QX.se ?_ | refine QX.sr ?_ | refine QX.ee ?_ | refine QX.eo rfl ?_ | refine QX.er ?_ | refine QX.en ?_ | refine JL.S1 rfl (h52) rfl trivial rfl ?_ | refine JL.C1 rfl (h52) rfl (fun r hr => ?_); subst hr | refine JL.S1g rfl rfl (fun hgd => h52) rfl trivial rfl ?_))
  refine JC.cond rfl (fun hc => ?_) (fun hc => ?_)
  · (simp only [↓bif_or, ↓bif_and, ↓Bool.or_eq_true, ↓Bool.or_eq_false_iff, ↓Bool.and_eq_true, ↓Bool.and_eq_false_iff, ↓Bool.not_eq_true', ↓Bool.not_eq_false', ↓decide_eq_true_eq, ↓decide_eq_false_iff_not, ↓beq_iff_eq, ↓bne_iff_ne, ↓bne_eq_false_iff_eq, ↓ne_eq, ↓beq_eq_false_iff_ne, ↓Bool.not_eq_true] at hc; try simp only [Ty.dflt, Int.toNat_natCast] at hc)
    (repeat (first   | refine JL.Q1 (xok rfl rfl rfl rfl) rfl rfl ?_   | refine JL.G1 (xok rfl rfl rfl rfl) rfl rfl rfl ?_   | refine JL.g1 (xok rfl rfl rfl rfl) rfl rfl rfl (fun hgd => And.intro hgd (fun hpk => Bool.and_eq_true_iff.2 ⟨hgd, by rw [hpk]; rfl⟩)) ?_   | refine JL.M1 (xok rfl rfl rfl rfl) rfl rfl ?_   | refine JL.M0 (xok rfl rfl rfl rfl) rfl ?_   | refine JL.Q0 (xok rfl rfl rfl rfl) rfl ?_   | refine JL.nilF ?_   | refine JL.nil ?_   | refine JC.scope ?_   | refine QX.tn ?_   | refine JC.seq ?_   | refine JC.region ?_   | refine JC.Draw (xok rfl rfl rfl rfl) ?_   | refine JC.block ?_   | refine JC.skip ?_   | refine JC.label ?_   | refine JC.exit ?_   | refine JC.ret ?_   | refine QX.te ?_ | refine QX.tr ?_ | refine QX.bn ?_ | refine QX.be ?_ | refine QX.bx rfl ?_ | refine QX.br ?_ | refine QX.sn ?_ | refine QX.se ?_ | refine QX.sr ?_ | refine QX.ee ?_ | refine QX.eo rfl ?_ | refine QX.er ?_ | refine QX.en ?_ | refine JL.S1 rfl (h52) rfl trivial rfl ?_ | refine JL.C1 rfl (h52) rfl (fun r hr => ?_); subst hr | refine JL.S1g rfl rfl (fun hgd => h52) rfl trivial rfl ?_))
    refine ⟨.inl rfl, _, _, rfl, trivial, ?_⟩
    rw [fetchesR, if_neg hc]
  · (simp only [↓bif_or, ↓bif_and, ↓Bool.or_eq_true, ↓Bool.or_eq_false_iff, ↓Bool.and_eq_true, ↓Bool.and_eq_false_iff, ↓Bool.not_eq_true', ↓Bool.not_eq_false', ↓decide_eq_true_eq, ↓decide_eq_false_iff_not, ↓beq_iff_eq, ↓bne_iff_ne, ↓bne_eq_false_iff_eq, ↓ne_eq, ↓beq_eq_false_iff_ne, ↓Bool.not_eq_true] at hc; try simp only [Ty.dflt, Int.toNat_natCast] at hc)
    have hc : plannedE r xs plan = 0 := by simpa using hc
    obtain ⟨h0, hpl, q, hq⟩ := planned_zero hc
    have hv := dayErr_zero.1 h0
    have hk := playedF_kept (show playedF r (xs.zip plan) 0 [] = some q from hq)
    rw [List.length_zip] at hk
    (repeat (first   | refine JL.Q1 (xok rfl rfl rfl rfl) rfl rfl ?_   | refine JL.G1 (xok rfl rfl rfl rfl) rfl rfl rfl ?_   | refine JL.g1 (xok rfl rfl rfl rfl) rfl rfl rfl (fun hgd => And.intro hgd (fun hpk => Bool.and_eq_true_iff.2 ⟨hgd, by rw [hpk]; rfl⟩)) ?_   | refine JL.M1 (xok rfl rfl rfl rfl) rfl rfl ?_   | refine JL.M0 (xok rfl rfl rfl rfl) rfl ?_   | refine JL.Q0 (xok rfl rfl rfl rfl) rfl ?_   | refine JL.nilF ?_   | refine JL.nil ?_   | refine JC.scope ?_   | refine QX.tn ?_   | refine JC.seq ?_   | refine JC.region ?_   | refine JC.Draw (xok rfl rfl rfl rfl) ?_   | refine JC.block ?_   | refine JC.skip ?_   | refine JC.label ?_   | refine JC.exit ?_   | refine JC.ret ?_   | refine QX.te ?_ | refine QX.tr ?_ | refine QX.bn ?_ | refine QX.be ?_ | refine QX.bx rfl ?_ | refine QX.br ?_ | refine QX.sn ?_ | refine QX.se ?_ | refine QX.sr ?_ | refine QX.ee ?_ | refine QX.eo rfl ?_ | refine QX.er ?_ | refine QX.en ?_ | refine JL.S1 rfl (fn53s hq hpl (by omega)) rfl trivial rfl ?_ | refine JL.C1 rfl (fn53s hq hpl (by omega)) rfl (fun r hr => ?_); subst hr | refine JL.S1g rfl rfl (fun hgd => fn53s hq hpl (by omega)) rfl trivial rfl ?_))
    refine ⟨.inl rfl, _, _, rfl, trivial, ?_⟩
    rw [fetchesR, if_pos hc, keptR, hq, hc]

theorem fn24 (r : Int) (xs plan : List Int) : Ox.Fn Go.Proofs.Try.prog 24 (.acons (vD r xs) (.acons (vL plan) .anil)) (· = .tup (.acons (vL (keptRS r xs plan)) (.acons (vI (plannedE r xs plan)) .anil))) := by
  refine Ox.Fn.intro xok Go.Proofs.Try.func24 rfl Go.Proofs.Try.call24 (Nat.le_of_ble_eq_true rfl) (fun E M0 up => ?_)
  have h52 := fn52 r xs plan
  (repeat (first   | refine JL.Q1 (xok rfl rfl rfl rfl) rfl rfl ?_   | refine JL.G1 (xok rfl rfl rfl rfl) rfl rfl rfl ?_   | refine JL.g1 (xok rfl rfl rfl rfl) rfl rfl rfl (fun hgd => And.intro hgd (fun hpk => Bool.and_eq_true_iff.2 ⟨hgd, by rw [hpk]; rfl⟩)) ?_   | refine JL.M1 (xok rfl rfl rfl rfl) rfl rfl ?_   | refine JL.M0 (xok rfl rfl rfl rfl) rfl ?_   | refine JL.Q0 (xok rfl rfl rfl rfl) rfl ?_   | refine JL.nilF ?_   | refine JL.nil ?_   | refine JC.scope ?_   | refine QX.tn ?_   | refine JC.seq ?_   | refine JC.region ?_   | refine JC.Draw (xok rfl rfl rfl rfl) ?_   | refine JC.block ?_   | refine JC.skip ?_   | refine JC.label ?_   | refine JC.exit ?_   | refine JC.ret ?_   | refine QX.te ?_ | refine QX.tr ?_ | refine QX.bn ?_ | refine QX.be ?_ | refine QX.bx rfl ?_ | refine QX.br ?_ | refine QX.sn ?_ | refine QX.se ?_ | refine QX.sr ?_ | refine QX.ee ?_ | refine QX.eo rfl ?_ | refine QX.er ?_ | refine QX.en ?_ | refine JL.S1 rfl (h52) rfl trivial rfl ?_ | refine JL.C1 rfl (h52) rfl (fun r hr => ?_); subst hr | refine JL.S1g rfl rfl (fun hgd => h52) rfl trivial rfl ?_))
  refine JC.cond rfl (fun hc => ?_) (fun hc => ?_)
  · (simp only [↓bif_or, ↓bif_and, ↓Bool.or_eq_true, ↓Bool.or_eq_false_iff, ↓Bool.and_eq_true, ↓Bool.and_eq_false_iff, ↓Bool.not_eq_true', ↓Bool.not_eq_false', ↓decide_eq_true_eq, ↓decide_eq_false_iff_not, ↓beq_iff_eq, ↓bne_iff_ne, ↓bne_eq_false_iff_eq, ↓ne_eq, ↓beq_eq_false_iff_ne, ↓Bool.not_eq_true] at hc; try simp only [Ty.dflt, Int.toNat_natCast] at hc)
    (repeat (first   | refine JL.Q1 (xok rfl rfl rfl rfl) rfl rfl ?_   | refine JL.G1 (xok rfl rfl rfl rfl) rfl rfl rfl ?_   | refine JL.g1 (xok rfl rfl rfl rfl) rfl rfl rfl (fun hgd => And.intro hgd (fun hpk => Bool.and_eq_true_iff.2 ⟨hgd, by rw [hpk]; rfl⟩)) ?_   | refine JL.M1 (xok rfl rfl rfl rfl) rfl rfl ?_   | refine JL.M0 (xok rfl rfl rfl rfl) rfl ?_   | refine JL.Q0 (xok rfl rfl rfl rfl) rfl ?_   | refine JL.nilF ?_   | refine JL.nil ?_   | refine JC.scope ?_   | refine QX.tn ?_   | refine JC.seq ?_   | refine JC.region ?_   | refine JC.Draw (xok rfl rfl rfl rfl) ?_   | refine JC.block ?_   | refine JC.skip ?_   | refine JC.label ?_   | refine JC.exit ?_   | refine JC.ret ?_   | refine QX.te ?_ | refine QX.tr ?_ | refine QX.bn ?_ | refine QX.be ?_ | refine QX.bx rfl ?_ | refine QX.br ?_ | refine QX.sn ?_ | refine QX.se ?_ | refine QX.sr ?_ | refine QX.ee ?_ | refine QX.eo rfl ?_ | refine QX.er ?_ | refine QX.en ?_ | refine JL.S1 rfl (h52) rfl trivial rfl ?_ | refine JL.C1 rfl (h52) rfl (fun r hr => ?_); subst hr | refine JL.S1g rfl rfl (fun hgd => h52) rfl trivial rfl ?_))
    refine ⟨.inl rfl, _, _, rfl, trivial, ?_⟩
    rw [keptRS, if_neg hc]
  · (simp only [↓bif_or, ↓bif_and, ↓Bool.or_eq_true, ↓Bool.or_eq_false_iff, ↓Bool.and_eq_true, ↓Bool.and_eq_false_iff, ↓Bool.not_eq_true', ↓Bool.not_eq_false', ↓decide_eq_true_eq, ↓decide_eq_false_iff_not, ↓beq_iff_eq, ↓bne_iff_ne, ↓bne_eq_false_iff_eq, ↓ne_eq, ↓beq_eq_false_iff_ne, ↓Bool.not_eq_true] at hc; try simp only [Ty.dflt, Int.toNat_natCast] at hc)
    have hc : plannedE r xs plan = 0 := by simpa using hc
    obtain ⟨h0, hpl, q, hq⟩ := planned_zero hc
    have hv := dayErr_zero.1 h0
    (repeat (first   | refine JL.Q1 (xok rfl rfl rfl rfl) rfl rfl ?_   | refine JL.G1 (xok rfl rfl rfl rfl) rfl rfl rfl ?_   | refine JL.g1 (xok rfl rfl rfl rfl) rfl rfl rfl (fun hgd => And.intro hgd (fun hpk => Bool.and_eq_true_iff.2 ⟨hgd, by rw [hpk]; rfl⟩)) ?_   | refine JL.M1 (xok rfl rfl rfl rfl) rfl rfl ?_   | refine JL.M0 (xok rfl rfl rfl rfl) rfl ?_   | refine JL.Q0 (xok rfl rfl rfl rfl) rfl ?_   | refine JL.nilF ?_   | refine JL.nil ?_   | refine JC.scope ?_   | refine QX.tn ?_   | refine JC.seq ?_   | refine JC.region ?_   | refine JC.Draw (xok rfl rfl rfl rfl) ?_   | refine JC.block ?_   | refine JC.skip ?_   | refine JC.label ?_   | refine JC.exit ?_   | refine JC.ret ?_   | refine QX.te ?_ | refine QX.tr ?_ | refine QX.bn ?_ | refine QX.be ?_ | refine QX.bx rfl ?_ | refine QX.br ?_ | refine QX.sn ?_ | refine QX.se ?_ | refine QX.sr ?_ | refine QX.ee ?_ | refine QX.eo rfl ?_ | refine QX.er ?_ | refine QX.en ?_ | refine JL.S1 rfl (fn53s hq hpl (by omega)) rfl trivial rfl ?_ | refine JL.C1 rfl (fn53s hq hpl (by omega)) rfl (fun r hr => ?_); subst hr | refine JL.S1g rfl rfl (fun hgd => fn53s hq hpl (by omega)) rfl trivial rfl ?_))
    refine ⟨.inl rfl, _, _, rfl, trivial, ?_⟩
    rw [keptRS, if_pos hc, keptR, hq, hc]

def benchRE (r : Int) (xs plan : List Int) (n : Int) : Int := if dayErr r xs ≠ 0 then dayErr r xs else if ¬(0 ≤ n ∧ n < xs.length) then 2 else plannedE r xs plan
def benchRS (r : Int) (xs plan : List Int) (n : Int) : List Int := if benchRE r xs plan n = 0 then (benchR r xs plan).getD n.toNat [] else []
theorem fn26 (r : Int) (xs plan : List Int) (n : Int) : Ox.Fn Go.Proofs.Try.prog 26 (.acons (vD r xs) (.acons (vL plan) (.acons (vI n) .anil))) (· = .tup (.acons (vL (benchRS r xs plan n)) (.acons (vI (benchRE r xs plan n)) .anil))) := by
  refine Ox.Fn.intro xok Go.Proofs.Try.func26 rfl Go.Proofs.Try.call26 (Nat.le_of_ble_eq_true rfl) (fun E M0 up => ?_)
  have h20 := fn20 r xs
  have h52 := fn52 r xs plan
  (repeat (first   | refine JL.Q1 (xok rfl rfl rfl rfl) rfl rfl ?_   | refine JL.G1 (xok rfl rfl rfl rfl) rfl rfl rfl ?_   | refine JL.g1 (xok rfl rfl rfl rfl) rfl rfl rfl (fun hgd => And.intro hgd (fun hpk => Bool.and_eq_true_iff.2 ⟨hgd, by rw [hpk]; rfl⟩)) ?_   | refine JL.M1 (xok rfl rfl rfl rfl) rfl rfl ?_   | refine JL.M0 (xok rfl rfl rfl rfl) rfl ?_   | refine JL.Q0 (xok rfl rfl rfl rfl) rfl ?_   | refine JL.nilF ?_   | refine JL.nil ?_   | refine JC.scope ?_   | refine QX.tn ?_   | refine JC.seq ?_   | refine JC.region ?_   | refine JC.Draw (xok rfl rfl rfl rfl) ?_   | refine JC.block ?_   | refine JC.skip ?_   | refine JC.label ?_   | refine JC.exit ?_   | refine JC.ret ?_   | refine QX.te ?_ | refine QX.tr ?_ | refine QX.bn ?_ | refine QX.be ?_ | refine QX.bx rfl ?_ | refine QX.br ?_ | refine QX.sn ?_ | refine QX.se ?_ | refine QX.sr ?_ | refine QX.ee ?_ | refine QX.eo rfl ?_ | refine QX.er ?_ | refine QX.en ?_ | refine JL.S1 rfl (h20) rfl trivial rfl ?_ | refine JL.C1 rfl (h20) rfl (fun r hr => ?_); subst hr | refine JL.S1g rfl rfl (fun hgd => h20) rfl trivial rfl ?_))
  refine JC.cond rfl (fun hc => ?_) (fun hc => ?_)
  · (simp only [↓bif_or, ↓bif_and, ↓Bool.or_eq_true, ↓Bool.or_eq_false_iff, ↓Bool.and_eq_true, ↓Bool.and_eq_false_iff, ↓Bool.not_eq_true', ↓Bool.not_eq_false', ↓decide_eq_true_eq, ↓decide_eq_false_iff_not, ↓beq_iff_eq, ↓bne_iff_ne, ↓bne_eq_false_iff_eq, ↓ne_eq, ↓beq_eq_false_iff_ne, ↓Bool.not_eq_true] at hc; try simp only [Ty.dflt, Int.toNat_natCast] at hc)
    (repeat (first   | refine JL.Q1 (xok rfl rfl rfl rfl) rfl rfl ?_   | refine JL.G1 (xok rfl rfl rfl rfl) rfl rfl rfl ?_   | refine JL.g1 (xok rfl rfl rfl rfl) rfl rfl rfl (fun hgd => And.intro hgd (fun hpk => Bool.and_eq_true_iff.2 ⟨hgd, by rw [hpk]; rfl⟩)) ?_   | refine JL.M1 (xok rfl rfl rfl rfl) rfl rfl ?_   | refine JL.M0 (xok rfl rfl rfl rfl) rfl ?_   | refine JL.Q0 (xok rfl rfl rfl rfl) rfl ?_   | refine JL.nilF ?_   | refine JL.nil ?_   | refine JC.scope ?_   | refine QX.tn ?_   | refine JC.seq ?_   | refine JC.region ?_   | refine JC.Draw (xok rfl rfl rfl rfl) ?_   | refine JC.block ?_   | refine JC.skip ?_   | refine JC.label ?_   | refine JC.exit ?_   | refine JC.ret ?_   | refine QX.te ?_ | refine QX.tr ?_ | refine QX.bn ?_ | refine QX.be ?_ | refine QX.bx rfl ?_ | refine QX.br ?_ | refine QX.sn ?_ | refine QX.se ?_ | refine QX.sr ?_ | refine QX.ee ?_ | refine QX.eo rfl ?_ | refine QX.er ?_ | refine QX.en ?_ | refine JL.S1 rfl (h20) rfl trivial rfl ?_ | refine JL.C1 rfl (h20) rfl (fun r hr => ?_); subst hr | refine JL.S1g rfl rfl (fun hgd => h20) rfl trivial rfl ?_))
    refine ⟨.inl rfl, _, _, rfl, trivial, ?_⟩
    rw [benchRS, benchRE, if_pos hc, if_neg hc]
  · (simp only [↓bif_or, ↓bif_and, ↓Bool.or_eq_true, ↓Bool.or_eq_false_iff, ↓Bool.and_eq_true, ↓Bool.and_eq_false_iff, ↓Bool.not_eq_true', ↓Bool.not_eq_false', ↓decide_eq_true_eq, ↓decide_eq_false_iff_not, ↓beq_iff_eq, ↓bne_iff_ne, ↓bne_eq_false_iff_eq, ↓ne_eq, ↓beq_eq_false_iff_ne, ↓Bool.not_eq_true] at hc; try simp only [Ty.dflt, Int.toNat_natCast] at hc)
    have hc : dayErr r xs = 0 := by simpa using hc
    (repeat (first   | refine JL.Q1 (xok rfl rfl rfl rfl) rfl rfl ?_   | refine JL.G1 (xok rfl rfl rfl rfl) rfl rfl rfl ?_   | refine JL.g1 (xok rfl rfl rfl rfl) rfl rfl rfl (fun hgd => And.intro hgd (fun hpk => Bool.and_eq_true_iff.2 ⟨hgd, by rw [hpk]; rfl⟩)) ?_   | refine JL.M1 (xok rfl rfl rfl rfl) rfl rfl ?_   | refine JL.M0 (xok rfl rfl rfl rfl) rfl ?_   | refine JL.Q0 (xok rfl rfl rfl rfl) rfl ?_   | refine JL.nilF ?_   | refine JL.nil ?_   | refine JC.scope ?_   | refine QX.tn ?_   | refine JC.seq ?_   | refine JC.region ?_   | refine JC.Draw (xok rfl rfl rfl rfl) ?_   | refine JC.block ?_   | refine JC.skip ?_   | refine JC.label ?_   | refine JC.exit ?_   | refine JC.ret ?_   | refine QX.te ?_ | refine QX.tr ?_ | refine QX.bn ?_ | refine QX.be ?_ | refine QX.bx rfl ?_ | refine QX.br ?_ | refine QX.sn ?_ | refine QX.se ?_ | refine QX.sr ?_ | refine QX.ee ?_ | refine QX.eo rfl ?_ | refine QX.er ?_ | refine QX.en ?_ | refine JL.S1 rfl (fn47 r xs n) rfl trivial rfl ?_ | refine JL.C1 rfl (fn47 r xs n) rfl (fun r hr => ?_); subst hr | refine JL.S1g rfl rfl (fun hgd => fn47 r xs n) rfl trivial rfl ?_))
    refine JC.cond rfl (fun hd => ?_) (fun hd => ?_)
    · (simp only [↓bif_or, ↓bif_and, ↓Bool.or_eq_true, ↓Bool.or_eq_false_iff, ↓Bool.and_eq_true, ↓Bool.and_eq_false_iff, ↓Bool.not_eq_true', ↓Bool.not_eq_false', ↓decide_eq_true_eq, ↓decide_eq_false_iff_not, ↓beq_iff_eq, ↓bne_iff_ne, ↓bne_eq_false_iff_eq, ↓ne_eq, ↓beq_eq_false_iff_ne, ↓Bool.not_eq_true] at hd; try simp only [Ty.dflt, Int.toNat_natCast] at hd)
      (repeat (first   | refine JL.Q1 (xok rfl rfl rfl rfl) rfl rfl ?_   | refine JL.G1 (xok rfl rfl rfl rfl) rfl rfl rfl ?_   | refine JL.g1 (xok rfl rfl rfl rfl) rfl rfl rfl (fun hgd => And.intro hgd (fun hpk => Bool.and_eq_true_iff.2 ⟨hgd, by rw [hpk]; rfl⟩)) ?_   | refine JL.M1 (xok rfl rfl rfl rfl) rfl rfl ?_   | refine JL.M0 (xok rfl rfl rfl rfl) rfl ?_   | refine JL.Q0 (xok rfl rfl rfl rfl) rfl ?_   | refine JL.nilF ?_   | refine JL.nil ?_   | refine JC.scope ?_   | refine QX.tn ?_   | refine JC.seq ?_   | refine JC.region ?_   | refine JC.Draw (xok rfl rfl rfl rfl) ?_   | refine JC.block ?_   | refine JC.skip ?_   | refine JC.label ?_   | refine JC.exit ?_   | refine JC.ret ?_   | refine QX.te ?_ | refine QX.tr ?_ | refine QX.bn ?_ | refine QX.be ?_ | refine QX.bx rfl ?_ | refine QX.br ?_ | refine QX.sn ?_ | refine QX.se ?_ | refine QX.sr ?_ | refine QX.ee ?_ | refine QX.eo rfl ?_ | refine QX.er ?_ | refine QX.en ?_))
      refine ⟨.inl rfl, _, _, rfl, trivial, ?_⟩
      have e : benchRE r xs plan n = 2 := by rw [benchRE, if_neg (by rw [hc]; decide), if_pos hd]
      rw [benchRS, e]; rfl
    · (simp only [↓bif_or, ↓bif_and, ↓Bool.or_eq_true, ↓Bool.or_eq_false_iff, ↓Bool.and_eq_true, ↓Bool.and_eq_false_iff, ↓Bool.not_eq_true', ↓Bool.not_eq_false', ↓decide_eq_true_eq, ↓decide_eq_false_iff_not, ↓beq_iff_eq, ↓bne_iff_ne, ↓bne_eq_false_iff_eq, ↓ne_eq, ↓beq_eq_false_iff_ne, ↓Bool.not_eq_true] at hd; try simp only [Ty.dflt, Int.toNat_natCast] at hd)
      have hd' : ¬¬(0 ≤ n ∧ n < (xs.length : Int)) := fun h => h hd
      (repeat (first   | refine JL.Q1 (xok rfl rfl rfl rfl) rfl rfl ?_   | refine JL.G1 (xok rfl rfl rfl rfl) rfl rfl rfl ?_   | refine JL.g1 (xok rfl rfl rfl rfl) rfl rfl rfl (fun hgd => And.intro hgd (fun hpk => Bool.and_eq_true_iff.2 ⟨hgd, by rw [hpk]; rfl⟩)) ?_   | refine JL.M1 (xok rfl rfl rfl rfl) rfl rfl ?_   | refine JL.M0 (xok rfl rfl rfl rfl) rfl ?_   | refine JL.Q0 (xok rfl rfl rfl rfl) rfl ?_   | refine JL.nilF ?_   | refine JL.nil ?_   | refine JC.scope ?_   | refine QX.tn ?_   | refine JC.seq ?_   | refine JC.region ?_   | refine JC.Draw (xok rfl rfl rfl rfl) ?_   | refine JC.block ?_   | refine JC.skip ?_   | refine JC.label ?_   | refine JC.exit ?_   | refine JC.ret ?_   | refine QX.te ?_ | refine QX.tr ?_ | refine QX.bn ?_ | refine QX.be ?_ | refine QX.bx rfl ?_ | refine QX.br ?_ | refine QX.sn ?_ | refine QX.se ?_ | refine QX.sr ?_ | refine QX.ee ?_ | refine QX.eo rfl ?_ | refine QX.er ?_ | refine QX.en ?_ | refine JL.S1 rfl (h52) rfl trivial rfl ?_ | refine JL.C1 rfl (h52) rfl (fun r hr => ?_); subst hr | refine JL.S1g rfl rfl (fun hgd => h52) rfl trivial rfl ?_))
      refine JC.cond rfl (fun he => ?_) (fun he => ?_)
      · (simp only [↓bif_or, ↓bif_and, ↓Bool.or_eq_true, ↓Bool.or_eq_false_iff, ↓Bool.and_eq_true, ↓Bool.and_eq_false_iff, ↓Bool.not_eq_true', ↓Bool.not_eq_false', ↓decide_eq_true_eq, ↓decide_eq_false_iff_not, ↓beq_iff_eq, ↓bne_iff_ne, ↓bne_eq_false_iff_eq, ↓ne_eq, ↓beq_eq_false_iff_ne, ↓Bool.not_eq_true] at he; try simp only [Ty.dflt, Int.toNat_natCast] at he)
        (repeat (first   | refine JL.Q1 (xok rfl rfl rfl rfl) rfl rfl ?_   | refine JL.G1 (xok rfl rfl rfl rfl) rfl rfl rfl ?_   | refine JL.g1 (xok rfl rfl rfl rfl) rfl rfl rfl (fun hgd => And.intro hgd (fun hpk => Bool.and_eq_true_iff.2 ⟨hgd, by rw [hpk]; rfl⟩)) ?_   | refine JL.M1 (xok rfl rfl rfl rfl) rfl rfl ?_   | refine JL.M0 (xok rfl rfl rfl rfl) rfl ?_   | refine JL.Q0 (xok rfl rfl rfl rfl) rfl ?_   | refine JL.nilF ?_   | refine JL.nil ?_   | refine JC.scope ?_   | refine QX.tn ?_   | refine JC.seq ?_   | refine JC.region ?_   | refine JC.Draw (xok rfl rfl rfl rfl) ?_   | refine JC.block ?_   | refine JC.skip ?_   | refine JC.label ?_   | refine JC.exit ?_   | refine JC.ret ?_   | refine QX.te ?_ | refine QX.tr ?_ | refine QX.bn ?_ | refine QX.be ?_ | refine QX.bx rfl ?_ | refine QX.br ?_ | refine QX.sn ?_ | refine QX.se ?_ | refine QX.sr ?_ | refine QX.ee ?_ | refine QX.eo rfl ?_ | refine QX.er ?_ | refine QX.en ?_ | refine JL.S1 rfl (h52) rfl trivial rfl ?_ | refine JL.C1 rfl (h52) rfl (fun r hr => ?_); subst hr | refine JL.S1g rfl rfl (fun hgd => h52) rfl trivial rfl ?_))
        refine ⟨.inl rfl, _, _, rfl, trivial, ?_⟩
        have e : benchRE r xs plan n = plannedE r xs plan := by rw [benchRE, if_neg (by rw [hc]; decide), if_neg hd']
        rw [benchRS, e, if_neg he]
      · (simp only [↓bif_or, ↓bif_and, ↓Bool.or_eq_true, ↓Bool.or_eq_false_iff, ↓Bool.and_eq_true, ↓Bool.and_eq_false_iff, ↓Bool.not_eq_true', ↓Bool.not_eq_false', ↓decide_eq_true_eq, ↓decide_eq_false_iff_not, ↓beq_iff_eq, ↓bne_iff_ne, ↓bne_eq_false_iff_eq, ↓ne_eq, ↓beq_eq_false_iff_ne, ↓Bool.not_eq_true] at he; try simp only [Ty.dflt, Int.toNat_natCast] at he)
        have he : plannedE r xs plan = 0 := by simpa using he
        obtain ⟨h0, hpl, q, hq⟩ := planned_zero he
        have hv := dayErr_zero.1 h0
        have hk := playedF_kept (show playedF r (xs.zip plan) 0 [] = some q from hq)
        rw [List.length_zip] at hk
        have hk1 : q.1.length = xs.length := by omega
        (repeat (first   | refine JL.Q1 (xok rfl rfl rfl rfl) rfl rfl ?_   | refine JL.G1 (xok rfl rfl rfl rfl) rfl rfl rfl ?_   | refine JL.g1 (xok rfl rfl rfl rfl) rfl rfl rfl (fun hgd => And.intro hgd (fun hpk => Bool.and_eq_true_iff.2 ⟨hgd, by rw [hpk]; rfl⟩)) ?_   | refine JL.M1 (xok rfl rfl rfl rfl) rfl rfl ?_   | refine JL.M0 (xok rfl rfl rfl rfl) rfl ?_   | refine JL.Q0 (xok rfl rfl rfl rfl) rfl ?_   | refine JL.nilF ?_   | refine JL.nil ?_   | refine JC.scope ?_   | refine QX.tn ?_   | refine JC.seq ?_   | refine JC.region ?_   | refine JC.Draw (xok rfl rfl rfl rfl) ?_   | refine JC.block ?_   | refine JC.skip ?_   | refine JC.label ?_   | refine JC.exit ?_   | refine JC.ret ?_   | refine QX.te ?_ | refine QX.tr ?_ | refine QX.bn ?_ | refine QX.be ?_ | refine QX.bx rfl ?_ | refine QX.br ?_ | refine QX.sn ?_ | refine QX.se ?_ | refine QX.sr ?_ | refine QX.ee ?_ | refine QX.eo rfl ?_ | refine QX.er ?_ | refine QX.en ?_ | refine JL.S1 rfl (fn53s hq hpl (by omega)) rfl trivial rfl ?_ | refine JL.C1 rfl (fn53s hq hpl (by omega)) rfl (fun r hr => ?_); subst hr | refine JL.S1g rfl rfl (fun hgd => fn53s hq hpl (by omega)) rfl trivial rfl ?_))
        refine ⟨.inl rfl, _, _, rfl, trivial, ?_⟩
        have e : benchRE r xs plan n = 0 := by rw [benchRE, if_neg (by rw [hc]; decide), if_neg hd', he]
        rw [benchRS, e, if_pos rfl, benchR, hq]
        rfl
end Go.Proofs.Ytbmgijgnbilnoaa

namespace Go.Proofs.Ytbmgijgnbilnoaa
open Go Go.RowKit Ox
attribute [local irreducible] JC JL JW

/-- How many of the first books are new, or parted by a moment. -/
def cntR (xs ts : List Int) (i : Nat) : Nat := (List.range i).countP fun i => decide (lastB xs (xs.getD i 0) i < 0) || ts.any fun t => decide (lastB xs (xs.getD i 0) i < t ∧ t < (i : Int))
theorem cntR_le (xs ts : List Int) (i : Nat) : cntR xs ts i ≤ i := by
  have := List.countP_le_length (p := fun i : Nat => decide (lastB xs (xs.getD i 0) i < 0) || ts.any fun t => decide (lastB xs (xs.getD i 0) i < t ∧ t < (i : Int))) (l := List.range i)
  simpa [cntR] using this
theorem cntR_succ (xs ts : List Int) (i : Nat) : cntR xs ts (i + 1) = cntR xs ts i + if (decide (lastB xs (xs.getD i 0) i < 0) || ts.any fun t => decide (lastB xs (xs.getD i 0) i < t ∧ t < (i : Int))) = true then 1 else 0 := by
  simp only [cntR, List.range_succ, List.countP_append, List.countP_singleton]

theorem lasts_getD {xs : List Int} {i : Nat} (h : i < xs.length) : (lasts xs xs.length).getD i 0 = lastB xs (xs.getD i 0) i := by
  rw [lasts, List.getD_eq_getElem?_getD, List.getElem?_eq_getElem (by simpa using h)]
  simp
theorem cntR_momV (xs ts : List Int) : ((cntR xs ts xs.length : Nat) : Int) = ((lasts xs xs.length).countP (decide <| · < 0) : Nat) + (cntF (lasts xs xs.length) ts xs.length : Nat) := by
  have key : ∀ n, n ≤ xs.length → cntR xs ts n = (lasts xs n).countP (decide <| · < 0) + cntF (lasts xs xs.length) ts n := by
    intro n
    induction n with
    | zero => intro _; rfl
    | succ n ih =>
      intro hn
      have hg := lasts_getD (show n < xs.length by omega)
      rw [cntR_succ, ih (by omega), lasts_succ, List.countP_append, List.countP_singleton]
      by_cases h1 : lastB xs (xs.getD n 0) n < 0
      · have h2 := cntF_no (la := lasts xs xs.length) (ts := ts) (i := n) fun h => by rw [hg] at h; omega
        rw [h2, if_pos (by rw [decide_eq_true h1]; rfl), if_pos (by simpa using h1)]; omega
      · by_cases h3 : (ts.any fun t => decide (lastB xs (xs.getD n 0) n < t ∧ t < (n : Int))) = true
        · have h2 := cntF_yes (la := lasts xs xs.length) (ts := ts) (i := n) (by rw [hg]; omega) (by rw [hg]; exact h3)
          rw [h2, if_pos (by rw [h3, Bool.or_true]), if_neg (by simpa using h1)]; omega
        · have h2 := cntF_no (la := lasts xs xs.length) (ts := ts) (i := n) fun h => by rw [hg] at h; exact h3 h.2
          rw [h2, if_neg (by rw [decide_eq_false h1, Bool.false_or]; exact h3), if_neg (by simpa using h1)]
          omega
  have := key _ (Nat.le_refl _)
  omega

theorem momGuard {t n i p : Int} : ((bif !decide (0 ≤ t ∧ t < n) then true else bif decide (0 < i) then decide (t ≤ p) else false) = false) ↔ ((0 ≤ t ∧ t < n) ∧ (0 < i → p < t)) := by
  by_cases h1 : 0 ≤ t ∧ t < n <;> by_cases h2 : 0 < i <;> by_cases h3 : t ≤ p <;> simp [h1, h2, h3] <;> omega
theorem momPick {ts : List Int} {k : Nat} (hk : k < ts.length) {lv i : Int} {b : Bool} : (bif (b || (ts.take k).any fun t => decide (lv < t ∧ t < i)) then true else bif decide (lv < ts.getD k 0) then decide (ts.getD k 0 < i) else false) = (b || (ts.take (k + 1)).any fun t => decide (lv < t ∧ t < i)) := by
  rw [List.take_succ, List.getElem?_eq_getElem hk, List.any_append, getD_nat ts hk]
  cases b <;> cases ((ts.take k).any fun t => decide (lv < t ∧ t < i)) <;> by_cases h1 : lv < ts[k] <;> by_cases h2 : ts[k] < i <;> simp [h1, h2]
set_option maxHeartbeats 2000000 in
theorem fn33 (r : Int) (xs ts : List Int) (htl : ts.length ≤ 1000) : Ox.Fn Go.Proofs.Try.prog 33 (.acons (vD r xs) (.acons (vL ts) .anil)) (· = vT2 (momS r xs ts).1 (momS r xs ts).2) := by
  refine Ox.Fn.intro xok Go.Proofs.Try.func33 rfl Go.Proofs.Try.call33 (Nat.le_of_ble_eq_true rfl) (fun E M0 up => ?_)
  have h20 := fn20 r xs
  (repeat (first   | refine JL.Q1 (xok rfl rfl rfl rfl) rfl rfl ?_   | refine JL.G1 (xok rfl rfl rfl rfl) rfl rfl rfl ?_   | refine JL.g1 (xok rfl rfl rfl rfl) rfl rfl rfl (fun hgd => And.intro hgd (fun hpk => Bool.and_eq_true_iff.2 ⟨hgd, by rw [hpk]; rfl⟩)) ?_   | refine JL.G2 (xok rfl rfl rfl rfl) rfl rfl rfl ?_   | refine JL.M1 (xok rfl rfl rfl rfl) rfl rfl ?_   | refine JL.M0 (xok rfl rfl rfl rfl) rfl ?_   | refine JL.Q0 (xok rfl rfl rfl rfl) rfl ?_   | refine JL.nilF ?_   | refine JL.nil ?_   | refine JC.scope ?_   | refine QX.tn ?_   | refine JC.seq ?_   | refine JC.region ?_   | refine JC.Draw (xok rfl rfl rfl rfl) ?_   | refine JC.block ?_   | refine JC.skip ?_   | refine JC.label ?_   | refine JC.exit ?_   | refine JC.ret ?_   | refine QX.te ?_ | refine QX.tr ?_ | refine QX.bn ?_ | refine QX.be ?_ | refine QX.bx rfl ?_ | refine QX.br ?_ | refine QX.sn ?_ | refine QX.se ?_ | refine QX.sr ?_ | refine QX.ee ?_ | refine QX.eo rfl ?_ | refine QX.er ?_ | refine QX.en ?_ | refine JL.S1 rfl (h20) rfl trivial rfl ?_ | refine JL.C1 rfl (h20) rfl (fun r hr => ?_); subst hr | refine JL.S1g rfl rfl (fun hgd => h20) rfl trivial rfl ?_))
  refine JC.cond rfl (fun hc => ?_) (fun hc => ?_)
  · (simp only [↓bif_or, ↓bif_and, ↓Bool.or_eq_true, ↓Bool.or_eq_false_iff, ↓Bool.and_eq_true, ↓Bool.and_eq_false_iff, ↓Bool.not_eq_true', ↓Bool.not_eq_false', ↓decide_eq_true_eq, ↓decide_eq_false_iff_not, ↓beq_iff_eq, ↓bne_iff_ne, ↓bne_eq_false_iff_eq, ↓ne_eq, ↓beq_eq_false_iff_ne, ↓Bool.not_eq_true] at hc; try simp only [Ty.dflt, Int.toNat_natCast] at hc)
    (repeat (first   | refine JL.Q1 (xok rfl rfl rfl rfl) rfl rfl ?_   | refine JL.G1 (xok rfl rfl rfl rfl) rfl rfl rfl ?_   | refine JL.g1 (xok rfl rfl rfl rfl) rfl rfl rfl (fun hgd => And.intro hgd (fun hpk => Bool.and_eq_true_iff.2 ⟨hgd, by rw [hpk]; rfl⟩)) ?_   | refine JL.G2 (xok rfl rfl rfl rfl) rfl rfl rfl ?_   | refine JL.M1 (xok rfl rfl rfl rfl) rfl rfl ?_   | refine JL.M0 (xok rfl rfl rfl rfl) rfl ?_   | refine JL.Q0 (xok rfl rfl rfl rfl) rfl ?_   | refine JL.nilF ?_   | refine JL.nil ?_   | refine JC.scope ?_   | refine QX.tn ?_   | refine JC.seq ?_   | refine JC.region ?_   | refine JC.Draw (xok rfl rfl rfl rfl) ?_   | refine JC.block ?_   | refine JC.skip ?_   | refine JC.label ?_   | refine JC.exit ?_   | refine JC.ret ?_   | refine QX.te ?_ | refine QX.tr ?_ | refine QX.bn ?_ | refine QX.be ?_ | refine QX.bx rfl ?_ | refine QX.br ?_ | refine QX.sn ?_ | refine QX.se ?_ | refine QX.sr ?_ | refine QX.ee ?_ | refine QX.eo rfl ?_ | refine QX.er ?_ | refine QX.en ?_ | refine JL.S1 rfl (h20) rfl trivial rfl ?_ | refine JL.C1 rfl (h20) rfl (fun r hr => ?_); subst hr | refine JL.S1g rfl rfl (fun hgd => h20) rfl trivial rfl ?_))
    refine ⟨.inl rfl, _, _, rfl, trivial, ?_⟩
    rw [momS, if_pos hc]
  · (simp only [↓bif_or, ↓bif_and, ↓Bool.or_eq_true, ↓Bool.or_eq_false_iff, ↓Bool.and_eq_true, ↓Bool.and_eq_false_iff, ↓Bool.not_eq_true', ↓Bool.not_eq_false', ↓decide_eq_true_eq, ↓decide_eq_false_iff_not, ↓beq_iff_eq, ↓bne_iff_ne, ↓bne_eq_false_iff_eq, ↓ne_eq, ↓beq_eq_false_iff_ne, ↓Bool.not_eq_true] at hc; try simp only [Ty.dflt, Int.toNat_natCast] at hc)
    have ho : dayErr r xs = 0 := by simpa using hc
    obtain ⟨hr, hl, hx⟩ := dayErr_zero.1 ho
    rw [momS, if_neg (by simpa using ho)]
    (repeat (first   | refine JL.Q1 (xok rfl rfl rfl rfl) rfl rfl ?_   | refine JL.G1 (xok rfl rfl rfl rfl) rfl rfl rfl ?_   | refine JL.g1 (xok rfl rfl rfl rfl) rfl rfl rfl (fun hgd => And.intro hgd (fun hpk => Bool.and_eq_true_iff.2 ⟨hgd, by rw [hpk]; rfl⟩)) ?_   | refine JL.G2 (xok rfl rfl rfl rfl) rfl rfl rfl ?_   | refine JL.M1 (xok rfl rfl rfl rfl) rfl rfl ?_   | refine JL.M0 (xok rfl rfl rfl rfl) rfl ?_   | refine JL.Q0 (xok rfl rfl rfl rfl) rfl ?_   | refine JL.nilF ?_   | refine JL.nil ?_   | refine JC.scope ?_   | refine QX.tn ?_   | refine JC.seq ?_   | refine JC.region ?_   | refine JC.Draw (xok rfl rfl rfl rfl) ?_   | refine JC.block ?_   | refine JC.skip ?_   | refine JC.label ?_   | refine JC.exit ?_   | refine JC.ret ?_   | refine QX.te ?_ | refine QX.tr ?_ | refine QX.bn ?_ | refine QX.be ?_ | refine QX.bx rfl ?_ | refine QX.br ?_ | refine QX.sn ?_ | refine QX.se ?_ | refine QX.sr ?_ | refine QX.ee ?_ | refine QX.eo rfl ?_ | refine QX.er ?_ | refine QX.en ?_))
    refine JC.loop (fun i : Nat => ⟨[(1, vL ts), (2, .lf (.optr 0 [])), (6, vI (i : Int))], [(0, .cell dayT (vD r xs))], 1⟩)
      (fun i => i ≤ ts.length ∧ (0 < i → 0 ≤ ts.getD (i - 1) 0) ∧ incrF xs.length ts 0 = incrF xs.length (ts.drop i) (if i = 0 then 0 else ts.getD (i - 1) 0 + 1)) (fun i => ts.length - i) 0 ⟨by simp, by simp, rfl⟩ (by (exact JW.Auto rfl)) fun i hq => ?_
    obtain ⟨hi, hpr, hinv⟩ := hq
    (repeat (first   | refine JL.Q1 (xok rfl rfl rfl rfl) rfl rfl ?_   | refine JL.G1 (xok rfl rfl rfl rfl) rfl rfl rfl ?_   | refine JL.g1 (xok rfl rfl rfl rfl) rfl rfl rfl (fun hgd => And.intro hgd (fun hpk => Bool.and_eq_true_iff.2 ⟨hgd, by rw [hpk]; rfl⟩)) ?_   | refine JL.G2 (xok rfl rfl rfl rfl) rfl rfl rfl ?_   | refine JL.M1 (xok rfl rfl rfl rfl) rfl rfl ?_   | refine JL.M0 (xok rfl rfl rfl rfl) rfl ?_   | refine JL.Q0 (xok rfl rfl rfl rfl) rfl ?_   | refine JL.nilF ?_   | refine JL.nil ?_   | refine JC.scope ?_   | refine QX.tn ?_   | refine JC.seq ?_   | refine JC.region ?_   | refine JC.Draw (xok rfl rfl rfl rfl) ?_   | refine JC.block ?_   | refine JC.skip ?_   | refine JC.label ?_   | refine JC.exit ?_   | refine JC.ret ?_   | refine QX.te ?_ | refine QX.tr ?_ | refine QX.bn ?_ | refine QX.be ?_ | refine QX.bx rfl ?_ | refine QX.br ?_ | refine QX.sn ?_ | refine QX.se ?_ | refine QX.sr ?_ | refine QX.ee ?_ | refine QX.eo rfl ?_ | refine QX.er ?_ | refine QX.en ?_))
    refine JC.cond rfl (fun hc => ?_) (fun hc => ?_)
    · (simp only [↓bif_or, ↓bif_and, ↓Bool.or_eq_true, ↓Bool.or_eq_false_iff, ↓Bool.and_eq_true, ↓Bool.and_eq_false_iff, ↓Bool.not_eq_true', ↓Bool.not_eq_false', ↓decide_eq_true_eq, ↓decide_eq_false_iff_not, ↓beq_iff_eq, ↓bne_iff_ne, ↓bne_eq_false_iff_eq, ↓ne_eq, ↓beq_eq_false_iff_ne, ↓Bool.not_eq_true] at hc; try simp only [Ty.dflt, Int.toNat_natCast] at hc)
      have hi' : i < ts.length := by omega
      have hg := getD_nat ts hi' 0
      rw [List.drop_eq_getElem_cons hi', incrF, ← hg] at hinv
      (repeat (first   | refine JL.Q1 (xok rfl rfl rfl rfl) rfl rfl ?_   | refine JL.G1 (xok rfl rfl rfl rfl) rfl rfl rfl ?_   | refine JL.g1 (xok rfl rfl rfl rfl) rfl rfl rfl (fun hgd => And.intro hgd (fun hpk => Bool.and_eq_true_iff.2 ⟨hgd, by rw [hpk]; rfl⟩)) ?_   | refine JL.G2 (xok rfl rfl rfl rfl) rfl rfl rfl ?_   | refine JL.M1 (xok rfl rfl rfl rfl) rfl rfl ?_   | refine JL.M0 (xok rfl rfl rfl rfl) rfl ?_   | refine JL.Q0 (xok rfl rfl rfl rfl) rfl ?_   | refine JL.nilF ?_   | refine JL.nil ?_   | refine JC.scope ?_   | refine QX.tn ?_   | refine JC.seq ?_   | refine JC.region ?_   | refine JC.Draw (xok rfl rfl rfl rfl) ?_   | refine JC.block ?_   | refine JC.skip ?_   | refine JC.label ?_   | refine JC.exit ?_   | refine JC.ret ?_   | refine QX.te ?_ | refine QX.tr ?_ | refine QX.bn ?_ | refine QX.be ?_ | refine QX.bx rfl ?_ | refine QX.br ?_ | refine QX.sn ?_ | refine QX.se ?_ | refine QX.sr ?_ | refine QX.ee ?_ | refine QX.eo rfl ?_ | refine QX.er ?_ | refine QX.en ?_ | refine JL.S1 rfl (fn47 r xs (ts.getD i 0)) rfl trivial rfl ?_ | refine JL.C1 rfl (fn47 r xs (ts.getD i 0)) rfl (fun r hr => ?_); subst hr | refine JL.S1g rfl rfl (fun hgd => fn47 r xs (ts.getD i 0)) rfl trivial rfl ?_))
      refine JC.cond rfl (fun hd => ?_) (fun hd => ?_)
      · have hd' : ¬((if i = 0 then 0 else ts.getD (i - 1) 0 + 1) ≤ ts.getD i 0 ∧ ts.getD i 0 ≤ (xs.length : Int) - 1) := fun h => by
          refine Bool.noConfusion (hd.symm.trans (momGuard.2 ⟨?_, fun h0 => ?_⟩))
          · split at h <;> (show 0 ≤ ts.getD i 0 ∧ ts.getD i 0 < (xs.length : Int); omega)
          · rw [show ((i : Int) - 1).toNat = i - 1 by omega]
            show ts.getD (i - 1) 0 < ts.getD i 0
            split at h <;> omega
        rw [decide_eq_false hd', Bool.false_and] at hinv
        (repeat (first   | refine JL.Q1 (xok rfl rfl rfl rfl) rfl rfl ?_   | refine JL.G1 (xok rfl rfl rfl rfl) rfl rfl rfl ?_   | refine JL.g1 (xok rfl rfl rfl rfl) rfl rfl rfl (fun hgd => And.intro hgd (fun hpk => Bool.and_eq_true_iff.2 ⟨hgd, by rw [hpk]; rfl⟩)) ?_   | refine JL.G2 (xok rfl rfl rfl rfl) rfl rfl rfl ?_   | refine JL.M1 (xok rfl rfl rfl rfl) rfl rfl ?_   | refine JL.M0 (xok rfl rfl rfl rfl) rfl ?_   | refine JL.Q0 (xok rfl rfl rfl rfl) rfl ?_   | refine JL.nilF ?_   | refine JL.nil ?_   | refine JC.scope ?_   | refine QX.tn ?_   | refine JC.seq ?_   | refine JC.region ?_   | refine JC.Draw (xok rfl rfl rfl rfl) ?_   | refine JC.block ?_   | refine JC.skip ?_   | refine JC.label ?_   | refine JC.exit ?_   | refine JC.ret ?_   | refine QX.te ?_ | refine QX.tr ?_ | refine QX.bn ?_ | refine QX.be ?_ | refine QX.bx rfl ?_ | refine QX.br ?_ | refine QX.sn ?_ | refine QX.se ?_ | refine QX.sr ?_ | refine QX.ee ?_ | refine QX.eo rfl ?_ | refine QX.er ?_ | refine QX.en ?_))
        refine ⟨.inl rfl, _, _, rfl, trivial, ?_⟩
        rw [if_neg (by rw [hinv]; simp)]
      · have h3 := momGuard.1 hd
        have hd' : ((if i = 0 then 0 else ts.getD (i - 1) 0 + 1) ≤ ts.getD i 0 ∧ ts.getD i 0 ≤ (xs.length : Int) - 1) := by
          refine ⟨?_, by omega⟩
          have h5 := h3.2
          split
          · omega
          · have h6 := h5 (by omega)
            rw [show ((i : Int) - 1).toNat = i - 1 by omega] at h6
            have h7 : ts.getD (i - 1) 0 < ts.getD i 0 := h6
            omega
        rw [decide_eq_true hd', Bool.true_and] at hinv
        (repeat (first   | refine JL.Q1 (xok rfl rfl rfl rfl) rfl rfl ?_   | refine JL.G1 (xok rfl rfl rfl rfl) rfl rfl rfl ?_   | refine JL.g1 (xok rfl rfl rfl rfl) rfl rfl rfl (fun hgd => And.intro hgd (fun hpk => Bool.and_eq_true_iff.2 ⟨hgd, by rw [hpk]; rfl⟩)) ?_   | refine JL.G2 (xok rfl rfl rfl rfl) rfl rfl rfl ?_   | refine JL.M1 (xok rfl rfl rfl rfl) rfl rfl ?_   | refine JL.M0 (xok rfl rfl rfl rfl) rfl ?_   | refine JL.Q0 (xok rfl rfl rfl rfl) rfl ?_   | refine JL.nilF ?_   | refine JL.nil ?_   | refine JC.scope ?_   | refine QX.tn ?_   | refine JC.seq ?_   | refine JC.region ?_   | refine JC.Draw (xok rfl rfl rfl rfl) ?_   | refine JC.block ?_   | refine JC.skip ?_   | refine JC.label ?_   | refine JC.exit ?_   | refine JC.ret ?_   | refine QX.te ?_ | refine QX.tr ?_ | refine QX.bn ?_ | refine QX.be ?_ | refine QX.bx rfl ?_ | refine QX.br ?_ | refine QX.sn ?_ | refine QX.se ?_ | refine QX.sr ?_ | refine QX.ee ?_ | refine QX.eo rfl ?_ | refine QX.er ?_ | refine QX.en ?_))
        refine ⟨i + 1, by (exact JW.Auto rfl), ⟨by omega, fun _ => by show 0 ≤ ts.getD i 0; omega, ?_⟩, by omega⟩
        rw [hinv, if_neg (by omega)]; rfl
    · (simp only [↓bif_or, ↓bif_and, ↓Bool.or_eq_true, ↓Bool.or_eq_false_iff, ↓Bool.and_eq_true, ↓Bool.and_eq_false_iff, ↓Bool.not_eq_true', ↓Bool.not_eq_false', ↓decide_eq_true_eq, ↓decide_eq_false_iff_not, ↓beq_iff_eq, ↓bne_iff_ne, ↓bne_eq_false_iff_eq, ↓ne_eq, ↓beq_eq_false_iff_ne, ↓Bool.not_eq_true] at hc; try simp only [Ty.dflt, Int.toNat_natCast] at hc)
      obtain rfl : i = ts.length := by omega
      rw [List.drop_length] at hinv
      replace hinv : incrF xs.length ts 0 = true := hinv
      rw [if_pos hinv]
      have hmul : -3000 ≤ (0 - (r - 1)) * (ts.length : Int) ∧ (0 - (r - 1)) * (ts.length : Int) ≤ 0 ∧ (0 - (r - 1)) * (ts.length : Int) = - ((r - 1) * ts.length) := by
        have h4 : r = 1 ∨ r = 2 ∨ r = 3 ∨ r = 4 := by omega
        rcases h4 with rfl | rfl | rfl | rfl <;> omega
      (repeat (first   | refine JL.Q1 (xok rfl rfl rfl rfl) rfl rfl ?_   | refine JL.G1 (xok rfl rfl rfl rfl) rfl rfl rfl ?_   | refine JL.g1 (xok rfl rfl rfl rfl) rfl rfl rfl (fun hgd => And.intro hgd (fun hpk => Bool.and_eq_true_iff.2 ⟨hgd, by rw [hpk]; rfl⟩)) ?_   | refine JL.G2 (xok rfl rfl rfl rfl) rfl rfl rfl ?_   | refine JL.M1 (xok rfl rfl rfl rfl) rfl rfl ?_   | refine JL.M0 (xok rfl rfl rfl rfl) rfl ?_   | refine JL.Q0 (xok rfl rfl rfl rfl) rfl ?_   | refine JL.nilF ?_   | refine JL.nil ?_   | refine JC.scope ?_   | refine QX.tn ?_   | refine JC.seq ?_   | refine JC.region ?_   | refine JC.Draw (xok rfl rfl rfl rfl) ?_   | refine JC.block ?_   | refine JC.skip ?_   | refine JC.label ?_   | refine JC.exit ?_   | refine JC.ret ?_   | refine QX.te ?_ | refine QX.tr ?_ | refine QX.bn ?_ | refine QX.be ?_ | refine QX.bx rfl ?_ | refine QX.br ?_ | refine QX.sn ?_ | refine QX.se ?_ | refine QX.sr ?_ | refine QX.ee ?_ | refine QX.eo rfl ?_ | refine QX.er ?_ | refine QX.en ?_))
      generalize hbase : (0 - (r - 1)) * (ts.length : Int) = base at hmul
      refine JC.loop (fun i : Nat => ⟨[(1, vL ts), (2, .lf (.optr 0 [])), (7, vI (base + (cntR xs ts i : Nat))), (8, vI (i : Int))], [(0, .cell dayT (vD r xs))], 1⟩)
        (fun i => i ≤ xs.length) (fun i => xs.length - i) 0 (by simp) (by subst hbase; (refine JW.auto rfl ?_ ?_ ?_ ?_ rfl <;> (repeat' (first | exact trivial | exact rfl | refine And.intro ?_ ?_ | exact Nat.le_of_ble_eq_true rfl | refine HO.bdF ?_ | refine HO.bdP ?_ | (refine congrArg (fun z : Int => some (AV.val (.int .i64) z)) ?_; push_cast; omega) | (refine congrArg (fun z : Int => some (AV.val (.int .i64) z)) ?_; show _ = _ + ((0 : Nat) : Int); simp))))) fun i hi => ?_
      have hcr := cntR_le xs ts i
      (repeat (first   | refine JL.Q1 (xok rfl rfl rfl rfl) rfl rfl ?_   | refine JL.G1 (xok rfl rfl rfl rfl) rfl rfl rfl ?_   | refine JL.g1 (xok rfl rfl rfl rfl) rfl rfl rfl (fun hgd => And.intro hgd (fun hpk => Bool.and_eq_true_iff.2 ⟨hgd, by rw [hpk]; rfl⟩)) ?_   | refine JL.G2 (xok rfl rfl rfl rfl) rfl rfl rfl ?_   | refine JL.M1 (xok rfl rfl rfl rfl) rfl rfl ?_   | refine JL.M0 (xok rfl rfl rfl rfl) rfl ?_   | refine JL.Q0 (xok rfl rfl rfl rfl) rfl ?_   | refine JL.nilF ?_   | refine JL.nil ?_   | refine JC.scope ?_   | refine QX.tn ?_   | refine JC.seq ?_   | refine JC.region ?_   | refine JC.Draw (xok rfl rfl rfl rfl) ?_   | refine JC.block ?_   | refine JC.skip ?_   | refine JC.label ?_   | refine JC.exit ?_   | refine JC.ret ?_   | refine QX.te ?_ | refine QX.tr ?_ | refine QX.bn ?_ | refine QX.be ?_ | refine QX.bx rfl ?_ | refine QX.br ?_ | refine QX.sn ?_ | refine QX.se ?_ | refine QX.sr ?_ | refine QX.ee ?_ | refine QX.eo rfl ?_ | refine QX.er ?_ | refine QX.en ?_))
      refine JC.cond rfl (fun hc2 => ?_) (fun hc2 => ?_)
      · (simp only [↓bif_or, ↓bif_and, ↓Bool.or_eq_true, ↓Bool.or_eq_false_iff, ↓Bool.and_eq_true, ↓Bool.and_eq_false_iff, ↓Bool.not_eq_true', ↓Bool.not_eq_false', ↓decide_eq_true_eq, ↓decide_eq_false_iff_not, ↓beq_iff_eq, ↓bne_iff_ne, ↓bne_eq_false_iff_eq, ↓ne_eq, ↓beq_eq_false_iff_ne, ↓Bool.not_eq_true] at hc2; try simp only [Ty.dflt, Int.toNat_natCast] at hc2)
        have hi' : i < xs.length := by omega
        (repeat (first   | refine JL.Q1 (xok rfl rfl rfl rfl) rfl rfl ?_   | refine JL.G1 (xok rfl rfl rfl rfl) rfl rfl rfl ?_   | refine JL.g1 (xok rfl rfl rfl rfl) rfl rfl rfl (fun hgd => And.intro hgd (fun hpk => Bool.and_eq_true_iff.2 ⟨hgd, by rw [hpk]; rfl⟩)) ?_   | refine JL.G2 (xok rfl rfl rfl rfl) rfl rfl rfl ?_   | refine JL.M1 (xok rfl rfl rfl rfl) rfl rfl ?_   | refine JL.M0 (xok rfl rfl rfl rfl) rfl ?_   | refine JL.Q0 (xok rfl rfl rfl rfl) rfl ?_   | refine JL.nilF ?_   | refine JL.nil ?_   | refine JC.scope ?_   | refine QX.tn ?_   | refine JC.seq ?_   | refine JC.region ?_   | refine JC.Draw (xok rfl rfl rfl rfl) ?_   | refine JC.block ?_   | refine JC.skip ?_   | refine JC.label ?_   | refine JC.exit ?_   | refine JC.ret ?_   | refine QX.te ?_ | refine QX.tr ?_ | refine QX.bn ?_ | refine QX.be ?_ | refine QX.bx rfl ?_ | refine QX.br ?_ | refine QX.sn ?_ | refine QX.se ?_ | refine QX.sr ?_ | refine QX.ee ?_ | refine QX.eo rfl ?_ | refine QX.er ?_ | refine QX.en ?_ | refine JL.S1 rfl (fn48 r xs i hi') rfl trivial rfl ?_ | refine JL.C1 rfl (fn48 r xs i hi') rfl (fun r hr => ?_); subst hr | refine JL.S1g rfl rfl (fun hgd => fn48 r xs i hi') rfl trivial rfl ?_))
        generalize hlv : lastB xs (xs.getD i 0) i = lv
        refine JC.loop (fun k : Nat => ⟨[(1, vL ts), (2, .lf (.optr 0 [])), (7, vI (base + (cntR xs ts i : Nat))), (8, vI (i : Int)), (9, vI lv), (10, vB (decide (lv < 0) || (ts.take k).any fun t => decide (lv < t ∧ t < (i : Int)))), (11, vI (k : Int))], [(0, .cell dayT (vD r xs))], 1⟩)
          (fun k => k ≤ ts.length) (fun k => ts.length - k) 0 (by simp) (by subst hlv; (refine JW.auto rfl ?_ ?_ ?_ ?_ rfl <;> (repeat' (first | exact trivial | exact rfl | refine And.intro ?_ ?_ | exact Nat.le_of_ble_eq_true rfl | refine HO.bdF ?_ | refine HO.bdP ?_ | (refine congrArg (fun z : Int => some (AV.val (.int .i64) z)) ?_; push_cast; omega) | (refine congrArg (fun z : Bool => some (AV.val .bool z)) ?_; simp))))) fun k hk => ?_
        (repeat (first   | refine JL.Q1 (xok rfl rfl rfl rfl) rfl rfl ?_   | refine JL.G1 (xok rfl rfl rfl rfl) rfl rfl rfl ?_   | refine JL.g1 (xok rfl rfl rfl rfl) rfl rfl rfl (fun hgd => And.intro hgd (fun hpk => Bool.and_eq_true_iff.2 ⟨hgd, by rw [hpk]; rfl⟩)) ?_   | refine JL.G2 (xok rfl rfl rfl rfl) rfl rfl rfl ?_   | refine JL.M1 (xok rfl rfl rfl rfl) rfl rfl ?_   | refine JL.M0 (xok rfl rfl rfl rfl) rfl ?_   | refine JL.Q0 (xok rfl rfl rfl rfl) rfl ?_   | refine JL.nilF ?_   | refine JL.nil ?_   | refine JC.scope ?_   | refine QX.tn ?_   | refine JC.seq ?_   | refine JC.region ?_   | refine JC.Draw (xok rfl rfl rfl rfl) ?_   | refine JC.block ?_   | refine JC.skip ?_   | refine JC.label ?_   | refine JC.exit ?_   | refine JC.ret ?_   | refine QX.te ?_ | refine QX.tr ?_ | refine QX.bn ?_ | refine QX.be ?_ | refine QX.bx rfl ?_ | refine QX.br ?_ | refine QX.sn ?_ | refine QX.se ?_ | refine QX.sr ?_ | refine QX.ee ?_ | refine QX.eo rfl ?_ | refine QX.er ?_ | refine QX.en ?_))
        refine JC.cond rfl (fun hc3 => ?_) (fun hc3 => ?_)
        · (simp only [↓bif_or, ↓bif_and, ↓Bool.or_eq_true, ↓Bool.or_eq_false_iff, ↓Bool.and_eq_true, ↓Bool.and_eq_false_iff, ↓Bool.not_eq_true', ↓Bool.not_eq_false', ↓decide_eq_true_eq, ↓decide_eq_false_iff_not, ↓beq_iff_eq, ↓bne_iff_ne, ↓bne_eq_false_iff_eq, ↓ne_eq, ↓beq_eq_false_iff_ne, ↓Bool.not_eq_true] at hc3; try simp only [Ty.dflt, Int.toNat_natCast] at hc3)
          have hk' : k < ts.length := by omega
          have hgk := getD_nat ts hk' 0
          (repeat (first   | refine JL.Q1 (xok rfl rfl rfl rfl) rfl rfl ?_   | refine JL.G1 (xok rfl rfl rfl rfl) rfl rfl rfl ?_   | refine JL.g1 (xok rfl rfl rfl rfl) rfl rfl rfl (fun hgd => And.intro hgd (fun hpk => Bool.and_eq_true_iff.2 ⟨hgd, by rw [hpk]; rfl⟩)) ?_   | refine JL.G2 (xok rfl rfl rfl rfl) rfl rfl rfl ?_   | refine JL.M1 (xok rfl rfl rfl rfl) rfl rfl ?_   | refine JL.M0 (xok rfl rfl rfl rfl) rfl ?_   | refine JL.Q0 (xok rfl rfl rfl rfl) rfl ?_   | refine JL.nilF ?_   | refine JL.nil ?_   | refine JC.scope ?_   | refine QX.tn ?_   | refine JC.seq ?_   | refine JC.region ?_   | refine JC.Draw (xok rfl rfl rfl rfl) ?_   | refine JC.block ?_   | refine JC.skip ?_   | refine JC.label ?_   | refine JC.exit ?_   | refine JC.ret ?_   | refine QX.te ?_ | refine QX.tr ?_ | refine QX.bn ?_ | refine QX.be ?_ | refine QX.bx rfl ?_ | refine QX.br ?_ | refine QX.sn ?_ | refine QX.se ?_ | refine QX.sr ?_ | refine QX.ee ?_ | refine QX.eo rfl ?_ | refine QX.er ?_ | refine QX.en ?_))
          refine ⟨k + 1, by (refine JW.auto rfl ?_ ?_ ?_ ?_ rfl <;> (repeat' (first | exact trivial | exact rfl | refine And.intro ?_ ?_ | exact Nat.le_of_ble_eq_true rfl | refine HO.bdF ?_ | refine HO.bdP ?_ | (refine congrArg (fun z : Int => some (AV.val (.int .i64) z)) ?_; push_cast; omega) | (refine congrArg (fun z : Bool => some (AV.val .bool z)) ?_; exact momPick hk')))), by omega, by omega⟩
        · (simp only [↓bif_or, ↓bif_and, ↓Bool.or_eq_true, ↓Bool.or_eq_false_iff, ↓Bool.and_eq_true, ↓Bool.and_eq_false_iff, ↓Bool.not_eq_true', ↓Bool.not_eq_false', ↓decide_eq_true_eq, ↓decide_eq_false_iff_not, ↓beq_iff_eq, ↓bne_iff_ne, ↓bne_eq_false_iff_eq, ↓ne_eq, ↓beq_eq_false_iff_ne, ↓Bool.not_eq_true] at hc3; try simp only [Ty.dflt, Int.toNat_natCast] at hc3)
          obtain rfl : k = ts.length := by omega
          have hsu := cntR_succ xs ts i
          rw [hlv] at hsu
          (repeat (first   | refine JL.Q1 (xok rfl rfl rfl rfl) rfl rfl ?_   | refine JL.G1 (xok rfl rfl rfl rfl) rfl rfl rfl ?_   | refine JL.g1 (xok rfl rfl rfl rfl) rfl rfl rfl (fun hgd => And.intro hgd (fun hpk => Bool.and_eq_true_iff.2 ⟨hgd, by rw [hpk]; rfl⟩)) ?_   | refine JL.G2 (xok rfl rfl rfl rfl) rfl rfl rfl ?_   | refine JL.M1 (xok rfl rfl rfl rfl) rfl rfl ?_   | refine JL.M0 (xok rfl rfl rfl rfl) rfl ?_   | refine JL.Q0 (xok rfl rfl rfl rfl) rfl ?_   | refine JL.nilF ?_   | refine JL.nil ?_   | refine JC.scope ?_   | refine QX.tn ?_   | refine JC.seq ?_   | refine JC.region ?_   | refine JC.Draw (xok rfl rfl rfl rfl) ?_   | refine JC.block ?_   | refine JC.skip ?_   | refine JC.label ?_   | refine JC.exit ?_   | refine JC.ret ?_   | refine QX.te ?_ | refine QX.tr ?_ | refine QX.bn ?_ | refine QX.be ?_ | refine QX.bx rfl ?_ | refine QX.br ?_ | refine QX.sn ?_ | refine QX.se ?_ | refine QX.sr ?_ | refine QX.ee ?_ | refine QX.eo rfl ?_ | refine QX.er ?_ | refine QX.en ?_))
          refine JC.cond rfl (fun hc4 => ?_) (fun hc4 => ?_)
          · replace hc4 : (decide (lv < 0) || (ts.take ts.length).any fun t => decide (lv < t ∧ t < (i : Int))) = true := hc4
            rw [List.take_length] at hc4
            rw [if_pos hc4] at hsu
            (repeat (first   | refine JL.Q1 (xok rfl rfl rfl rfl) rfl rfl ?_   | refine JL.G1 (xok rfl rfl rfl rfl) rfl rfl rfl ?_   | refine JL.g1 (xok rfl rfl rfl rfl) rfl rfl rfl (fun hgd => And.intro hgd (fun hpk => Bool.and_eq_true_iff.2 ⟨hgd, by rw [hpk]; rfl⟩)) ?_   | refine JL.G2 (xok rfl rfl rfl rfl) rfl rfl rfl ?_   | refine JL.M1 (xok rfl rfl rfl rfl) rfl rfl ?_   | refine JL.M0 (xok rfl rfl rfl rfl) rfl ?_   | refine JL.Q0 (xok rfl rfl rfl rfl) rfl ?_   | refine JL.nilF ?_   | refine JL.nil ?_   | refine JC.scope ?_   | refine QX.tn ?_   | refine JC.seq ?_   | refine JC.region ?_   | refine JC.Draw (xok rfl rfl rfl rfl) ?_   | refine JC.block ?_   | refine JC.skip ?_   | refine JC.label ?_   | refine JC.exit ?_   | refine JC.ret ?_   | refine QX.te ?_ | refine QX.tr ?_ | refine QX.bn ?_ | refine QX.be ?_ | refine QX.bx rfl ?_ | refine QX.br ?_ | refine QX.sn ?_ | refine QX.se ?_ | refine QX.sr ?_ | refine QX.ee ?_ | refine QX.eo rfl ?_ | refine QX.er ?_ | refine QX.en ?_))
            exact ⟨i + 1, by (refine JW.auto rfl ?_ ?_ ?_ ?_ rfl <;> (repeat' (first | exact trivial | exact rfl | refine And.intro ?_ ?_ | exact Nat.le_of_ble_eq_true rfl | refine HO.bdF ?_ | refine HO.bdP ?_ | (refine congrArg (fun z : Int => some (AV.val (.int .i64) z)) ?_; push_cast; omega) | (refine congrArg (fun z : Int => some (AV.val (.int .i64) z)) ?_; rw [hsu]; push_cast; omega)))), by omega, by omega⟩
          · replace hc4 : (decide (lv < 0) || (ts.take ts.length).any fun t => decide (lv < t ∧ t < (i : Int))) = false := hc4
            rw [List.take_length] at hc4
            rw [if_neg (by rw [hc4]; decide)] at hsu
            (repeat (first   | refine JL.Q1 (xok rfl rfl rfl rfl) rfl rfl ?_   | refine JL.G1 (xok rfl rfl rfl rfl) rfl rfl rfl ?_   | refine JL.g1 (xok rfl rfl rfl rfl) rfl rfl rfl (fun hgd => And.intro hgd (fun hpk => Bool.and_eq_true_iff.2 ⟨hgd, by rw [hpk]; rfl⟩)) ?_   | refine JL.G2 (xok rfl rfl rfl rfl) rfl rfl rfl ?_   | refine JL.M1 (xok rfl rfl rfl rfl) rfl rfl ?_   | refine JL.M0 (xok rfl rfl rfl rfl) rfl ?_   | refine JL.Q0 (xok rfl rfl rfl rfl) rfl ?_   | refine JL.nilF ?_   | refine JL.nil ?_   | refine JC.scope ?_   | refine QX.tn ?_   | refine JC.seq ?_   | refine JC.region ?_   | refine JC.Draw (xok rfl rfl rfl rfl) ?_   | refine JC.block ?_   | refine JC.skip ?_   | refine JC.label ?_   | refine JC.exit ?_   | refine JC.ret ?_   | refine QX.te ?_ | refine QX.tr ?_ | refine QX.bn ?_ | refine QX.be ?_ | refine QX.bx rfl ?_ | refine QX.br ?_ | refine QX.sn ?_ | refine QX.se ?_ | refine QX.sr ?_ | refine QX.ee ?_ | refine QX.eo rfl ?_ | refine QX.er ?_ | refine QX.en ?_))
            exact ⟨i + 1, by (refine JW.auto rfl ?_ ?_ ?_ ?_ rfl <;> (repeat' (first | exact trivial | exact rfl | refine And.intro ?_ ?_ | exact Nat.le_of_ble_eq_true rfl | refine HO.bdF ?_ | refine HO.bdP ?_ | (refine congrArg (fun z : Int => some (AV.val (.int .i64) z)) ?_; push_cast; omega) | (refine congrArg (fun z : Int => some (AV.val (.int .i64) z)) ?_; rw [hsu]; push_cast; omega)))), by omega, by omega⟩
      · (simp only [↓bif_or, ↓bif_and, ↓Bool.or_eq_true, ↓Bool.or_eq_false_iff, ↓Bool.and_eq_true, ↓Bool.and_eq_false_iff, ↓Bool.not_eq_true', ↓Bool.not_eq_false', ↓decide_eq_true_eq, ↓decide_eq_false_iff_not, ↓beq_iff_eq, ↓bne_iff_ne, ↓bne_eq_false_iff_eq, ↓ne_eq, ↓beq_eq_false_iff_ne, ↓Bool.not_eq_true] at hc2; try simp only [Ty.dflt, Int.toNat_natCast] at hc2)
        (repeat (first   | refine JL.Q1 (xok rfl rfl rfl rfl) rfl rfl ?_   | refine JL.G1 (xok rfl rfl rfl rfl) rfl rfl rfl ?_   | refine JL.g1 (xok rfl rfl rfl rfl) rfl rfl rfl (fun hgd => And.intro hgd (fun hpk => Bool.and_eq_true_iff.2 ⟨hgd, by rw [hpk]; rfl⟩)) ?_   | refine JL.G2 (xok rfl rfl rfl rfl) rfl rfl rfl ?_   | refine JL.M1 (xok rfl rfl rfl rfl) rfl rfl ?_   | refine JL.M0 (xok rfl rfl rfl rfl) rfl ?_   | refine JL.Q0 (xok rfl rfl rfl rfl) rfl ?_   | refine JL.nilF ?_   | refine JL.nil ?_   | refine JC.scope ?_   | refine QX.tn ?_   | refine JC.seq ?_   | refine JC.region ?_   | refine JC.Draw (xok rfl rfl rfl rfl) ?_   | refine JC.block ?_   | refine JC.skip ?_   | refine JC.label ?_   | refine JC.exit ?_   | refine JC.ret ?_   | refine QX.te ?_ | refine QX.tr ?_ | refine QX.bn ?_ | refine QX.be ?_ | refine QX.bx rfl ?_ | refine QX.br ?_ | refine QX.sn ?_ | refine QX.se ?_ | refine QX.sr ?_ | refine QX.ee ?_ | refine QX.eo rfl ?_ | refine QX.er ?_ | refine QX.en ?_))
        obtain rfl : i = xs.length := by omega
        refine ⟨.inl rfl, _, _, rfl, trivial, ?_⟩
        have hm := cntR_momV xs ts
        have e : momV r xs (lasts xs xs.length) ts = base + ((cntR xs ts xs.length : Nat) : Int) := by rw [hm, momV]; omega
        rw [e]
end Go.Proofs.Ytbmgijgnbilnoaa

namespace Go.Proofs.Ytbmgijgnbilnoaa
open Go Go.RowKit Ox
attribute [local irreducible] JC JL JW

theorem fn65 (r : Int) (xs : List Int) : Ox.Fn Go.Proofs.Try.prog 65 (.acons (vI r) (.acons (vL xs) .anil)) (· = vD r xs) := by
  refine Ox.Fn.intro xok Go.Proofs.Try.func65 rfl Go.Proofs.Try.call65 (Nat.le_of_ble_eq_true rfl) (fun E M0 up => ?_)
  (repeat (first   | refine JL.Q1 (xok rfl rfl rfl rfl) rfl rfl ?_   | refine JL.G1 (xok rfl rfl rfl rfl) rfl rfl rfl ?_   | refine JL.g1 (xok rfl rfl rfl rfl) rfl rfl rfl (fun hgd => And.intro hgd (fun hpk => Bool.and_eq_true_iff.2 ⟨hgd, by rw [hpk]; rfl⟩)) ?_   | refine JL.G2 (xok rfl rfl rfl rfl) rfl rfl rfl ?_   | refine JL.M1 (xok rfl rfl rfl rfl) rfl rfl ?_   | refine JL.M0 (xok rfl rfl rfl rfl) rfl ?_   | refine JL.Q0 (xok rfl rfl rfl rfl) rfl ?_   | refine JL.nilF ?_   | refine JL.nil ?_   | refine JC.scope ?_   | refine QX.tn ?_   | refine JC.seq ?_   | refine JC.region ?_   | refine JC.Draw (xok rfl rfl rfl rfl) ?_   | refine JC.block ?_   | refine JC.skip ?_   | refine JC.label ?_   | refine JC.exit ?_   | refine JC.ret ?_   | refine QX.te ?_ | refine QX.tr ?_ | refine QX.bn ?_ | refine QX.be ?_ | refine QX.bx rfl ?_ | refine QX.br ?_ | refine QX.sn ?_ | refine QX.se ?_ | refine QX.sr ?_ | refine QX.ee ?_ | refine QX.eo rfl ?_ | refine QX.er ?_ | refine QX.en ?_))
  refine ⟨.inl rfl, _, _, rfl, trivial, ?_⟩
  rfl

theorem fn45 : Ox.Fn Go.Proofs.Try.prog 45 .anil (· = .tup (.acons (vD 2 [0, 1, 2, 0, 1, 2, 0]) (.acons (vL [-1, -1, 1, -1, 0, -1, 1]) .anil))) := by
  refine Ox.Fn.intro xok Go.Proofs.Try.func45 rfl Go.Proofs.Try.call45 (Nat.le_of_ble_eq_true rfl) (fun E M0 up => ?_)
  (repeat (first   | refine JL.Q1 (xok rfl rfl rfl rfl) rfl rfl ?_   | refine JL.G1 (xok rfl rfl rfl rfl) rfl rfl rfl ?_   | refine JL.g1 (xok rfl rfl rfl rfl) rfl rfl rfl (fun hgd => And.intro hgd (fun hpk => Bool.and_eq_true_iff.2 ⟨hgd, by rw [hpk]; rfl⟩)) ?_   | refine JL.G2 (xok rfl rfl rfl rfl) rfl rfl rfl ?_   | refine JL.M1 (xok rfl rfl rfl rfl) rfl rfl ?_   | refine JL.M0 (xok rfl rfl rfl rfl) rfl ?_   | refine JL.Q0 (xok rfl rfl rfl rfl) rfl ?_   | refine JL.nilF ?_   | refine JL.nil ?_   | refine JC.scope ?_   | refine QX.tn ?_   | refine JC.seq ?_   | refine JC.region ?_   | refine JC.Draw (xok rfl rfl rfl rfl) ?_   | refine JC.block ?_   | refine JC.skip ?_   | refine JC.label ?_   | refine JC.exit ?_   | refine JC.ret ?_   | refine QX.te ?_ | refine QX.tr ?_ | refine QX.bn ?_ | refine QX.be ?_ | refine QX.bx rfl ?_ | refine QX.br ?_ | refine QX.sn ?_ | refine QX.se ?_ | refine QX.sr ?_ | refine QX.ee ?_ | refine QX.eo rfl ?_ | refine QX.er ?_ | refine QX.en ?_))
  (refine JL.frz [1] [0,1,2] rfl (by (first | exact trivial | (try dsimp only [allP, inK, idxC, loC, lohiC, fullC, underG, List.append, List.nil_append, List.cons_append, Ty.den, Ty.dflt, Int.toNat_natCast, List.length_cons, List.length_nil] at *); first | omega | ((repeat' (first | exact trivial | assumption | refine And.intro ?_ ?_ | exact fun h => h | (intro hpk; first | exact hpk | simp only [wantB, hpk, Bool.not_false, Bool.not_true]))) <;> omega) | fail)) ?_)
  have c := fn65 2 [0, 1, 2, 0, 1, 2, 0]
  (repeat (first   | refine JL.Q1 (xok rfl rfl rfl rfl) rfl rfl ?_   | refine JL.G1 (xok rfl rfl rfl rfl) rfl rfl rfl ?_   | refine JL.g1 (xok rfl rfl rfl rfl) rfl rfl rfl (fun hgd => And.intro hgd (fun hpk => Bool.and_eq_true_iff.2 ⟨hgd, by rw [hpk]; rfl⟩)) ?_   | refine JL.G2 (xok rfl rfl rfl rfl) rfl rfl rfl ?_   | refine JL.M1 (xok rfl rfl rfl rfl) rfl rfl ?_   | refine JL.M0 (xok rfl rfl rfl rfl) rfl ?_   | refine JL.Q0 (xok rfl rfl rfl rfl) rfl ?_   | refine JL.nilF ?_   | refine JL.nil ?_   | refine JC.scope ?_   | refine QX.tn ?_   | refine JC.seq ?_   | refine JC.region ?_   | refine JC.Draw (xok rfl rfl rfl rfl) ?_   | refine JC.block ?_   | refine JC.skip ?_   | refine JC.label ?_   | refine JC.exit ?_   | refine JC.ret ?_   | refine QX.te ?_ | refine QX.tr ?_ | refine QX.bn ?_ | refine QX.be ?_ | refine QX.bx rfl ?_ | refine QX.br ?_ | refine QX.sn ?_ | refine QX.se ?_ | refine QX.sr ?_ | refine QX.ee ?_ | refine QX.eo rfl ?_ | refine QX.er ?_ | refine QX.en ?_ | refine JL.S1 rfl (c) rfl trivial rfl ?_ | refine JL.T1 rfl (c) rfl rfl ?_ | refine JL.C1 rfl (c) rfl (fun r hr => ?_); subst hr | refine JL.S1g rfl rfl (fun hgd => c) rfl trivial rfl ?_))
  refine ⟨.inl rfl, _, _, rfl, trivial, ?_⟩
  rfl

theorem fn15 (r : Int) (xs : List Int) : Ox.Fn Go.Proofs.Try.prog 15 (.acons (vD r xs) .anil) (· = vB (decide (xs.length > 30))) := by
  refine Ox.Fn.intro xok Go.Proofs.Try.func15 rfl Go.Proofs.Try.call15 (Nat.le_of_ble_eq_true rfl) (fun E M0 up => ?_)
  refine JC.lenOf 0 rfl fun hlen => ?_
  replace hlen : xs.length ≤ 9223372036854775807 := hlen.2.1.1
  (repeat (first   | refine JL.Q1 (xok rfl rfl rfl rfl) rfl rfl ?_   | refine JL.G1 (xok rfl rfl rfl rfl) rfl rfl rfl ?_   | refine JL.g1 (xok rfl rfl rfl rfl) rfl rfl rfl (fun hgd => And.intro hgd (fun hpk => Bool.and_eq_true_iff.2 ⟨hgd, by rw [hpk]; rfl⟩)) ?_   | refine JL.G2 (xok rfl rfl rfl rfl) rfl rfl rfl ?_   | refine JL.M1 (xok rfl rfl rfl rfl) rfl rfl ?_   | refine JL.M0 (xok rfl rfl rfl rfl) rfl ?_   | refine JL.Q0 (xok rfl rfl rfl rfl) rfl ?_   | refine JL.nilF ?_   | refine JL.nil ?_   | refine JC.scope ?_   | refine QX.tn ?_   | refine JC.seq ?_   | refine JC.region ?_   | refine JC.Draw (xok rfl rfl rfl rfl) ?_   | refine JC.block ?_   | refine JC.skip ?_   | refine JC.label ?_   | refine JC.exit ?_   | refine JC.ret ?_   | refine QX.te ?_ | refine QX.tr ?_ | refine QX.bn ?_ | refine QX.be ?_ | refine QX.bx rfl ?_ | refine QX.br ?_ | refine QX.sn ?_ | refine QX.se ?_ | refine QX.sr ?_ | refine QX.ee ?_ | refine QX.eo rfl ?_ | refine QX.er ?_ | refine QX.en ?_))
  refine ⟨.inl rfl, _, _, rfl, trivial, ?_⟩
  simp; omega

set_option maxHeartbeats 4000000 in
theorem fn16 : Ox.Fn Go.Proofs.Try.prog 16 .anil (· = vB true) := by
  refine Ox.Fn.intro xok Go.Proofs.Try.func16 rfl Go.Proofs.Try.call16 (Nat.le_of_ble_eq_true rfl) (fun E M0 up => ?_)
  have c17a : Ox.Fn Go.Proofs.Try.prog 17 (.acons (vD 2 [0, 1, 2, 0, 1, 2, 0]) (.acons (vI 3) .anil)) (· = vT2 0 0) := by
    have := fn17 2 [0, 1, 2, 0, 1, 2, 0] 3
    rwa [show beforeS 2 [0, 1, 2, 0, 1, 2, 0] 3 = (0, 0) by decide +kernel] at this
  have c17b : Ox.Fn Go.Proofs.Try.prog 17 (.acons (vD 2 [0, 1, 2, 0, 1, 2, 0]) (.acons (vI 2) .anil)) (· = vT2 0 5) := by
    have := fn17 2 [0, 1, 2, 0, 1, 2, 0] 2
    rwa [show beforeS 2 [0, 1, 2, 0, 1, 2, 0] 2 = (0, 5) by decide +kernel] at this
  have c21 : Ox.Fn Go.Proofs.Try.prog 21 (.acons (vD 2 [0, 1, 2, 0, 1, 2, 0]) (.acons (vL [-1, -1, 1, -1, 0, -1, 1]) .anil)) (· = vT2 5 0) := by
    have := fn21 2 [0, 1, 2, 0, 1, 2, 0] [-1, -1, 1, -1, 0, -1, 1]
    rwa [show fetS 2 [0, 1, 2, 0, 1, 2, 0] [-1, -1, 1, -1, 0, -1, 1] = (5, 0) by decide +kernel] at this
  have c23 : Ox.Fn Go.Proofs.Try.prog 23 (.acons (vD 2 [0, 1, 2, 0, 1, 2, 0]) (.acons (vL [-1, -1, 1, -1, 0, -1, 1]) .anil)) (· = .tup (.acons (vL [3, 5]) (.acons (vI 0) .anil))) := by
    have := fn23 2 [0, 1, 2, 0, 1, 2, 0] [-1, -1, 1, -1, 0, -1, 1]
    rwa [show keptS 2 [0, 1, 2, 0, 1, 2, 0] [-1, -1, 1, -1, 0, -1, 1] = [3, 5] by decide +kernel, show playedE 2 [0, 1, 2, 0, 1, 2, 0] [-1, -1, 1, -1, 0, -1, 1] [] = 0 by decide +kernel] at this
  have c25 : Ox.Fn Go.Proofs.Try.prog 25 (.acons (vD 2 [0, 1, 2, 0, 1, 2, 0]) (.acons (vL [-1, -1, 1, -1, 0, -1, 1]) (.acons (vI 4) .anil))) (· = .tup (.acons (vL [1, 2]) (.acons (vI 0) .anil))) := by
    have := fn25 2 [0, 1, 2, 0, 1, 2, 0] [-1, -1, 1, -1, 0, -1, 1] 4
    rwa [show benchS 2 [0, 1, 2, 0, 1, 2, 0] [-1, -1, 1, -1, 0, -1, 1] 4 = [1, 2] by decide +kernel, show playedE 2 [0, 1, 2, 0, 1, 2, 0] [-1, -1, 1, -1, 0, -1, 1] [4] = 0 by decide +kernel] at this
  have c28 : Ox.Fn Go.Proofs.Try.prog 28 (.acons (vD 2 [0, 1, 2, 0, 1, 2, 0]) .anil) (· = vT3 [-1, -1, 1, -1, 0, -1, 1] 5 0) := by
    have := fn28 2 [0, 1, 2, 0, 1, 2, 0]
    rwa [show bestS 2 [0, 1, 2, 0, 1, 2, 0] = ([-1, -1, 1, -1, 0, -1, 1], 5, 0) by decide +kernel] at this
  have c29 : Ox.Fn Go.Proofs.Try.prog 29 (.acons (vD 2 [0, 1, 2, 0, 1, 2, 0]) .anil) (· = .tup (.acons (vL [7, 5, 3, 3]) (.acons (vI 0) .anil))) := by
    have := fn29 2 [0, 1, 2, 0, 1, 2, 0]
    rwa [show curveS 2 [0, 1, 2, 0, 1, 2, 0] = [7, 5, 3, 3] by decide +kernel, show dayErr 2 [0, 1, 2, 0, 1, 2, 0] = 0 by decide +kernel] at this
  have c32 : Ox.Fn Go.Proofs.Try.prog 32 (.acons (vD 2 [0, 1, 2, 0, 1, 2, 0]) (.acons (vL [2, 4]) .anil)) (· = vT2 5 0) := by
    have := fn32 2 [0, 1, 2, 0, 1, 2, 0] [2, 4]
    rwa [show momS 2 [0, 1, 2, 0, 1, 2, 0] [2, 4] = (5, 0) by decide +kernel] at this
  have c34 : Ox.Fn Go.Proofs.Try.prog 34 (.acons (vD 2 [0, 1, 2, 0, 1, 2, 0]) .anil) (· = .tup (.acons (vL [2, 4]) (.acons (vI 0) .anil))) := by
    have := fn34 2 [0, 1, 2, 0, 1, 2, 0]
    rwa [show momentsD 2 [0, 1, 2, 0, 1, 2, 0] = [2, 4] by decide +kernel, show dayErr 2 [0, 1, 2, 0, 1, 2, 0] = 0 by decide +kernel] at this
  have c36a : Ox.Fn Go.Proofs.Try.prog 36 (.acons (vD 2 [0, 1, 2, 0, 1, 2, 0]) (.acons (vI 0) .anil)) (· = vT2 2 0) := by
    have := fn36 2 [0, 1, 2, 0, 1, 2, 0] 0
    rwa [show kindS 2 [0, 1, 2, 0, 1, 2, 0] 0 = (2, 0) by decide +kernel] at this
  have c36b : Ox.Fn Go.Proofs.Try.prog 36 (.acons (vD 2 [0, 1, 2, 0, 1, 2, 0]) (.acons (vI 3) .anil)) (· = vT2 1 0) := by
    have := fn36 2 [0, 1, 2, 0, 1, 2, 0] 3
    rwa [show kindS 2 [0, 1, 2, 0, 1, 2, 0] 3 = (1, 0) by decide +kernel] at this
  have c38 : Ox.Fn Go.Proofs.Try.prog 38 (.acons (vD 2 [0, 1, 2, 0, 1, 2, 0]) .anil) (· = vT2 3 0) := by
    have := fn38 2 [0, 1, 2, 0, 1, 2, 0]
    rwa [show countD 2 [0, 1, 2, 0, 1, 2, 0] = 3 by decide +kernel, show dayErr 2 [0, 1, 2, 0, 1, 2, 0] = 0 by decide +kernel] at this
  have c33 : Ox.Fn Go.Proofs.Try.prog 33 (.acons (vD 2 [0, 1, 2, 0, 1, 2, 0]) (.acons (vL [2, 4]) .anil)) (· = vT2 5 0) := by
    have := fn33 2 [0, 1, 2, 0, 1, 2, 0] [2, 4] (by decide)
    rwa [show momS 2 [0, 1, 2, 0, 1, 2, 0] [2, 4] = (5, 0) by decide +kernel] at this
  have c22 : Ox.Fn Go.Proofs.Try.prog 22 (.acons (vD 2 [0, 1, 2, 0, 1, 2, 0]) (.acons (vL [-1, -1, 1, -1, 0, -1, 1]) .anil)) (· = vT2 5 0) := by
    have := fn22 2 [0, 1, 2, 0, 1, 2, 0] [-1, -1, 1, -1, 0, -1, 1]
    rwa [show fetchesR 2 [0, 1, 2, 0, 1, 2, 0] [-1, -1, 1, -1, 0, -1, 1] = 5 by decide +kernel, show plannedE 2 [0, 1, 2, 0, 1, 2, 0] [-1, -1, 1, -1, 0, -1, 1] = 0 by decide +kernel] at this
  (repeat (first   | refine JL.Q1 (xok rfl rfl rfl rfl) rfl rfl ?_   | refine JL.G1 (xok rfl rfl rfl rfl) rfl rfl rfl ?_   | refine JL.g1 (xok rfl rfl rfl rfl) rfl rfl rfl (fun hgd => And.intro hgd (fun hpk => Bool.and_eq_true_iff.2 ⟨hgd, by rw [hpk]; rfl⟩)) ?_   | refine JL.G2 (xok rfl rfl rfl rfl) rfl rfl rfl ?_   | refine JL.M1 (xok rfl rfl rfl rfl) rfl rfl ?_   | refine JL.M0 (xok rfl rfl rfl rfl) rfl ?_   | refine JL.Q0 (xok rfl rfl rfl rfl) rfl ?_   | refine JL.nilF ?_   | refine JL.nil ?_   | refine JC.scope ?_   | refine QX.tn ?_   | refine JC.seq ?_   | refine JC.region ?_   | refine JC.Draw (xok rfl rfl rfl rfl) ?_   | refine JC.block ?_   | refine JC.skip ?_   | refine JC.label ?_   | refine JC.exit ?_   | refine JC.ret ?_   | refine QX.te ?_ | refine QX.tr ?_ | refine QX.bn ?_ | refine QX.be ?_ | refine QX.bx rfl ?_ | refine QX.br ?_ | refine QX.sn ?_ | refine QX.se ?_ | refine QX.sr ?_ | refine QX.ee ?_ | refine QX.eo rfl ?_ | refine QX.er ?_ | refine QX.en ?_ | refine JL.S1 rfl (fn45) rfl trivial rfl ?_ | refine JL.T1 rfl (fn45) rfl rfl ?_ | refine JL.C1 rfl (fn45) rfl (fun r hr => ?_); subst hr | refine JL.S1g rfl rfl (fun hgd => fn45) rfl trivial rfl ?_ | refine JL.S1 rfl (c17a) rfl trivial rfl ?_ | refine JL.T1 rfl (c17a) rfl rfl ?_ | refine JL.C1 rfl (c17a) rfl (fun r hr => ?_); subst hr | refine JL.S1g rfl rfl (fun hgd => c17a) rfl trivial rfl ?_ | refine JL.S1 rfl (c17b) rfl trivial rfl ?_ | refine JL.T1 rfl (c17b) rfl rfl ?_ | refine JL.C1 rfl (c17b) rfl (fun r hr => ?_); subst hr | refine JL.S1g rfl rfl (fun hgd => c17b) rfl trivial rfl ?_ | refine JL.S1 rfl (c21) rfl trivial rfl ?_ | refine JL.T1 rfl (c21) rfl rfl ?_ | refine JL.C1 rfl (c21) rfl (fun r hr => ?_); subst hr | refine JL.S1g rfl rfl (fun hgd => c21) rfl trivial rfl ?_ | refine JL.S1 rfl (c23) rfl trivial rfl ?_ | refine JL.T1 rfl (c23) rfl rfl ?_ | refine JL.C1 rfl (c23) rfl (fun r hr => ?_); subst hr | refine JL.S1g rfl rfl (fun hgd => c23) rfl trivial rfl ?_ | refine JL.S1 rfl (c25) rfl trivial rfl ?_ | refine JL.T1 rfl (c25) rfl rfl ?_ | refine JL.C1 rfl (c25) rfl (fun r hr => ?_); subst hr | refine JL.S1g rfl rfl (fun hgd => c25) rfl trivial rfl ?_ | refine JL.S1 rfl (c28) rfl trivial rfl ?_ | refine JL.T1 rfl (c28) rfl rfl ?_ | refine JL.C1 rfl (c28) rfl (fun r hr => ?_); subst hr | refine JL.S1g rfl rfl (fun hgd => c28) rfl trivial rfl ?_ | refine JL.S1 rfl (c29) rfl trivial rfl ?_ | refine JL.T1 rfl (c29) rfl rfl ?_ | refine JL.C1 rfl (c29) rfl (fun r hr => ?_); subst hr | refine JL.S1g rfl rfl (fun hgd => c29) rfl trivial rfl ?_ | refine JL.S1 rfl (c32) rfl trivial rfl ?_ | refine JL.T1 rfl (c32) rfl rfl ?_ | refine JL.C1 rfl (c32) rfl (fun r hr => ?_); subst hr | refine JL.S1g rfl rfl (fun hgd => c32) rfl trivial rfl ?_ | refine JL.S1 rfl (c34) rfl trivial rfl ?_ | refine JL.T1 rfl (c34) rfl rfl ?_ | refine JL.C1 rfl (c34) rfl (fun r hr => ?_); subst hr | refine JL.S1g rfl rfl (fun hgd => c34) rfl trivial rfl ?_ | refine JL.S1 rfl (c36a) rfl trivial rfl ?_ | refine JL.T1 rfl (c36a) rfl rfl ?_ | refine JL.C1 rfl (c36a) rfl (fun r hr => ?_); subst hr | refine JL.S1g rfl rfl (fun hgd => c36a) rfl trivial rfl ?_ | refine JL.S1 rfl (c36b) rfl trivial rfl ?_ | refine JL.T1 rfl (c36b) rfl rfl ?_ | refine JL.C1 rfl (c36b) rfl (fun r hr => ?_); subst hr | refine JL.S1g rfl rfl (fun hgd => c36b) rfl trivial rfl ?_ | refine JL.S1 rfl (c38) rfl trivial rfl ?_ | refine JL.T1 rfl (c38) rfl rfl ?_ | refine JL.C1 rfl (c38) rfl (fun r hr => ?_); subst hr | refine JL.S1g rfl rfl (fun hgd => c38) rfl trivial rfl ?_))

  refine JC.cond rfl (fun h => absurd h (by decide)) (fun _ => ?_)
  have c27a := fn27 [3, 5] [3, 5]
  have c27b := fn27 [1, 2] [1, 2]
  have c27c := fn27 [7, 5, 3, 3] [7, 5, 3, 3]
  (repeat (first | refine JL.gT rfl rfl ?_    | refine JL.Q1 (xok rfl rfl rfl rfl) rfl rfl ?_   | refine JL.G1 (xok rfl rfl rfl rfl) rfl rfl rfl ?_   | refine JL.g1 (xok rfl rfl rfl rfl) rfl rfl rfl (fun hgd => And.intro hgd (fun hpk => Bool.and_eq_true_iff.2 ⟨hgd, by rw [hpk]; rfl⟩)) ?_   | refine JL.G2 (xok rfl rfl rfl rfl) rfl rfl rfl ?_   | refine JL.M1 (xok rfl rfl rfl rfl) rfl rfl ?_   | refine JL.M0 (xok rfl rfl rfl rfl) rfl ?_   | refine JL.Q0 (xok rfl rfl rfl rfl) rfl ?_   | refine JL.nilF ?_   | refine JL.nil ?_   | refine JC.scope ?_   | refine QX.tn ?_   | refine JC.seq ?_   | refine JC.region ?_   | refine JC.Draw (xok rfl rfl rfl rfl) ?_   | refine JC.block ?_   | refine JC.skip ?_   | refine JC.label ?_   | refine JC.exit ?_   | refine JC.ret ?_   | refine QX.te ?_ | refine QX.tr ?_ | refine QX.bn ?_ | refine QX.be ?_ | refine QX.bx rfl ?_ | refine QX.br ?_ | refine QX.sn ?_ | refine QX.se ?_ | refine QX.sr ?_ | refine QX.ee ?_ | refine QX.eo rfl ?_ | refine QX.er ?_ | refine QX.en ?_ | refine JL.S1 rfl (c33) rfl trivial rfl ?_ | refine JL.T1 rfl (c33) rfl rfl ?_ | refine JL.C1 rfl (c33) rfl (fun r hr => ?_); subst hr | refine JL.S1g rfl rfl (fun hgd => c33) rfl trivial rfl ?_ | refine JL.S1 rfl (c22) rfl trivial rfl ?_ | refine JL.T1 rfl (c22) rfl rfl ?_ | refine JL.C1 rfl (c22) rfl (fun r hr => ?_); subst hr | refine JL.S1g rfl rfl (fun hgd => c22) rfl trivial rfl ?_ | refine JL.S1 rfl (c27a) rfl trivial rfl ?_ | refine JL.T1 rfl (c27a) rfl rfl ?_ | refine JL.C1 rfl (c27a) rfl (fun r hr => ?_); subst hr | refine JL.S1g rfl rfl (fun hgd => c27a) rfl trivial rfl ?_ | refine JL.S1 rfl (c27b) rfl trivial rfl ?_ | refine JL.T1 rfl (c27b) rfl rfl ?_ | refine JL.C1 rfl (c27b) rfl (fun r hr => ?_); subst hr | refine JL.S1g rfl rfl (fun hgd => c27b) rfl trivial rfl ?_ | refine JL.S1 rfl (c27c) rfl trivial rfl ?_ | refine JL.T1 rfl (c27c) rfl rfl ?_ | refine JL.C1 rfl (c27c) rfl (fun r hr => ?_); subst hr | refine JL.S1g rfl rfl (fun hgd => c27c) rfl trivial rfl ?_))
  refine ⟨.inl rfl, _, _, rfl, trivial, ?_⟩
  rfl
end Go.Proofs.Ytbmgijgnbilnoaa

namespace Go.Proofs.Ytbmgijgnbilnoaa
open Go Go.RowKit Ox
attribute [local irreducible] JC JL JW

theorem fn3 (r : Int) (xs : List Int) (n : Int) : Ox.Fn Go.Proofs.Try.prog 3 (.acons (vD r xs) (.acons (vI n) .anil)) (· = vB true) := by
  refine Ox.Fn.intro xok Go.Proofs.Try.func3 rfl Go.Proofs.Try.call3 (Nat.le_of_ble_eq_true rfl) (fun E M0 up => ?_)
  have h15 := fn15 r xs
  have h16 := fn16
  (repeat (first   | refine JL.Q1 (xok rfl rfl rfl rfl) rfl rfl ?_   | refine JL.G1 (xok rfl rfl rfl rfl) rfl rfl rfl ?_   | refine JL.g1 (xok rfl rfl rfl rfl) rfl rfl rfl (fun hgd => And.intro hgd (fun hpk => Bool.and_eq_true_iff.2 ⟨hgd, by rw [hpk]; rfl⟩)) ?_   | refine JL.G2 (xok rfl rfl rfl rfl) rfl rfl rfl ?_   | refine JL.M1 (xok rfl rfl rfl rfl) rfl rfl ?_   | refine JL.M0 (xok rfl rfl rfl rfl) rfl ?_   | refine JL.Q0 (xok rfl rfl rfl rfl) rfl ?_   | refine JL.nilF ?_   | refine JL.nil ?_   | refine JC.scope ?_   | refine QX.tn ?_   | refine JC.seq ?_   | refine JC.region ?_   | refine JC.Draw (xok rfl rfl rfl rfl) ?_   | refine JC.block ?_   | refine JC.skip ?_   | refine JC.label ?_   | refine JC.exit ?_   | refine JC.ret ?_   | refine QX.te ?_ | refine QX.tr ?_ | refine QX.bn ?_ | refine QX.be ?_ | refine QX.bx rfl ?_ | refine QX.br ?_ | refine QX.sn ?_ | refine QX.se ?_ | refine QX.sr ?_ | refine QX.ee ?_ | refine QX.eo rfl ?_ | refine QX.er ?_ | refine QX.en ?_ | refine JL.S1 rfl (h15) rfl trivial rfl ?_ | refine JL.T1 rfl (h15) rfl rfl ?_ | refine JL.C1 rfl (h15) rfl (fun r hr => ?_); subst hr | refine JL.S1g rfl rfl (fun hgd => h15) rfl trivial rfl ?_))
  refine JC.cond rfl (fun hc => ?_) (fun hc => ?_)
  · (repeat (first   | refine JL.Q1 (xok rfl rfl rfl rfl) rfl rfl ?_   | refine JL.G1 (xok rfl rfl rfl rfl) rfl rfl rfl ?_   | refine JL.g1 (xok rfl rfl rfl rfl) rfl rfl rfl (fun hgd => And.intro hgd (fun hpk => Bool.and_eq_true_iff.2 ⟨hgd, by rw [hpk]; rfl⟩)) ?_   | refine JL.G2 (xok rfl rfl rfl rfl) rfl rfl rfl ?_   | refine JL.M1 (xok rfl rfl rfl rfl) rfl rfl ?_   | refine JL.M0 (xok rfl rfl rfl rfl) rfl ?_   | refine JL.Q0 (xok rfl rfl rfl rfl) rfl ?_   | refine JL.nilF ?_   | refine JL.nil ?_   | refine JC.scope ?_   | refine QX.tn ?_   | refine JC.seq ?_   | refine JC.region ?_   | refine JC.Draw (xok rfl rfl rfl rfl) ?_   | refine JC.block ?_   | refine JC.skip ?_   | refine JC.label ?_   | refine JC.exit ?_   | refine JC.ret ?_   | refine QX.te ?_ | refine QX.tr ?_ | refine QX.bn ?_ | refine QX.be ?_ | refine QX.bx rfl ?_ | refine QX.br ?_ | refine QX.sn ?_ | refine QX.se ?_ | refine QX.sr ?_ | refine QX.ee ?_ | refine QX.eo rfl ?_ | refine QX.er ?_ | refine QX.en ?_ | refine JL.S1 rfl (h16) rfl trivial rfl ?_ | refine JL.T1 rfl (h16) rfl rfl ?_ | refine JL.C1 rfl (h16) rfl (fun r hr => ?_); subst hr | refine JL.S1g rfl rfl (fun hgd => h16) rfl trivial rfl ?_))
    refine ⟨.inl rfl, _, _, rfl, trivial, ?_⟩
    rfl
  · (repeat (first   | refine JL.Q1 (xok rfl rfl rfl rfl) rfl rfl ?_   | refine JL.G1 (xok rfl rfl rfl rfl) rfl rfl rfl ?_   | refine JL.g1 (xok rfl rfl rfl rfl) rfl rfl rfl (fun hgd => And.intro hgd (fun hpk => Bool.and_eq_true_iff.2 ⟨hgd, by rw [hpk]; rfl⟩)) ?_   | refine JL.G2 (xok rfl rfl rfl rfl) rfl rfl rfl ?_   | refine JL.M1 (xok rfl rfl rfl rfl) rfl rfl ?_   | refine JL.M0 (xok rfl rfl rfl rfl) rfl ?_   | refine JL.Q0 (xok rfl rfl rfl rfl) rfl ?_   | refine JL.nilF ?_   | refine JL.nil ?_   | refine JC.scope ?_   | refine QX.tn ?_   | refine JC.seq ?_   | refine JC.region ?_   | refine JC.Draw (xok rfl rfl rfl rfl) ?_   | refine JC.block ?_   | refine JC.skip ?_   | refine JC.label ?_   | refine JC.exit ?_   | refine JC.ret ?_   | refine QX.te ?_ | refine QX.tr ?_ | refine QX.bn ?_ | refine QX.be ?_ | refine QX.bx rfl ?_ | refine QX.br ?_ | refine QX.sn ?_ | refine QX.se ?_ | refine QX.sr ?_ | refine QX.ee ?_ | refine QX.eo rfl ?_ | refine QX.er ?_ | refine QX.en ?_ | refine JL.S1 rfl (fn17 r xs n) rfl trivial rfl ?_ | refine JL.T1 rfl (fn17 r xs n) rfl rfl ?_ | refine JL.C1 rfl (fn17 r xs n) rfl (fun r hr => ?_); subst hr | refine JL.S1g rfl rfl (fun hgd => fn17 r xs n) rfl trivial rfl ?_ | refine JL.S1 rfl (fn18 r xs n) rfl trivial rfl ?_ | refine JL.T1 rfl (fn18 r xs n) rfl rfl ?_ | refine JL.C1 rfl (fn18 r xs n) rfl (fun r hr => ?_); subst hr | refine JL.S1g rfl rfl (fun hgd => fn18 r xs n) rfl trivial rfl ?_ | refine JL.S1 rfl (fn19 r xs) rfl trivial rfl ?_ | refine JL.T1 rfl (fn19 r xs) rfl rfl ?_ | refine JL.C1 rfl (fn19 r xs) rfl (fun r hr => ?_); subst hr | refine JL.S1g rfl rfl (fun hgd => fn19 r xs) rfl trivial rfl ?_ | refine JL.S1 rfl (fn20 r xs) rfl trivial rfl ?_ | refine JL.T1 rfl (fn20 r xs) rfl rfl ?_ | refine JL.C1 rfl (fn20 r xs) rfl (fun r hr => ?_); subst hr | refine JL.S1g rfl rfl (fun hgd => fn20 r xs) rfl trivial rfl ?_ | refine JL.S1 rfl (h16) rfl trivial rfl ?_ | refine JL.T1 rfl (h16) rfl rfl ?_ | refine JL.C1 rfl (h16) rfl (fun r hr => ?_); subst hr | refine JL.S1g rfl rfl (fun hgd => h16) rfl trivial rfl ?_))
    refine ⟨.inl rfl, _, _, rfl, trivial, ?_⟩
    simp

theorem fn14 : Ox.Fn Go.Proofs.Try.prog 14 .anil (· = vB true) := by
  refine Ox.Fn.intro xok Go.Proofs.Try.func14 rfl Go.Proofs.Try.call14 (Nat.le_of_ble_eq_true rfl) (fun E M0 up => ?_)
  have c21a : Ox.Fn Go.Proofs.Try.prog 21 (.acons (vD 2 [0, 1, 2, 0, 1, 2, 0]) (.acons (vL [-1, -1, 0, 1, 2, 0, 1]) .anil)) (· = vT2 7 0) := by
    have := fn21 2 [0, 1, 2, 0, 1, 2, 0] [-1, -1, 0, 1, 2, 0, 1]
    rwa [show fetS 2 [0, 1, 2, 0, 1, 2, 0] [-1, -1, 0, 1, 2, 0, 1] = (7, 0) by decide +kernel] at this
  have c21b : Ox.Fn Go.Proofs.Try.prog 21 (.acons (vD 2 [0, 1, 2, 0, 1, 2, 0]) (.acons (vL [-1, -1, -1, -1, -1, -1, -1]) .anil)) (· = vT2 0 16) := by
    have := fn21 2 [0, 1, 2, 0, 1, 2, 0] [-1, -1, -1, -1, -1, -1, -1]
    rwa [show fetS 2 [0, 1, 2, 0, 1, 2, 0] [-1, -1, -1, -1, -1, -1, -1] = (0, 16) by decide +kernel] at this
  have c21c : Ox.Fn Go.Proofs.Try.prog 21 (.acons (vD 2 [0, 1, 2, 0, 1, 2, 0]) (.acons (vL [-1, -1, 1]) .anil)) (· = vT2 0 15) := by
    have := fn21 2 [0, 1, 2, 0, 1, 2, 0] [-1, -1, 1]
    rwa [show fetS 2 [0, 1, 2, 0, 1, 2, 0] [-1, -1, 1] = (0, 15) by decide +kernel] at this
  have c32a : Ox.Fn Go.Proofs.Try.prog 32 (.acons (vD 2 [0, 1, 2, 0, 1, 2, 0]) (.acons (vL [3]) .anil)) (· = vT2 4 0) := by
    have := fn32 2 [0, 1, 2, 0, 1, 2, 0] [3]
    rwa [show momS 2 [0, 1, 2, 0, 1, 2, 0] [3] = (4, 0) by decide +kernel] at this
  have c32b : Ox.Fn Go.Proofs.Try.prog 32 (.acons (vD 2 [0, 1, 2, 0, 1, 2, 0]) (.acons (vL []) .anil)) (· = vT2 3 0) := by
    have := fn32 2 [0, 1, 2, 0, 1, 2, 0] []
    rwa [show momS 2 [0, 1, 2, 0, 1, 2, 0] [] = (3, 0) by decide +kernel] at this
  have c32c : Ox.Fn Go.Proofs.Try.prog 32 (.acons (vD 2 [0, 1, 2, 0, 1, 2, 0]) (.acons (vL [4, 2]) .anil)) (· = vT2 0 3) := by
    have := fn32 2 [0, 1, 2, 0, 1, 2, 0] [4, 2]
    rwa [show momS 2 [0, 1, 2, 0, 1, 2, 0] [4, 2] = (0, 3) by decide +kernel] at this
  have h16 := fn16
  (repeat (first | refine JL.gT rfl rfl ?_    | refine JL.Q1 (xok rfl rfl rfl rfl) rfl rfl ?_   | refine JL.G1 (xok rfl rfl rfl rfl) rfl rfl rfl ?_   | refine JL.g1 (xok rfl rfl rfl rfl) rfl rfl rfl (fun hgd => And.intro hgd (fun hpk => Bool.and_eq_true_iff.2 ⟨hgd, by rw [hpk]; rfl⟩)) ?_   | refine JL.G2 (xok rfl rfl rfl rfl) rfl rfl rfl ?_   | refine JL.M1 (xok rfl rfl rfl rfl) rfl rfl ?_   | refine JL.M0 (xok rfl rfl rfl rfl) rfl ?_   | refine JL.Q0 (xok rfl rfl rfl rfl) rfl ?_   | refine JL.nilF ?_   | refine JL.nil ?_   | refine JC.scope ?_   | refine QX.tn ?_   | refine JC.seq ?_   | refine JC.region ?_   | refine JC.Draw (xok rfl rfl rfl rfl) ?_   | refine JC.block ?_   | refine JC.skip ?_   | refine JC.label ?_   | refine JC.exit ?_   | refine JC.ret ?_   | refine QX.te ?_ | refine QX.tr ?_ | refine QX.bn ?_ | refine QX.be ?_ | refine QX.bx rfl ?_ | refine QX.br ?_ | refine QX.sn ?_ | refine QX.se ?_ | refine QX.sr ?_ | refine QX.ee ?_ | refine QX.eo rfl ?_ | refine QX.er ?_ | refine QX.en ?_ | refine JL.S1 rfl (fn45) rfl trivial rfl ?_ | refine JL.T1 rfl (fn45) rfl rfl ?_ | refine JL.C1 rfl (fn45) rfl (fun r hr => ?_); subst hr | refine JL.S1g rfl rfl (fun hgd => fn45) rfl trivial rfl ?_ | refine JL.S1 rfl (c21a) rfl trivial rfl ?_ | refine JL.T1 rfl (c21a) rfl rfl ?_ | refine JL.C1 rfl (c21a) rfl (fun r hr => ?_); subst hr | refine JL.S1g rfl rfl (fun hgd => c21a) rfl trivial rfl ?_ | refine JL.S1 rfl (c21b) rfl trivial rfl ?_ | refine JL.T1 rfl (c21b) rfl rfl ?_ | refine JL.C1 rfl (c21b) rfl (fun r hr => ?_); subst hr | refine JL.S1g rfl rfl (fun hgd => c21b) rfl trivial rfl ?_ | refine JL.S1 rfl (c21c) rfl trivial rfl ?_ | refine JL.T1 rfl (c21c) rfl rfl ?_ | refine JL.C1 rfl (c21c) rfl (fun r hr => ?_); subst hr | refine JL.S1g rfl rfl (fun hgd => c21c) rfl trivial rfl ?_ | refine JL.S1 rfl (c32a) rfl trivial rfl ?_ | refine JL.T1 rfl (c32a) rfl rfl ?_ | refine JL.C1 rfl (c32a) rfl (fun r hr => ?_); subst hr | refine JL.S1g rfl rfl (fun hgd => c32a) rfl trivial rfl ?_ | refine JL.S1 rfl (c32b) rfl trivial rfl ?_ | refine JL.T1 rfl (c32b) rfl rfl ?_ | refine JL.C1 rfl (c32b) rfl (fun r hr => ?_); subst hr | refine JL.S1g rfl rfl (fun hgd => c32b) rfl trivial rfl ?_ | refine JL.S1 rfl (c32c) rfl trivial rfl ?_ | refine JL.T1 rfl (c32c) rfl rfl ?_ | refine JL.C1 rfl (c32c) rfl (fun r hr => ?_); subst hr | refine JL.S1g rfl rfl (fun hgd => c32c) rfl trivial rfl ?_ | refine JL.S1 rfl (h16) rfl trivial rfl ?_ | refine JL.T1 rfl (h16) rfl rfl ?_ | refine JL.C1 rfl (h16) rfl (fun r hr => ?_); subst hr | refine JL.S1g rfl rfl (fun hgd => h16) rfl trivial rfl ?_))
  refine ⟨.inl rfl, _, _, rfl, trivial, ?_⟩
  rfl
end Go.Proofs.Ytbmgijgnbilnoaa

namespace Ox
open Go Go.RowKit Go.ChangeShapes Go.WideShapes Go.ChangeAt

section
variable {H : Type} {enc : TypeId × Value → H} {P : Program} {w : World} {base : Nat} {spare : Nat → Bool} {held : Bool}

/-- Types of arguments: no pointers. -/
def Ty.argB : Ty → Bool
  | .int _ | .bool | .nil => true
  | .slice e => e.argB && decide (0 < e.size)
  | .arr _ e => e.argB
  | .cons a b => a.argB && b.argB
  | .ptr _ => false

theorem cells?_take {b off n : Nat} {spot : Option Nat} {cs : List Value} (h : w.cells? base ⟨b, off, spot⟩ n = some cs) (hn : 0 < n) :
    spot = none ∧ ∃ c ty fz, w.heap[b]? = some (.cells c ty fz) ∧ cs = (c.toList.drop off).take n := by
  unfold World.cells? at h
  split at h
  · have hl := mapM_some_length h
    have hg := fun i (hi : i < n) => mapM_some_get h i i (by simp [hi])
    have h0 := hg 0 hn
    rw [List.length_range] at hl
    rw [List.getElem?_eq_getElem (by omega)] at h0
    simp only [Addr.add, if_true, World.cell?] at h0
    split at h0
    · rename_i c ty fz hb
      split at h0
      · cases h0
      · rename_i hs
        have hs : spot = none := by simpa using hs
        subst hs
        refine ⟨rfl, c, ty, fz, hb, ?_⟩
        apply List.ext_getElem?
        intro i
        rw [List.getElem?_take]
        by_cases hi : i < n
        · rw [if_pos hi, ← hg i hi, Addr.add_plain, cell?_block hb, List.getElem?_drop]
          simp
        · rw [if_neg hi, List.getElem?_eq_none (by omega)]
    · cases h0
  · cases h

/-- What reads as a datum is data. -/
def RepA (P : Program) (t : Ty) : Prop := ∀ {H : Type} {enc : TypeId × Value → H} {w : World} {base : Nat} {spare : Nat → Bool} {held : Bool} (id : TypeId) (fuel : Nat) (cs : List Value) (x : DataW H × List MemPlace),
  TyOf P t id → t.argB = true → DataW.trod enc P w base spare held fuel id cs = some x → ∃ y, Rep (fun b => w.heap[b]?) t y cs
def RepF (P : Program) (t : Ty) : Prop := ∀ {H : Type} {enc : TypeId × Value → H} {w : World} {base : Nat} {spare : Nat → Bool} {held : Bool} (fs : List Field) (off fuel : Nat) (cs : List Value),
  TyOf.fields P t fs off → t.argB = true → cs.length = off + t.size → (∀ (i : Nat) (f : Field), fs[i]? = some f → ∃ x, DataW.trod enc P w base spare held fuel f.type ((cs.drop f.offset).take (P.cellsOf f.type)) = some x) →
    ∃ y, Rep (fun b => w.heap[b]?) t y (cs.drop off)

theorem size_pos_of_nz {n : Nat} (h : n ≠ 0) : 0 < n := Nat.pos_of_ne_zero h

theorem list_of {α : Type} {n : Nat} {p : Nat → α → Prop} (h : ∀ i, i < n → ∃ y, p i y) : ∃ l : List α, l.length = n ∧ ∀ i (hi : i < l.length), p i (l.get ⟨i, hi⟩) := by
  induction n with
  | zero => exact ⟨[], rfl, fun i hi => absurd hi (by simp)⟩
  | succ n ih =>
    obtain ⟨l, h1, h2⟩ := ih fun i hi => h i (by omega)
    obtain ⟨y, hy⟩ := h n (by omega)
    refine ⟨l ++ [y], by simp [h1], fun i hi => ?_⟩
    simp only [List.get_eq_getElem]
    by_cases hl : i < l.length
    · rw [List.getElem_append_left hl]; exact h2 i hl
    · have : i = l.length := by simp at hi; omega
      subst this
      rw [List.getElem_append_right (Nat.le_refl _)]
      simp only [Nat.sub_self, List.getElem_cons_zero]
      rw [h1]; exact hy

theorem rep_all (P : Program) : ∀ t : Ty, RepA P t ∧ RepF P t := by
  intro t
  induction t with
  | int k =>
    refine ⟨fun id fuel cs x ht _ h => ?_, fun fs off fuel cs hf _ _ _ => by simp [TyOf.fields] at hf⟩
    simp only [TyOf] at ht
    have hu := ht.under
    cases fuel with
    | zero => simp [DataW.trod] at h
    | succ n =>
      unfold DataW.trod at h
      rw [hu] at h
      split at h <;> try (simp_all; done)
      rename_i k' q n' he
      split at h
      · rename_i hk
        injection he with he
        injection he with he
        subst he
        exact ⟨n', by simp only [Rep]; rw [hk.1]⟩
      · cases h
  | bool =>
    refine ⟨fun id fuel cs x ht _ h => ?_, fun fs off fuel cs hf _ _ _ => by simp [TyOf.fields] at hf⟩
    simp only [TyOf] at ht
    have hu := ht.under
    cases fuel with
    | zero => simp [DataW.trod] at h
    | succ n =>
      unfold DataW.trod at h
      rw [hu] at h
      split at h <;> try (simp_all; done)
      rename_i b he
      exact ⟨b, by simp only [Rep]⟩
  | slice e ih =>
    refine ⟨@fun H enc w base spare held id fuel cs x ht hb h => ?_, fun fs off fuel cs hf _ _ _ => by simp [TyOf.fields] at hf⟩
    simp only [TyOf] at ht
    obtain ⟨eid, hi, he⟩ := ht
    simp only [Ty.argB, Bool.and_eq_true, decide_eq_true_eq] at hb
    have hsz := cells_of he
    rcases DataW.trod_slice hi.under h with ⟨h0, _⟩ | ⟨a, len, cap, elems, rest, n, _, rfl, _, _, hlc, hcm, hel, hg, _⟩
    · exact ⟨[], by simp only [Rep]; exact ⟨none, 0, h0, Nat.le_refl _, Nat.zero_le _, fun _ => rfl, .inl rfl⟩⟩
    · have each : ∀ i, i < len → ∃ y : e.den, ∃ spot c ty fz, a = ⟨a.block, a.off, spot⟩ ∧ (spot = none ∨ i ≠ 0) ∧ ∃ _ : w.heap[a.block]? = some (.cells c ty fz), Rep (fun b => w.heap[b]?) e y ((c.toList.drop (a.off + i * e.size)).take e.size) := by
        intro i hi'
        have h1 := hg i hi'
        rw [List.getElem?_eq_getElem (by omega), Option.bind_eq_some_iff, hsz] at h1
        obtain ⟨ce, h2, h3⟩ := h1
        obtain ⟨blk, off, spot⟩ := a
        by_cases h0 : i * e.size = 0
        · have hi0 : i = 0 := by
            rcases Nat.mul_eq_zero.1 h0 with h0 | h0
            · exact h0
            · omega
          subst hi0
          simp only [Nat.zero_mul, Addr.add, if_true] at h2
          obtain ⟨hs, c, ty, fz, h4, rfl⟩ := cells?_take h2 hb.2
          obtain ⟨y, hy⟩ := ih.1 eid n _ _ he hb.1 h3
          exact ⟨y, spot, c, ty, fz, rfl, .inl hs, h4, by simpa using hy⟩
        · have e1 : (Addr.add ⟨blk, off, spot⟩ (i * e.size)) = ⟨blk, off + i * e.size, none⟩ := by simp only [Addr.add, if_neg h0]
          rw [e1] at h2
          obtain ⟨hs, c, ty, fz, h4, rfl⟩ := cells?_take h2 hb.2
          obtain ⟨y, hy⟩ := ih.1 eid n _ _ he hb.1 h3
          exact ⟨y, spot, c, ty, fz, rfl, .inr (fun hi0 => h0 (by rw [hi0, Nat.zero_mul])), h4, hy⟩
      by_cases hl0 : len = 0
      · subst hl0
        exact ⟨[], by simp only [Rep]; exact ⟨some a, cap, rfl, Nat.zero_le _, hcm, (fun h => by cases h), .inl rfl⟩⟩
      · obtain ⟨y0, spot, c, ty, fz, ha, hs, hc, _⟩ := each 0 (by omega)
        have hs : spot = none := hs.resolve_right (fun h => h rfl)
        subst hs
        obtain ⟨l, hl, hr⟩ := list_of (p := fun i (y : e.den) => Rep (fun b => w.heap[b]?) e y ((c.toList.drop (a.off + i * e.size)).take e.size)) (n := len) (fun i hi' => by
          obtain ⟨y, _, c', ty', fz', _, _, hc', hy⟩ := each i hi'
          rw [hc] at hc'
          injection hc' with hc'
          injection hc' with hc' _ _
          subst hc'
          exact ⟨y, hy⟩)
        refine ⟨l, ?_⟩
        simp only [Rep]
        refine ⟨some a, cap, by rw [hl], by rw [hl]; exact hlc, hcm, (fun h => by cases h), .inr ⟨a.block, a.off, c, ty, fz, by rw [ha], hc, hr⟩⟩
  | ptr e ih => exact ⟨fun id fuel cs x _ hb _ => by simp [Ty.argB] at hb, fun fs off fuel cs hf _ _ _ => by simp [TyOf.fields] at hf⟩
  | arr n e ih =>
    refine ⟨@fun H enc w base spare held id fuel cs x ht hb h => ?_, fun fs off fuel cs hf _ _ _ => by simp [TyOf.fields] at hf⟩
    simp only [TyOf] at ht
    obtain ⟨eid, hi, he⟩ := ht
    simp only [Ty.argB] at hb
    have hsz := cells_of he
    have hsa : P.cellsOf id = n * e.size := cells_of (t := .arr n e) ⟨eid, hi, he⟩
    obtain ⟨xs, m, _, _, hl, hxl, hg⟩ := DataW.trod_array hi.under h
    obtain ⟨l, h1, h2⟩ := list_of (p := fun i (y : e.den) => Rep (fun b => w.heap[b]?) e y ((cs.drop (i * e.size)).take e.size)) (n := n) (fun i hi' => by
      have h3 := hg i hi'
      rw [hsz, List.getElem?_eq_getElem (by omega)] at h3
      exact ih.1 eid m _ _ he hb h3)
    exact ⟨l, by simp only [Rep]; exact ⟨h1, by rw [hl, hsa], h2⟩⟩
  | nil =>
    refine ⟨fun id fuel cs x ht _ _ => by simp [TyOf] at ht, fun fs off fuel cs hf _ hl _ => ⟨(), ?_⟩⟩
    simp only [Rep, Ty.size] at hl ⊢
    exact List.drop_of_length_le (by omega)
  | cons a b iha ihb =>
    have hF : RepF P (.cons a b) := by
      intro H enc w base spare held fs off fuel cs hf hb hl hg
      cases fs with
      | nil => simp [TyOf.fields] at hf
      | cons f r =>
        simp only [TyOf.fields] at hf
        obtain ⟨h1, h2, h3, h4⟩ := hf
        simp only [Ty.argB, Bool.and_eq_true] at hb
        simp only [Ty.size] at hl
        obtain ⟨x, hx⟩ := hg 0 f rfl
        rw [h1, cells_of h2] at hx
        obtain ⟨y1, hy1⟩ := iha.1 _ _ _ _ h2 hb.1 hx
        obtain ⟨y2, hy2⟩ := ihb.2 r (off + a.size) fuel cs h4 hb.2 (by omega) fun i f hf => hg (i + 1) f (by simpa using hf)
        refine ⟨(y1, y2), ?_⟩
        simp only [Rep]
        refine ⟨_, _, ?_, hy1, hy2⟩
        rw [← List.drop_drop, List.take_append_drop]
    refine ⟨@fun H enc w base spare held id fuel cs x ht hb h => ?_, hF⟩
    have hct := cells_of ht
    simp only [TyOf] at ht
    obtain ⟨fs, hi, hm⟩ := ht
    obtain ⟨xs, n, _, _, hl, hxl, hg⟩ := DataW.trod_struct hi.under h
    have hff : TyOf.fields P (.cons a b) fs.toList 0 := by
      split at hm
      · rename_i f r hfr
        rw [hfr]
        simp only [TyOf.fields]
        simpa using hm
      · exact hm.elim
    have := hF fs.toList 0 n cs hff hb (by rw [hl, hct]; omega) (held := held) (enc := enc) (w := w) (base := base) (spare := spare) fun i f hf => by
      have h1 := hg i f (by simpa using hf)
      have hlt : i < xs.length := by
        rw [hxl]
        have := (List.getElem?_eq_some_iff.1 hf).1
        simpa using this
      rw [List.getElem?_eq_getElem hlt] at h1
      exact ⟨_, h1⟩
    simpa using this

/-- Data of a list of types. -/
def Dat : List Ty → Type
  | [] => Unit
  | t :: ts => t.den × Dat ts
def Dat.av : {ts : List Ty} → Dat ts → AV
  | [], _ => .anil
  | t :: _, x => .acons (.val t x.1) (Dat.av x.2)
def tysB (P : Program) : List Ty → List TypeId → Bool
  | [], [] => true
  | t :: ts, i :: is => (tyB P t i && t.argB) && (P.readableRec i && decide (i < P.types.size)) && tysB P ts is
  | _, _ => false

theorem agg_of {t : Ty} {id : TypeId} (ht : TyOf P t id) (hb : t.argB = true) : (t.agg = true ∧ ((∃ fs, P.underlying id = some (.struct fs)) ∨ ∃ n e, P.underlying id = some (.array n e))) ∨
    (t.agg = false ∧ ((∃ k, P.underlying id = some (.int k)) ∨ P.underlying id = some .bool ∨ ∃ e, P.underlying id = some (.slice e))) := by
  cases t with
  | int k => simp only [TyOf] at ht; exact .inr ⟨rfl, .inl ⟨k, ht.under⟩⟩
  | bool => simp only [TyOf] at ht; exact .inr ⟨rfl, .inr (.inl ht.under)⟩
  | slice e => simp only [TyOf] at ht; obtain ⟨eid, h, _⟩ := ht; exact .inr ⟨rfl, .inr (.inr ⟨eid, h.under⟩)⟩
  | ptr e => simp [Ty.argB] at hb
  | arr n e => simp only [TyOf] at ht; obtain ⟨eid, h, _⟩ := ht; exact .inl ⟨rfl, .inr ⟨n, eid, h.under⟩⟩
  | nil => simp [TyOf] at ht
  | cons a b => simp only [TyOf] at ht; obtain ⟨fs, h, _⟩ := ht; exact .inl ⟨rfl, .inl ⟨fs, h.under⟩⟩

theorem arg_rv {ρ : Env} {t : Ty} {id : TypeId} {v : Value} {d : DataW H} {ps : List MemPlace} (ht : TyOf P t id) (hb : t.argB = true) (hv : Value.okWide P w .any base id v) {b0 : Nat}
    (h : DataW.Trod enc P w b0 spare held id v d ps) : ∃ y, (AV.val t y).rv (fun b => w.heap[b]?) ρ v := by
  obtain ⟨fuel, h⟩ := h
  obtain ⟨y, hy⟩ := (rep_all P t).1 id fuel _ _ ht hb h
  refine ⟨y, ?_⟩
  simp only [AV.rv]
  refine ⟨_, hy, ?_⟩
  unfold Value.okWide at hv
  rcases agg_of ht hb with ⟨hag, hu⟩ | ⟨hag, hu⟩
  · have : ∃ cs, v = .agg cs := by
      rcases hu with ⟨fs, hu⟩ | ⟨n, e, hu⟩ <;> · rw [hu] at hv; obtain ⟨cs, h1, _⟩ := hv; exact ⟨cs, h1⟩
    obtain ⟨cs, rfl⟩ := this
    rw [Ty.wrap_agg hag]
    simp [Value.cells]
  · have hone : v.oneCell' = true := by
      rcases hu with ⟨k, hu⟩ | hu | ⟨e, hu⟩ <;> rw [hu] at hv <;> simp only [Cell.okWide, hu, Cell.ok] at hv <;> (split at hv <;> first | rfl | (exact hv.elim) | (split at hv <;> first | rfl | exact hv.elim))
    rw [Value.cells_one hone]
    simp [Ty.wrap, hag]

theorem tysB_cons {t : Ty} {ts : List Ty} {i : TypeId} {is : List TypeId} (h : tysB P (t :: ts) (i :: is) = true) : TyOf P t i ∧ t.argB = true ∧ P.readableRec i = true ∧ i < P.types.size ∧ tysB P ts is = true := by
  simp only [tysB, Bool.and_eq_true, decide_eq_true_eq] at h
  exact ⟨tyB_sound h.1.1.1, h.1.1.2, h.1.2.1, h.1.2.2, h.2⟩

theorem all_rvs {ρ : Env} {b0 : Nat} : ∀ {ts : List Ty} {is : List TypeId} {vs : List Value} {ds : List (DataW H)} {ps : List MemPlace}, tysB P ts is = true → (∀ (j : Nat) t v, is[j]? = some t → vs[j]? = some v → Value.okWide P w .any base t v) →
    DataW.TrodAll enc P w b0 spare held is vs ds ps → ∃ ys : Dat ts, ys.av.rvs (fun b => w.heap[b]?) ρ vs
  | [], [], vs, ds, ps, _, _, h => by
    cases vs with
    | nil => exact ⟨(), by simp only [Dat.av, AV.rvs]⟩
    | cons v vs => cases ds <;> simp [DataW.TrodAll] at h
  | t :: ts, i :: is, vs, ds, ps, hb, hv, h => by
    obtain ⟨h1, h2, _, _, h5⟩ := tysB_cons hb
    cases vs with
    | nil => cases ds <;> simp [DataW.TrodAll] at h
    | cons v vs =>
      cases ds with
      | nil => simp [DataW.TrodAll] at h
      | cons d ds =>
        obtain ⟨p, q, h6, h7, _⟩ := h
        obtain ⟨y, hy⟩ := arg_rv (ρ := ρ) h1 h2 (hv 0 i v rfl rfl) h6
        obtain ⟨ys, hys⟩ := all_rvs (ρ := ρ) h5 (fun j t v hj hjv => hv (j + 1) t v (by simpa using hj) (by simpa using hjv)) h7
        exact ⟨(y, ys), by simp only [Dat.av, AV.rvs]; exact ⟨v, vs, hy, hys, rfl⟩⟩
  | [], _ :: _, _, _, _, hb, _, _ => by simp [tysB] at hb
  | _ :: _, [], _, _, _, hb, _, _ => by simp [tysB] at hb

theorem Dat.bd : ∀ {ts : List Ty} (ys : Dat ts) (n : Nat), ys.av.bd n
  | [], _, _ => trivial
  | _ :: _, x, n => ⟨trivial, Dat.bd x.2 n⟩

theorem args_again {W W' : World} (hl : laidOutB P = true) (hbl : Below W.heap.size W W') {sp : Nat → Bool} : ∀ {ts : List Ty} {is : List TypeId} {vs : List Value} {ds : List (DataW H)} {ps : List MemPlace}, tysB P ts is = true →
    DataW.TrodAll enc P W 0 (fun _ => true) true is vs ds ps → (∀ p ∈ ps, p.block < W.heap.size) → (∀ p ∈ ps, sp p.block = true) → DataW.TrodAll enc P W' 0 sp true is vs ds ps
  | [], [], vs, ds, ps, _, h, _, _ => by
    cases vs <;> cases ds <;> simp_all [DataW.TrodAll]
  | t :: ts, i :: is, vs, ds, ps, hb, h, hlt, hsp => by
    obtain ⟨_, _, h3, h4, h5⟩ := tysB_cons hb
    cases vs with
    | nil => cases ds <;> simp [DataW.TrodAll] at h
    | cons v vs =>
      cases ds with
      | nil => simp [DataW.TrodAll] at h
      | cons d ds =>
        obtain ⟨p, q, h6, h7, rfl⟩ := h
        refine ⟨p, q, WideElems.Trod_stays hl h3 h4 h6 (fun x hx => hbl.same (hlt x (List.mem_append_left _ hx))) (fun x hx => hsp x (List.mem_append_left _ hx)), ?_, rfl⟩
        exact args_again hl hbl h5 h7 (fun x hx => hlt x (List.mem_append_right _ hx)) (fun x hx => hsp x (List.mem_append_right _ hx))
  | [], _ :: _, _, _, _, hb, _, _, _ => by simp [tysB] at hb
  | _ :: _, [], _, _, _, hb, _, _, _ => by simp [tysB] at hb

/-- A law's contract is what its row asks: the call returns true, each argument reads behind it as before. -/
theorem law_calls {f : FuncId} {fn : Func} {s : ChangeSpec} {ts : List Ty} {W : World} {base : Nat} {args : Array Value} {ds gs : List (DataW H)} {before : List MemPlace} {fresh handsOn : Bool}
    (hfn : ∀ ys : Dat ts, Fn P f ys.av (· = .val .bool true)) (hts : tysB P ts fn.params.toList = true) (hl : laidOutB P = true) (hvars : s.vars = [])
    (hspec : ∀ ds : List (DataW H), ds.length = ts.length → (s.fn H ds).results = [.lit (.bool true)] ∧ (s.fn H ds).args = ds ∧ (s.fn H ds).vars = []) {rt : TypeId} (hres : fn.resultTypes = #[rt]) (hrt : P.underlying rt = some .bool)
    (hval : ∀ (j : Nat) t v, fn.params[j]? = some t → args[j]? = some v → Value.okWide P W .any base t v) (hW : DataW.Whole enc P fn.params.toList s.vars false W args.toList ds gs before) :
    Calls P f args W fun e W' => ∃ v, e = .returned v ∧ s.post enc P fn false fresh handsOn false W args v W' := by
  have hW' := hW
  obtain ⟨p, q, hA, hV, rfl, hfz, _⟩ := hW
  rw [hvars] at hV
  obtain ⟨rfl, rfl⟩ := trodVars_none hV
  rw [List.append_nil] at hW'
  obtain ⟨ys, hys⟩ := all_rvs (ρ := ⟨fun _ => 0, fun _ => .nil, fun _ => Go.undef⟩) hts (fun j t v hj hv => hval j t v (by simpa using hj) (by simpa using hv)) hA
  have hlen : ∀ {ts : List Ty} {is : List TypeId} {vs : List Value} {ds : List (DataW H)} {ps : List MemPlace}, tysB P ts is = true → DataW.TrodAll enc P W 0 (fun _ => true) true is vs ds ps → ds.length = ts.length := by
    intro ts
    induction ts with
    | nil => intro is vs ds ps hb h; cases is <;> cases vs <;> cases ds <;> simp_all [DataW.TrodAll, tysB]
    | cons t ts ih =>
      intro is vs ds ps hb h
      cases is with
      | nil => simp [tysB] at hb
      | cons i is =>
        cases vs <;> cases ds <;> try (simp [DataW.TrodAll] at h; done)
        obtain ⟨p, q, _, h7, _⟩ := h
        simp [ih (tysB_cons hb).2.2.2.2 h7]
  have hdl := hlen hts hA
  have hrun := (hfn ys).run (fun b => W.heap[b]?) ⟨fun _ => 0, fun _ => .nil, fun _ => Go.undef⟩ W args.toList (fun _ _ h => h) hys (Dat.bd ys 0)
  rw [Array.toArray_toList] at hrun
  refine hrun.mono fun e W' => ?_
  rintro ⟨v, r, M', rfl, rfl, _, hrv, hbl, _⟩
  rw [rv_bool] at hrv
  subst hrv
  obtain ⟨hs1, hs2, hs3⟩ := hspec ds hdl
  have hlt := fun x hx => hW'.lt x hx
  refine ⟨_, rfl, ds, [], p, [], p, [], hW', ?_, ?_, ?_, World.keptBut_mono (fun x hx => ⟨hx, .inr (.inl hx)⟩) (hbl.frame (· ∈ p)), fun h => by cases h⟩
  · rw [List.append_nil, hs1, hres]
    exact trodAll_cons_mk (shut_bool hrt _) trodAll_mk0
  · rw [List.append_nil, hs2]
    exact args_again hl hbl hts hA hlt fun x hx => by simpa using hlt x hx
  · rw [List.append_nil, hs3, hvars]
    rfl
end
end Ox

namespace Go.Proofs.Ytbmgijgnbilnoaa
open Go Go.RowKit Go.ChangeShapes Go.WideShapes Go.ChangeAt Ox
theorem own : ownKnob Try.prog.godebug = none := by kernel_rfl
theorem laidOut : laidOutB Try.prog = true := by kernel_rfl

set_option maxRecDepth 100000 in
theorem edgeDays_lifted (os : Os) (started : os.Started) (H : Type) (enc : TypeId × Value → H) :
    ReturnsInHanded {} Try.checked os 3 .any (Rows.edgeDaysSpec.pre6 enc Try.prog Try.f3 Rows.edgeDaysRow.domain false) (Rows.edgeDaysSpec.post enc Try.prog Try.f3 false true false false) := by
  refine returnsInHanded_of_change (C := Try.checked) own started (by kernel_rfl) Try.func3
    (ChangeSpec.witness6 (enc := enc) (C := Try.checked) false ⟨#[], #[.agg #[.int .i64 0, .slice none 0 0], .int .i64 0], []⟩ 8 (by kernel_rfl) (by kernel_rfl) (by kernel_rfl) (by kernel_rfl)) ?_
  intro W base args ds gs before hval hW _ _
  refine law_calls (ts := [dayT, .int .i64]) (fun ys => fn3 ys.1.1 ys.1.2.1 ys.2.1) (by kernel_rfl) laidOut rfl (fun ds h => ?_) (by kernel_rfl) Try.underlying4 hval hW
  match ds, h with
  | [_, _], _ => exact ⟨rfl, rfl, rfl⟩

theorem edgeDays_holds : Rows.EdgeDaysSaid :=
  OpenClaim.holds_of_wide 3 Try.f3 rfl rfl rfl rfl rfl rfl rfl ⟨rfl, rfl, rfl, rfl, rfl⟩ rfl rfl rfl rfl rfl (by kernel_rfl) Try.func3 (by kernel_rfl)
    (of_decide_eq_true (by kernel_rfl)) (by unfold Func.isWrapper; first | (rw [if_pos (by decide +kernel)]; kernel_rfl) | (rw [if_neg (by decide +kernel)]; exact ⟨rfl, rfl⟩))
    (fun os started H enc _ => edgeDays_lifted os started H enc)
#print axioms edgeDays_holds
end Go.Proofs.Ytbmgijgnbilnoaa
