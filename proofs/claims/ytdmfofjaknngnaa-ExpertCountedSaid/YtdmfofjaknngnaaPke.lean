/- Texts of the proof, part 5 of 6.
  Truths: what a range over them does.
  The desk of a case.
  The desk of a case, or the error; the first truth; how many.
  Ranges over truths; the first one.
  Truth, Count, Fewest of the program.
  Kind and Tells of the program.
  Tells and Sure of the program.
  Tied of the program.
  Fewest of the program.
  Ask of the program.
  Ask of the program.
  Chains of the program.
  The engine, part ZS: functions whose result is a new row of the caller's own.
  Chains of the program.
  Chain and Clash of the program.
  Clash of the program.
  Cases that are made.
  Plain laws of chains and contradictions.
  The examples.
  Works.
  Plain laws of cases: truths, kinds, chains.
  Plain laws: cases with more sayings; two or three of three truths.
  Plain laws of counting. -/
import Derived.Test.YtdmfofjaknngnaaPkd
set_option linter.all false
set_option maxHeartbeats 2000000
namespace Go.Proofs.Ytdmfofjaknngnaa
open Go Go.RowKit Ox Ox.Two
attribute [local irreducible] JC JL JK JW

variable {E : World} {Mx M0 : Mem} {nX : Nat} {rdX : Option Nat} {up : Nat → Nat → Value} {dp lab : Nat} {r : List Fr} {QA : Exit → S → Prop}
def cutB (b : Bool) (l : List (List Int)) : List (List Int) := if b = true then l else l.take 1
/-- What one of both numbers of a claim gives. -/
def extC (t : List Int) (f : Nat) (row : List Int) (bits : Nat) (j : Nat) : List (List Int) :=
  if freeB (bits ||| (t.getD (key (sayAt row.length j)) 0).toNat) = true then extF t f (row ++ [(j : Int)]) (bits ||| (t.getD (key (sayAt row.length j)) 0).toNat) else []
theorem extF_C (t : List Int) (f : Nat) (row : List Int) (bits : Nat) : extF t (f + 1) row bits = extC t f row bits 0 ++ extC t f row bits 1 := rfl
def partC (t : List Int) (f : Nat) (row : List Int) (bits : Nat) : Nat → List (List Int)
  | 0 => []
  | 1 => extC t f row bits 0
  | _ => extC t f row bits 0 ++ extC t f row bits 1
theorem ext_fo (i m : Nat) (hdp : dp ≠ 0) (n : Nat) (ev : List evD) (t : List Int) (hn : n ≤ 12) (ht : tabOk t) (b : Bool) (all : List (List Int)) (K : List (List Int) → List (Nat × HO)) (hb : ∀ pre, bdH 100 (K pre)) (hlab : lab < 100) (hk : ∀ pre, hasY i m lab (K pre))
    (hY : ∀ pre z post, all = pre ++ z :: post → (b = true ∨ pre = []) → YO ⟨Go.Proofs.Try.prog, tys, ets, mts, E, Mx, nX, rdX, up, dp⟩ 62 lab (.acons (vL z) .anil) (K pre) 100 b (K (pre ++ [z])) 100) :
    ∀ (f : Nat) (row : List Int) (bits : Nat) (pre post : List (List Int)), row.length + f = n → bits < 16777216 → all = pre ++ extF t f row bits ++ post → (b = true ∨ pre = []) →
      FO ⟨Go.Proofs.Try.prog, tys, ets, mts, E, Mx, nX, rdX, up, dp⟩ 94 (.acons (vDe n ev t) (.acons (vL row) (.acons (vI bits) (.acons (.lf (.yld lab)) .anil)))) (K pre) 100
        (fun z H nx => nx = 100 ∧ z = vB (b || (extF t f row bits).isEmpty) ∧ H = K (pre ++ cutB b (extF t f row bits))) := by
  intro f
  induction f with
  | zero =>
    intro row bits pre post hlen hbits hall hbp
    refine FO.intro (fn := Go.Proofs.Try.f94) rfl rfl (Nat.le_of_ble_eq_true rfl) hdp fun M1 => JK.start ?_
    (repeat (first | refine zs rfl ?_ | refine zg rfl rfl rfl ?_ | refine zd ?_ | refine JK.fin ?_ | refine JK.ret ?_))
    refine JK.cond rfl (fun hc => ?_) (fun hc => ?_)
    · (simp only [↓bif_or, ↓bif_and, ↓Bool.or_eq_true, ↓Bool.or_eq_false_iff, ↓Bool.and_eq_true, ↓Bool.and_eq_false_iff, ↓Bool.not_eq_true', ↓Bool.not_eq_false', ↓decide_eq_true_eq, ↓decide_eq_false_iff_not, ↓beq_iff_eq, ↓bne_iff_ne, ↓bne_eq_false_iff_eq, ↓ne_eq, ↓beq_eq_false_iff_ne, ↓Bool.not_eq_true] at hc; try simp only [Ty.dflt, Int.toNat_natCast] at hc)
      have y := hY pre row post (by rw [hall]; simp [extF]) hbp
      (repeat (first | refine zs rfl ?_ | refine zg rfl rfl rfl ?_ | refine zd ?_ | refine JK.fin ?_ | refine JK.ret ?_))
      refine JK.yieldO (X := ⟨Go.Proofs.Try.prog, tys, ets, mts, E, Mx, nX, rdX, up, dp⟩) [0] y rfl rfl rfl rfl trivial ?_
      (repeat (first | refine zs rfl ?_ | refine zg rfl rfl rfl ?_ | refine zd ?_ | refine JK.fin ?_ | refine JK.ret ?_))
      refine foQ.ret _ (JW.refl _) rfl ⟨rfl, ?_, ?_⟩
      · show vB b = vB (b || (extF t 0 row bits).isEmpty); rw [extF]; cases b <;> rfl
      · show K _ = K _; rw [extF]; cases b <;> rfl
    · (simp only [↓bif_or, ↓bif_and, ↓Bool.or_eq_true, ↓Bool.or_eq_false_iff, ↓Bool.and_eq_true, ↓Bool.and_eq_false_iff, ↓Bool.not_eq_true', ↓Bool.not_eq_false', ↓decide_eq_true_eq, ↓decide_eq_false_iff_not, ↓beq_iff_eq, ↓bne_iff_ne, ↓bne_eq_false_iff_eq, ↓ne_eq, ↓beq_eq_false_iff_ne, ↓Bool.not_eq_true] at hc; try simp only [Ty.dflt, Int.toNat_natCast] at hc)
      exact absurd (by omega : (row.length : Int) = n) hc
  | succ f ih =>
    intro row bits pre post hlen hbits hall hbp
    refine FO.intro (fn := Go.Proofs.Try.f94) rfl rfl (Nat.le_of_ble_eq_true rfl) hdp fun M1 => JK.start ?_
    (repeat (first | refine zs rfl ?_ | refine zg rfl rfl rfl ?_ | refine zd ?_ | refine JK.fin ?_ | refine JK.ret ?_))
    refine JK.cond rfl (fun hc => ?_) (fun hc => ?_)
    · (simp only [↓bif_or, ↓bif_and, ↓Bool.or_eq_true, ↓Bool.or_eq_false_iff, ↓Bool.and_eq_true, ↓Bool.and_eq_false_iff, ↓Bool.not_eq_true', ↓Bool.not_eq_false', ↓decide_eq_true_eq, ↓decide_eq_false_iff_not, ↓beq_iff_eq, ↓bne_iff_ne, ↓bne_eq_false_iff_eq, ↓ne_eq, ↓beq_eq_false_iff_ne, ↓Bool.not_eq_true] at hc; try simp only [Ty.dflt, Int.toNat_natCast] at hc)
      exact absurd hc (by omega)
    · (simp only [↓bif_or, ↓bif_and, ↓Bool.or_eq_true, ↓Bool.or_eq_false_iff, ↓Bool.and_eq_true, ↓Bool.and_eq_false_iff, ↓Bool.not_eq_true', ↓Bool.not_eq_false', ↓decide_eq_true_eq, ↓decide_eq_false_iff_not, ↓beq_iff_eq, ↓bne_iff_ne, ↓bne_eq_false_iff_eq, ↓ne_eq, ↓beq_eq_false_iff_ne, ↓Bool.not_eq_true] at hc; try simp only [Ty.dflt, Int.toNat_natCast] at hc)
      (repeat (first | refine zs rfl ?_ | refine zg rfl rfl rfl ?_ | refine zd ?_ | refine JK.fin ?_ | refine JK.ret ?_))
      refine JK.loop (fun j : Nat => ⟨[(0, vDe n ev t), (1, vL row), (2, vI bits), (3, .lf (.yld lab)), (9, vI row.length), (26, vI (j : Int))], K (pre ++ partC t f row bits j), 100⟩) (fun j => j ≤ 2 ∧ (b = true ∨ pre ++ partC t f row bits j = [])) (fun j => 2 - j) 0 ⟨by omega, by simpa [partC] using hbp⟩ ?_ fun j ⟨hj, hbj⟩ => ?_
      · rw [show pre ++ partC t f row bits ((0 : Nat)) = pre by simp [partC]]
        exact JW.same ⟨rfl, rfl, rfl, rfl, rfl, rfl, trivial⟩
      (repeat (first | refine zs rfl ?_ | refine zg rfl rfl rfl ?_ | refine zd ?_ | refine JK.fin ?_ | refine JK.ret ?_))
      refine JK.cond rfl (fun hd => ?_) (fun hd => ?_)
      · (simp only [↓bif_or, ↓bif_and, ↓Bool.or_eq_true, ↓Bool.or_eq_false_iff, ↓Bool.and_eq_true, ↓Bool.and_eq_false_iff, ↓Bool.not_eq_true', ↓Bool.not_eq_false', ↓decide_eq_true_eq, ↓decide_eq_false_iff_not, ↓beq_iff_eq, ↓bne_iff_ne, ↓bne_eq_false_iff_eq, ↓ne_eq, ↓beq_eq_false_iff_ne, ↓Bool.not_eq_true] at hd; try simp only [Ty.dflt, Int.toNat_natCast] at hd)
        have hj' : j < 2 := by omega
        (repeat (first | refine zs rfl ?_ | refine zg rfl rfl rfl ?_ | refine zd ?_ | refine JK.fin ?_ | refine JK.ret ?_))
        have hsa : -1000 ≤ sayAt row.length (j : Int) ∧ sayAt row.length (j : Int) ≤ 1000 := by unfold sayAt; split <;> omega
        refine JK.cut (fun _ : Unit => ⟨[(0, vDe n ev t), (1, vL row), (2, vI bits), (3, .lf (.yld lab)), (9, vI row.length), (10, vI (j : Int)), (11, vI (sayAt row.length (j : Int))), (26, vI (j : Int))], K (pre ++ partC t f row bits j), 100⟩) (fun _ => True) ?_ (fun _ _ => ?_)
        · refine JK.cond rfl (fun he => ?_) (fun he => ?_)
          · (simp only [↓bif_or, ↓bif_and, ↓Bool.or_eq_true, ↓Bool.or_eq_false_iff, ↓Bool.and_eq_true, ↓Bool.and_eq_false_iff, ↓Bool.not_eq_true', ↓Bool.not_eq_false', ↓decide_eq_true_eq, ↓decide_eq_false_iff_not, ↓beq_iff_eq, ↓bne_iff_ne, ↓bne_eq_false_iff_eq, ↓ne_eq, ↓beq_eq_false_iff_ne, ↓Bool.not_eq_true] at he; try simp only [Ty.dflt, Int.toNat_natCast] at he)
            (repeat (first | refine zs rfl ?_ | refine zg rfl rfl rfl ?_ | refine zd ?_ | refine JK.fin ?_ | refine JK.ret ?_))
            exact ⟨(), by rw [sayAt, if_pos he]; exact JW.same ⟨rfl, rfl, rfl, rfl, rfl, rfl, rfl, rfl, trivial⟩, trivial⟩
          · (simp only [↓bif_or, ↓bif_and, ↓Bool.or_eq_true, ↓Bool.or_eq_false_iff, ↓Bool.and_eq_true, ↓Bool.and_eq_false_iff, ↓Bool.not_eq_true', ↓Bool.not_eq_false', ↓decide_eq_true_eq, ↓decide_eq_false_iff_not, ↓beq_iff_eq, ↓bne_iff_ne, ↓bne_eq_false_iff_eq, ↓ne_eq, ↓beq_eq_false_iff_ne, ↓Bool.not_eq_true] at he; try simp only [Ty.dflt, Int.toNat_natCast] at he)
            (repeat (first | refine zs rfl ?_ | refine zg rfl rfl rfl ?_ | refine zd ?_ | refine JK.fin ?_ | refine JK.ret ?_))
            exact ⟨(), by rw [sayAt, if_neg he]; exact JW.same ⟨rfl, rfl, rfl, rfl, rfl, rfl, rfl, rfl, trivial⟩, trivial⟩
        · have hky : 0 ≤ keyI (sayAt row.length (j : Int)) ∧ keyI (sayAt row.length (j : Int)) < 24 := by unfold sayAt keyI; split <;> split <;> omega
          have c1 := fn89 (sayAt row.length (j : Int)) hsa
          have htl := ht.1
          have htg := ht.get (keyI (sayAt row.length (j : Int))).toNat
          have hor : (Int.toNat (bits : Int) ||| (t.getD (keyI (sayAt row.length (j : Int))).toNat (Ty.dflt (.int .i64))).toNat) < 16777216 := or_lt (by omega) (by have := ht.get (keyI (sayAt row.length (j : Int))).toNat; change (t.getD (keyI (sayAt row.length (j : Int))).toNat 0).toNat < _; omega)
          have hpt : partC t f row bits (j + 1) = partC t f row bits j ++ extC t f row bits j := by
            rcases (by omega : j = 0 ∨ j = 1) with rfl | rfl <;> simp [partC]
          have hal : ∃ post', all = pre ++ partC t f row bits j ++ extC t f row bits j ++ post' := by
            rw [extF_C] at hall
            rcases (by omega : j = 0 ∨ j = 1) with rfl | rfl
            · exact ⟨extC t f row bits 1 ++ post, by rw [hall]; simp [partC]⟩
            · exact ⟨post, by rw [hall]; simp [partC]⟩
          have hfn : extF t (f + 1) row bits = extC t f row bits 0 ++ extC t f row bits 1 := rfl
          have hpx : partC t f row bits j = [] → ∃ y, extF t (f + 1) row bits = extC t f row bits j ++ y := fun h => by
            rw [hfn]
            rcases (by omega : j = 0 ∨ j = 1) with rfl | rfl
            · exact ⟨_, rfl⟩
            · exact ⟨[], by rw [show extC t f row bits 0 = [] from h]; simp⟩
          have hec : extC t f row bits j = if freeB (Int.toNat (bits : Int) ||| (t.getD (keyI (sayAt row.length (j : Int))).toNat (Ty.dflt (.int .i64))).toNat) = true then extF t f (row ++ [(j : Int)]) (Int.toNat (bits : Int) ||| (t.getD (keyI (sayAt row.length (j : Int))).toNat (Ty.dflt (.int .i64))).toNat) else [] := rfl
          have c2 := fn99 n ev t _ hor
          have hlt : (List.take row.length row).length ≤ 12 := by simp; omega
          obtain ⟨post', hal⟩ := hal
          (repeat (first | refine zs rfl ?_ | refine zd ?_ | refine zc rfl (c1) rfl rfl ?_ | refine zc rfl (c2) rfl rfl ?_))
          generalize (Int.toNat (bits : Int) ||| (t.getD (keyI (sayAt row.length (j : Int))).toNat (Ty.dflt (.int .i64))).toNat) = mo at hor hec c2 ⊢
          generalize freeB mo = fb at hec c2 ⊢
          generalize partC t f row bits j = pj at hpt hal hbj hpx ⊢
          cases fb with
          | true =>
            rw [if_pos rfl] at hec
            rw [hec] at hal hpt hpx
            (repeat (first | refine zt rfl rfl ?_ | refine zs rfl ?_))
            have e1 : List.take ((row.length : Int)).toNat row ++ [(j : Int)] = row ++ [(j : Int)] := by simp
            refine JK.frzR 101 55 (eid := 3) (e := .int .i64) (xs := row ++ [(j : Int)]) (congrArg (fun z => some (HO.sl 3 (.int .i64) z)) e1) rfl (L' := [(0, vDe n ev t), (1, vL row), (2, vI bits), (3, .lf (.yld lab)), (9, vI row.length), (10, vI (j : Int)), (12, vI mo), (26, vI (j : Int)), (47, vB true), (48, vDe n ev t), (56, vI mo), (57, .lf (.yld lab))]) ⟨rfl, rfl, rfl, rfl, rfl, rfl, rfl, rfl, rfl, rfl, rfl, rfl, trivial⟩ (H' := K (pre ++ pj)) (nx' := 100) (((subH.refl _).cons (hb _) (Nat.le_of_ble_eq_true rfl)).cons (hb _) (Nat.le_of_ble_eq_true rfl)) (bdH_none (hb _) (Nat.le_of_ble_eq_true rfl)) ⟨trivial, trivial, trivial, hlab, trivial, trivial, trivial, trivial, trivial, trivial, trivial, hlab, trivial⟩ (hb _) ?_
            have q := ih (row ++ [(j : Int)]) mo (pre ++ pj) post' (by simp; omega) hor hal hbj
            refine JK.callO [0, 1, 2, 3, 9, 26, 47] i m lab rfl rfl Go.Proofs.Try.call94 rfl (hk _) (by simp [stayL, stayB, svL, lk]) q trivial ?_
            rintro z H' nx' ⟨rfl, rfl, rfl⟩
            refine ⟨hk _, ?_⟩
            generalize extF t f (row ++ [(j : Int)]) mo = ex at hec hal hpt hpx q ⊢
            (repeat (first | refine zt rfl rfl ?_ | refine zs rfl ?_))
            refine JK.cond rfl (fun he => ?_) (fun he => ?_)
            · have hbf : b = false ∧ ex ≠ [] := by
                revert he; cases b <;> cases ex <;> simp
              obtain ⟨rfl, hne⟩ := hbf
              have hpp : pre ++ pj = [] := by simpa using hbj
              obtain ⟨y, hy⟩ := hpx (List.append_eq_nil_iff.1 hpp).2
              obtain ⟨z0, ex', rfl⟩ := List.exists_cons_of_ne_nil hne
              (repeat (first | refine zs rfl ?_ | refine zg rfl rfl rfl ?_ | refine zd ?_ | refine JK.fin ?_ | refine JK.ret ?_))
              refine foQ.ret _ (JW.refl _) rfl ⟨rfl, ?_, ?_⟩
              · show vB false = vB (false || (extF t (f + 1) row bits).isEmpty)
                rw [hy]; rfl
              · show K (pre ++ pj ++ cutB false (z0 :: ex')) = K (pre ++ cutB false (extF t (f + 1) row bits))
                rw [hy, hpp, (List.append_eq_nil_iff.1 hpp).1]; rfl
            · have hbt : cutB b ex = ex ∧ (b = true ∨ ex = []) := by
                revert he; unfold cutB; cases b <;> cases ex <;> simp
              (repeat (first | refine zs rfl ?_ | refine zg rfl rfl rfl ?_ | refine zd ?_ | refine JK.fin ?_ | refine JK.ret ?_))
              refine ⟨j + 1, ?_, ⟨by omega, ?_⟩, by omega⟩
              · rw [hpt, hbt.1, List.append_assoc]
                exact JW.same ⟨rfl, rfl, rfl, rfl, rfl, rfl, trivial⟩
              · rw [hpt]
                rcases hbt.2 with h | h
                · exact .inl h
                · rw [h, List.append_nil]; exact hbj
          | false =>
            rw [if_neg (by simp)] at hec
            rw [hec, List.append_nil] at hpt
            (repeat (first | refine zfl rfl rfl rfl ?_ | refine zs rfl ?_))
            refine JK.pickF rfl rfl rfl rfl trivial trivial ?_
            (repeat (first | refine zs rfl ?_ | refine zg rfl rfl rfl ?_ | refine zd ?_ | refine JK.fin ?_ | refine JK.ret ?_))
            refine JK.cond rfl (fun h => by cases h) (fun _ => ?_)
            (repeat (first | refine zs rfl ?_ | refine zg rfl rfl rfl ?_ | refine zd ?_ | refine JK.fin ?_ | refine JK.ret ?_))
            refine ⟨j + 1, ?_, ⟨by omega, by rw [hpt]; exact hbj⟩, by omega⟩
            rw [hpt]
            exact JW.same ⟨rfl, rfl, rfl, rfl, rfl, rfl, trivial⟩
      · (simp only [↓bif_or, ↓bif_and, ↓Bool.or_eq_true, ↓Bool.or_eq_false_iff, ↓Bool.and_eq_true, ↓Bool.and_eq_false_iff, ↓Bool.not_eq_true', ↓Bool.not_eq_false', ↓decide_eq_true_eq, ↓decide_eq_false_iff_not, ↓beq_iff_eq, ↓bne_iff_ne, ↓bne_eq_false_iff_eq, ↓ne_eq, ↓beq_eq_false_iff_ne, ↓Bool.not_eq_true] at hd; try simp only [Ty.dflt, Int.toNat_natCast] at hd)
        obtain rfl : j = 2 := by omega
        (repeat (first | refine zs rfl ?_ | refine zg rfl rfl rfl ?_ | refine zd ?_ | refine JK.fin ?_ | refine JK.ret ?_))
        refine foQ.ret _ (JW.refl _) rfl ⟨rfl, ?_, ?_⟩
        · show vB true = vB (b || (extF t (f + 1) row bits).isEmpty)
          rw [extF_C]
          rcases hbj with h | h
          · rw [h]; rfl
          · rw [show extC t f row bits 0 ++ extC t f row bits 1 = [] from (List.append_eq_nil_iff.1 h).2]; cases b <;> rfl
        · show K _ = K _
          rw [extF_C]
          show K (pre ++ (extC t f row bits 0 ++ extC t f row bits 1)) = _
          rcases hbj with h | h
          · rw [h]; rfl
          · rw [show extC t f row bits 0 ++ extC t f row bits 1 = [] from (List.append_eq_nil_iff.1 h).2]; cases b <;> rfl
end Go.Proofs.Ytdmfofjaknngnaa

namespace Go.Proofs.Ytdmfofjaknngnaa
open Go Go.RowKit Ox Ox.Two
attribute [local irreducible] JC JL JK JW

theorem eqA : EqT Go.Proofs.Try.prog (.arr 24 (.int .i64)) 110 := .of (by decide +kernel)
theorem initF_snoc (s : Int) : ∀ (pre : List Int) (t : List Int), initF (pre ++ [s]) t = (initF pre t).set (key s) ((2 ^ key s : Nat) : Int)
  | [], t => rfl
  | x :: r, t => by rw [List.cons_append, initF, initF, initF_snoc s r]
theorem initF_cast (s : Int) (pre t : List Int) : (initF pre t).set (keyI s).toNat ((1 : Int) * 2 ^ (keyI s).toNat) = initF (pre ++ [s]) t := by
  rw [initF_snoc]
  refine congrArg ((initF pre t).set (keyI s).toNat) ?_
  rw [Int.one_mul]; push_cast; rfl
theorem pow24 {k : Nat} (h : k < 24) : (1 : Int) * 2 ^ k ≤ 16777216 ∧ 0 ≤ (1 : Int) * 2 ^ k := by
  have := pow_ok h
  rw [Int.one_mul]; push_cast at this; omega
abbrev vD (n : Int) (ev : List evD) (t : List Int) : AV := .val deT ((n, ev, ()), t, ())
def K0 (a b : Code) (n : Int) (ev : List evD) (t : List Int) : List (Nat × HO) :=
  [(5, .fr 0 [(60, .lf (.yld 4)), (3, .lf (.optr 2 []))]), (4, .loop .ready none #[13] a b 60 [(3, .lf (.optr 2 []))]), (1, .cell deT (vD n ev t)), (2, .cell (.ptr deT) (.lf (.optr 1 []))), (3, .cell (.ptr deT) (.lf (.optr 1 [])))]
theorem passS_snoc {ev : List evD} (s : Int) : ∀ (pre : List Int) (t : List Int), passS ev (pre ++ [s]) t = passZ s (stepsL ev s) (passS ev pre t)
  | [], t => rfl
  | x :: r, t => by rw [List.cons_append, passS, passS, passS_snoc s r]
theorem passZ_snoc {s : Int} (z : stD) : ∀ (q : List stD) (t : List Int), passZ s (q ++ [z]) t = orAt (passZ s q t) (key s) (key z.2.1)
  | [], t => rfl
  | x :: r, t => by rw [List.cons_append, passZ, passZ, passZ_snoc z r]
def K1 (a b : Code) (n : Int) (ev : List evD) (t0 t : List Int) : List (Nat × HO) :=
  [(6, .fr 0 [(60, .lf (.yld 5)), (3, .lf (.optr 2 [])), (5, .lf (.optr 3 []))]), (5, .loop .ready none #[29] a b 60 [(3, .lf (.optr 2 [])), (5, .lf (.optr 3 []))]), (1, .cell deT (vD n ev t)), (2, .cell (.ptr deT) (.lf (.optr 1 []))), (3, .cell (.arr 24 (.int .i64)) (.val (.arr 24 (.int .i64)) t0)), (4, .cell (.ptr deT) (.lf (.optr 1 [])))]
def K2 (a b c d : Code) (n : Int) (ev : List evD) (s : Int) (t0 t : List Int) : List (Nat × HO) :=
  [(10, .fr 2 [(60, .lf (.yld 9)), (3, .lf (.optr 2 [])), (6, .lf (.optr 8 []))]), (9, .loop .ready none #[33] c d 60 [(3, .lf (.optr 2 [])), (6, .lf (.optr 8 []))]), (7, .fr 1 [(25, .lf (.yld 5))]),
   (6, .fr 0 [(60, .lf (.yld 5)), (3, .lf (.optr 2 [])), (5, .lf (.optr 3 []))]), (5, .loop .busy none #[29] a b 60 [(3, .lf (.optr 2 [])), (5, .lf (.optr 3 []))]), (1, .cell deT (vD n ev t)), (2, .cell (.ptr deT) (.lf (.optr 1 []))), (3, .cell (.arr 24 (.int .i64)) (.val (.arr 24 (.int .i64)) t0)), (4, .cell (.ptr deT) (.lf (.optr 1 []))), (8, .cell (.int .i64) (vI s))]
theorem fn87 (n : Nat) (ev : List evD) (h1 : 1 ≤ n) (hn : n ≤ 12) (hl : ev.length ≤ 40) (hv : valid n ev) : Ox.Fn Go.Proofs.Try.prog 87 (.acons (vC n ev) .anil) (· = vDe n ev (deskT ev n)) := by
  refine Ox.Fn.intro xok Go.Proofs.Try.func87 rfl Go.Proofs.Try.call87 (Nat.le_of_ble_eq_true rfl) (fun E M0 up => ?_)
  refine JK.start ?_
  (repeat (first | refine zs rfl ?_ | refine zg rfl rfl rfl ?_ | refine zd ?_ | refine JK.fin ?_ | refine JK.ret ?_ | refine zeq eqA rfl rfl rfl ?_ | refine zne eqA rfl rfl rfl ?_ | refine zeqg eqA rfl rfl rfl rfl ?_ | refine zneg eqA rfl rfl rfl rfl ?_))
  refine JK.inl [3] rfl rfl trivial rfl rfl Go.Proofs.Try.call68 (Nat.le_of_ble_eq_true rfl) rfl fun M1 up1 => ?_
  (repeat (first | refine znf ?_ | refine zs rfl ?_ | refine JK.ret ?_))
  refine inlQ.ret rfl rfl rfl rfl ?_
  refine JK.weakO (s' := ⟨[(3, .lf (.optr 2 [])), (12, .fn 92 .anil (.acons (.lf (.optr 3 [])) .anil))], [(1, .cell deT (vD n ev (List.replicate 24 0))), (2, .cell (.ptr deT) (.lf (.optr 1 []))), (3, .cell (.ptr deT) (.lf (.optr 1 [])))], 4⟩) (by (exact JW.Auto (by conv => lhs; reduce))) ?_
  (repeat (first | refine zs rfl ?_ | refine zg rfl rfl rfl ?_ | refine zd ?_ | refine JK.fin ?_ | refine JK.ret ?_ | refine zeq eqA rfl rfl rfl ?_ | refine zne eqA rfl rfl rfl ?_ | refine zeqg eqA rfl rfl rfl rfl ?_ | refine zneg eqA rfl rfl rfl rfl ?_))
  refine JK.rangeG [3] rfl rfl rfl Go.Proofs.Try.func92 rfl Go.Proofs.Try.call92 (Nat.le_of_ble_eq_true rfl) trivial fun M2 up2 a0 b0 ha0 hb0 => ?_
  (repeat (first | refine zs rfl ?_ | refine zg rfl rfl rfl ?_ | refine zd ?_ | refine JK.fin ?_ | refine JK.ret ?_ | refine zeq eqA rfl rfl rfl ?_ | refine zne eqA rfl rfl rfl ?_ | refine zeqg eqA rfl rfl rfl rfl ?_ | refine zneg eqA rfl rfl rfl rfl ?_))
  refine JK.weak (s' := ⟨[(0, .lf (.yld 4)), (8, vI n), (9, vI 0)], K0 a0 b0 n ev (List.replicate 24 0), 100⟩) (by (exact JW.Auto (by conv => lhs; reduce))) ?_
  refine say_it (Mx := M2) (nX := 25) (rdX := none) n hn (fun pre => K0 a0 b0 n ev (initF pre (List.replicate 24 0))) ?_ ?_
  · intro pre s post hps
    refine YO.intro 0 60 (ps := #[13]) (assign := a0) (body := b0) (nO := 60) (LO := [(3, .lf (.optr 2 []))]) (L0 := [(13, vI s), (3, .lf (.optr 2 []))]) rfl rfl rfl ⟨5, _, rfl, rfl⟩ ⟨5, _, rfl, rfl⟩ fun M3 M4 up4 bl hup => JK.start (JK.codeEq ha0 ?_)
    (repeat (first | refine zs rfl ?_ | refine zg rfl rfl rfl ?_ | refine zd ?_ | refine JK.fin ?_ | refine JK.ret ?_ | refine zeq eqA rfl rfl rfl ?_ | refine zne eqA rfl rfl rfl ?_ | refine zeqg eqA rfl rfl rfl rfl ?_ | refine zneg eqA rfl rfl rfl rfl ?_))
    refine JK.done (asgQ.nor rfl rfl rfl rfl (JK.start (JK.codeEq hb0 ?_)))
    (repeat (first | refine zs rfl ?_ | refine zg rfl rfl rfl ?_ | refine JK.fin ?_ | refine JK.ret ?_ | refine zeq eqA rfl rfl rfl ?_ | refine zne eqA rfl rfl rfl ?_ | refine zeqg eqA rfl rfl rfl rfl ?_ | refine zneg eqA rfl rfl rfl rfl ?_))
    have hsy : isSay n s := mem_sayL.1 (by rw [hps]; simp)
    have hky := keyI_bd hsy
    have hk1 := pow24 (k := (keyI s).toNat) (by omega)
    have c1 := fn89 s (by unfold isSay at hsy; omega)
    have hok : tabOk (initF pre (List.replicate 24 0)) := initF_ok pre (fun x hx => say_key hn x (by rw [hps]; simp [hx])) tabOk_zero
    have htl := hok.1
    have hset := initF_cast s pre (List.replicate 24 0)
    generalize initF pre (List.replicate 24 0) = T at hok htl hset ⊢
    generalize initF (pre ++ [s]) (List.replicate 24 0) = T' at hset ⊢
    refine JK.drawP (xok rfl rfl rfl rfl) (rgsB 0 Go.Proofs.Try.f87.body) rfl 10 rfl ?_
    (refine JF.First 1 (xok rfl rfl rfl rfl) rfl rfl ?_; refine JF.First 3 (xok rfl rfl rfl rfl) rfl rfl ?_; refine JF.Float 0 (xok rfl rfl rfl rfl) rfl rfl ?_; refine JF.Float 6 (xok rfl rfl rfl rfl) rfl rfl ?_; refine JF.Float 7 (xok rfl rfl rfl rfl) rfl rfl ?_; refine JF.Branch 2 [] (xok rfl rfl rfl rfl) ?_ ?_; (focus (repeat (first | exact StF.nil | refine StF.One rfl rfl rfl ?_))); refine BrF.one rfl rfl ?_ BrF.nil; (· (first | refine JL.Q1 (xok rfl rfl rfl rfl) rfl rfl ?_ | refine JL.G1 (xok rfl rfl rfl rfl) rfl rfl rfl ?_ | refine JL.M1 (xok rfl rfl rfl rfl) rfl rfl ?_ | refine JL.M0 (xok rfl rfl rfl rfl) rfl ?_ | refine JL.Q0 (xok rfl rfl rfl rfl) rfl ?_ | refine JL.EqQ eqA rfl rfl rfl ?_ | refine JL.NeQ eqA rfl rfl rfl ?_ | refine JL.S1 rfl (c1) rfl trivial rfl ?_ | refine JL.T1 rfl (c1) rfl rfl ?_ | refine JL.C1 rfl (c1) rfl (fun r hr => ?_); subst hr | refine JL.S1g rfl rfl (fun hgd => c1) rfl trivial rfl ?_); refine JL.finN ?_; refine JF.Branch 4 [] (xok rfl rfl rfl rfl) ?_ ?_; (focus (repeat (first | exact StF.nil | refine StF.One rfl rfl rfl ?_))); refine BrF.one rfl rfl ?_ BrF.nil; (· (first | refine JL.Q1 (xok rfl rfl rfl rfl) rfl rfl ?_ | refine JL.G1 (xok rfl rfl rfl rfl) rfl rfl rfl ?_ | refine JL.M1 (xok rfl rfl rfl rfl) rfl rfl ?_ | refine JL.M0 (xok rfl rfl rfl rfl) rfl ?_ | refine JL.Q0 (xok rfl rfl rfl rfl) rfl ?_ | refine JL.EqQ eqA rfl rfl rfl ?_ | refine JL.NeQ eqA rfl rfl rfl ?_ | refine JL.S1 rfl (c1) rfl trivial rfl ?_ | refine JL.T1 rfl (c1) rfl rfl ?_ | refine JL.C1 rfl (c1) rfl (fun r hr => ?_); subst hr | refine JL.S1g rfl rfl (fun hgd => c1) rfl trivial rfl ?_); refine JL.finN ?_; refine JF.First 5 (xok rfl rfl rfl rfl) rfl rfl ?_; refine JF.Float 8 (xok rfl rfl rfl rfl) rfl rfl ?_; refine JF.Branch 9 [] (xok rfl rfl rfl rfl) ?_ ?_; (focus (repeat (first | exact StF.nil | refine StF.One rfl rfl rfl ?_))); refine BrF.one rfl rfl ?_ BrF.nil; (· (first | refine JL.Q1 (xok rfl rfl rfl rfl) rfl rfl ?_ | refine JL.G1 (xok rfl rfl rfl rfl) rfl rfl rfl ?_ | refine JL.M1 (xok rfl rfl rfl rfl) rfl rfl ?_ | refine JL.M0 (xok rfl rfl rfl rfl) rfl ?_ | refine JL.Q0 (xok rfl rfl rfl rfl) rfl ?_ | refine JL.EqQ eqA rfl rfl rfl ?_ | refine JL.NeQ eqA rfl rfl rfl ?_ | refine JL.S1 rfl (c1) rfl trivial rfl ?_ | refine JL.T1 rfl (c1) rfl rfl ?_ | refine JL.C1 rfl (c1) rfl (fun r hr => ?_); subst hr | refine JL.S1g rfl rfl (fun hgd => c1) rfl trivial rfl ?_); refine JL.finN ?_; refine JF.Done (xok rfl rfl rfl rfl) ?_ ?_; (focus (repeat (first | exact StF.nil | refine StF.One rfl rfl rfl ?_))); (((repeat (first | refine zs rfl ?_ | refine zg rfl rfl rfl ?_ | refine zd ?_ | refine JK.fin ?_ | refine JK.ret ?_ | refine zeq eqA rfl rfl rfl ?_ | refine zne eqA rfl rfl rfl ?_ | refine zeqg eqA rfl rfl rfl rfl ?_ | refine zneg eqA rfl rfl rfl rfl ?_)); refine JK.done (bodyQ.of rfl rfl rfl rfl rfl rfl ⟨rfl, ?_⟩); show JW _ ⟨[], K0 a0 b0 n ev T', 100⟩ _; rw [← hset]; (exact JW.Auto (by conv => lhs; reduce))))))))
  · intro L
    refine JK.done (rngQ.of (.inr rfl) rfl rfl rfl rfl rfl rfl rfl (endJ.kn ?_))
    (repeat (first | refine zs rfl ?_ | refine zg rfl rfl rfl ?_ | refine zd ?_ | refine JK.fin ?_ | refine JK.ret ?_ | refine zeq eqA rfl rfl rfl ?_ | refine zne eqA rfl rfl rfl ?_ | refine zeqg eqA rfl rfl rfl rfl ?_ | refine zneg eqA rfl rfl rfl rfl ?_))
    refine JK.loop (fun t : List Int => ⟨[(3, .lf (.optr 2 []))], [(1, .cell deT (vD n ev t)), (2, .cell (.ptr deT) (.lf (.optr 1 [])))], 3⟩) (fun t => Ox.Two.Way n ev t ∧ ∃ f, muT t < f ∧ deskT ev n = fixT ev n f t) muT (initT n) ?_ (by (exact JW.Auto (by conv => lhs; reduce))) fun t ⟨hw, f, hf, hfx⟩ => ?_
    · refine ⟨Ox.Two.Way.init hn, _, ?_, rfl⟩
      have := (initT_ok hn).sum
      unfold muT; omega
    · (repeat (first | refine zs rfl ?_ | refine zg rfl rfl rfl ?_ | refine zd ?_ | refine JK.fin ?_ | refine JK.ret ?_ | refine zeq eqA rfl rfl rfl ?_ | refine zne eqA rfl rfl rfl ?_ | refine zeqg eqA rfl rfl rfl rfl ?_ | refine zneg eqA rfl rfl rfl rfl ?_))
      refine JK.inl [3, 5] rfl rfl trivial rfl rfl Go.Proofs.Try.call68 (Nat.le_of_ble_eq_true rfl) rfl fun M1 up1 => ?_
      (repeat (first | refine znf ?_ | refine zs rfl ?_ | refine JK.ret ?_))
      refine inlQ.ret rfl rfl rfl rfl ?_
      refine JK.weakO (s' := ⟨[(3, .lf (.optr 2 [])), (5, .lf (.optr 3 [])), (28, .fn 92 .anil (.acons (.lf (.optr 4 [])) .anil))], [(1, .cell deT (vD n ev t)), (2, .cell (.ptr deT) (.lf (.optr 1 []))), (3, .cell (.arr 24 (.int .i64)) (.val (.arr 24 (.int .i64)) t)), (4, .cell (.ptr deT) (.lf (.optr 1 [])))], 5⟩) (by (exact JW.Auto (by conv => lhs; reduce))) ?_
      (repeat (first | refine zs rfl ?_ | refine zg rfl rfl rfl ?_ | refine zd ?_ | refine JK.fin ?_ | refine JK.ret ?_ | refine zeq eqA rfl rfl rfl ?_ | refine zne eqA rfl rfl rfl ?_ | refine zeqg eqA rfl rfl rfl rfl ?_ | refine zneg eqA rfl rfl rfl rfl ?_))
      refine JK.rangeG [3, 5] rfl rfl rfl Go.Proofs.Try.func92 rfl Go.Proofs.Try.call92 (Nat.le_of_ble_eq_true rfl) trivial fun M2 up2 a1 b1 ha1 hb1 => ?_
      (repeat (first | refine zs rfl ?_ | refine zg rfl rfl rfl ?_ | refine zd ?_ | refine JK.fin ?_ | refine JK.ret ?_ | refine zeq eqA rfl rfl rfl ?_ | refine zne eqA rfl rfl rfl ?_ | refine zeqg eqA rfl rfl rfl rfl ?_ | refine zneg eqA rfl rfl rfl rfl ?_))
      refine JK.weak (s' := ⟨[(0, .lf (.yld 5)), (8, vI n), (9, vI 0)], K1 a1 b1 n ev t t, 100⟩) (by (exact JW.Auto (by conv => lhs; reduce))) ?_
      refine say_it (Mx := M2) (nX := 25) (rdX := none) n hn (fun pre => K1 a1 b1 n ev t (passS ev pre t)) ?_ ?_
      · intro pre s post hps
        refine YO.intro 0 60 (ps := #[29]) (assign := a1) (body := b1) (nO := 60) (LO := [(3, .lf (.optr 2 [])), (5, .lf (.optr 3 []))]) (L0 := [(29, vI s), (3, .lf (.optr 2 [])), (5, .lf (.optr 3 []))]) rfl rfl rfl ⟨6, _, rfl, rfl⟩ ⟨6, _, rfl, rfl⟩ fun M3 M4 up4 bl hup => JK.start (JK.codeEq ha1 ?_)
        (repeat (first | refine zs rfl ?_ | refine zg rfl rfl rfl ?_ | refine zd ?_ | refine JK.fin ?_ | refine JK.ret ?_ | refine zeq eqA rfl rfl rfl ?_ | refine zne eqA rfl rfl rfl ?_ | refine zeqg eqA rfl rfl rfl rfl ?_ | refine zneg eqA rfl rfl rfl rfl ?_))
        refine JK.done (asgQ.nor rfl rfl rfl rfl (JK.start (JK.codeEq hb1 ?_)))
        (repeat (first | refine zs rfl ?_ | refine zg rfl rfl rfl ?_ | refine zd ?_ | refine JK.fin ?_ | refine JK.ret ?_ | refine zeq eqA rfl rfl rfl ?_ | refine zne eqA rfl rfl rfl ?_ | refine zeqg eqA rfl rfl rfl rfl ?_ | refine zneg eqA rfl rfl rfl rfl ?_))
        refine JK.inl [3, 6] rfl rfl trivial rfl rfl Go.Proofs.Try.call90 (Nat.le_of_ble_eq_true rfl) rfl fun M5 up5 => ?_
        (repeat (first | refine znf ?_ | refine zs rfl ?_ | refine JK.ret ?_))
        refine inlQ.ret rfl rfl rfl rfl ?_
        have hsy : isSay n s := mem_sayL.1 (by rw [hps]; simp)
        have hsb : -1000 ≤ s ∧ s ≤ 1000 := by unfold isSay at hsy; omega
        have hky := keyI_bd hsy
        have hT := passS_ok (ev := ev) pre (t := t) (fun x hx => say_key hn x (by rw [hps]; simp [hx])) hw.ok
        have hsn : passS ev (pre ++ [s]) t = passZ s (stepsL ev s) (passS ev pre t) := passS_snoc s pre t
        generalize passS ev pre t = T at hT hsn ⊢
        refine JK.weakO (s' := ⟨[(3, .lf (.optr 2 [])), (6, .lf (.optr 8 [])), (32, .fn 98 .anil (.acons (.lf (.optr 9 [])) (.acons (.lf (.optr 10 [])) .anil)))], [(7, .fr 1 [(25, .lf (.yld 5))]),
          (6, .fr 0 [(60, .lf (.yld 5)), (3, .lf (.optr 2 [])), (5, .lf (.optr 3 []))]), (5, .loop .busy none #[29] a1 b1 60 [(3, .lf (.optr 2 [])), (5, .lf (.optr 3 []))]), (1, .cell deT (vD n ev T)), (2, .cell (.ptr deT) (.lf (.optr 1 []))), (3, .cell (.arr 24 (.int .i64)) (.val (.arr 24 (.int .i64)) t)), (4, .cell (.ptr deT) (.lf (.optr 1 []))), (8, .cell (.int .i64) (vI s)), (9, .cell (.ptr deT) (.lf (.optr 1 []))), (10, .cell (.int .i64) (vI s))], 11⟩) (by (exact JW.Auto (by conv => lhs; reduce))) ?_
        (refine JK.frzL [10] [3,6,32] rfl (by (first | exact trivial | (try dsimp only [allP, inK, idxC, loC, lohiC, fullC, underG, List.append, List.nil_append, List.cons_append, Ty.den, Ty.dflt, Int.toNat_natCast, List.length_cons, List.length_nil] at *); first | omega | ((repeat' (first | exact trivial | assumption | refine And.intro ?_ ?_ | exact fun h => h | (intro hpk; first | exact hpk | simp only [wantB, hpk, Bool.not_false, Bool.not_true]))) <;> omega) | fail)) ?_)
        (repeat (first | refine zs rfl ?_ | refine zg rfl rfl rfl ?_ | refine zd ?_ | refine JK.fin ?_ | refine JK.ret ?_ | refine zeq eqA rfl rfl rfl ?_ | refine zne eqA rfl rfl rfl ?_ | refine zeqg eqA rfl rfl rfl rfl ?_ | refine zneg eqA rfl rfl rfl rfl ?_))
        refine JK.rangeJ [3, 6] (lf := 7) (lab0 := 5) rfl hup rfl rfl rfl rfl Go.Proofs.Try.func98 rfl Go.Proofs.Try.call98 (Nat.le_of_ble_eq_true rfl) trivial fun M6 up6 a2 b2 ha2 hb2 => ?_
        (repeat (first | refine zs rfl ?_ | refine zg rfl rfl rfl ?_ | refine zd ?_ | refine JK.fin ?_ | refine JK.ret ?_ | refine zeq eqA rfl rfl rfl ?_ | refine zne eqA rfl rfl rfl ?_ | refine zeqg eqA rfl rfl rfl rfl ?_ | refine zneg eqA rfl rfl rfl rfl ?_))
        refine JK.weak (s' := ⟨[(0, .lf (.yld 9)), (2, pI s), (10, vEs ev), (11, vI ev.length), (12, vI 0)], K2 a1 b1 a2 b2 n ev s t T, 100⟩) (by (exact JW.Auto (by conv => lhs; reduce))) ?_
        refine steps_it (Mx := M6) (nX := 48) (rdX := none) ev s hsb hl (fun q => K2 a1 b1 a2 b2 n ev s t (passZ s q T)) (fun q => ?_) (by omega) ?_ ?_
        · (repeat' (first | exact trivial | exact rfl | refine And.intro ?_ ?_ | exact Nat.le_of_ble_eq_true rfl | refine HO.bdF ?_ | refine HO.bdP ?_ | (refine congrArg (fun z : Int => some (AV.val (.int .i64) z)) ?_; push_cast; omega)))
        · intro q z post hqs
          refine YO.intro 2 60 (ps := #[33]) (assign := a2) (body := b2) (nO := 60) (LO := [(3, .lf (.optr 2 [])), (6, .lf (.optr 8 []))]) (L0 := [(33, vS z), (3, .lf (.optr 2 [])), (6, .lf (.optr 8 []))]) rfl rfl rfl ⟨10, _, rfl, rfl⟩ ⟨10, _, rfl, rfl⟩ fun M7 M8 up8 bl8 hup8 => JK.start (JK.codeEq ha2 ?_)
          (repeat (first | refine zs rfl ?_ | refine zg rfl rfl rfl ?_ | refine zd ?_ | refine JK.fin ?_ | refine JK.ret ?_ | refine zeq eqA rfl rfl rfl ?_ | refine zne eqA rfl rfl rfl ?_ | refine zeqg eqA rfl rfl rfl rfl ?_ | refine zneg eqA rfl rfl rfl rfl ?_))
          refine JK.done (asgQ.nor rfl rfl rfl rfl (JK.start (JK.codeEq hb2 ?_)))
          (repeat (first | refine zs rfl ?_ | refine zg rfl rfl rfl ?_ | refine JK.fin ?_ | refine JK.ret ?_ | refine zeq eqA rfl rfl rfl ?_ | refine zne eqA rfl rfl rfl ?_ | refine zeqg eqA rfl rfl rfl rfl ?_ | refine zneg eqA rfl rfl rfl rfl ?_))
          have hzs : isSay n z.2.1 := ((stepsL_step.2 ⟨z, by rw [hqs]; simp, rfl⟩ : Step ev s z.2.1).say hv).2
          have hkz := keyI_bd hzs
          have c1 := fn89 s hsb
          have c2 := fn89 z.2.1 (by unfold isSay at hzs; omega)
          have hq := (passZ_ok (s := s) (key_lt hsy |> fun h => by omega) q hT.1).1
          have hset := passZ_snoc (s := s) z q T
          generalize passZ s q T = T1 at hq hset ⊢
          generalize passZ s (q ++ [z]) T = T' at hset ⊢
          have htl := hq.1
          have g1 := hq.get (keyI s).toNat
          have g2 := hq.get (keyI z.2.1).toNat
          have hor : (((T1.getD (keyI s).toNat (Ty.dflt (.int .i64))).toNat ||| (T1.getD (keyI z.2.1).toNat (Ty.dflt (.int .i64))).toNat : Nat) : Int) < 16777216 := by
            have := or_lt (a := (T1.getD (keyI s).toNat (Ty.dflt (.int .i64))).toNat) (b := (T1.getD (keyI z.2.1).toNat (Ty.dflt (.int .i64))).toNat) (by change (T1.getD (keyI s).toNat 0).toNat < _; omega) (by change (T1.getD (keyI z.2.1).toNat 0).toNat < _; omega)
            omega
          refine JK.drawP (xok rfl rfl rfl rfl) (rgsB 2 Go.Proofs.Try.f87.body) rfl 20 rfl ?_
          (refine JF.First 8 (xok rfl rfl rfl rfl) rfl rfl ?_; refine JF.Float 0 (xok rfl rfl rfl rfl) rfl rfl ?_; refine JF.Float 1 (xok rfl rfl rfl rfl) rfl rfl ?_; refine JF.Float 3 (xok rfl rfl rfl rfl) rfl rfl ?_; refine JF.Float 4 (xok rfl rfl rfl rfl) rfl rfl ?_; refine JF.Float 7 (xok rfl rfl rfl rfl) rfl rfl ?_; refine JF.Float 9 (xok rfl rfl rfl rfl) rfl rfl ?_; refine JF.Float 11 (xok rfl rfl rfl rfl) rfl rfl ?_; refine JF.Float 12 (xok rfl rfl rfl rfl) rfl rfl ?_; refine JF.Float 16 (xok rfl rfl rfl rfl) rfl rfl ?_; refine JF.Float 17 (xok rfl rfl rfl rfl) rfl rfl ?_; refine JF.Branch 2 [] (xok rfl rfl rfl rfl) ?_ ?_; (focus (repeat (first | exact StF.nil | refine StF.One rfl rfl rfl ?_))); refine BrF.one rfl rfl ?_ BrF.nil; (· (first | refine JL.Q1 (xok rfl rfl rfl rfl) rfl rfl ?_ | refine JL.G1 (xok rfl rfl rfl rfl) rfl rfl rfl ?_ | refine JL.M1 (xok rfl rfl rfl rfl) rfl rfl ?_ | refine JL.M0 (xok rfl rfl rfl rfl) rfl ?_ | refine JL.Q0 (xok rfl rfl rfl rfl) rfl ?_ | refine JL.EqQ eqA rfl rfl rfl ?_ | refine JL.NeQ eqA rfl rfl rfl ?_ | refine JL.S1 rfl (c1) rfl trivial rfl ?_ | refine JL.T1 rfl (c1) rfl rfl ?_ | refine JL.C1 rfl (c1) rfl (fun r hr => ?_); subst hr | refine JL.S1g rfl rfl (fun hgd => c1) rfl trivial rfl ?_ | refine JL.S1 rfl (c2) rfl trivial rfl ?_ | refine JL.T1 rfl (c2) rfl rfl ?_ | refine JL.C1 rfl (c2) rfl (fun r hr => ?_); subst hr | refine JL.S1g rfl rfl (fun hgd => c2) rfl trivial rfl ?_); refine JL.finN ?_; refine JF.Float 5 (xok rfl rfl rfl rfl) rfl rfl ?_; refine JF.Float 6 (xok rfl rfl rfl rfl) rfl rfl ?_; refine JF.Branch 10 [] (xok rfl rfl rfl rfl) ?_ ?_; (focus (repeat (first | exact StF.nil | refine StF.One rfl rfl rfl ?_))); refine BrF.one rfl rfl ?_ BrF.nil; (· (first | refine JL.Q1 (xok rfl rfl rfl rfl) rfl rfl ?_ | refine JL.G1 (xok rfl rfl rfl rfl) rfl rfl rfl ?_ | refine JL.M1 (xok rfl rfl rfl rfl) rfl rfl ?_ | refine JL.M0 (xok rfl rfl rfl rfl) rfl ?_ | refine JL.Q0 (xok rfl rfl rfl rfl) rfl ?_ | refine JL.EqQ eqA rfl rfl rfl ?_ | refine JL.NeQ eqA rfl rfl rfl ?_ | refine JL.S1 rfl (c1) rfl trivial rfl ?_ | refine JL.T1 rfl (c1) rfl rfl ?_ | refine JL.C1 rfl (c1) rfl (fun r hr => ?_); subst hr | refine JL.S1g rfl rfl (fun hgd => c1) rfl trivial rfl ?_ | refine JL.S1 rfl (c2) rfl trivial rfl ?_ | refine JL.T1 rfl (c2) rfl rfl ?_ | refine JL.C1 rfl (c2) rfl (fun r hr => ?_); subst hr | refine JL.S1g rfl rfl (fun hgd => c2) rfl trivial rfl ?_); refine JL.finN ?_; refine JF.Float 13 (xok rfl rfl rfl rfl) rfl rfl ?_; refine JF.Float 14 (xok rfl rfl rfl rfl) rfl rfl ?_; refine JF.Float 15 (xok rfl rfl rfl rfl) rfl rfl ?_; refine JF.Float 18 (xok rfl rfl rfl rfl) rfl rfl ?_; refine JF.Branch 19 [] (xok rfl rfl rfl rfl) ?_ ?_; (focus (repeat (first | exact StF.nil | refine StF.One rfl rfl rfl ?_))); refine BrF.one rfl rfl ?_ BrF.nil; (· (first | refine JL.Q1 (xok rfl rfl rfl rfl) rfl rfl ?_ | refine JL.G1 (xok rfl rfl rfl rfl) rfl rfl rfl ?_ | refine JL.M1 (xok rfl rfl rfl rfl) rfl rfl ?_ | refine JL.M0 (xok rfl rfl rfl rfl) rfl ?_ | refine JL.Q0 (xok rfl rfl rfl rfl) rfl ?_ | refine JL.EqQ eqA rfl rfl rfl ?_ | refine JL.NeQ eqA rfl rfl rfl ?_ | refine JL.S1 rfl (c1) rfl trivial rfl ?_ | refine JL.T1 rfl (c1) rfl rfl ?_ | refine JL.C1 rfl (c1) rfl (fun r hr => ?_); subst hr | refine JL.S1g rfl rfl (fun hgd => c1) rfl trivial rfl ?_ | refine JL.S1 rfl (c2) rfl trivial rfl ?_ | refine JL.T1 rfl (c2) rfl rfl ?_ | refine JL.C1 rfl (c2) rfl (fun r hr => ?_); subst hr | refine JL.S1g rfl rfl (fun hgd => c2) rfl trivial rfl ?_); refine JL.finN ?_; refine JF.Done (xok rfl rfl rfl rfl) ?_ ?_; (focus (repeat (first | exact StF.nil | refine StF.One rfl rfl rfl ?_))); (((repeat (first | refine zs rfl ?_ | refine zg rfl rfl rfl ?_ | refine zd ?_ | refine JK.fin ?_ | refine JK.ret ?_ | refine zeq eqA rfl rfl rfl ?_ | refine zne eqA rfl rfl rfl ?_ | refine zeqg eqA rfl rfl rfl rfl ?_ | refine zneg eqA rfl rfl rfl rfl ?_)); refine JK.done (bodyQ.of rfl rfl rfl rfl rfl rfl ⟨rfl, ?_⟩); show JW _ ⟨[], K2 a1 b1 a2 b2 n ev s t T', 100⟩ _; rw [hset]; (exact JW.Auto (by conv => lhs; reduce))))))))
        · intro L
          refine JK.done (rngQ.of (.inr rfl) rfl rfl rfl rfl rfl rfl rfl (endJ.kn ?_))
          (repeat (first | refine zs rfl ?_ | refine zg rfl rfl rfl ?_ | refine zd ?_ | refine JK.fin ?_ | refine JK.ret ?_ | refine zeq eqA rfl rfl rfl ?_ | refine zne eqA rfl rfl rfl ?_ | refine zeqg eqA rfl rfl rfl rfl ?_ | refine zneg eqA rfl rfl rfl rfl ?_))
          refine JK.done (bodyQ.of rfl rfl rfl rfl rfl rfl ⟨rfl, ?_⟩)
          show JW _ ⟨[], K1 a1 b1 n ev t (passS ev (pre ++ [s]) t), 100⟩ _
          rw [hsn]
          (exact JW.Auto (by conv => lhs; reduce))
      · intro L
        refine JK.done (rngQ.of (.inr rfl) rfl rfl rfl rfl rfl rfl rfl (endJ.kn ?_))
        have hps : passS ev (sayL n) t = pass ev n t := rfl
        have hwp := hw.pass hv hn
        have hmu := pass_mu (ev := ev) hn hw.ok
        obtain ⟨g, rfl⟩ : ∃ g, f = g + 1 := ⟨f - 1, by omega⟩
        rw [fixT_step] at hfx
        rw [hps]
        generalize pass ev n t = t' at hwp hmu hfx ⊢
        (repeat (first | refine zs rfl ?_ | refine zg rfl rfl rfl ?_ | refine zd ?_ | refine JK.fin ?_ | refine JK.ret ?_ | refine zeq eqA rfl rfl rfl ?_ | refine zne eqA rfl rfl rfl ?_ | refine zeqg eqA rfl rfl rfl rfl ?_ | refine zneg eqA rfl rfl rfl rfl ?_))
        refine JK.cond rfl (fun hc => ?_) (fun hc => ?_)
        · have e : t' = t := Ty.eqB_iff.1 hc
          rw [if_pos e] at hfx
          rw [hfx, ← e]
          (repeat (first | refine zs rfl ?_ | refine zg rfl rfl rfl ?_ | refine zd ?_ | refine JK.fin ?_ | refine JK.ret ?_ | refine zeq eqA rfl rfl rfl ?_ | refine zne eqA rfl rfl rfl ?_ | refine zeqg eqA rfl rfl rfl rfl ?_ | refine zneg eqA rfl rfl rfl rfl ?_))
          refine ⟨.inl rfl, _, _, rfl, trivial, ?_⟩
          rfl
        · have e : t' ≠ t := fun e => by rw [Ty.eqB_iff.2 e] at hc; cases hc
          rw [if_neg e] at hfx
          have := hmu e
          (repeat (first | refine zs rfl ?_ | refine zg rfl rfl rfl ?_ | refine zd ?_ | refine JK.fin ?_ | refine JK.ret ?_ | refine zeq eqA rfl rfl rfl ?_ | refine zne eqA rfl rfl rfl ?_ | refine zeqg eqA rfl rfl rfl rfl ?_ | refine zneg eqA rfl rfl rfl rfl ?_))
          exact ⟨t', by (exact JW.Auto (by conv => lhs; reduce)), ⟨hwp, g, by omega, hfx⟩, by omega⟩
end Go.Proofs.Ytdmfofjaknngnaa

namespace Go.Proofs.Ytdmfofjaknngnaa
open Go Go.RowKit Ox Ox.Two
attribute [local irreducible] JC JL JK JW

theorem ok_cast {n : Int} {ev : List evD} (h : caseErr n ev = 0) : ∃ N : Nat, n = N ∧ 1 ≤ N ∧ N ≤ 12 ∧ ev.length ≤ 40 ∧ valid N ev := by
  have := case_ok h
  exact ⟨n.toNat, by omega, by omega, by omega, this.2.2.1, this.2.2.2⟩
abbrev vNo : AV := .val (.ptr deT) none
theorem fn59no (n : Int) (ev : List evD) (h : caseErr n ev ≠ 0) : Ox.Fn Go.Proofs.Try.prog 59 (.acons (vC n ev) .anil) (· = .tup (.acons vNo (.acons (vI (caseErr n ev)) .anil))) := by
  refine Ox.Fn.intro xok Go.Proofs.Try.func59 rfl Go.Proofs.Try.call59 (Nat.le_of_ble_eq_true rfl) (fun E M0 up => ?_)
  refine JK.start ?_
  have c1 := fn53 n ev
  generalize caseErr n ev = e at h c1 ⊢
  (repeat (first | refine zs rfl ?_ | refine zg rfl rfl rfl ?_ | refine zd ?_ | refine JK.fin ?_ | refine JK.ret ?_ | refine zc rfl (c1) rfl rfl ?_ | refine ze rfl (c1) rfl ?_ | refine zk rfl rfl (fun _ => c1) rfl rfl ?_))
  refine JK.cond rfl (fun hc => ?_) (fun hc => ?_)
  · (repeat (first | refine zs rfl ?_ | refine zg rfl rfl rfl ?_ | refine zd ?_ | refine JK.fin ?_ | refine JK.ret ?_))
    refine ⟨.inl rfl, _, _, rfl, trivial, ?_⟩
    rfl
  · (simp only [↓bif_or, ↓bif_and, ↓Bool.or_eq_true, ↓Bool.or_eq_false_iff, ↓Bool.and_eq_true, ↓Bool.and_eq_false_iff, ↓Bool.not_eq_true', ↓Bool.not_eq_false', ↓decide_eq_true_eq, ↓decide_eq_false_iff_not, ↓beq_iff_eq, ↓bne_iff_ne, ↓bne_eq_false_iff_eq, ↓ne_eq, ↓beq_eq_false_iff_ne, ↓Bool.not_eq_true] at hc; try simp only [Ty.dflt, Int.toNat_natCast] at hc)
    exact absurd hc h
theorem fn59ok (n : Nat) (ev : List evD) (h : caseErr n ev = 0) : Ox.Fn Go.Proofs.Try.prog 59 (.acons (vC n ev) .anil) (· = .tup (.acons (vDe n ev (deskT ev n)) (.acons (vI 0) .anil))) := by
  refine Ox.Fn.intro xok Go.Proofs.Try.func59 rfl Go.Proofs.Try.call59 (Nat.le_of_ble_eq_true rfl) (fun E M0 up => ?_)
  refine JK.start ?_
  have hok := case_ok h
  rw [Int.toNat_natCast] at hok
  have c1 := fn53 n ev
  rw [h] at c1
  have c2 := fn87 n ev (by omega) (by omega) hok.2.2.1 hok.2.2.2
  generalize deskT ev n = T at c2 ⊢
  (repeat (first | refine zs rfl ?_ | refine zg rfl rfl rfl ?_ | refine zd ?_ | refine JK.fin ?_ | refine JK.ret ?_ | refine zc rfl (c1) rfl rfl ?_ | refine ze rfl (c1) rfl ?_ | refine zk rfl rfl (fun _ => c1) rfl rfl ?_ | refine zc rfl (c2) rfl rfl ?_ | refine ze rfl (c2) rfl ?_ | refine zk rfl rfl (fun _ => c2) rfl rfl ?_))
  refine JK.cond rfl (fun hc => by cases hc) (fun _ => ?_)
  (repeat (first | refine zs rfl ?_ | refine zg rfl rfl rfl ?_ | refine zd ?_ | refine JK.fin ?_ | refine JK.ret ?_ | refine zc rfl (c2) rfl rfl ?_ | refine ze rfl (c2) rfl ?_ | refine zk rfl rfl (fun _ => c2) rfl rfl ?_))
  refine ⟨.inl rfl, _, _, rfl, trivial, ?_⟩
  rfl
def fairE (n : Int) (ev : List evD) (a : Int) : Int := if caseErr n ev ≠ 0 then caseErr n ev else if a ≠ 0 then a else if 0 ≤ clashF (deskT ev n.toNat) 0 n.toNat then 23 else 0
theorem fn64no (n : Int) (ev : List evD) (a : Int) (h : fairE n ev a ≠ 0) : Ox.Fn Go.Proofs.Try.prog 64 (.acons (vC n ev) (.acons (vI a) .anil)) (· = .tup (.acons vNo (.acons (vI (fairE n ev a)) .anil))) := by
  refine Ox.Fn.intro xok Go.Proofs.Try.func64 rfl Go.Proofs.Try.call64 (Nat.le_of_ble_eq_true rfl) (fun E M0 up => ?_)
  refine JK.start ?_
  by_cases h0 : caseErr n ev = 0
  · obtain ⟨N, rfl, q1, q2, q3, q4⟩ := ok_cast h0
    have c1 := fn59ok N ev h0
    have hd := (deskT_way (ev := ev) (n := N) q4 q2).1.ok
    have hf : fairE N ev a = if a ≠ 0 then a else if 0 ≤ clashF (deskT ev N) 0 N then 23 else 0 := by rw [fairE, if_neg (by simpa using h0), Int.toNat_natCast]
    rw [hf] at h ⊢
    have c2 := fn77 N ev (deskT ev N) q2 hd
    generalize deskT ev N = T at c1 c2 h ⊢
    generalize clashF T 0 N = c at c2 h ⊢
    (repeat (first | refine zs rfl ?_ | refine zg rfl rfl rfl ?_ | refine zd ?_ | refine JK.fin ?_ | refine JK.ret ?_ | refine zc rfl (c1) rfl rfl ?_ | refine ze rfl (c1) rfl ?_ | refine zk rfl rfl (fun _ => c1) rfl rfl ?_))
    refine JK.cond rfl (fun hc => by cases hc) (fun _ => ?_)
    (repeat (first | refine zs rfl ?_ | refine zg rfl rfl rfl ?_ | refine zd ?_ | refine JK.fin ?_ | refine JK.ret ?_))
    refine JK.cond rfl (fun hc => ?_) (fun hc => ?_)
    · (simp only [↓bif_or, ↓bif_and, ↓Bool.or_eq_true, ↓Bool.or_eq_false_iff, ↓Bool.and_eq_true, ↓Bool.and_eq_false_iff, ↓Bool.not_eq_true', ↓Bool.not_eq_false', ↓decide_eq_true_eq, ↓decide_eq_false_iff_not, ↓beq_iff_eq, ↓bne_iff_ne, ↓bne_eq_false_iff_eq, ↓ne_eq, ↓beq_eq_false_iff_ne, ↓Bool.not_eq_true] at hc; try simp only [Ty.dflt, Int.toNat_natCast] at hc)
      (repeat (first | refine zs rfl ?_ | refine zg rfl rfl rfl ?_ | refine zd ?_ | refine JK.fin ?_ | refine JK.ret ?_))
      refine ⟨.inl rfl, _, _, rfl, trivial, ?_⟩
      rw [if_pos hc]
    · (simp only [↓bif_or, ↓bif_and, ↓Bool.or_eq_true, ↓Bool.or_eq_false_iff, ↓Bool.and_eq_true, ↓Bool.and_eq_false_iff, ↓Bool.not_eq_true', ↓Bool.not_eq_false', ↓decide_eq_true_eq, ↓decide_eq_false_iff_not, ↓beq_iff_eq, ↓bne_iff_ne, ↓bne_eq_false_iff_eq, ↓ne_eq, ↓beq_eq_false_iff_ne, ↓Bool.not_eq_true] at hc; try simp only [Ty.dflt, Int.toNat_natCast] at hc)
      (repeat (first | refine zs rfl ?_ | refine zg rfl rfl rfl ?_ | refine zd ?_ | refine JK.fin ?_ | refine JK.ret ?_ | refine zc rfl (c2) rfl rfl ?_ | refine ze rfl (c2) rfl ?_ | refine zk rfl rfl (fun _ => c2) rfl rfl ?_))
      refine JK.cond rfl (fun hc2 => ?_) (fun hc2 => ?_)
      · (simp only [↓bif_or, ↓bif_and, ↓Bool.or_eq_true, ↓Bool.or_eq_false_iff, ↓Bool.and_eq_true, ↓Bool.and_eq_false_iff, ↓Bool.not_eq_true', ↓Bool.not_eq_false', ↓decide_eq_true_eq, ↓decide_eq_false_iff_not, ↓beq_iff_eq, ↓bne_iff_ne, ↓bne_eq_false_iff_eq, ↓ne_eq, ↓beq_eq_false_iff_ne, ↓Bool.not_eq_true] at hc2; try simp only [Ty.dflt, Int.toNat_natCast] at hc2)
        (repeat (first | refine zs rfl ?_ | refine zg rfl rfl rfl ?_ | refine zd ?_ | refine JK.fin ?_ | refine JK.ret ?_))
        refine ⟨.inl rfl, _, _, rfl, trivial, ?_⟩
        rw [if_neg (by omega), if_pos (by omega)]
      · (simp only [↓bif_or, ↓bif_and, ↓Bool.or_eq_true, ↓Bool.or_eq_false_iff, ↓Bool.and_eq_true, ↓Bool.and_eq_false_iff, ↓Bool.not_eq_true', ↓Bool.not_eq_false', ↓decide_eq_true_eq, ↓decide_eq_false_iff_not, ↓beq_iff_eq, ↓bne_iff_ne, ↓bne_eq_false_iff_eq, ↓ne_eq, ↓beq_eq_false_iff_ne, ↓Bool.not_eq_true] at hc2; try simp only [Ty.dflt, Int.toNat_natCast] at hc2)
        rw [if_neg (by omega), if_neg (by omega)] at h
        exact absurd rfl h
  · have c1 := fn59no n ev h0
    have hf : fairE n ev a = caseErr n ev := by rw [fairE, if_pos h0]
    rw [hf]
    generalize caseErr n ev = e at h0 c1 ⊢
    (repeat (first | refine zs rfl ?_ | refine zg rfl rfl rfl ?_ | refine zd ?_ | refine JK.fin ?_ | refine JK.ret ?_ | refine zc rfl (c1) rfl rfl ?_ | refine ze rfl (c1) rfl ?_ | refine zk rfl rfl (fun _ => c1) rfl rfl ?_))
    refine JK.cond rfl (fun hc => ?_) (fun hc => ?_)
    · (repeat (first | refine zs rfl ?_ | refine zg rfl rfl rfl ?_ | refine zd ?_ | refine JK.fin ?_ | refine JK.ret ?_))
      refine ⟨.inl rfl, _, _, rfl, trivial, ?_⟩
      rfl
    · (simp only [↓bif_or, ↓bif_and, ↓Bool.or_eq_true, ↓Bool.or_eq_false_iff, ↓Bool.and_eq_true, ↓Bool.and_eq_false_iff, ↓Bool.not_eq_true', ↓Bool.not_eq_false', ↓decide_eq_true_eq, ↓decide_eq_false_iff_not, ↓beq_iff_eq, ↓bne_iff_ne, ↓bne_eq_false_iff_eq, ↓ne_eq, ↓beq_eq_false_iff_ne, ↓Bool.not_eq_true] at hc; try simp only [Ty.dflt, Int.toNat_natCast] at hc)
      exact absurd hc h0
theorem fair_ok {n : Int} {ev : List evD} {a : Int} (h : fairE n ev a = 0) : caseErr n ev = 0 ∧ a = 0 ∧ ¬ 0 ≤ clashF (deskT ev n.toNat) 0 n.toNat := by
  unfold fairE at h
  by_cases h0 : caseErr n ev = 0
  · rw [if_neg (by simpa using h0)] at h
    by_cases h1 : a = 0
    · rw [if_neg (by simpa using h1)] at h
      by_cases h2 : 0 ≤ clashF (deskT ev n.toNat) 0 n.toNat
      · rw [if_pos h2] at h; cases h
      · exact ⟨h0, h1, h2⟩
    · rw [if_pos h1] at h; exact absurd h h1
  · rw [if_pos h0] at h; exact absurd h h0
theorem fn64ok (n : Nat) (ev : List evD) (a : Int) (h : fairE n ev a = 0) : Ox.Fn Go.Proofs.Try.prog 64 (.acons (vC n ev) (.acons (vI a) .anil)) (· = .tup (.acons (vDe n ev (deskT ev n)) (.acons (vI 0) .anil))) := by
  refine Ox.Fn.intro xok Go.Proofs.Try.func64 rfl Go.Proofs.Try.call64 (Nat.le_of_ble_eq_true rfl) (fun E M0 up => ?_)
  refine JK.start ?_
  obtain ⟨h0, rfl, h2⟩ := fair_ok h
  have hok := case_ok h0
  rw [Int.toNat_natCast] at hok h2
  have c1 := fn59ok n ev h0
  have hd := (deskT_way (ev := ev) (n := n) hok.2.2.2 (by omega)).1.ok
  have c2 := fn77 n ev (deskT ev n) (by omega) hd
  generalize deskT ev n = T at c1 c2 h2 ⊢
  generalize clashF T 0 n = c at c2 h2 ⊢
  (repeat (first | refine zs rfl ?_ | refine zg rfl rfl rfl ?_ | refine zd ?_ | refine JK.fin ?_ | refine JK.ret ?_ | refine zc rfl (c1) rfl rfl ?_ | refine ze rfl (c1) rfl ?_ | refine zk rfl rfl (fun _ => c1) rfl rfl ?_))
  refine JK.cond rfl (fun hc => by cases hc) (fun _ => ?_)
  (repeat (first | refine zs rfl ?_ | refine zg rfl rfl rfl ?_ | refine zd ?_ | refine JK.fin ?_ | refine JK.ret ?_))
  refine JK.cond rfl (fun hc => by cases hc) (fun _ => ?_)
  (repeat (first | refine zs rfl ?_ | refine zg rfl rfl rfl ?_ | refine zd ?_ | refine JK.fin ?_ | refine JK.ret ?_ | refine zc rfl (c2) rfl rfl ?_ | refine ze rfl (c2) rfl ?_ | refine zk rfl rfl (fun _ => c2) rfl rfl ?_))
  refine JK.cond rfl (fun hc => ?_) (fun hc => ?_)
  · (simp only [↓bif_or, ↓bif_and, ↓Bool.or_eq_true, ↓Bool.or_eq_false_iff, ↓Bool.and_eq_true, ↓Bool.and_eq_false_iff, ↓Bool.not_eq_true', ↓Bool.not_eq_false', ↓decide_eq_true_eq, ↓decide_eq_false_iff_not, ↓beq_iff_eq, ↓bne_iff_ne, ↓bne_eq_false_iff_eq, ↓ne_eq, ↓beq_eq_false_iff_ne, ↓Bool.not_eq_true] at hc; try simp only [Ty.dflt, Int.toNat_natCast] at hc)
    omega
  · (repeat (first | refine zs rfl ?_ | refine zg rfl rfl rfl ?_ | refine zd ?_ | refine JK.fin ?_ | refine JK.ret ?_))
    refine ⟨.inl rfl, _, _, rfl, trivial, ?_⟩
    rfl
/-! What the code's error says. -/
theorem clashF_spec (t : List Int) : ∀ (f i : Nat), 0 ≤ clashF t i f ↔ ∃ k, i ≤ k ∧ k < i + f ∧ clashAt t k = true
  | 0, i => by
    rw [clashF]
    constructor
    · intro h; omega
    · rintro ⟨k, h1, h2, _⟩; omega
  | f + 1, i => by
    rw [clashF]
    by_cases h : clashAt t i = true
    · rw [if_pos h]
      exact ⟨fun _ => ⟨i, by omega, by omega, h⟩, fun _ => by omega⟩
    · rw [if_neg h, clashF_spec t f (i + 1)]
      constructor
      · rintro ⟨k, h1, h2, h3⟩; exact ⟨k, by omega, by omega, h3⟩
      · rintro ⟨k, h1, h2, h3⟩
        by_cases e : k = i
        · subst e; exact absurd h3 h
        · exact ⟨k, by omega, by omega, h3⟩
theorem clash_at {ev : List evD} {n : Nat} (hv : valid n ev) (hn : n ≤ 12) {k : Nat} (hk : k < n) : clashAt (deskT ev n) k = true ↔ Two.Reach ev ((k : Int) + 1) (-((k : Int) + 1)) ∧ Two.Reach ev (-((k : Int) + 1)) ((k : Int) + 1) := by
  have e : (-1 - (k : Int)) = -((k : Int) + 1) := by omega
  have s1 : isSay n ((k : Int) + 1) := .inl ⟨by omega, by omega⟩
  rw [clashAt, Bool.and_eq_true, e, follows_iff hv hn s1 s1.neg, follows_iff hv hn s1.neg s1]
theorem clash_iff {ev : List evD} {n : Nat} (hv : valid n ev) (hn : n ≤ 12) : 0 ≤ clashF (deskT ev n) 0 n ↔ Clash n ev := by
  rw [clashF_spec]
  constructor
  · rintro ⟨k, _, h2, h3⟩
    exact ⟨k, by omega, (clash_at hv hn (by omega)).1 h3⟩
  · rintro ⟨k, h1, h2⟩
    exact ⟨k, by omega, by omega, (clash_at hv hn h1).2 h2⟩
theorem fair_need (n : Int) (ev : List evD) : fairE n ev 0 = needErr n ev := by
  unfold fairE needErr
  by_cases h0 : caseErr n ev = 0
  · obtain ⟨N, rfl, q1, q2, q3, q4⟩ := ok_cast h0
    rw [if_neg (show ¬ caseErr (N : Int) ev ≠ 0 from fun h => h h0), if_neg (show ¬ caseErr (N : Int) ev ≠ 0 from fun h => h h0), if_neg (show ¬ (0 : Int) ≠ 0 from fun h => h rfl), Int.toNat_natCast]
    by_cases h : Clash N ev
    · rw [if_pos ((clash_iff q4 q2).2 h), if_pos (by rw [(trL_none q4).2 h]; rfl)]
    · rw [if_neg (fun e => h ((clash_iff q4 q2).1 e)), if_neg]
      intro e
      exact h ((trL_none q4).1 (List.eq_nil_of_length_eq_zero e))
  · rw [if_pos h0, if_pos h0]
theorem fair_ask (n : Int) (ev : List evD) (a : Int) : fairE n ev a = if caseErr n ev ≠ 0 then caseErr n ev else if a ≠ 0 then a else needErr n ev := by
  by_cases h0 : caseErr n ev = 0
  · by_cases h1 : a = 0
    · subst h1; rw [fair_need, if_neg (by simpa using h0), if_neg (by simp)]
    · rw [fairE, if_neg (by simpa using h0), if_pos h1, if_neg (by simpa using h0), if_pos h1]
  · rw [fairE, if_pos h0, if_pos h0]
end Go.Proofs.Ytdmfofjaknngnaa

namespace Go.Proofs.Ytdmfofjaknngnaa
open Go Go.RowKit Ox Ox.Two
attribute [local irreducible] JC JL JK JW

abbrev ppDe (n : Int) (ev : List evD) (t : List Int) : AV := .val (.ptr (.ptr deT)) (some (some ((n, ev, ()), t, ())))
theorem fn72 (n : Int) (ev : List evD) (t : List Int) : Ox.Fn Go.Proofs.Try.prog 72 (.acons (vDe n ev t) .anil) (· = .fn 93 .anil (.acons (ppDe n ev t) .anil)) := by
  refine Ox.Fn.intro xok Go.Proofs.Try.func72 rfl Go.Proofs.Try.call72 (Nat.le_of_ble_eq_true rfl) (fun E M0 up => ?_)
  refine JK.start ?_
  (repeat (first | refine znf ?_ | refine zs rfl ?_ | refine JK.ret ?_))
  refine ⟨.inl rfl, _, _, rfl, trivial, ?_⟩
  rfl
theorem fn68 (n : Int) (ev : List evD) (t : List Int) : Ox.Fn Go.Proofs.Try.prog 68 (.acons (vDe n ev t) .anil) (· = .fn 92 .anil (.acons (ppDe n ev t) .anil)) := by
  refine Ox.Fn.intro xok Go.Proofs.Try.func68 rfl Go.Proofs.Try.call68 (Nat.le_of_ble_eq_true rfl) (fun E M0 up => ?_)
  refine JK.start ?_
  (repeat (first | refine znf ?_ | refine zs rfl ?_ | refine JK.ret ?_))
  refine ⟨.inl rfl, _, _, rfl, trivial, ?_⟩
  rfl
theorem fn90 (n : Int) (ev : List evD) (t : List Int) (s : Int) : Ox.Fn Go.Proofs.Try.prog 90 (.acons (vDe n ev t) (.acons (vI s) .anil)) (· = .fn 98 .anil (.acons (ppDe n ev t) (.acons (pI s) .anil))) := by
  refine Ox.Fn.intro xok Go.Proofs.Try.func90 rfl Go.Proofs.Try.call90 (Nat.le_of_ble_eq_true rfl) (fun E M0 up => ?_)
  refine JK.start ?_
  (repeat (first | refine znf ?_ | refine zs rfl ?_ | refine JK.ret ?_))
  refine ⟨.inl rfl, _, _, rfl, trivial, ?_⟩
  rfl
variable {E : World} {Mx M0 : Mem} {nX : Nat} {rdX : Option Nat} {up : Nat → Nat → Value} {dp lab : Nat} {r : List Fr} {QA : Exit → S → Prop}
theorem nil_args {M : Mem} {ρ : Env} {vs : List Value} (a : AV) (b : AV) (h : (AV.acons a (.acons (.lf .nils) b)).rvs M ρ vs) : (AV.acons a (.acons (vL []) b)).rvs M ρ vs := by
  simp only [AV.rvs, AV.rv, Leaf.at] at h ⊢
  obtain ⟨v, r, h1, ⟨v2, r2, ⟨h2, h3⟩, h4, h5⟩, h6⟩ := h
  simp only [Option.some.injEq] at h2
  subst h2
  refine ⟨v, r, h1, ⟨_, r2, ⟨[.slice none 0 0], ?_, rfl⟩, h4, h5⟩, h6⟩
  simp only [Rep]
  exact ⟨none, 0, rfl, Nat.le_refl _, by decide, fun _ => rfl, .inl rfl⟩
theorem tr_it (i m : Nat) (hdp : dp ≠ 0) (n : Nat) (ev : List evD) (t : List Int) (hn : n ≤ 12) (ht : tabOk t) (b : Bool) (K : List (List Int) → List (Nat × HO)) (hb : ∀ pre, bdH 100 (K pre)) (hlab : lab < 100) (hk : ∀ pre, hasY i m lab (K pre))
    (hY : ∀ pre z post, extF t n [] 0 = pre ++ z :: post → (b = true ∨ pre = []) → YO ⟨Go.Proofs.Try.prog, tys, ets, mts, E, Mx, nX, rdX, up, dp⟩ 62 lab (.acons (vL z) .anil) (K pre) 100 b (K (pre ++ [z])) 100)
    (k : ∀ L, QA .normal ⟨L, K (cutB b (extF t n [] 0)), 100⟩) :
    JK ⟨Go.Proofs.Try.prog, tys, ets, mts, E, M0, 6, none, up, dp⟩ [.code (Go.Proofs.Try.f93.body.getD .skip)] QA ⟨[(0, .lf (.yld lab)), (1, ppDe n ev t)], K [], 100⟩ := by
  have q := ext_fo (Mx := Mx) (nX := nX) (rdX := rdX) i m hdp n ev t hn ht b _ K hb hlab hk hY n [] 0 [] [] (by simp) (by omega) (by simp) (.inr rfl)
  (repeat (first | refine zs rfl ?_ | refine zg rfl rfl rfl ?_ | refine zd ?_ | refine JK.fin ?_ | refine JK.ret ?_))
  refine JK.callO [0] i m lab rfl rfl Go.Proofs.Try.call94 rfl (hk _) (by simp [stayL, stayB, svL, lk]) (q.args ?_ fun M ρ vs h => nil_args _ _ h) trivial ?_
  · exact ⟨trivial, trivial, trivial, hlab, trivial⟩
  · rintro z H' nx' ⟨rfl, rfl, rfl⟩
    refine ⟨hk _, ?_⟩
    (repeat (first | refine zs rfl ?_ | refine zg rfl rfl rfl ?_ | refine zd ?_ | refine JK.fin ?_ | refine JK.ret ?_))
    exact JK.done (k _)
def v1 : List (List Int) → AV
  | [] => .lf .nils
  | z :: _ => vL z
def K76 (a b : Code) (n : Int) (ev : List evD) (t : List Int) (pre : List (List Int)) : List (Nat × HO) :=
  [(3, .fr 0 [(8, .lf (.yld 2)), (2, .lf (.optr 0 []))]), (2, match pre with | [] => .loop .ready none #[6] a b 8 [(2, .lf (.optr 0 []))] | _ :: _ => .loop .done (some .ret) #[6] a b 8 [(2, .lf (.optr 0 []))]), (0, .cell (.slice (.int .i64)) (v1 pre))]
theorem fn76 (n : Nat) (ev : List evD) (t : List Int) (z : List Int) (rest : List (List Int)) (hn : n ≤ 12) (ht : tabOk t) (h : extF t n [] 0 = z :: rest) : Ox.Fn Go.Proofs.Try.prog 76 (.acons (vDe n ev t) .anil) (· = vL z) := by
  refine Ox.Fn.intro xok Go.Proofs.Try.func76 rfl Go.Proofs.Try.call76 (Nat.le_of_ble_eq_true rfl) (fun E M0 up => ?_)
  refine JK.start ?_
  (repeat (first | refine zs rfl ?_ | refine zg rfl rfl rfl ?_ | refine zd ?_ | refine JK.fin ?_ | refine JK.ret ?_ | refine zc rfl (fn72 n ev t) rfl rfl ?_ | refine ze rfl (fn72 n ev t) rfl ?_ | refine zk rfl rfl (fun _ => fn72 n ev t) rfl rfl ?_))
  refine JK.rangeG [2] rfl rfl rfl Go.Proofs.Try.func93 rfl Go.Proofs.Try.call93 (Nat.le_of_ble_eq_true rfl) trivial fun M2 up2 a0 b0 ha0 hb0 => ?_
  refine JK.weak (s' := ⟨[(0, .lf (.yld 2)), (1, ppDe n ev t)], K76 a0 b0 n ev t [], 100⟩) (by (exact JW.Auto (by conv => lhs; reduce))) ?_
  refine tr_it (Mx := M2) (nX := 62) (rdX := none) 0 8 (by simp) n ev t hn ht false (K76 a0 b0 n ev t) ?_ (by omega) ?_ ?_ ?_
  · intro pre; cases pre <;> (repeat' (first | exact trivial | exact rfl | refine And.intro ?_ ?_ | exact Nat.le_of_ble_eq_true rfl | refine HO.bdF ?_ | refine HO.bdP ?_ | (refine congrArg (fun z : Int => some (AV.val (.int .i64) z)) ?_; push_cast; omega)))
  · intro pre; exact ⟨3, _, rfl, rfl⟩
  · intro pre z' post hp hq
    obtain rfl : pre = [] := by simpa using hq
    refine YO.intro 0 8 (ps := #[6]) (assign := a0) (body := b0) (nO := 8) (LO := [(2, .lf (.optr 0 []))]) (L0 := [(6, vL z'), (2, .lf (.optr 0 []))]) rfl rfl rfl ⟨3, _, rfl, rfl⟩ ⟨3, _, rfl, rfl⟩ fun M3 M4 up4 bl hup => JK.start (JK.codeEq ha0 ?_)
    (repeat (first | refine zs rfl ?_ | refine zg rfl rfl rfl ?_ | refine zd ?_ | refine JK.fin ?_ | refine JK.ret ?_))
    refine JK.done (asgQ.nor rfl rfl rfl rfl (JK.start (JK.codeEq hb0 ?_)))
    (repeat (first | refine zs rfl ?_ | refine zg rfl rfl rfl ?_ | refine zd ?_ | refine JK.fin ?_ | refine JK.ret ?_))
    refine bodyQ.of rfl rfl rfl rfl rfl rfl ⟨rfl, ?_⟩
    show JW _ ⟨[], K76 a0 b0 n ev t [z'], 100⟩ _
    (exact JW.Auto (by conv => lhs; reduce))
  · intro L
    rw [h]
    show rngQ _ _ _ _ ⟨L, K76 a0 b0 n ev t [z], 100⟩
    refine rngQ.of (.inr rfl) rfl rfl rfl rfl rfl rfl rfl (endJ.kr ?_)
    refine ⟨.inl rfl, _, _, rfl, trivial, ?_⟩
    rfl
end Go.Proofs.Ytdmfofjaknngnaa

namespace Go.Proofs.Ytdmfofjaknngnaa
open Go Go.RowKit Ox Ox.Two
attribute [local irreducible] JC JL JK JW

theorem need_cast {n : Int} {ev : List evD} (h : needErr n ev = 0) : ∃ N : Nat, n = N ∧ 1 ≤ N ∧ N ≤ 12 ∧ ev.length ≤ 40 ∧ valid N ev ∧ caseErr n ev = 0 ∧ trL ev N ≠ [] := by
  have h0 : caseErr n ev = 0 := by
    by_cases h0 : caseErr n ev = 0
    · exact h0
    · rw [needErr, if_pos h0] at h; exact absurd h h0
  obtain ⟨N, rfl, q1, q2, q3, q4⟩ := ok_cast h0
  refine ⟨N, rfl, q1, q2, q3, q4, h0, fun e => ?_⟩
  rw [needErr, if_neg (fun h => h h0), Int.toNat_natCast, e] at h
  cases h
def truthR (n : Int) (ev : List evD) : List Int × Int := if needErr n ev ≠ 0 then ([], needErr n ev) else ((trL ev n.toNat).headD [], 0)
theorem fn38 (n : Int) (ev : List evD) : Ox.Fn Go.Proofs.Try.prog 38 (.acons (vC n ev) .anil) (· = vLI (truthR n ev).1 (truthR n ev).2) := by
  refine Ox.Fn.intro xok Go.Proofs.Try.func38 rfl Go.Proofs.Try.call38 (Nat.le_of_ble_eq_true rfl) (fun E M0 up => ?_)
  refine JK.start ?_
  by_cases he : needErr n ev = 0
  · obtain ⟨N, rfl, q1, q2, q3, q4, h0, hne⟩ := need_cast he
    have c1 := fn64ok N ev 0 (by rw [fair_need]; exact he)
    have hd := (deskT_way (ev := ev) (n := N) q4 q2).1.ok
    obtain ⟨z, rest, hz⟩ := List.exists_cons_of_ne_nil hne
    have hzl : z.length = N := trL_len_of z (by rw [hz]; simp)
    have c2 := fn76 N ev (deskT ev N) z rest q2 hd (by rw [desk_truths q4 q2]; exact hz)
    have hr : truthR N ev = (z, 0) := by rw [truthR, if_neg (fun h => h he), Int.toNat_natCast, hz]; rfl
    rw [hr]
    generalize deskT ev N = T at c1 c2 ⊢
    (repeat (first | refine zs rfl ?_ | refine zg rfl rfl rfl ?_ | refine zd ?_ | refine JK.fin ?_ | refine JK.ret ?_ | refine zc rfl (c1) rfl rfl ?_ | refine ze rfl (c1) rfl ?_ | refine zk rfl rfl (fun _ => c1) rfl rfl ?_))
    refine JK.cond rfl (fun hc => by cases hc) (fun _ => ?_)
    have hrl : (List.replicate z.length (0 : Int)).length = z.length := List.length_replicate ..
    (repeat (first | refine zs rfl ?_ | refine zg rfl rfl rfl ?_ | refine zd ?_ | refine JK.fin ?_ | refine JK.ret ?_ | refine zc rfl (c2) rfl rfl ?_ | refine ze rfl (c2) rfl ?_ | refine zk rfl rfl (fun _ => c2) rfl rfl ?_))
    refine ⟨.inl rfl, _, _, rfl, trivial, ?_⟩
    rfl
  · have c1 := fn64no n ev 0 (by rw [fair_need]; exact he)
    rw [fair_need] at c1
    have hr : truthR n ev = ([], needErr n ev) := by rw [truthR, if_pos he]
    rw [hr]
    generalize needErr n ev = e at he c1 ⊢
    (repeat (first | refine zs rfl ?_ | refine zg rfl rfl rfl ?_ | refine zd ?_ | refine JK.fin ?_ | refine JK.ret ?_ | refine zc rfl (c1) rfl rfl ?_ | refine ze rfl (c1) rfl ?_ | refine zk rfl rfl (fun _ => c1) rfl rfl ?_))
    refine JK.cond rfl (fun hc => ?_) (fun hc => ?_)
    · (repeat (first | refine zs rfl ?_ | refine zg rfl rfl rfl ?_ | refine zd ?_ | refine JK.fin ?_ | refine JK.ret ?_))
      refine ⟨.inl rfl, _, _, rfl, trivial, ?_⟩
      rfl
    · (simp only [↓bif_or, ↓bif_and, ↓Bool.or_eq_true, ↓Bool.or_eq_false_iff, ↓Bool.and_eq_true, ↓Bool.and_eq_false_iff, ↓Bool.not_eq_true', ↓Bool.not_eq_false', ↓decide_eq_true_eq, ↓decide_eq_false_iff_not, ↓beq_iff_eq, ↓bne_iff_ne, ↓bne_eq_false_iff_eq, ↓ne_eq, ↓beq_eq_false_iff_ne, ↓Bool.not_eq_true] at hc; try simp only [Ty.dflt, Int.toNat_natCast] at hc)
      exact absurd hc he
def countR (n : Int) (ev : List evD) : Int × Int := if caseErr n ev ≠ 0 then (0, caseErr n ev) else ((trL ev n.toNat).length, 0)
def K40 (a b : Code) (n : Int) (ev : List evD) (t : List Int) (c : Nat) : List (Nat × HO) :=
  [(4, .fr 0 [(24, .lf (.yld 3)), (6, .lf (.optr 1 []))]), (3, .loop .ready none #[20] a b 24 [(6, .lf (.optr 1 []))]), (1, .cell (.int .i64) (vI c))]
set_option maxRecDepth 8000 in
theorem fn40 (n : Int) (ev : List evD) : Ox.Fn Go.Proofs.Try.prog 40 (.acons (vC n ev) .anil) (· = vT2 (countR n ev).1 (countR n ev).2) := by
  refine Ox.Fn.intro xok Go.Proofs.Try.func40 rfl Go.Proofs.Try.call40 (Nat.le_of_ble_eq_true rfl) (fun E M0 up => ?_)
  refine JK.start ?_
  by_cases he : caseErr n ev = 0
  · obtain ⟨N, rfl, q1, q2, q3, q4⟩ := ok_cast he
    have c1 := fn59ok N ev he
    have hd := (deskT_way (ev := ev) (n := N) q4 q2).1.ok
    have c2 := fn77 N ev (deskT ev N) q2 hd
    have hr : countR N ev = (((trL ev N).length : Int), 0) := by rw [countR, if_neg (fun h => h he), Int.toNat_natCast]
    rw [hr]
    have htl := trL_len ev q2
    have htr := desk_truths q4 q2
    have hcl := clash_iff q4 q2
    have hnn := trL_none q4
    generalize deskT ev N = T at c1 c2 htr hcl hd ⊢
    generalize clashF T 0 N = cl at c2 hcl ⊢
    (repeat (first | refine zs rfl ?_ | refine zg rfl rfl rfl ?_ | refine zd ?_ | refine JK.fin ?_ | refine JK.ret ?_ | refine zc rfl (c1) rfl rfl ?_ | refine ze rfl (c1) rfl ?_ | refine zk rfl rfl (fun _ => c1) rfl rfl ?_))
    refine JK.cond rfl (fun hc => by cases hc) (fun _ => ?_)
    (repeat (first | refine zs rfl ?_ | refine zg rfl rfl rfl ?_ | refine zd ?_ | refine JK.fin ?_ | refine JK.ret ?_ | refine zc rfl (c2) rfl rfl ?_ | refine ze rfl (c2) rfl ?_ | refine zk rfl rfl (fun _ => c2) rfl rfl ?_))
    refine JK.cond rfl (fun hc => ?_) (fun hc => ?_)
    · (simp only [↓bif_or, ↓bif_and, ↓Bool.or_eq_true, ↓Bool.or_eq_false_iff, ↓Bool.and_eq_true, ↓Bool.and_eq_false_iff, ↓Bool.not_eq_true', ↓Bool.not_eq_false', ↓decide_eq_true_eq, ↓decide_eq_false_iff_not, ↓beq_iff_eq, ↓bne_iff_ne, ↓bne_eq_false_iff_eq, ↓ne_eq, ↓beq_eq_false_iff_ne, ↓Bool.not_eq_true] at hc; try simp only [Ty.dflt, Int.toNat_natCast] at hc)
      (repeat (first | refine zs rfl ?_ | refine zg rfl rfl rfl ?_ | refine zd ?_ | refine JK.fin ?_ | refine JK.ret ?_))
      refine ⟨.inl rfl, _, _, rfl, trivial, ?_⟩
      rw [hnn.2 (hcl.1 hc)]; rfl
    · (simp only [↓bif_or, ↓bif_and, ↓Bool.or_eq_true, ↓Bool.or_eq_false_iff, ↓Bool.and_eq_true, ↓Bool.and_eq_false_iff, ↓Bool.not_eq_true', ↓Bool.not_eq_false', ↓decide_eq_true_eq, ↓decide_eq_false_iff_not, ↓beq_iff_eq, ↓bne_iff_ne, ↓bne_eq_false_iff_eq, ↓ne_eq, ↓beq_eq_false_iff_ne, ↓Bool.not_eq_true] at hc; try simp only [Ty.dflt, Int.toNat_natCast] at hc)
      (repeat (first | refine zs rfl ?_ | refine zg rfl rfl rfl ?_ | refine zd ?_ | refine JK.fin ?_ | refine JK.ret ?_ | refine zc rfl (fn72 N ev T) rfl rfl ?_ | refine ze rfl (fn72 N ev T) rfl ?_ | refine zk rfl rfl (fun _ => fn72 N ev T) rfl rfl ?_))
      refine JK.rangeG [6] rfl rfl rfl Go.Proofs.Try.func93 rfl Go.Proofs.Try.call93 (Nat.le_of_ble_eq_true rfl) trivial fun M2 up2 a0 b0 ha0 hb0 => ?_
      refine JK.weak (s' := ⟨[(0, .lf (.yld 3)), (1, ppDe N ev T)], K40 a0 b0 N ev T 0, 100⟩) (by (exact JW.Auto (by conv => lhs; reduce))) ?_
      refine tr_it (Mx := M2) (nX := 62) (rdX := none) 0 24 (by simp) N ev T q2 hd true (fun pre => K40 a0 b0 N ev T pre.length) ?_ (by omega) ?_ ?_ ?_
      · intro pre; (repeat' (first | exact trivial | exact rfl | refine And.intro ?_ ?_ | exact Nat.le_of_ble_eq_true rfl | refine HO.bdF ?_ | refine HO.bdP ?_ | (refine congrArg (fun z : Int => some (AV.val (.int .i64) z)) ?_; push_cast; omega)))
      · intro pre; exact ⟨4, _, rfl, rfl⟩
      · intro pre z' post hp _
        rw [htr] at hp
        have hpl : pre.length + (post.length + 1) ≤ 4096 := by rw [hp] at htl; simpa using htl
        refine YO.intro 0 24 (ps := #[20]) (assign := a0) (body := b0) (nO := 24) (LO := [(6, .lf (.optr 1 []))]) (L0 := [(20, vL z'), (6, .lf (.optr 1 []))]) rfl rfl rfl ⟨4, _, rfl, rfl⟩ ⟨4, _, rfl, rfl⟩ fun M3 M4 up4 bl hup => JK.start (JK.codeEq ha0 ?_)
        (repeat (first | refine zs rfl ?_ | refine zg rfl rfl rfl ?_ | refine zd ?_ | refine JK.fin ?_ | refine JK.ret ?_))
        refine JK.done (asgQ.nor rfl rfl rfl rfl (JK.start (JK.codeEq hb0 ?_)))
        (repeat (first | refine zs rfl ?_ | refine zg rfl rfl rfl ?_ | refine zd ?_ | refine JK.fin ?_ | refine JK.ret ?_))
        refine JK.done (bodyQ.of rfl rfl rfl rfl rfl rfl ⟨rfl, ?_⟩)
        show JW _ ⟨[], K40 a0 b0 N ev T (pre ++ [z']).length, 100⟩ _
        rw [show (pre ++ [z']).length = pre.length + 1 by simp]
        (exact JW.Auto (by conv => lhs; reduce))
      · intro L
        rw [htr]
        show rngQ _ _ _ _ ⟨L, K40 a0 b0 N ev T (trL ev N).length, 100⟩
        refine rngQ.of (.inr rfl) rfl rfl rfl rfl rfl rfl rfl (endJ.kn ?_)
        (repeat (first | refine zs rfl ?_ | refine zg rfl rfl rfl ?_ | refine zd ?_ | refine JK.fin ?_ | refine JK.ret ?_))
        refine ⟨.inl rfl, _, _, rfl, trivial, ?_⟩
        rfl
  · have c1 := fn59no n ev he
    have hr : countR n ev = (0, caseErr n ev) := by rw [countR, if_pos he]
    rw [hr]
    generalize caseErr n ev = e at he c1 ⊢
    (repeat (first | refine zs rfl ?_ | refine zg rfl rfl rfl ?_ | refine zd ?_ | refine JK.fin ?_ | refine JK.ret ?_ | refine zc rfl (c1) rfl rfl ?_ | refine ze rfl (c1) rfl ?_ | refine zk rfl rfl (fun _ => c1) rfl rfl ?_))
    refine JK.cond rfl (fun hc => ?_) (fun hc => ?_)
    · (repeat (first | refine zs rfl ?_ | refine zg rfl rfl rfl ?_ | refine zd ?_ | refine JK.fin ?_ | refine JK.ret ?_))
      refine ⟨.inl rfl, _, _, rfl, trivial, ?_⟩
      rfl
    · (simp only [↓bif_or, ↓bif_and, ↓Bool.or_eq_true, ↓Bool.or_eq_false_iff, ↓Bool.and_eq_true, ↓Bool.and_eq_false_iff, ↓Bool.not_eq_true', ↓Bool.not_eq_false', ↓decide_eq_true_eq, ↓decide_eq_false_iff_not, ↓beq_iff_eq, ↓bne_iff_ne, ↓bne_eq_false_iff_eq, ↓ne_eq, ↓beq_eq_false_iff_ne, ↓Bool.not_eq_true] at hc; try simp only [Ty.dflt, Int.toNat_natCast] at hc)
      exact absurd hc he
theorem sum_bin : ∀ {l : List Int}, bin l → 0 ≤ l.sum ∧ l.sum ≤ l.length
  | [], _ => by simp
  | x :: r, h => by
    have h1 := sum_bin (l := r) fun y hy => h y (List.mem_cons_of_mem _ hy)
    have h2 := h x List.mem_cons_self
    rw [List.sum_cons, List.length_cons]; omega
theorem fn81 (row : List Int) (h : bin row) (hl : row.length ≤ 1000) : Ox.Fn Go.Proofs.Try.prog 81 (.acons (vL row) .anil) (· = vI row.sum) := by
  refine Ox.Fn.intro xok Go.Proofs.Try.func81 rfl Go.Proofs.Try.call81 (Nat.le_of_ble_eq_true rfl) (fun E M0 up => ?_)
  refine JK.start ?_
  (repeat (first | refine zs rfl ?_ | refine zg rfl rfl rfl ?_ | refine zd ?_ | refine JK.fin ?_ | refine JK.ret ?_))
  refine JK.loop (fun i : Nat => ⟨[(3, vI (row.take i).sum), (6, vL row), (7, vI row.length), (8, vI (i : Int))], [], 0⟩) (fun i => i ≤ row.length) (fun i => row.length - i) 0 (Nat.zero_le _) (by (exact JW.Auto (by conv => lhs; reduce))) fun i hi => ?_
  have hs := sum_bin (l := row.take i) fun x hx => h x (List.mem_of_mem_take hx)
  rw [List.length_take] at hs
  have hnx : i < row.length → (row.take (i + 1)).sum = (row.take i).sum + row.getD i 0 := fun hi' => by
    rw [List.take_succ, List.getElem?_eq_getElem hi', getD_nat row hi', List.sum_append]; show _ + (row[i] + 0) = _; omega
  have hend : i = row.length → (row.take i).sum = row.sum := fun e => by rw [e, List.take_length]
  generalize (row.take i).sum = S at hs hnx hend ⊢
  (repeat (first | refine zs rfl ?_ | refine zg rfl rfl rfl ?_ | refine zd ?_ | refine JK.fin ?_ | refine JK.ret ?_))
  refine JK.cond rfl (fun hc => ?_) (fun hc => ?_)
  · (simp only [↓bif_or, ↓bif_and, ↓Bool.or_eq_true, ↓Bool.or_eq_false_iff, ↓Bool.and_eq_true, ↓Bool.and_eq_false_iff, ↓Bool.not_eq_true', ↓Bool.not_eq_false', ↓decide_eq_true_eq, ↓decide_eq_false_iff_not, ↓beq_iff_eq, ↓bne_iff_ne, ↓bne_eq_false_iff_eq, ↓ne_eq, ↓beq_eq_false_iff_ne, ↓Bool.not_eq_true] at hc; try simp only [Ty.dflt, Int.toNat_natCast] at hc)
    have hi' : i < row.length := by omega
    have hb := h.get hi'
    (repeat (first | refine zs rfl ?_ | refine zg rfl rfl rfl ?_ | refine zd ?_ | refine JK.fin ?_ | refine JK.ret ?_))
    refine ⟨i + 1, ?_, by omega, by omega⟩
    rw [hnx hi']
    (exact JW.Auto (by conv => lhs; reduce))
  · (simp only [↓bif_or, ↓bif_and, ↓Bool.or_eq_true, ↓Bool.or_eq_false_iff, ↓Bool.and_eq_true, ↓Bool.and_eq_false_iff, ↓Bool.not_eq_true', ↓Bool.not_eq_false', ↓decide_eq_true_eq, ↓decide_eq_false_iff_not, ↓beq_iff_eq, ↓bne_iff_ne, ↓bne_eq_false_iff_eq, ↓ne_eq, ↓beq_eq_false_iff_ne, ↓Bool.not_eq_true] at hc; try simp only [Ty.dflt, Int.toNat_natCast] at hc)
    (repeat (first | refine zs rfl ?_ | refine zg rfl rfl rfl ?_ | refine zd ?_ | refine JK.fin ?_ | refine JK.ret ?_))
    refine ⟨.inl rfl, _, _, rfl, trivial, ?_⟩
    rw [hend (by omega)]
end Go.Proofs.Ytdmfofjaknngnaa

namespace Go.Proofs.Ytdmfofjaknngnaa
open Go Go.RowKit Ox Ox.Two
attribute [local irreducible] JC JL JK JW

theorem filter_all {α : Type} {p : α → Bool} {l : List α} : (l.filter p).length = l.length ↔ ∀ x ∈ l, p x = true := by
  rw [List.length_filter_eq_length_iff]
theorem filter_none {α : Type} {p : α → Bool} {l : List α} : (l.filter p).length = 0 ↔ ∀ x ∈ l, p x = false := by
  rw [List.length_eq_zero_iff, List.filter_eq_nil_iff]
  exact ⟨fun h x hx => by simpa using h x hx, fun h x hx => by rw [h x hx]; simp⟩
section
variable {n : Nat} {ev : List evD} (hv : valid n ev) (hn : n ≤ 12)
include hv hn
theorem sure_link (hne : trL ev n ≠ []) {s : Int} (hs : isSay n s) : follows (deskT ev n) (-s) s = true ↔ ∀ t ∈ trL ev n, holdsR t s = true := by
  rw [follows_iff hv hn hs.neg hs, ← sure_iff hv (fun h => hne ((trL_none hv).2 h)) hs, ← all_trL hv (fun f => f s = true) (fun f g h e => (h s hs).symm.trans e)]
theorem holdsR_neg {t : List Int} (ht : t ∈ trL ev n) {s : Int} (hs : isSay n s) : holdsR t (-s) = !holdsR t s := by
  obtain ⟨_, h⟩ := trL_sat hv ht
  rw [h _ hs.neg, h _ hs, Two.holds_neg _ hs]
theorem never_link (hne : trL ev n ≠ []) {s : Int} (hs : isSay n s) : follows (deskT ev n) s (-s) = true ↔ ∀ t ∈ trL ev n, holdsR t s = false := by
  have := sure_link hv hn hne hs.neg
  rw [Int.neg_neg] at this
  rw [this]
  constructor
  · intro h t ht
    have := h t ht
    rw [holdsR_neg hv hn ht hs] at this
    simpa using this
  · intro h t ht
    rw [holdsR_neg hv hn ht hs, h t ht]; rfl
theorem means_link (hne : trL ev n ≠ []) {a b : Int} (ha : isSay n a) (hb : isSay n b) : meansB (deskT ev n) a b = true ↔ ∀ t ∈ trL ev n, holdsR t a = true → holdsR t b = true := by
  rw [meansB, Bool.or_eq_true, Bool.or_eq_true, follows_iff hv hn ha hb, follows_iff hv hn ha ha.neg, follows_iff hv hn hb.neg hb, or_assoc, ← means_iff hv (fun h => hne ((trL_none hv).2 h)) ha hb,
    ← all_trL hv (fun f => f a = true → f b = true) (fun f g h e k => (h b hb).symm.trans (e ((h a ha).trans k)))]
theorem kind_link (hne : trL ev n ≠ []) {s : Int} (hs : isSay n s) : kindS (trL ev n) s = if follows (deskT ev n) (-s) s = true then 2 else if follows (deskT ev n) s (-s) = true then 0 else 1 := by
  have h1 := sure_link hv hn hne hs
  have h2 := never_link hv hn hne hs
  rw [← filter_all (p := fun t => holdsR t s)] at h1
  rw [← filter_none (p := fun t => holdsR t s)] at h2
  have hl : (trL ev n).length ≠ 0 := fun e => hne (List.eq_nil_of_length_eq_zero e)
  unfold kindS
  change (follows (deskT ev n) (-s) s = true ↔ manyS (trL ev n) s = (trL ev n).length) at h1
  change (follows (deskT ev n) s (-s) = true ↔ manyS (trL ev n) s = 0) at h2
  by_cases e1 : manyS (trL ev n) s = 0
  · rw [if_pos e1, if_neg (fun h => by have := h1.1 h; omega), if_pos (h2.2 e1)]
  · rw [if_neg e1]
    by_cases e2 : manyS (trL ev n) s = (trL ev n).length
    · rw [if_pos e2, if_pos (h1.2 e2)]
    · rw [if_neg e2, if_neg (fun h => e2 (h1.1 h)), if_neg (fun h => e1 (h2.1 h))]
theorem tie_link (hne : trL ev n ≠ []) {a b : Int} (ha : isSay n a) (hb : isSay n b) : tieB (trL ev n) a b = (meansB (deskT ev n) a b && meansB (deskT ev n) b a) := by
  rw [Bool.eq_iff_iff, Bool.and_eq_true, means_link hv hn hne ha hb, means_link hv hn hne hb ha, tieB, List.all_eq_true]
  constructor
  · intro h
    exact ⟨fun t ht k => by have := beq_iff_eq.1 (h t ht); rw [← this]; exact k, fun t ht k => by have := beq_iff_eq.1 (h t ht); rw [this]; exact k⟩
  · rintro ⟨h1, h2⟩ t ht
    have k1 := h1 t ht
    have k2 := h2 t ht
    revert k1 k2
    cases holdsR t a <;> cases holdsR t b <;> simp
theorem tells_link (hne : trL ev n ≠ []) {x : evD} (h1 : isSay n x.1) (h2 : isSay n x.2.1) : tellsS (trL ev n) x = if meansB (deskT ev n) (-x.1) x.2.1 = true then 0 else if (follows (deskT ev n) x.1 (-x.1) && follows (deskT ev n) x.2.1 (-x.2.1)) = true then 2 else 1 := by
  have k1 := means_link hv hn hne h1.neg h2
  have k2 := never_link hv hn hne h1
  have k3 := never_link hv hn hne h2
  have e1 : isIn (trL ev n) x = (trL ev n).length ↔ meansB (deskT ev n) (-x.1) x.2.1 = true := by
    rw [k1, isIn, filter_all]
    refine forall_congr' fun t => forall_congr' fun ht => ?_
    rw [holdsR_neg hv hn ht h1]
    cases holdsR t x.1 <;> cases holdsR t x.2.1 <;> simp
  have e2 : isIn (trL ev n) x = 0 ↔ (follows (deskT ev n) x.1 (-x.1) && follows (deskT ev n) x.2.1 (-x.2.1)) = true := by
    rw [Bool.and_eq_true, k2, k3, isIn, filter_none]
    constructor
    · intro h
      exact ⟨fun t ht => (Bool.or_eq_false_iff.1 (h t ht)).1, fun t ht => (Bool.or_eq_false_iff.1 (h t ht)).2⟩
    · rintro ⟨a, b⟩ t ht
      rw [a t ht, b t ht]; rfl
  unfold tellsS
  by_cases c1 : isIn (trL ev n) x = (trL ev n).length
  · rw [if_pos c1, if_pos (e1.1 c1)]
  · rw [if_neg c1, if_neg (fun h => c1 (e1.2 h))]
    by_cases c2 : isIn (trL ev n) x = 0
    · rw [if_pos c2, if_pos (e2.1 c2)]
    · rw [if_neg c2, if_neg (fun h => c2 (e2.2 h))]
end
theorem fn60m (n : Int) (xs : List Int) (h : n = -9223372036854775808) : Ox.Fn Go.Proofs.Try.prog 60 (.acons (vI n) (.acons (vL xs) .anil)) (· = vB (decide (∀ x ∈ xs, n ≤ x ∧ x ≤ n) && !decide (0 ∈ xs))) := by
  refine Ox.Fn.intro xok Go.Proofs.Try.func60 rfl Go.Proofs.Try.call60 (Nat.le_of_ble_eq_true rfl) (fun E M0 up => ?_)
  refine JK.start ?_
  have c1 := fn56 n n xs
  generalize decide (∀ x ∈ xs, n ≤ x ∧ x ≤ n) = b at c1 ⊢
  (repeat (first | refine zs rfl ?_ | refine zd ?_ | refine JK.negMin rfl h rfl trivial ?_))
  (repeat (first | refine zs rfl ?_ | refine zg rfl rfl rfl ?_ | refine zd ?_ | refine JK.fin ?_ | refine JK.ret ?_ | refine zc rfl (c1) rfl rfl ?_ | refine ze rfl (c1) rfl ?_ | refine zk rfl rfl (fun _ => c1) rfl rfl ?_ | refine zc rfl (fn88 _ _) rfl rfl ?_ | refine ze rfl (fn88 _ _) rfl ?_ | refine zk rfl rfl (fun _ => fn88 _ _) rfl rfl ?_))
  refine ⟨.inl rfl, _, _, rfl, trivial, ?_⟩
  cases b <;> rfl
abbrev inI (n : Int) : Prop := -9223372036854775808 ≤ n ∧ n ≤ 9223372036854775807
theorem fn60any (n : Int) (xs : List Int) (hin : inI n) : ∃ b, Ox.Fn Go.Proofs.Try.prog 60 (.acons (vI n) (.acons (vL xs) .anil)) (· = vB b) ∧ (1 ≤ n → n ≤ 12 → b = xs.all (sayB n)) := by
  by_cases h : -9223372036854775808 < n ∧ n ≤ 9223372036854775807
  · exact ⟨_, fn60 n xs h, fun _ _ => rfl⟩
  · by_cases h2 : n = -9223372036854775808
    · exact ⟨_, fn60m n xs h2, fun _ _ => by omega⟩
    · exact absurd ⟨by have := hin.1; omega, hin.2⟩ h
theorem fn25 (n : Int) (ev : List evD) (s : Int) (hin : inI n) : Ox.Fn Go.Proofs.Try.prog 25 (.acons (vC n ev) (.acons (vI s) .anil)) (· = vT2 (kindR n ev s).1 (kindR n ev s).2) := by
  refine Ox.Fn.intro xok Go.Proofs.Try.func25 rfl Go.Proofs.Try.call25 (Nat.le_of_ble_eq_true rfl) (fun E M0 up => ?_)
  refine JK.start ?_
  obtain ⟨b, c60, hb⟩ := fn60any n [s] hin
  (repeat (first | refine zs rfl ?_ | refine zg rfl rfl rfl ?_ | refine zd ?_ | refine JK.fin ?_ | refine JK.ret ?_ | refine zc rfl (c60) rfl rfl ?_ | refine ze rfl (c60) rfl ?_ | refine zk rfl rfl (fun _ => c60) rfl rfl ?_))
  refine JK.cut (fun _ : Unit => ⟨[(1, vI s), (2, .lf (.optr 0 [])), (6, vI (if b = true then 0 else 2))], [(0, .cell caT (vC n ev))], 1⟩) (fun _ => True) ?_ (fun _ _ => ?_)
  · refine JK.cond rfl (fun hc => ?_) (fun hc => ?_)
    · have hb' : b = false := by simpa using hc
      (repeat (first | refine zs rfl ?_ | refine zg rfl rfl rfl ?_ | refine zd ?_ | refine JK.fin ?_ | refine JK.ret ?_))
      exact ⟨(), by rw [hb']; (exact JW.Auto (by conv => lhs; reduce)), trivial⟩
    · have hb' : b = true := by simpa using hc
      (repeat (first | refine zs rfl ?_ | refine zg rfl rfl rfl ?_ | refine zd ?_ | refine JK.fin ?_ | refine JK.ret ?_))
      exact ⟨(), by rw [hb']; (exact JW.Auto (by conv => lhs; reduce)), trivial⟩
  · by_cases he : fairE n ev (if b = true then 0 else 2) = 0
    · obtain ⟨h0, ha, _⟩ := fair_ok he
      have hbt : b = true := by
        cases b with
        | true => rfl
        | false => cases ha
      subst hbt
      rw [if_pos rfl] at he ⊢
      have hnd : needErr n ev = 0 := by rw [← fair_need]; exact he
      obtain ⟨N, rfl, q1, q2, q3, q4, _, hne⟩ := need_cast hnd
      have hsy : sayB N s = true := by
        have := hb (by omega) (by omega)
        simpa using this.symm
      have hss := sayB_isSay.1 hsy
      have c1 := fn64ok N ev 0 he
      have hr : kindR N ev s = (kindS (trL ev N) s, 0) := by rw [kindR, if_neg (fun h => h h0), if_neg (fun h => h hsy), if_neg (fun h => h hnd), Int.toNat_natCast]
      rw [hr, kind_link q4 q2 hne hss]
      have hd := (deskT_way (ev := ev) (n := N) q4 q2).1.ok
      have c2 := fn61 N ev (deskT ev N) (0 - s) s q2 hd (by rw [Int.zero_sub]; exact hss.neg) hss
      have c3 := fn61 N ev (deskT ev N) s (0 - s) q2 hd hss (by rw [Int.zero_sub]; exact hss.neg)
      rw [Int.zero_sub] at c2 c3
      have hsb : -1000 ≤ s ∧ s ≤ 1000 := by unfold isSay at hss; omega
      generalize follows (deskT ev N) (-s) s = f1 at c2 ⊢
      generalize follows (deskT ev N) s (-s) = f2 at c3 ⊢
      generalize deskT ev N = T at c1 c2 c3 ⊢
      rw [← Int.zero_sub] at c2 c3
      (repeat (first | refine zs rfl ?_ | refine zg rfl rfl rfl ?_ | refine zd ?_ | refine JK.fin ?_ | refine JK.ret ?_ | refine zc rfl (c1) rfl rfl ?_ | refine ze rfl (c1) rfl ?_ | refine zk rfl rfl (fun _ => c1) rfl rfl ?_))
      refine JK.cond rfl (fun hc => by cases hc) (fun _ => ?_)
      (repeat (first | refine zs rfl ?_ | refine zg rfl rfl rfl ?_ | refine zd ?_ | refine JK.fin ?_ | refine JK.ret ?_ | refine zc rfl (c2) rfl rfl ?_ | refine ze rfl (c2) rfl ?_ | refine zk rfl rfl (fun _ => c2) rfl rfl ?_))
      refine JK.cond rfl (fun hc => ?_) (fun hc => ?_)
      · (repeat (first | refine zs rfl ?_ | refine zg rfl rfl rfl ?_ | refine zd ?_ | refine JK.fin ?_ | refine JK.ret ?_))
        refine ⟨.inl rfl, _, _, rfl, trivial, ?_⟩
        rw [if_pos hc]
      · rw [if_neg (by rw [hc]; simp)]
        (repeat (first | refine zs rfl ?_ | refine zg rfl rfl rfl ?_ | refine zd ?_ | refine JK.fin ?_ | refine JK.ret ?_ | refine zc rfl (c3) rfl rfl ?_ | refine ze rfl (c3) rfl ?_ | refine zk rfl rfl (fun _ => c3) rfl rfl ?_))
        refine JK.cond rfl (fun hc2 => ?_) (fun hc2 => ?_)
        · (repeat (first | refine zs rfl ?_ | refine zg rfl rfl rfl ?_ | refine zd ?_ | refine JK.fin ?_ | refine JK.ret ?_))
          refine ⟨.inl rfl, _, _, rfl, trivial, ?_⟩
          rw [if_pos hc2]
        · rw [if_neg (by rw [hc2]; simp)]
          (repeat (first | refine zs rfl ?_ | refine zg rfl rfl rfl ?_ | refine zd ?_ | refine JK.fin ?_ | refine JK.ret ?_))
          refine ⟨.inl rfl, _, _, rfl, trivial, ?_⟩
          rfl
    · have c1 := fn64no n ev _ he
      have hr : kindR n ev s = (0, fairE n ev (if b = true then 0 else 2)) := by
        rw [fair_ask, kindR]
        by_cases h0 : caseErr n ev = 0
        · obtain ⟨N, rfl, q1, q2, q3, q4⟩ := ok_cast h0
          have hnc : ¬ caseErr (N : Int) ev ≠ 0 := fun h => h h0
          rw [fair_ask, if_neg hnc] at he
          have hb1 : b = sayB N s := by simpa using hb (by omega) (by omega)
          rw [if_neg hnc, if_neg hnc, ← hb1]
          cases b with
          | true =>
            have he' : needErr N ev ≠ 0 := he
            show (if needErr N ev ≠ 0 then (0, needErr N ev) else _) = (0, needErr N ev)
            rw [if_pos he']
          | false => rfl
        · rw [if_pos h0, if_pos h0]
      rw [hr]
      generalize fairE n ev (if b = true then 0 else 2) = e at he c1 ⊢
      (repeat (first | refine zs rfl ?_ | refine zg rfl rfl rfl ?_ | refine zd ?_ | refine JK.fin ?_ | refine JK.ret ?_ | refine zc rfl (c1) rfl rfl ?_ | refine ze rfl (c1) rfl ?_ | refine zk rfl rfl (fun _ => c1) rfl rfl ?_))
      refine JK.cond rfl (fun hc => ?_) (fun hc => ?_)
      · (repeat (first | refine zs rfl ?_ | refine zg rfl rfl rfl ?_ | refine zd ?_ | refine JK.fin ?_ | refine JK.ret ?_))
        refine ⟨.inl rfl, _, _, rfl, trivial, ?_⟩
        rfl
      · (simp only [↓bif_or, ↓bif_and, ↓Bool.or_eq_true, ↓Bool.or_eq_false_iff, ↓Bool.and_eq_true, ↓Bool.and_eq_false_iff, ↓Bool.not_eq_true', ↓Bool.not_eq_false', ↓decide_eq_true_eq, ↓decide_eq_false_iff_not, ↓beq_iff_eq, ↓bne_iff_ne, ↓bne_eq_false_iff_eq, ↓ne_eq, ↓beq_eq_false_iff_ne, ↓Bool.not_eq_true] at hc; try simp only [Ty.dflt, Int.toNat_natCast] at hc)
        exact absurd hc he
end Go.Proofs.Ytdmfofjaknngnaa

namespace Go.Proofs.Ytdmfofjaknngnaa
open Go Go.RowKit Ox Ox.Two
attribute [local irreducible] JC JL JK JW

set_option maxRecDepth 8000 in
theorem fn33 (n : Int) (ev : List evD) (x1 x2 : Int) (hin : inI n) : Ox.Fn Go.Proofs.Try.prog 33 (.acons (vC n ev) (.acons (vE (x1, x2, ())) .anil)) (· = vT2 (tellsR n ev (x1, x2, ())).1 (tellsR n ev (x1, x2, ())).2) := by
  refine Ox.Fn.intro xok Go.Proofs.Try.func33 rfl Go.Proofs.Try.call33 (Nat.le_of_ble_eq_true rfl) (fun E M0 up => ?_)
  refine JK.start ?_
  obtain ⟨b, c60, hb⟩ := fn60any n [x1, x2] hin
  (repeat (first | refine zs rfl ?_ | refine zg rfl rfl rfl ?_ | refine zd ?_ | refine JK.fin ?_ | refine JK.ret ?_ | refine zc rfl (c60) rfl rfl ?_ | refine ze rfl (c60) rfl ?_ | refine zk rfl rfl (fun _ => c60) rfl rfl ?_))
  refine JK.cut (fun _ : Unit => ⟨[(2, .lf (.optr 0 [])), (3, .lf (.optr 1 [])), (6, vI (if b = true then 0 else 3))], [(0, .cell caT (vC n ev)), (1, .cell evT (vE (x1, x2, ())))], 2⟩) (fun _ => True) ?_ (fun _ _ => ?_)
  · refine JK.cond rfl (fun hc => ?_) (fun hc => ?_)
    · have hb' : b = false := by simpa using hc
      (repeat (first | refine zs rfl ?_ | refine zg rfl rfl rfl ?_ | refine zd ?_ | refine JK.fin ?_ | refine JK.ret ?_))
      exact ⟨(), by rw [hb']; (exact JW.Auto (by conv => lhs; reduce)), trivial⟩
    · have hb' : b = true := by simpa using hc
      (repeat (first | refine zs rfl ?_ | refine zg rfl rfl rfl ?_ | refine zd ?_ | refine JK.fin ?_ | refine JK.ret ?_))
      exact ⟨(), by rw [hb']; (exact JW.Auto (by conv => lhs; reduce)), trivial⟩
  · by_cases he : fairE n ev (if b = true then 0 else 3) = 0
    · obtain ⟨h0, ha, _⟩ := fair_ok he
      have hbt : b = true := by
        cases b with
        | true => rfl
        | false => cases ha
      subst hbt
      rw [if_pos rfl] at he ⊢
      have hnd : needErr n ev = 0 := by rw [← fair_need]; exact he
      obtain ⟨N, rfl, q1, q2, q3, q4, _, hne⟩ := need_cast hnd
      have hsy : (sayB N x1 && sayB N x2) = true := by
        have := hb (by omega) (by omega)
        simpa using this.symm
      have hs12 := Bool.and_eq_true_iff.1 hsy
      have s1 := sayB_isSay.1 hs12.1
      have s2 := sayB_isSay.1 hs12.2
      have c1 := fn64ok N ev 0 he
      have hr : tellsR N ev (x1, x2, ()) = (tellsS (trL ev N) (x1, x2, ()), 0) := by rw [tellsR, if_neg (fun h => h h0), if_neg (fun h => h hsy), if_neg (fun h => h hnd), Int.toNat_natCast]
      rw [hr, tells_link q4 q2 hne s1 s2]
      dsimp only
      have hd := (deskT_way (ev := ev) (n := N) q4 q2).1.ok
      have c2 := fn69 N ev (deskT ev N) (-x1) x2 q2 hd s1.neg s2
      have c3 := fn61 N ev (deskT ev N) x1 (-x1) q2 hd s1 s1.neg
      have c4 := fn61 N ev (deskT ev N) x2 (-x2) q2 hd s2 s2.neg
      have b1 : -1000 ≤ x1 ∧ x1 ≤ 1000 := by unfold isSay at s1; omega
      have b2 : -1000 ≤ x2 ∧ x2 ≤ 1000 := by unfold isSay at s2; omega
      generalize meansB (deskT ev N) (-x1) x2 = f1 at c2 ⊢
      generalize follows (deskT ev N) x1 (-x1) = f2 at c3 ⊢
      generalize follows (deskT ev N) x2 (-x2) = f3 at c4 ⊢
      generalize deskT ev N = T at c1 c2 c3 c4 ⊢
      rw [← Int.zero_sub] at c2 c3 c4
      (repeat (first | refine zs rfl ?_ | refine zg rfl rfl rfl ?_ | refine zd ?_ | refine JK.fin ?_ | refine JK.ret ?_ | refine zc rfl (c1) rfl rfl ?_ | refine ze rfl (c1) rfl ?_ | refine zk rfl rfl (fun _ => c1) rfl rfl ?_))
      refine JK.cond rfl (fun hc => by cases hc) (fun _ => ?_)
      (repeat (first | refine zs rfl ?_ | refine zg rfl rfl rfl ?_ | refine zd ?_ | refine JK.fin ?_ | refine JK.ret ?_ | refine zc rfl (c2) rfl rfl ?_ | refine ze rfl (c2) rfl ?_ | refine zk rfl rfl (fun _ => c2) rfl rfl ?_))
      refine JK.cond rfl (fun hc => ?_) (fun hc => ?_)
      · (repeat (first | refine zs rfl ?_ | refine zg rfl rfl rfl ?_ | refine zd ?_ | refine JK.fin ?_ | refine JK.ret ?_))
        refine ⟨.inl rfl, _, _, rfl, trivial, ?_⟩
        rw [if_pos hc]
      · rw [if_neg (by rw [hc]; simp)]
        (repeat (first | refine zs rfl ?_ | refine zg rfl rfl rfl ?_ | refine zd ?_ | refine JK.fin ?_ | refine JK.ret ?_ | refine zc rfl (c3) rfl rfl ?_ | refine ze rfl (c3) rfl ?_ | refine zk rfl rfl (fun _ => c3) rfl rfl ?_ | refine zc rfl (c4) rfl rfl ?_ | refine ze rfl (c4) rfl ?_ | refine zk rfl rfl (fun _ => c4) rfl rfl ?_))
        refine JK.cond rfl (fun hc2 => ?_) (fun hc2 => ?_)
        · (repeat (first | refine zs rfl ?_ | refine zg rfl rfl rfl ?_ | refine zd ?_ | refine JK.fin ?_ | refine JK.ret ?_))
          refine ⟨.inl rfl, _, _, rfl, trivial, ?_⟩
          rw [if_pos (by revert hc2; cases f2 <;> simp)]
        · (repeat (first | refine zs rfl ?_ | refine zg rfl rfl rfl ?_ | refine zd ?_ | refine JK.fin ?_ | refine JK.ret ?_))
          refine ⟨.inl rfl, _, _, rfl, trivial, ?_⟩
          rw [if_neg (by revert hc2; cases f2 <;> simp)]
    · have c1 := fn64no n ev _ he
      have hr : tellsR n ev (x1, x2, ()) = (0, fairE n ev (if b = true then 0 else 3)) := by
        rw [fair_ask, tellsR]
        by_cases h0 : caseErr n ev = 0
        · obtain ⟨N, rfl, q1, q2, q3, q4⟩ := ok_cast h0
          have hnc : ¬ caseErr (N : Int) ev ≠ 0 := fun h => h h0
          rw [fair_ask, if_neg hnc] at he
          have hb1 : b = (sayB N x1 && sayB N x2) := by simpa using hb (by omega) (by omega)
          rw [if_neg hnc, if_neg hnc]
          dsimp only
          rw [← hb1]
          cases b with
          | true =>
            have he' : needErr N ev ≠ 0 := he
            show (if needErr N ev ≠ 0 then (0, needErr N ev) else _) = (0, needErr N ev)
            rw [if_pos he']
          | false => rfl
        · rw [if_pos h0, if_pos h0]
      rw [hr]
      generalize fairE n ev (if b = true then 0 else 3) = e at he c1 ⊢
      (repeat (first | refine zs rfl ?_ | refine zg rfl rfl rfl ?_ | refine zd ?_ | refine JK.fin ?_ | refine JK.ret ?_ | refine zc rfl (c1) rfl rfl ?_ | refine ze rfl (c1) rfl ?_ | refine zk rfl rfl (fun _ => c1) rfl rfl ?_))
      refine JK.cond rfl (fun hc => ?_) (fun hc => ?_)
      · (repeat (first | refine zs rfl ?_ | refine zg rfl rfl rfl ?_ | refine zd ?_ | refine JK.fin ?_ | refine JK.ret ?_))
        refine ⟨.inl rfl, _, _, rfl, trivial, ?_⟩
        rfl
      · (simp only [↓bif_or, ↓bif_and, ↓Bool.or_eq_true, ↓Bool.or_eq_false_iff, ↓Bool.and_eq_true, ↓Bool.and_eq_false_iff, ↓Bool.not_eq_true', ↓Bool.not_eq_false', ↓decide_eq_true_eq, ↓decide_eq_false_iff_not, ↓beq_iff_eq, ↓bne_iff_ne, ↓bne_eq_false_iff_eq, ↓ne_eq, ↓beq_eq_false_iff_ne, ↓Bool.not_eq_true] at hc; try simp only [Ty.dflt, Int.toNat_natCast] at hc)
        exact absurd hc he
/-! Sure -/
theorem sayL_eq : ∀ n : Nat, sayL n = sayKs (2 * n)
  | 0 => rfl
  | n + 1 => by
    rw [sayL_succ, sayL_eq n, show 2 * (n + 1) = 2 * n + 1 + 1 by omega, sayKs_succ, sayKs_succ, List.append_assoc]
    congr 1
    have e1 : sayN ((2 * n : Nat) : Int) = (n : Int) + 1 := by unfold sayN; rw [if_neg (by omega)]; omega
    have e2 : sayN ((2 * n + 1 : Nat) : Int) = -1 - (n : Int) := by unfold sayN; rw [if_pos (by omega)]; omega
    rw [e1, e2]; rfl
def sureT (t : List Int) (l : List Int) : List Int := l.filter fun s => follows t (-s) s
theorem sure_eq {n : Nat} {ev : List evD} (hv : valid n ev) (hn : n ≤ 12) (hne : trL ev n ≠ []) : sureF (trL ev n) (2 * n) = sureT (deskT ev n) (sayL n) := by
  unfold sureF sureT
  rw [← sayL_eq]
  refine List.filter_congr fun s hs => ?_
  rw [kind_link hv hn hne (mem_sayL.1 hs)]
  cases follows (deskT ev n) (-s) s <;> cases follows (deskT ev n) s (-s) <;> rfl
theorem sayL_len (n : Nat) : (sayL n).length = 2 * n := by rw [sayL_eq, sayKs_len]
def K27 (a b : Code) (n : Int) (ev : List evD) (t : List Int) (xs : List Int) : List (Nat × HO) :=
  [(6, .fr 0 [(34, .lf (.yld 5)), (4, .lf (.optr 1 [])), (6, .lf (.optr 2 []))]), (5, .loop .ready none #[18] a b 34 [(4, .lf (.optr 1 [])), (6, .lf (.optr 2 []))]), (1, .cell (.ptr deT) (vDe n ev t)), (2, .cell (.slice (.int .i64)) (.lf (.osl 3))), (3, .sl 3 (.int .i64) xs)]
theorem fn27 (n : Int) (ev : List evD) : Ox.Fn Go.Proofs.Try.prog 27 (.acons (vC n ev) .anil) (· = vLI (if needErr n ev ≠ 0 then [] else sureF (trL ev n.toNat) (2 * n.toNat)) (needErr n ev)) := by
  refine Ox.Fn.intro xok Go.Proofs.Try.func27 rfl Go.Proofs.Try.call27 (Nat.le_of_ble_eq_true rfl) (fun E M0 up => ?_)
  refine JK.start ?_
  by_cases he : needErr n ev = 0
  · obtain ⟨N, rfl, q1, q2, q3, q4, h0, hne⟩ := need_cast he
    have c1 := fn64ok N ev 0 (by rw [fair_need]; exact he)
    have hd := (deskT_way (ev := ev) (n := N) q4 q2).1.ok
    rw [if_neg (fun h => h he), he, Int.toNat_natCast, sure_eq q4 q2 hne]
    generalize deskT ev N = T at c1 hd ⊢
    (repeat (first | refine zs rfl ?_ | refine zg rfl rfl rfl ?_ | refine zd ?_ | refine JK.fin ?_ | refine JK.ret ?_ | refine zc rfl (c1) rfl rfl ?_ | refine ze rfl (c1) rfl ?_ | refine zk rfl rfl (fun _ => c1) rfl rfl ?_))
    refine JK.cond rfl (fun hc => by cases hc) (fun _ => ?_)
    (repeat (first | refine zs rfl ?_ | refine zg rfl rfl rfl ?_ | refine zd ?_ | refine JK.fin ?_ | refine JK.ret ?_ | refine zc rfl (fn68 N ev T) rfl rfl ?_ | refine ze rfl (fn68 N ev T) rfl ?_ | refine zk rfl rfl (fun _ => fn68 N ev T) rfl rfl ?_))
    refine JK.ghostT 2 3 (.int .i64) rfl ?_
    refine JK.rangeG [4, 6] rfl rfl rfl Go.Proofs.Try.func92 rfl Go.Proofs.Try.call92 (Nat.le_of_ble_eq_true rfl) trivial fun M2 up2 a0 b0 ha0 hb0 => ?_
    (repeat (first | refine zs rfl ?_ | refine zg rfl rfl rfl ?_ | refine zd ?_ | refine JK.fin ?_ | refine JK.ret ?_))
    refine JK.weak (s' := ⟨[(0, .lf (.yld 5)), (8, vI N), (9, vI 0)], K27 a0 b0 N ev T [], 100⟩) (by (exact JW.Auto (by conv => lhs; reduce))) ?_
    refine say_it (Mx := M2) (nX := 25) (rdX := none) N q2 (fun pre => K27 a0 b0 N ev T (sureT T pre)) ?_ ?_
    · intro pre s post hps
      refine YO.intro 0 34 (ps := #[18]) (assign := a0) (body := b0) (nO := 34) (LO := [(4, .lf (.optr 1 [])), (6, .lf (.optr 2 []))]) (L0 := [(18, vI s), (4, .lf (.optr 1 [])), (6, .lf (.optr 2 []))]) rfl rfl rfl ⟨6, _, rfl, rfl⟩ ⟨6, _, rfl, rfl⟩ fun M3 M4 up4 bl hup => JK.start (JK.codeEq ha0 ?_)
      (repeat (first | refine zs rfl ?_ | refine zg rfl rfl rfl ?_ | refine zd ?_ | refine JK.fin ?_ | refine JK.ret ?_))
      refine JK.done (asgQ.nor rfl rfl rfl rfl (JK.start (JK.codeEq hb0 ?_)))
      have hsy : isSay N s := mem_sayL.1 (by rw [hps]; simp)
      have hsb : -1000 ≤ s ∧ s ≤ 1000 := by unfold isSay at hsy; omega
      have c2 := fn61 N ev T (0 - s) s q2 hd (by rw [Int.zero_sub]; exact hsy.neg) hsy
      have hsn : sureT T (pre ++ [s]) = sureT T pre ++ if follows T (0 - s) s = true then [s] else [] := by
        unfold sureT; rw [List.filter_append, Int.zero_sub]; simp only [List.filter_cons, List.filter_nil]
      have hsl : (sureT T pre).length ≤ 24 := by
        have h1 := List.length_filter_le (fun s => follows T (-s) s) pre
        have h2 := congrArg List.length hps
        rw [sayL_len] at h2
        simp at h2
        unfold sureT; omega
      generalize follows T (0 - s) s = f at c2 hsn ⊢
      generalize sureT T pre = xs at hsn hsl ⊢
      (repeat (first | refine zs rfl ?_ | refine zg rfl rfl rfl ?_ | refine zd ?_ | refine JK.fin ?_ | refine JK.ret ?_ | refine zc rfl (c2) rfl rfl ?_ | refine ze rfl (c2) rfl ?_ | refine zk rfl rfl (fun _ => c2) rfl rfl ?_))
      refine JK.cond rfl (fun hc => ?_) (fun hc => ?_)
      · rw [hc] at hsn
        have e1 : List.take ((xs.length : Int)).toNat xs ++ [s] = xs ++ [s] := by simp
        (repeat (first | refine zs rfl ?_ | refine zg rfl rfl rfl ?_ | refine zd ?_ | refine JK.fin ?_ | refine JK.ret ?_))
        refine JK.done (bodyQ.of rfl rfl rfl rfl rfl rfl ⟨rfl, ?_⟩)
        show JW _ ⟨[], K27 a0 b0 N ev T (sureT T (pre ++ [s])), 100⟩ _
        rw [hsn, if_pos rfl, ← e1]
        (exact JW.Auto (by conv => lhs; reduce))
      · rw [hc] at hsn
        (repeat (first | refine zs rfl ?_ | refine zg rfl rfl rfl ?_ | refine zd ?_ | refine JK.fin ?_ | refine JK.ret ?_))
        refine JK.done (bodyQ.of rfl rfl rfl rfl rfl rfl ⟨rfl, ?_⟩)
        show JW _ ⟨[], K27 a0 b0 N ev T (sureT T (pre ++ [s])), 100⟩ _
        rw [hsn, if_neg (by simp), List.append_nil]
        (exact JW.Auto (by conv => lhs; reduce))
    · intro L
      refine JK.done (rngQ.of (.inr rfl) rfl rfl rfl rfl rfl rfl rfl (endJ.kn ?_))
      (repeat (first | refine zs rfl ?_ | refine zg rfl rfl rfl ?_ | refine zd ?_ | refine JK.fin ?_ | refine JK.ret ?_))
      refine ⟨.inl rfl, _, _, rfl, trivial, ?_⟩
      rfl
  · have c1 := fn64no n ev 0 (by rw [fair_need]; exact he)
    rw [fair_need] at c1
    rw [if_pos he]
    generalize needErr n ev = e at he c1 ⊢
    (repeat (first | refine zs rfl ?_ | refine zg rfl rfl rfl ?_ | refine zd ?_ | refine JK.fin ?_ | refine JK.ret ?_ | refine zc rfl (c1) rfl rfl ?_ | refine ze rfl (c1) rfl ?_ | refine zk rfl rfl (fun _ => c1) rfl rfl ?_))
    refine JK.cond rfl (fun hc => ?_) (fun hc => ?_)
    · (repeat (first | refine zs rfl ?_ | refine zg rfl rfl rfl ?_ | refine zd ?_ | refine JK.fin ?_ | refine JK.ret ?_))
      refine ⟨.inl rfl, _, _, rfl, trivial, ?_⟩
      rfl
    · (simp only [↓bif_or, ↓bif_and, ↓Bool.or_eq_true, ↓Bool.or_eq_false_iff, ↓Bool.and_eq_true, ↓Bool.and_eq_false_iff, ↓Bool.not_eq_true', ↓Bool.not_eq_false', ↓decide_eq_true_eq, ↓decide_eq_false_iff_not, ↓beq_iff_eq, ↓bne_iff_ne, ↓bne_eq_false_iff_eq, ↓ne_eq, ↓beq_eq_false_iff_ne, ↓Bool.not_eq_true] at hc; try simp only [Ty.dflt, Int.toNat_natCast] at hc)
      exact absurd hc he
end Go.Proofs.Ytdmfofjaknngnaa

namespace Go.Proofs.Ytdmfofjaknngnaa
open Go Go.RowKit Ox Ox.Two
attribute [local irreducible] JC JL JK JW

def grpT (t : List Int) (k : Nat) (l : List Int) : List Int := l.filter fun s => meansB t ((k : Int) + 1) s && meansB t s ((k : Int) + 1)
theorem grp_eq {n : Nat} {ev : List evD} (hv : valid n ev) (hn : n ≤ 12) (hne : trL ev n ≠ []) {k : Nat} (hk : k < n) : grpF (trL ev n) k (2 * n) = grpT (deskT ev n) k (sayL n) := by
  unfold grpF grpT
  rw [← sayL_eq]
  refine List.filter_congr fun s hs => ?_
  rw [tie_link hv hn hne (.inl ⟨by omega, by omega⟩) (mem_sayL.1 hs)]
def K29 (a b : Code) (n : Int) (ev : List evD) (t : List Int) (k : Nat) (out : List (List Int)) (xs : List Int) : List (Nat × HO) :=
  [(7, .fr 0 [(59, .lf (.yld 6)), (4, .lf (.optr 1 [])), (6, .lf (.osl 5)), (7, .lf (.optr 2 [])), (8, .lf (.optr 3 [])), (19, vI n), (20, vI k)]),
   (6, .loop .ready none #[25] a b 59 [(4, .lf (.optr 1 [])), (6, .lf (.osl 5)), (7, .lf (.optr 2 [])), (8, .lf (.optr 3 [])), (19, vI n), (20, vI k)]),
   (1, .cell (.ptr deT) (vDe n ev t)), (2, .cell (.int .i64) (vI k)), (3, .cell (.slice (.int .i64)) (.lf (.osl 4))), (4, .sl 3 (.int .i64) xs), (5, .sl 35 (.slice (.int .i64)) out)]
set_option maxRecDepth 8000 in
theorem fn29 (n : Int) (ev : List evD) : Ox.Fn Go.Proofs.Try.prog 29 (.acons (vC n ev) .anil) (· = vLLI (if needErr n ev ≠ 0 then [] else tiedF (trL ev n.toNat) n.toNat n.toNat) (needErr n ev)) := by
  refine Ox.Fn.intro xok Go.Proofs.Try.func29 rfl Go.Proofs.Try.call29 (Nat.le_of_ble_eq_true rfl) (fun E M0 up => ?_)
  refine JK.start ?_
  by_cases he : needErr n ev = 0
  · obtain ⟨N, rfl, q1, q2, q3, q4, h0, hne⟩ := need_cast he
    have c1 := fn64ok N ev 0 (by rw [fair_need]; exact he)
    have hd := (deskT_way (ev := ev) (n := N) q4 q2).1.ok
    rw [if_neg (fun h => h he), he, Int.toNat_natCast]
    have hgq : ∀ k, k < N → grpF (trL ev N) k (2 * N) = grpT (deskT ev N) k (sayL N) := fun k hk => grp_eq q4 q2 hne hk
    generalize deskT ev N = T at c1 hd hgq ⊢
    generalize trL ev N = all at hgq ⊢
    (repeat (first | refine zs rfl ?_ | refine zg rfl rfl rfl ?_ | refine zd ?_ | refine JK.fin ?_ | refine JK.ret ?_ | refine zc rfl (c1) rfl rfl ?_ | refine ze rfl (c1) rfl ?_ | refine zk rfl rfl (fun _ => c1) rfl rfl ?_))
    refine JK.cond rfl (fun hc => by cases hc) (fun _ => ?_)
    (repeat (first | refine zs rfl ?_ | refine zg rfl rfl rfl ?_ | refine zd ?_ | refine JK.fin ?_ | refine JK.ret ?_))
    refine JK.ghost 6 35 (.slice (.int .i64)) rfl ?_
    refine JK.loop (fun k : Nat => ⟨[(4, .lf (.optr 1 [])), (6, .lf (.osl 5)), (19, vI N), (20, vI (k : Int))], [(1, .cell (.ptr deT) (vDe N ev T)), (5, .sl 35 (.slice (.int .i64)) (tiedF all N k))], 6⟩) (fun k => k ≤ N) (fun k => N - k) 0 (Nat.zero_le _) (by (exact JW.Auto (by conv => lhs; reduce))) fun k hk => ?_
    have htl := tiedF_len all N k
    have htn : tiedF all N (k + 1) = tiedF all N k ++ if tiedB all N k = true then [grpF all k (2 * N)] else [] := rfl
    have hend : k = N → tiedF all N k = tiedF all N N := fun e => by rw [e]
    generalize tiedF all N k = out at htl htn hend ⊢
    (repeat (first | refine zs rfl ?_ | refine zg rfl rfl rfl ?_ | refine zd ?_ | refine JK.fin ?_ | refine JK.ret ?_))
    refine JK.cond rfl (fun hq => ?_) (fun hq => ?_)
    · (simp only [↓bif_or, ↓bif_and, ↓Bool.or_eq_true, ↓Bool.or_eq_false_iff, ↓Bool.and_eq_true, ↓Bool.and_eq_false_iff, ↓Bool.not_eq_true', ↓Bool.not_eq_false', ↓decide_eq_true_eq, ↓decide_eq_false_iff_not, ↓beq_iff_eq, ↓bne_iff_ne, ↓bne_eq_false_iff_eq, ↓ne_eq, ↓beq_eq_false_iff_ne, ↓Bool.not_eq_true] at hq; try simp only [Ty.dflt, Int.toNat_natCast] at hq)
      have hk' : k < N := by omega
      (repeat (first | refine zs rfl ?_ | refine zg rfl rfl rfl ?_ | refine zd ?_ | refine JK.fin ?_ | refine JK.ret ?_ | refine zc rfl (fn68 N ev T) rfl rfl ?_ | refine ze rfl (fn68 N ev T) rfl ?_ | refine zk rfl rfl (fun _ => fn68 N ev T) rfl rfl ?_))
      refine JK.ghostT 7 3 (.int .i64) rfl ?_
      refine JK.rangeG [4, 6, 7, 8, 19, 20] rfl rfl rfl Go.Proofs.Try.func92 rfl Go.Proofs.Try.call92 (Nat.le_of_ble_eq_true rfl) trivial fun M2 up2 a0 b0 ha0 hb0 => ?_
      (repeat (first | refine zs rfl ?_ | refine zg rfl rfl rfl ?_ | refine zd ?_ | refine JK.fin ?_ | refine JK.ret ?_))
      refine JK.weak (s' := ⟨[(0, .lf (.yld 6)), (8, vI N), (9, vI 0)], K29 a0 b0 N ev T k out [], 100⟩) (by (exact JW.Auto (by conv => lhs; reduce))) ?_
      refine say_it (Mx := M2) (nX := 25) (rdX := none) N q2 (fun pre => K29 a0 b0 N ev T k out (grpT T k pre)) ?_ ?_
      · intro pre s post hps
        refine YO.intro 0 59 (ps := #[25]) (assign := a0) (body := b0) (nO := 59) (LO := [(4, .lf (.optr 1 [])), (6, .lf (.osl 5)), (7, .lf (.optr 2 [])), (8, .lf (.optr 3 [])), (19, vI N), (20, vI k)]) (L0 := [(25, vI s), (4, .lf (.optr 1 [])), (6, .lf (.osl 5)), (7, .lf (.optr 2 [])), (8, .lf (.optr 3 [])), (19, vI N), (20, vI k)]) rfl rfl rfl ⟨7, _, rfl, rfl⟩ ⟨7, _, rfl, rfl⟩ fun M3 M4 up4 bl hup => JK.start (JK.codeEq ha0 ?_)
        (repeat (first | refine zs rfl ?_ | refine zg rfl rfl rfl ?_ | refine zd ?_ | refine JK.fin ?_ | refine JK.ret ?_))
        refine JK.done (asgQ.nor rfl rfl rfl rfl (JK.start (JK.codeEq hb0 ?_)))
        have hsy : isSay N s := mem_sayL.1 (by rw [hps]; simp)
        have hsk : isSay N ((k : Int) + 1) := .inl ⟨by omega, by omega⟩
        have c2 := fn69 N ev T ((k : Int) + 1) s q2 hd hsk hsy
        have c3 := fn69 N ev T s ((k : Int) + 1) q2 hd hsy hsk
        have hsn : grpT T k (pre ++ [s]) = grpT T k pre ++ if (meansB T ((k : Int) + 1) s && meansB T s ((k : Int) + 1)) = true then [s] else [] := by
          unfold grpT; rw [List.filter_append]; simp only [List.filter_cons, List.filter_nil]
        have hsl : (grpT T k pre).length ≤ 24 := by
          have h1 := List.length_filter_le (fun s => meansB T ((k : Int) + 1) s && meansB T s ((k : Int) + 1)) pre
          have h2 := congrArg List.length hps
          rw [sayL_len] at h2
          simp at h2
          unfold grpT; omega
        generalize meansB T ((k : Int) + 1) s = f1 at c2 hsn ⊢
        generalize meansB T s ((k : Int) + 1) = f2 at c3 hsn ⊢
        generalize grpT T k pre = xs at hsn hsl ⊢
        (repeat (first | refine zs rfl ?_ | refine zg rfl rfl rfl ?_ | refine zd ?_ | refine JK.fin ?_ | refine JK.ret ?_ | refine zc rfl (c2) rfl rfl ?_ | refine ze rfl (c2) rfl ?_ | refine zk rfl rfl (fun _ => c2) rfl rfl ?_ | refine zc rfl (c3) rfl rfl ?_ | refine ze rfl (c3) rfl ?_ | refine zk rfl rfl (fun _ => c3) rfl rfl ?_))
        refine JK.cond rfl (fun hc => ?_) (fun hc => ?_)
        · rw [if_pos (by revert hc; cases f1 <;> simp)] at hsn
          (repeat (first | refine zs rfl ?_ | refine zg rfl rfl rfl ?_ | refine zd ?_ | refine JK.fin ?_ | refine JK.ret ?_))
          refine JK.done (bodyQ.of rfl rfl rfl rfl rfl rfl ⟨rfl, ?_⟩)
          show JW _ ⟨[], K29 a0 b0 N ev T k out (grpT T k (pre ++ [s])), 100⟩ _
          rw [hsn]
          (exact JW.Auto (by conv => lhs; reduce))
        · rw [if_neg (by revert hc; cases f1 <;> simp), List.append_nil] at hsn
          (repeat (first | refine zs rfl ?_ | refine zg rfl rfl rfl ?_ | refine zd ?_ | refine JK.fin ?_ | refine JK.ret ?_))
          refine JK.done (bodyQ.of rfl rfl rfl rfl rfl rfl ⟨rfl, ?_⟩)
          show JW _ ⟨[], K29 a0 b0 N ev T k out (grpT T k (pre ++ [s])), 100⟩ _
          rw [hsn]
          (exact JW.Auto (by conv => lhs; reduce))
      · intro L
        refine JK.done (rngQ.of (.inr rfl) rfl rfl rfl rfl rfl rfl rfl (endJ.kn ?_))
        have hgk := hgq k hk'
        have htb : tiedB all N k = decide (1 < (grpT T k (sayL N)).length ∧ (grpT T k (sayL N)).getD 0 0 = (k : Int) + 1) := by rw [tiedB, hgk]
        rw [htb, hgk] at htn
        have hgl : (grpT T k (sayL N)).length ≤ 24 := by
          have h1 := List.length_filter_le (fun s => meansB T ((k : Int) + 1) s && meansB T s ((k : Int) + 1)) (sayL N)
          rw [sayL_len] at h1
          unfold grpT; omega
        clear hgk htb hgq
        generalize grpT T k (sayL N) = gr at htn hgl ⊢
        (repeat (first | refine zs rfl ?_ | refine zg rfl rfl rfl ?_ | refine zd ?_ | refine JK.fin ?_ | refine JK.ret ?_))
        have e0 : gr.getD (Int.toNat 0) 0 = gr.getD 0 0 := rfl
        refine JK.cond rfl (fun hf => ?_) (fun hf => ?_)
        · (simp only [↓bif_or, ↓bif_and, ↓Bool.or_eq_true, ↓Bool.or_eq_false_iff, ↓Bool.and_eq_true, ↓Bool.and_eq_false_iff, ↓Bool.not_eq_true', ↓Bool.not_eq_false', ↓decide_eq_true_eq, ↓decide_eq_false_iff_not, ↓beq_iff_eq, ↓bne_iff_ne, ↓bne_eq_false_iff_eq, ↓ne_eq, ↓beq_eq_false_iff_ne, ↓Bool.not_eq_true] at hf; try simp only [Ty.dflt, Int.toNat_natCast] at hf)
          rw [if_pos (decide_eq_true (by omega))] at htn
          (refine JK.frz [4] [4,6,7,8,19,20] rfl (by (first | exact trivial | (try dsimp only [allP, inK, idxC, loC, lohiC, fullC, underG, List.append, List.nil_append, List.cons_append, Ty.den, Ty.dflt, Int.toNat_natCast, List.length_cons, List.length_nil] at *); first | omega | ((repeat' (first | exact trivial | assumption | refine And.intro ?_ ?_ | exact fun h => h | (intro hpk; first | exact hpk | simp only [wantB, hpk, Bool.not_false, Bool.not_true]))) <;> omega) | fail)) ?_)
          (repeat (first | refine zs rfl ?_ | refine zg rfl rfl rfl ?_ | refine zd ?_ | refine JK.fin ?_ | refine JK.ret ?_))
          exact ⟨k + 1, by (refine JW.auto (by conv => lhs; reduce) ?_ ?_ ?_ ?_ rfl <;> (repeat' (first | exact trivial | exact rfl | refine And.intro ?_ ?_ | exact Nat.le_of_ble_eq_true rfl | refine HO.bdF ?_ | refine HO.bdP ?_ | (refine congrArg (fun z : Int => some (AV.val (.int .i64) z)) ?_; push_cast; omega) | exact congrArg (fun z : List (List Int) => some (HO.sl 35 (.slice (.int .i64)) z)) htn.symm))), by omega, by omega⟩
        · (simp only [↓bif_or, ↓bif_and, ↓Bool.or_eq_true, ↓Bool.or_eq_false_iff, ↓Bool.and_eq_true, ↓Bool.and_eq_false_iff, ↓Bool.not_eq_true', ↓Bool.not_eq_false', ↓decide_eq_true_eq, ↓decide_eq_false_iff_not, ↓beq_iff_eq, ↓bne_iff_ne, ↓bne_eq_false_iff_eq, ↓ne_eq, ↓beq_eq_false_iff_ne, ↓Bool.not_eq_true] at hf; try simp only [Ty.dflt, Int.toNat_natCast] at hf)
          rw [if_neg (by rw [decide_eq_true_eq]; omega), List.append_nil] at htn
          (repeat (first | refine zs rfl ?_ | refine zg rfl rfl rfl ?_ | refine zd ?_ | refine JK.fin ?_ | refine JK.ret ?_))
          exact ⟨k + 1, by (refine JW.auto (by conv => lhs; reduce) ?_ ?_ ?_ ?_ rfl <;> (repeat' (first | exact trivial | exact rfl | refine And.intro ?_ ?_ | exact Nat.le_of_ble_eq_true rfl | refine HO.bdF ?_ | refine HO.bdP ?_ | (refine congrArg (fun z : Int => some (AV.val (.int .i64) z)) ?_; push_cast; omega) | exact congrArg (fun z : List (List Int) => some (HO.sl 35 (.slice (.int .i64)) z)) htn.symm))), by omega, by omega⟩
    · (simp only [↓bif_or, ↓bif_and, ↓Bool.or_eq_true, ↓Bool.or_eq_false_iff, ↓Bool.and_eq_true, ↓Bool.and_eq_false_iff, ↓Bool.not_eq_true', ↓Bool.not_eq_false', ↓decide_eq_true_eq, ↓decide_eq_false_iff_not, ↓beq_iff_eq, ↓bne_iff_ne, ↓bne_eq_false_iff_eq, ↓ne_eq, ↓beq_eq_false_iff_ne, ↓Bool.not_eq_true] at hq; try simp only [Ty.dflt, Int.toNat_natCast] at hq)
      obtain rfl : k = N := by omega
      (repeat (first | refine zs rfl ?_ | refine zg rfl rfl rfl ?_ | refine zd ?_ | refine JK.fin ?_ | refine JK.ret ?_))
      refine ⟨.inl rfl, _, _, rfl, trivial, ?_⟩
      rw [hend rfl]
  · have c1 := fn64no n ev 0 (by rw [fair_need]; exact he)
    rw [fair_need] at c1
    rw [if_pos he]
    generalize needErr n ev = e at he c1 ⊢
    (repeat (first | refine zs rfl ?_ | refine zg rfl rfl rfl ?_ | refine zd ?_ | refine JK.fin ?_ | refine JK.ret ?_ | refine zc rfl (c1) rfl rfl ?_ | refine ze rfl (c1) rfl ?_ | refine zk rfl rfl (fun _ => c1) rfl rfl ?_))
    refine JK.cond rfl (fun hc => ?_) (fun hc => ?_)
    · (repeat (first | refine zs rfl ?_ | refine zg rfl rfl rfl ?_ | refine zd ?_ | refine JK.fin ?_ | refine JK.ret ?_))
      refine ⟨.inl rfl, _, _, rfl, trivial, ?_⟩
      rfl
    · (simp only [↓bif_or, ↓bif_and, ↓Bool.or_eq_true, ↓Bool.or_eq_false_iff, ↓Bool.and_eq_true, ↓Bool.and_eq_false_iff, ↓Bool.not_eq_true', ↓Bool.not_eq_false', ↓decide_eq_true_eq, ↓decide_eq_false_iff_not, ↓beq_iff_eq, ↓bne_iff_ne, ↓bne_eq_false_iff_eq, ↓ne_eq, ↓beq_eq_false_iff_ne, ↓Bool.not_eq_true] at hc; try simp only [Ty.dflt, Int.toNat_natCast] at hc)
      exact absurd hc he
end Go.Proofs.Ytdmfofjaknngnaa

namespace Go.Proofs.Ytdmfofjaknngnaa
open Go Go.RowKit Ox Ox.Two
attribute [local irreducible] JC JL JK JW

def fewB (b t : List Int) : List Int := if b.length = 0 ∨ t.sum < b.sum then t else b
def fewP (l : List (List Int)) : List Int := l.foldl fewB []
theorem fewP_snoc (l : List (List Int)) (t : List Int) : fewP (l ++ [t]) = fewB (fewP l) t := by unfold fewP; rw [List.foldl_append]; rfl
theorem fewP_mem : ∀ (l : List (List Int)) (b : List Int), l.foldl fewB b = b ∨ l.foldl fewB b ∈ l
  | [], b => .inl rfl
  | t :: r, b => by
    rw [List.foldl_cons]
    rcases fewP_mem r (fewB b t) with h | h
    · rw [h]
      unfold fewB
      split
      · exact .inr List.mem_cons_self
      · exact .inl rfl
    · exact .inr (List.mem_cons_of_mem _ h)
theorem fewP_in {l : List (List Int)} (hne : l ≠ []) (hl : ∀ t ∈ l, t.length ≠ 0) : fewP l ∈ l := by
  obtain ⟨z, r, rfl⟩ := List.exists_cons_of_ne_nil hne
  unfold fewP
  rw [List.foldl_cons, show fewB [] z = z from if_pos (.inl rfl)]
  rcases fewP_mem r z with h | h
  · rw [h]; exact List.mem_cons_self
  · exact List.mem_cons_of_mem _ h
def fewR (n : Int) (ev : List evD) : List Int × Int := if needErr n ev ≠ 0 then ([], needErr n ev) else (fewP (trL ev n.toNat), 0)
def v2 : List (List Int) → AV
  | [] => .lf .nils
  | z :: r => vL (fewP (z :: r))
def K48 (a b : Code) (n : Int) (ev : List evD) (t : List Int) (pre : List (List Int)) : List (Nat × HO) :=
  [(4, .fr 0 [(31, .lf (.yld 3)), (6, .lf (.optr 1 []))]), (3, .loop .ready none #[18] a b 31 [(6, .lf (.optr 1 []))]), (1, .cell (.slice (.int .i64)) (v2 pre))]
set_option maxRecDepth 8000 in
theorem fn48 (n : Int) (ev : List evD) : Ox.Fn Go.Proofs.Try.prog 48 (.acons (vC n ev) .anil) (· = vLI (fewR n ev).1 (fewR n ev).2) := by
  refine Ox.Fn.intro xok Go.Proofs.Try.func48 rfl Go.Proofs.Try.call48 (Nat.le_of_ble_eq_true rfl) (fun E M0 up => ?_)
  refine JK.start ?_
  by_cases he : needErr n ev = 0
  · obtain ⟨N, rfl, q1, q2, q3, q4, h0, hne⟩ := need_cast he
    have c1 := fn64ok N ev 0 (by rw [fair_need]; exact he)
    have hd := (deskT_way (ev := ev) (n := N) q4 q2).1.ok
    have hr : fewR N ev = (fewP (trL ev N), 0) := by rw [fewR, if_neg (fun h => h he), Int.toNat_natCast]
    rw [hr]
    have htr := desk_truths q4 q2
    have hrow : ∀ t ∈ trL ev N, t.length = N ∧ bin t := fun t ht => ⟨(mem_trL.1 ht).1, (mem_trL.1 ht).2.1⟩
    generalize deskT ev N = T at c1 htr hd ⊢
    generalize trL ev N = all at htr hrow hne ⊢
    (repeat (first | refine zs rfl ?_ | refine zg rfl rfl rfl ?_ | refine zd ?_ | refine JK.fin ?_ | refine JK.ret ?_ | refine zc rfl (c1) rfl rfl ?_ | refine ze rfl (c1) rfl ?_ | refine zk rfl rfl (fun _ => c1) rfl rfl ?_))
    refine JK.cond rfl (fun hc => by cases hc) (fun _ => ?_)
    (repeat (first | refine zs rfl ?_ | refine zg rfl rfl rfl ?_ | refine zd ?_ | refine JK.fin ?_ | refine JK.ret ?_ | refine zc rfl (fn72 N ev T) rfl rfl ?_ | refine ze rfl (fn72 N ev T) rfl ?_ | refine zk rfl rfl (fun _ => fn72 N ev T) rfl rfl ?_))
    refine JK.rangeG [6] rfl rfl rfl Go.Proofs.Try.func93 rfl Go.Proofs.Try.call93 (Nat.le_of_ble_eq_true rfl) trivial fun M2 up2 a0 b0 ha0 hb0 => ?_
    refine JK.weak (s' := ⟨[(0, .lf (.yld 3)), (1, ppDe N ev T)], K48 a0 b0 N ev T [], 100⟩) (by (exact JW.Auto (by conv => lhs; reduce))) ?_
    refine tr_it (Mx := M2) (nX := 62) (rdX := none) 0 31 (by simp) N ev T q2 hd true (K48 a0 b0 N ev T) ?_ (by omega) ?_ ?_ ?_
    · intro pre; cases pre <;> (repeat' (first | exact trivial | exact rfl | refine And.intro ?_ ?_ | exact Nat.le_of_ble_eq_true rfl | refine HO.bdF ?_ | refine HO.bdP ?_ | (refine congrArg (fun z : Int => some (AV.val (.int .i64) z)) ?_; push_cast; omega)))
    · intro pre; exact ⟨4, _, rfl, rfl⟩
    · intro pre z post hp _
      rw [htr] at hp
      have hz := hrow z (by rw [hp]; simp)
      have d1 := fn81 z hz.2 (by omega)
      have s1 := sum_bin hz.2
      refine YO.intro 0 31 (ps := #[18]) (assign := a0) (body := b0) (nO := 31) (LO := [(6, .lf (.optr 1 []))]) (L0 := [(18, vL z), (6, .lf (.optr 1 []))]) rfl rfl rfl ⟨4, _, rfl, rfl⟩ ⟨4, _, rfl, rfl⟩ fun M3 M4 up4 bl hup => JK.start (JK.codeEq ha0 ?_)
      (repeat (first | refine zs rfl ?_ | refine zg rfl rfl rfl ?_ | refine zd ?_ | refine JK.fin ?_ | refine JK.ret ?_))
      refine JK.done (asgQ.nor rfl rfl rfl rfl (JK.start (JK.codeEq hb0 ?_)))
      cases pre with
      | nil =>
        have d0 := fn81 [] (fun x hx => by cases hx) (by simp)
        (repeat (first | refine zs rfl ?_ | refine zg rfl rfl rfl ?_ | refine zd ?_ | refine JK.fin ?_ | refine JK.ret ?_ | refine zc rfl (d1) rfl rfl ?_ | refine ze rfl (d1) rfl ?_ | refine zk rfl rfl (fun _ => d1) rfl rfl ?_ | refine zc rfl (d0) rfl rfl ?_ | refine ze rfl (d0) rfl ?_ | refine zk rfl rfl (fun _ => d0) rfl rfl ?_))
        refine JK.cond rfl (fun _ => ?_) (fun h => by cases h)
        (repeat (first | refine zs rfl ?_ | refine zg rfl rfl rfl ?_ | refine zd ?_ | refine JK.fin ?_ | refine JK.ret ?_))
        refine JK.done (bodyQ.of rfl rfl rfl rfl rfl rfl ⟨rfl, ?_⟩)
        show JW _ ⟨[], K48 a0 b0 N ev T [z], 100⟩ _
        (exact JW.Auto (by conv => lhs; reduce))
      | cons y r =>
        have hb := hrow (fewP (y :: r)) (by
          have := fewP_in (l := y :: r) (by simp) (fun t ht => by have := (hrow t (by rw [hp]; exact List.mem_append_left _ ht)).1; omega)
          rw [hp]; exact List.mem_append_left _ this)
        have d0 := fn81 _ hb.2 (by omega)
        have s0 := sum_bin hb.2
        have hsn := fewP_snoc (y :: r) z
        rw [fewB] at hsn
        refine JK.weak (s' := ⟨[(7, vL z), (6, .lf (.optr 1 []))], [(100, .fr 1 [(62, .lf (.yld 3))]), (4, .fr 0 [(31, .lf (.yld 3)), (6, .lf (.optr 1 []))]), (3, .loop .busy none #[18] a0 b0 31 [(6, .lf (.optr 1 []))]), (1, .cell (.slice (.int .i64)) (vL (fewP (y :: r))))], 101⟩) (by (exact JW.Auto (by conv => lhs; reduce))) ?_
        generalize hB : fewP (y :: r) = B at hsn hb d0 s0 ⊢
        have hlB : B.length ≠ 0 := by rw [hb.1]; omega
        (repeat (first | refine zs rfl ?_ | refine zg rfl rfl rfl ?_ | refine zd ?_ | refine JK.fin ?_ | refine JK.ret ?_ | refine zc rfl (d1) rfl rfl ?_ | refine ze rfl (d1) rfl ?_ | refine zk rfl rfl (fun _ => d1) rfl rfl ?_ | refine zc rfl (d0) rfl rfl ?_ | refine ze rfl (d0) rfl ?_ | refine zk rfl rfl (fun _ => d0) rfl rfl ?_))
        refine JK.cond rfl (fun hc => ?_) (fun hc => ?_)
        · have hz' : z.sum < B.sum := by
            rw [show ((B.length : Int) == 0) = false from beq_false_of_ne (by omega)] at hc
            simpa using hc
          rw [if_pos (.inr hz')] at hsn
          (repeat (first | refine zs rfl ?_ | refine zg rfl rfl rfl ?_ | refine zd ?_ | refine JK.fin ?_ | refine JK.ret ?_))
          refine JK.done (bodyQ.of rfl rfl rfl rfl rfl rfl ⟨rfl, ?_⟩)
          refine JW.trans (s2 := ⟨[], [(4, .fr 0 [(31, .lf (.yld 3)), (6, .lf (.optr 1 []))]), (3, .loop .ready none #[18] a0 b0 31 [(6, .lf (.optr 1 []))]), (1, .cell (.slice (.int .i64)) (vL (fewP (y :: r ++ [z]))))], 100⟩) (JW.refl _) ?_
          rw [hsn]
          (exact JW.Auto (by conv => lhs; reduce))
        · have hz' : ¬ z.sum < B.sum := by
            rw [show ((B.length : Int) == 0) = false from beq_false_of_ne (by omega)] at hc
            simpa using hc
          rw [if_neg (fun h => h.elim hlB hz')] at hsn
          (repeat (first | refine zs rfl ?_ | refine zg rfl rfl rfl ?_ | refine zd ?_ | refine JK.fin ?_ | refine JK.ret ?_))
          refine JK.done (bodyQ.of rfl rfl rfl rfl rfl rfl ⟨rfl, ?_⟩)
          refine JW.trans (s2 := ⟨[], [(4, .fr 0 [(31, .lf (.yld 3)), (6, .lf (.optr 1 []))]), (3, .loop .ready none #[18] a0 b0 31 [(6, .lf (.optr 1 []))]), (1, .cell (.slice (.int .i64)) (vL (fewP (y :: r ++ [z]))))], 100⟩) (JW.refl _) ?_
          rw [hsn]
          (exact JW.Auto (by conv => lhs; reduce))
    · intro L
      rw [htr]
      show rngQ _ _ _ _ ⟨L, K48 a0 b0 N ev T all, 100⟩
      obtain ⟨y, r, rfl⟩ := List.exists_cons_of_ne_nil hne
      refine rngQ.of (.inr rfl) rfl rfl rfl rfl rfl rfl rfl (endJ.kn ?_)
      (repeat (first | refine zs rfl ?_ | refine zg rfl rfl rfl ?_ | refine zd ?_ | refine JK.fin ?_ | refine JK.ret ?_))
      refine ⟨.inl rfl, _, _, rfl, trivial, ?_⟩
      rfl
  · have c1 := fn64no n ev 0 (by rw [fair_need]; exact he)
    rw [fair_need] at c1
    have hr : fewR n ev = ([], needErr n ev) := by rw [fewR, if_pos he]
    rw [hr]
    generalize needErr n ev = e at he c1 ⊢
    (repeat (first | refine zs rfl ?_ | refine zg rfl rfl rfl ?_ | refine zd ?_ | refine JK.fin ?_ | refine JK.ret ?_ | refine zc rfl (c1) rfl rfl ?_ | refine ze rfl (c1) rfl ?_ | refine zk rfl rfl (fun _ => c1) rfl rfl ?_))
    refine JK.cond rfl (fun hc => ?_) (fun hc => ?_)
    · (repeat (first | refine zs rfl ?_ | refine zg rfl rfl rfl ?_ | refine zd ?_ | refine JK.fin ?_ | refine JK.ret ?_))
      refine ⟨.inl rfl, _, _, rfl, trivial, ?_⟩
      rfl
    · (simp only [↓bif_or, ↓bif_and, ↓Bool.or_eq_true, ↓Bool.or_eq_false_iff, ↓Bool.and_eq_true, ↓Bool.and_eq_false_iff, ↓Bool.not_eq_true', ↓Bool.not_eq_false', ↓decide_eq_true_eq, ↓decide_eq_false_iff_not, ↓beq_iff_eq, ↓bne_iff_ne, ↓bne_eq_false_iff_eq, ↓ne_eq, ↓beq_eq_false_iff_ne, ↓Bool.not_eq_true] at hc; try simp only [Ty.dflt, Int.toNat_natCast] at hc)
      exact absurd hc he
end Go.Proofs.Ytdmfofjaknngnaa

namespace Go.Proofs.Ytdmfofjaknngnaa
open Go Go.RowKit Ox Ox.Two
attribute [local irreducible] JC JL JK JW

abbrev pA (y : List Int) : AV := .val (.ptr (.arr 12 (.int .i64))) (some y)
theorem fn73 (k : Nat) (y : List Int) (m : Int) (hk : k < 12) (hl : y.length = 12) (hb : ∀ x ∈ y, 0 ≤ x ∧ x ≤ 5000) (hm : 0 ≤ m ∧ m ≤ 5000) : Ox.Fn Go.Proofs.Try.prog 73 (.acons (vI k) (.acons (pA y) (.acons (pI m) .anil))) (· = vI (Max.max (y.getD k 0) (m - y.getD k 0))) := by
  refine Ox.Fn.intro xok Go.Proofs.Try.func73 rfl Go.Proofs.Try.call73 (Nat.le_of_ble_eq_true rfl) (fun E M0 up => ?_)
  refine JK.start ?_
  have h1 := hb (y.getD k 0) (by rw [getD_nat y (by omega)]; exact List.getElem_mem _)
  (repeat (first | refine zs rfl ?_ | refine zg rfl rfl rfl ?_ | refine zd ?_ | refine JK.fin ?_ | refine JK.ret ?_))
  refine ⟨.inl rfl, _, _, rfl, trivial, ?_⟩
  rfl
def leastG (g : Int → Int) (b : Int) : List Int → Int
  | [] => b
  | x :: r => leastG g (if g x < g b then x else b) r
theorem leastG_snoc (g : Int → Int) (x : Int) : ∀ (l : List Int) (b : Int), leastG g b (l ++ [x]) = if g x < g (leastG g b l) then x else leastG g b l
  | [], b => rfl
  | y :: l, b => by rw [List.cons_append, leastG, leastG_snoc g x l]; rfl
theorem leastG_mem (g : Int → Int) : ∀ (l : List Int) (b : Int), leastG g b l = b ∨ leastG g b l ∈ l
  | [], b => .inl rfl
  | y :: l, b => by
    rw [leastG]
    rcases leastG_mem g l (if g y < g b then y else b) with h | h
    · rw [h]; split
      · exact .inr List.mem_cons_self
      · exact .inl rfl
    · exact .inr (List.mem_cons_of_mem _ h)
theorem fn74 (y : List Int) (m : Int) (x0 : Int) (xs : List Int) (g : Int → Int) (h : ∀ x ∈ x0 :: xs, Ox.Fn Go.Proofs.Try.prog 73 (.acons (vI x) (.acons (pA y) (.acons (pI m) .anil))) (· = vI (g x))) :
    Ox.Fn Go.Proofs.Try.prog 74 (.acons (vL (x0 :: xs)) (.acons (.fn 73 .anil (.acons (pA y) (.acons (pI m) .anil))) .anil)) (· = vI (leastG g x0 xs)) := by
  refine Ox.Fn.intro xok Go.Proofs.Try.func74 rfl Go.Proofs.Try.call74 (Nat.le_of_ble_eq_true rfl) (fun E M0 up => ?_)
  refine JK.start ?_
  refine JK.lenOf 0 rfl fun hlen => ?_
  replace hlen : (x0 :: xs).length ≤ 9223372036854775807 := hlen.1
  rw [List.length_cons] at hlen
  (repeat (first | refine zs rfl ?_ | refine zg rfl rfl rfl ?_ | refine zd ?_ | refine JK.fin ?_ | refine JK.ret ?_))
  refine JK.loop (fun i : Nat => ⟨[(1, .fn 73 .anil (.acons (pA y) (.acons (pI m) .anil))), (5, vI (leastG g x0 (xs.take i))), (12, vL xs), (13, vI xs.length), (14, vI (i : Int))], [], 0⟩) (fun i => i ≤ xs.length) (fun i => xs.length - i) 0 (Nat.zero_le _) (by (exact JW.Auto (by conv => lhs; reduce))) fun i hi => ?_
  have hnx : i < xs.length → leastG g x0 (xs.take (i + 1)) = if g (xs.getD i 0) < g (leastG g x0 (xs.take i)) then xs.getD i 0 else leastG g x0 (xs.take i) := fun hi' => by
    rw [List.take_succ, List.getElem?_eq_getElem hi', getD_nat xs hi']; exact leastG_snoc g _ _ _
  have hin : leastG g x0 (xs.take i) ∈ x0 :: xs := by
    rcases leastG_mem g (xs.take i) x0 with e | e
    · rw [e]; exact List.mem_cons_self
    · exact List.mem_cons_of_mem _ (List.mem_of_mem_take e)
  have hend : i = xs.length → leastG g x0 (xs.take i) = leastG g x0 xs := fun e => by rw [e, List.take_length]
  generalize leastG g x0 (xs.take i) = b at hnx hin hend ⊢
  (repeat (first | refine zs rfl ?_ | refine zg rfl rfl rfl ?_ | refine zd ?_ | refine JK.fin ?_ | refine JK.ret ?_))
  refine JK.cond rfl (fun hc => ?_) (fun hc => ?_)
  · (simp only [↓bif_or, ↓bif_and, ↓Bool.or_eq_true, ↓Bool.or_eq_false_iff, ↓Bool.and_eq_true, ↓Bool.and_eq_false_iff, ↓Bool.not_eq_true', ↓Bool.not_eq_false', ↓decide_eq_true_eq, ↓decide_eq_false_iff_not, ↓beq_iff_eq, ↓bne_iff_ne, ↓bne_eq_false_iff_eq, ↓ne_eq, ↓beq_eq_false_iff_ne, ↓Bool.not_eq_true] at hc; try simp only [Ty.dflt, Int.toNat_natCast] at hc)
    have hi' : i < xs.length := by omega
    have d1 := h (xs.getD i 0) (by rw [getD_nat xs hi']; exact List.mem_cons_of_mem _ (List.getElem_mem hi'))
    have d2 := h b hin
    replace hnx := hnx hi'
    (repeat (first | refine zs rfl ?_ | refine zg rfl rfl rfl ?_ | refine zd ?_ | refine JK.fin ?_ | refine JK.ret ?_ | refine zc rfl (d1) rfl rfl ?_ | refine ze rfl (d1) rfl ?_ | refine zk rfl rfl (fun _ => d1) rfl rfl ?_ | refine zc rfl (d2) rfl rfl ?_ | refine ze rfl (d2) rfl ?_ | refine zk rfl rfl (fun _ => d2) rfl rfl ?_))
    refine JK.cond rfl (fun hd => ?_) (fun hd => ?_)
    · have hd' := of_decide_eq_true hd
      rw [if_pos hd'] at hnx
      (repeat (first | refine zs rfl ?_ | refine zg rfl rfl rfl ?_ | refine zd ?_ | refine JK.fin ?_ | refine JK.ret ?_))
      refine ⟨i + 1, ?_, by omega, by omega⟩
      rw [hnx]
      (exact JW.Auto (by conv => lhs; reduce))
    · have hd' := of_decide_eq_false hd
      rw [if_neg hd'] at hnx
      (repeat (first | refine zs rfl ?_ | refine zg rfl rfl rfl ?_ | refine zd ?_ | refine JK.fin ?_ | refine JK.ret ?_))
      refine ⟨i + 1, ?_, by omega, by omega⟩
      rw [hnx]
      (exact JW.Auto (by conv => lhs; reduce))
  · (simp only [↓bif_or, ↓bif_and, ↓Bool.or_eq_true, ↓Bool.or_eq_false_iff, ↓Bool.and_eq_true, ↓Bool.and_eq_false_iff, ↓Bool.not_eq_true', ↓Bool.not_eq_false', ↓decide_eq_true_eq, ↓decide_eq_false_iff_not, ↓beq_iff_eq, ↓bne_iff_ne, ↓bne_eq_false_iff_eq, ↓ne_eq, ↓beq_eq_false_iff_ne, ↓Bool.not_eq_true] at hc; try simp only [Ty.dflt, Int.toNat_natCast] at hc)
    (repeat (first | refine zs rfl ?_ | refine zg rfl rfl rfl ?_ | refine zd ?_ | refine JK.fin ?_ | refine JK.ret ?_))
    refine ⟨.inl rfl, _, _, rfl, trivial, ?_⟩
    rw [hend (by omega)]
/-! How often each claim is true. -/
def addF (y t : List Int) : Nat → List Int
  | 0 => y
  | i + 1 => (addF y t i).set i ((addF y t i).getD i 0 + t.getD i 0)
def yesP (l : List (List Int)) : List Int := l.foldl (fun y t => addF y t t.length) (List.replicate 12 0)
theorem yesP_snoc (l : List (List Int)) (t : List Int) : yesP (l ++ [t]) = addF (yesP l) t t.length := by unfold yesP; rw [List.foldl_append]; rfl
theorem addF_len (y t : List Int) : ∀ i, (addF y t i).length = y.length
  | 0 => rfl
  | i + 1 => by rw [addF, List.length_set, addF_len y t i]
theorem addF_get (y t : List Int) : ∀ i, i ≤ y.length → ∀ k, (addF y t i).getD k 0 = y.getD k 0 + if k < i then t.getD k 0 else 0
  | 0, _, k => by rw [if_neg (by omega), addF]; omega
  | i + 1, hi, k => by
    rw [addF, getD_set' (by rw [addF_len]; omega), addF_get y t i (by omega)]
    by_cases e : k = i
    · subst e
      rw [if_pos rfl, if_neg (by omega), if_pos (by omega)]; omega
    · rw [if_neg e, addF_get y t i (by omega)]
      by_cases e2 : k < i
      · rw [if_pos e2, if_pos (by omega)]
      · rw [if_neg e2, if_neg (by omega)]
theorem snoc_ind {α : Type} {P : List α → Prop} (h0 : P []) (hs : ∀ l x, P l → P (l ++ [x])) (l : List α) : P l := by
  have : ∀ r : List α, P r.reverse := fun r => by
    induction r with
    | nil => exact h0
    | cons x r ih => rw [List.reverse_cons]; exact hs _ _ ih
  have := this l.reverse
  rwa [List.reverse_reverse] at this
theorem yesP_ok {n : Nat} (hn : n ≤ 12) (l : List (List Int)) : (∀ t ∈ l, t.length = n ∧ bin t) → (yesP l).length = 12 ∧ ∀ k, k < n → (yesP l).getD k 0 = manyS l ((k : Int) + 1) := by
  refine snoc_ind (P := fun l => (∀ t ∈ l, t.length = n ∧ bin t) → (yesP l).length = 12 ∧ ∀ k, k < n → (yesP l).getD k 0 = manyS l ((k : Int) + 1)) ?_ ?_ l
  · intro _
    refine ⟨by simp [yesP], fun k hk => ?_⟩
    show (List.replicate 12 (0 : Int)).getD k 0 = 0
    rw [getD_nat _ (by rw [List.length_replicate]; omega), List.getElem_replicate]
  · intro l t ih h
    have hi := ih fun t ht => h t (List.mem_append_left _ ht)
    obtain ⟨h1, h2⟩ := h t (by simp)
    refine ⟨by rw [yesP_snoc, addF_len]; exact hi.1, fun k hk => ?_⟩
    rw [yesP_snoc, addF_get _ _ _ (by rw [hi.1]; omega), if_pos (by omega), hi.2 k hk, manyS_snoc]
    have : holdsR t ((k : Int) + 1) = (t.getD k 0 == 1) := by
      unfold holdsR; rw [if_neg (by omega), show ((k : Int) + 1 - 1).toNat = k by omega]
    rw [this]
    rcases h2.get (k := k) (by omega) with e | e <;> rw [e] <;> simp
theorem addF_bd {y t : List Int} {m : Int} (hb : bin t) (hy : ∀ k, 0 ≤ y.getD k 0 ∧ y.getD k 0 ≤ m) (hm : 0 ≤ m) {i : Nat} (hi : i ≤ y.length) (ht : i ≤ t.length) (k : Nat) : 0 ≤ (addF y t i).getD k 0 ∧ (addF y t i).getD k 0 ≤ m + 1 := by
  rw [addF_get y t i hi]
  have := hy k
  by_cases e : k < i
  · rw [if_pos e]
    have := hb.get (k := k) (by omega)
    omega
  · rw [if_neg e]; omega
theorem yesP_bd {n : Nat} (hn : n ≤ 12) (l : List (List Int)) : (∀ t ∈ l, t.length = n ∧ bin t) → ∀ k, 0 ≤ (yesP l).getD k 0 ∧ (yesP l).getD k 0 ≤ l.length := by
  refine snoc_ind (P := fun l => (∀ t ∈ l, t.length = n ∧ bin t) → ∀ k, 0 ≤ (yesP l).getD k 0 ∧ (yesP l).getD k 0 ≤ l.length) ?_ ?_ l
  · intro _ k
    have : (List.replicate 12 (0 : Int)).getD k 0 = 0 := by
      by_cases h : k < 12
      · rw [getD_nat _ (by rw [List.length_replicate]; omega), List.getElem_replicate]
      · rw [List.getD_eq_getElem?_getD, List.getElem?_eq_none (by rw [List.length_replicate]; omega)]; rfl
    show 0 ≤ (List.replicate 12 (0 : Int)).getD k 0 ∧ (List.replicate 12 (0 : Int)).getD k 0 ≤ 0
    rw [this]; omega
  · intro l t ih h k
    have hi := ih fun t ht => h t (List.mem_append_left _ ht)
    obtain ⟨h1, h2⟩ := h t (by simp)
    have hl := (yesP_ok hn l fun t ht => h t (List.mem_append_left _ ht)).1
    have := addF_bd h2 hi (by omega) (i := t.length) (by omega) (Nat.le_refl _) k
    rw [yesP_snoc, List.length_append]
    simpa using this
theorem mem_getD {y : List Int} {x : Int} (h : x ∈ y) : ∃ k, x = y.getD k 0 := by
  obtain ⟨k, hk, rfl⟩ := List.mem_iff_getElem.1 h
  exact ⟨k, (getD_nat y hk 0).symm⟩
def intsF (n : Nat) : List Int := (List.range n).map fun k : Nat => (k : Int)
theorem intsF_succ (n : Nat) : intsF (n + 1) = intsF n ++ [(n : Int)] := by unfold intsF; rw [List.range_succ]; simp
theorem intsF_len (n : Nat) : (intsF n).length = n := by simp [intsF]
theorem intsF_mem {n : Nat} {x : Int} (h : x ∈ intsF n) : ∃ k : Nat, k < n ∧ x = k := by
  obtain ⟨k, hk, rfl⟩ := List.mem_map.1 h
  exact ⟨k, List.mem_range.1 hk, rfl⟩
def intsR (m : Nat) : List Int := (List.range m).map fun k : Nat => ((k + 1 : Nat) : Int)
theorem intsR_succ (n : Nat) : intsR (n + 1) = intsR n ++ [((n + 1 : Nat) : Int)] := by unfold intsR; rw [List.range_succ]; simp
theorem intsF_cons (m : Nat) : intsF (m + 1) = 0 :: intsR m := by
  unfold intsF intsR; rw [List.range_succ_eq_map]; simp
theorem ask_link (all : List (List Int)) (g : Int → Int) (n : Nat) (hg : ∀ k : Nat, k < n → g k = askW all k) : ∀ m, m + 1 ≤ n → askF all (m + 1) = (leastG g 0 (intsR m), g (leastG g 0 (intsR m)))
  | 0, h => by
    have h0 := hg 0 (by omega)
    have hle := manyS_le all (((0 : Nat) : Int) + 1)
    rw [askF, askF, if_pos]
    · show (((0 : Nat) : Int), askW all 0) = ((0 : Int), g 0)
      rw [← h0]; rfl
    · show askW all 0 < (all.length : Int) + 1
      unfold askW; omega
  | m + 1, h => by
    rw [askF, ask_link all g n hg m (by omega), intsR_succ, leastG_snoc, ← hg (m + 1) (by omega)]
    dsimp only
    by_cases e : g ((m + 1 : Nat) : Int) < g (leastG g 0 (intsR m))
    · rw [if_pos e, if_pos e]
    · rw [if_neg e, if_neg e]
end Go.Proofs.Ytdmfofjaknngnaa

namespace Go.Proofs.Ytdmfofjaknngnaa
open Go Go.RowKit Ox Ox.Two
attribute [local irreducible] JC JL JK JW

abbrev arT : Ty := .arr 12 (.int .i64)
def K35 (a b : Code) (n : Int) (ev : List evD) (y : List Int) (c : Nat) : List (Nat × HO) :=
  [(4, .fr 0 [(62, .lf (.yld 3)), (1, .lf (.optr 0 [])), (7, .lf (.optr 1 [])), (8, .lf (.optr 2 []))]), (3, .loop .ready none #[27] a b 62 [(1, .lf (.optr 0 [])), (7, .lf (.optr 1 [])), (8, .lf (.optr 2 []))]), (0, .cell caT (vC n ev)), (1, .cell arT (.val arT y)), (2, .cell (.int .i64) (vI c))]
set_option maxRecDepth 8000 in
theorem fn35 (n : Int) (ev : List evD) : Ox.Fn Go.Proofs.Try.prog 35 (.acons (vC n ev) .anil) (· = vT3 (if needErr n ev ≠ 0 then 0 else (askF (trL ev n.toNat) n.toNat).1) (if needErr n ev ≠ 0 then 0 else (askF (trL ev n.toNat) n.toNat).2) (needErr n ev)) := by
  refine Ox.Fn.intro xok Go.Proofs.Try.func35 rfl Go.Proofs.Try.call35 (Nat.le_of_ble_eq_true rfl) (fun E M0 up => ?_)
  refine JK.start ?_
  by_cases he : needErr n ev = 0
  · obtain ⟨N, rfl, q1, q2, q3, q4, h0, hne⟩ := need_cast he
    have c1 := fn64ok N ev 0 (by rw [fair_need]; exact he)
    have hd := (deskT_way (ev := ev) (n := N) q4 q2).1.ok
    rw [if_neg (fun h => h he), if_neg (fun h => h he), he, Int.toNat_natCast]
    have htr := desk_truths q4 q2
    have hrow : ∀ t ∈ trL ev N, t.length = N ∧ bin t := fun t ht => ⟨(mem_trL.1 ht).1, (mem_trL.1 ht).2.1⟩
    have hall := trL_len ev q2
    generalize deskT ev N = T at c1 htr hd ⊢
    generalize trL ev N = all at htr hrow hne hall ⊢
    (repeat (first | refine zs rfl ?_ | refine zg rfl rfl rfl ?_ | refine zd ?_ | refine JK.fin ?_ | refine JK.ret ?_ | refine zc rfl (c1) rfl rfl ?_ | refine ze rfl (c1) rfl ?_ | refine zk rfl rfl (fun _ => c1) rfl rfl ?_))
    refine JK.cond rfl (fun hc => by cases hc) (fun _ => ?_)
    (repeat (first | refine zs rfl ?_ | refine zg rfl rfl rfl ?_ | refine zd ?_ | refine JK.fin ?_ | refine JK.ret ?_ | refine zc rfl (fn72 N ev T) rfl rfl ?_ | refine ze rfl (fn72 N ev T) rfl ?_ | refine zk rfl rfl (fun _ => fn72 N ev T) rfl rfl ?_))
    refine JK.rangeG [1, 7, 8] rfl rfl rfl Go.Proofs.Try.func93 rfl Go.Proofs.Try.call93 (Nat.le_of_ble_eq_true rfl) trivial fun M2 up2 a0 b0 ha0 hb0 => ?_
    refine JK.weak (s' := ⟨[(0, .lf (.yld 3)), (1, ppDe N ev T)], K35 a0 b0 N ev (yesP []) 0, 100⟩) (by (exact JW.Auto (by conv => lhs; reduce))) ?_
    refine tr_it (Mx := M2) (nX := 62) (rdX := none) 0 62 (by simp) N ev T q2 hd true (fun pre => K35 a0 b0 N ev (yesP pre) pre.length) ?_ (by omega) ?_ ?_ ?_
    · intro pre; (repeat' (first | exact trivial | exact rfl | refine And.intro ?_ ?_ | exact Nat.le_of_ble_eq_true rfl | refine HO.bdF ?_ | refine HO.bdP ?_ | (refine congrArg (fun z : Int => some (AV.val (.int .i64) z)) ?_; push_cast; omega)))
    · intro pre; exact ⟨4, _, rfl, rfl⟩
    · intro pre z post hp _
      rw [htr] at hp
      have hpl : pre.length + (post.length + 1) ≤ 4096 := by rw [hp] at hall; simpa using hall
      have hpr : ∀ t ∈ pre, t.length = N ∧ bin t := fun t ht => hrow t (by rw [hp]; exact List.mem_append_left _ ht)
      have hz := hrow z (by rw [hp]; simp)
      have hyl := (yesP_ok q2 pre hpr).1
      have hyb := yesP_bd q2 pre hpr
      have hsn := yesP_snoc pre z
      generalize yesP pre = y at hyl hyb hsn ⊢
      refine YO.intro 0 62 (ps := #[27]) (assign := a0) (body := b0) (nO := 62) (LO := [(1, .lf (.optr 0 [])), (7, .lf (.optr 1 [])), (8, .lf (.optr 2 []))]) (L0 := [(27, vL z), (1, .lf (.optr 0 [])), (7, .lf (.optr 1 [])), (8, .lf (.optr 2 []))]) rfl rfl rfl ⟨4, _, rfl, rfl⟩ ⟨4, _, rfl, rfl⟩ fun M3 M4 up4 bl hup => JK.start (JK.codeEq ha0 ?_)
      (repeat (first | refine zs rfl ?_ | refine zg rfl rfl rfl ?_ | refine zd ?_ | refine JK.fin ?_ | refine JK.ret ?_))
      refine JK.done (asgQ.nor rfl rfl rfl rfl (JK.start (JK.codeEq hb0 ?_)))
      (repeat (first | refine zs rfl ?_ | refine zg rfl rfl rfl ?_ | refine zd ?_ | refine JK.fin ?_ | refine JK.ret ?_))
      refine JK.loop (fun i : Nat => ⟨[(1, .lf (.optr 0 [])), (7, .lf (.optr 1 [])), (8, .lf (.optr 2 [])), (30, vL z), (31, vI z.length), (32, vI (i : Int))], [(100, .fr 1 [(62, .lf (.yld 3))]), (4, .fr 0 [(62, .lf (.yld 3)), (1, .lf (.optr 0 [])), (7, .lf (.optr 1 [])), (8, .lf (.optr 2 []))]), (3, .loop .busy none #[27] a0 b0 62 [(1, .lf (.optr 0 [])), (7, .lf (.optr 1 [])), (8, .lf (.optr 2 []))]), (0, .cell caT (vC N ev)), (1, .cell arT (.val arT (addF y z i))), (2, .cell (.int .i64) (vI ((pre.length + 1 : Nat) : Int)))], 101⟩) (fun i => i ≤ z.length) (fun i => z.length - i) 0 (Nat.zero_le _) (by (exact JW.Auto (by conv => lhs; reduce))) fun i hi => ?_
      have hal := addF_len y z i
      have hab := addF_bd hz.2 hyb (by omega) (i := i) (by omega) hi i
      have han : addF y z (i + 1) = (addF y z i).set i ((addF y z i).getD i 0 + z.getD i 0) := rfl
      have haz : i = z.length → addF y z i = yesP (pre ++ [z]) := fun e => by rw [hsn, e]
      generalize addF y z i = A at hal hab han haz ⊢
      (repeat (first | refine zs rfl ?_ | refine zg rfl rfl rfl ?_ | refine zd ?_ | refine JK.fin ?_ | refine JK.ret ?_))
      refine JK.cond rfl (fun hc => ?_) (fun hc => ?_)
      · (simp only [↓bif_or, ↓bif_and, ↓Bool.or_eq_true, ↓Bool.or_eq_false_iff, ↓Bool.and_eq_true, ↓Bool.and_eq_false_iff, ↓Bool.not_eq_true', ↓Bool.not_eq_false', ↓decide_eq_true_eq, ↓decide_eq_false_iff_not, ↓beq_iff_eq, ↓bne_iff_ne, ↓bne_eq_false_iff_eq, ↓ne_eq, ↓beq_eq_false_iff_ne, ↓Bool.not_eq_true] at hc; try simp only [Ty.dflt, Int.toNat_natCast] at hc)
        have hi' : i < z.length := by omega
        have hzb := hz.2.get hi'
        (repeat (first | refine zs rfl ?_ | refine zg rfl rfl rfl ?_ | refine zd ?_ | refine JK.fin ?_ | refine JK.ret ?_))
        refine ⟨i + 1, ?_, by omega, by omega⟩
        rw [han]
        (exact JW.Auto (by conv => lhs; reduce))
      · (simp only [↓bif_or, ↓bif_and, ↓Bool.or_eq_true, ↓Bool.or_eq_false_iff, ↓Bool.and_eq_true, ↓Bool.and_eq_false_iff, ↓Bool.not_eq_true', ↓Bool.not_eq_false', ↓decide_eq_true_eq, ↓decide_eq_false_iff_not, ↓beq_iff_eq, ↓bne_iff_ne, ↓bne_eq_false_iff_eq, ↓ne_eq, ↓beq_eq_false_iff_ne, ↓Bool.not_eq_true] at hc; try simp only [Ty.dflt, Int.toNat_natCast] at hc)
        rw [haz (by omega)]
        (repeat (first | refine zs rfl ?_ | refine zg rfl rfl rfl ?_ | refine zd ?_ | refine JK.fin ?_ | refine JK.ret ?_))
        refine JK.done (bodyQ.of rfl rfl rfl rfl rfl rfl ⟨rfl, ?_⟩)
        show JW _ ⟨[], K35 a0 b0 N ev (yesP (pre ++ [z])) (pre ++ [z]).length, 100⟩ _
        rw [show (pre ++ [z]).length = pre.length + 1 by simp]
        (exact JW.Auto (by conv => lhs; reduce))
    · intro L
      rw [htr]
      show rngQ _ _ _ _ ⟨L, K35 a0 b0 N ev (yesP all) all.length, 100⟩
      refine rngQ.of (.inr rfl) rfl rfl rfl rfl rfl rfl rfl (endJ.kn ?_)
      (repeat (first | refine zs rfl ?_ | refine zg rfl rfl rfl ?_ | refine zd ?_ | refine JK.fin ?_ | refine JK.ret ?_))
      have hyl := (yesP_ok q2 all hrow).1
      have hyb := yesP_bd q2 all hrow
      have hyk := (yesP_ok q2 all hrow).2
      generalize yesP all = y at hyl hyb hyk ⊢
      have hyx : ∀ x ∈ y, 0 ≤ x ∧ x ≤ 5000 := fun x hx => by
        obtain ⟨k, rfl⟩ := mem_getD hx
        have := hyb k
        omega
      obtain ⟨m, rfl⟩ : ∃ m, N = m + 1 := ⟨N - 1, by omega⟩
      have hg : ∀ x ∈ (0 : Int) :: intsR m, Ox.Fn Go.Proofs.Try.prog 73 (.acons (vI x) (.acons (pA y) (.acons (pI all.length) .anil))) (· = vI (Max.max (y.getD x.toNat 0) ((all.length : Int) - y.getD x.toNat 0))) := fun x hx => by
        rw [← intsF_cons] at hx
        obtain ⟨k, hk, rfl⟩ := intsF_mem hx
        exact fn73 k y all.length (by omega) hyl hyx ⟨by omega, by omega⟩
      have c2 := fn74 y all.length 0 (intsR m) _ hg
      have hlk := ask_link all (fun x : Int => Max.max (y.getD x.toNat 0) ((all.length : Int) - y.getD x.toNat 0)) (m + 1) (fun k hk => by
        rw [Int.toNat_natCast, hyk k hk]; rfl) m (Nat.le_refl _)
      have hmm : leastG (fun x : Int => Max.max (y.getD x.toNat 0) ((all.length : Int) - y.getD x.toNat 0)) 0 (intsR m) ∈ (0 : Int) :: intsR m := by
        rcases leastG_mem (fun x : Int => Max.max (y.getD x.toNat 0) ((all.length : Int) - y.getD x.toNat 0)) (intsR m) 0 with e | e
        · rw [e]; exact List.mem_cons_self
        · exact List.mem_cons_of_mem _ e
      have c3 := hg _ hmm
      rw [hlk]
      generalize leastG (fun x : Int => Max.max (y.getD x.toNat 0) ((all.length : Int) - y.getD x.toNat 0)) 0 (intsR m) = at' at c2 c3 ⊢
      generalize Max.max (y.getD at'.toNat 0) ((all.length : Int) - y.getD at'.toNat 0) = w' at c3 ⊢
      refine JK.ghost 13 3 (.int .i64) rfl ?_
      refine JK.loop (fun k : Nat => ⟨[(1, .lf (.optr 0 [])), (12, .fn 73 .anil (.acons (.lf (.optr 1 [])) (.acons (.lf (.optr 2 [])) .anil))), (13, .lf (.osl 3)), (46, vI ((m + 1 : Nat) : Int)), (47, vI (k : Int))],
        [(0, .cell caT (vC ((m + 1 : Nat) : Int) ev)), (1, .cell arT (.val arT y)), (2, .cell (.int .i64) (vI all.length)), (3, .sl 3 (.int .i64) (intsF k))], 4⟩) (fun k => k ≤ m + 1) (fun k => m + 1 - k) 0 (Nat.zero_le _) (by (exact JW.Auto (by conv => lhs; reduce))) fun k hk => ?_
      have hil := intsF_len k
      have hin := intsF_succ k
      have hie : k = m + 1 → intsF k = 0 :: intsR m := fun e => by rw [e, intsF_cons]
      generalize intsF k = il at hil hin hie ⊢
      (repeat (first | refine zs rfl ?_ | refine zg rfl rfl rfl ?_ | refine zd ?_ | refine JK.fin ?_ | refine JK.ret ?_))
      refine JK.cond rfl (fun hc => ?_) (fun hc => ?_)
      · (simp only [↓bif_or, ↓bif_and, ↓Bool.or_eq_true, ↓Bool.or_eq_false_iff, ↓Bool.and_eq_true, ↓Bool.and_eq_false_iff, ↓Bool.not_eq_true', ↓Bool.not_eq_false', ↓decide_eq_true_eq, ↓decide_eq_false_iff_not, ↓beq_iff_eq, ↓bne_iff_ne, ↓bne_eq_false_iff_eq, ↓ne_eq, ↓beq_eq_false_iff_ne, ↓Bool.not_eq_true] at hc; try simp only [Ty.dflt, Int.toNat_natCast] at hc)
        (repeat (first | refine zs rfl ?_ | refine zg rfl rfl rfl ?_ | refine zd ?_ | refine JK.fin ?_ | refine JK.ret ?_))
        refine ⟨k + 1, ?_, by omega, by omega⟩
        rw [hin]
        (exact JW.Auto (by conv => lhs; reduce))
      · (simp only [↓bif_or, ↓bif_and, ↓Bool.or_eq_true, ↓Bool.or_eq_false_iff, ↓Bool.and_eq_true, ↓Bool.and_eq_false_iff, ↓Bool.not_eq_true', ↓Bool.not_eq_false', ↓decide_eq_true_eq, ↓decide_eq_false_iff_not, ↓beq_iff_eq, ↓bne_iff_ne, ↓bne_eq_false_iff_eq, ↓ne_eq, ↓beq_eq_false_iff_ne, ↓Bool.not_eq_true] at hc; try simp only [Ty.dflt, Int.toNat_natCast] at hc)
        rw [hie (by omega)]
        (repeat (first | refine zs rfl ?_ | refine zg rfl rfl rfl ?_ | refine zd ?_ | refine JK.fin ?_ | refine JK.ret ?_ | refine zc rfl (c2) rfl rfl ?_ | refine ze rfl (c2) rfl ?_ | refine zk rfl rfl (fun _ => c2) rfl rfl ?_ | refine zc rfl (c3) rfl rfl ?_ | refine ze rfl (c3) rfl ?_ | refine zk rfl rfl (fun _ => c3) rfl rfl ?_))
        refine ⟨.inl rfl, _, _, rfl, trivial, ?_⟩
        rfl
  · have c1 := fn64no n ev 0 (by rw [fair_need]; exact he)
    rw [fair_need] at c1
    rw [if_pos he, if_pos he]
    generalize needErr n ev = e at he c1 ⊢
    (repeat (first | refine zs rfl ?_ | refine zg rfl rfl rfl ?_ | refine zd ?_ | refine JK.fin ?_ | refine JK.ret ?_ | refine zc rfl (c1) rfl rfl ?_ | refine ze rfl (c1) rfl ?_ | refine zk rfl rfl (fun _ => c1) rfl rfl ?_))
    refine JK.cond rfl (fun hc => ?_) (fun hc => ?_)
    · (repeat (first | refine zs rfl ?_ | refine zg rfl rfl rfl ?_ | refine zd ?_ | refine JK.fin ?_ | refine JK.ret ?_))
      refine ⟨.inl rfl, _, _, rfl, trivial, ?_⟩
      rfl
    · (simp only [↓bif_or, ↓bif_and, ↓Bool.or_eq_true, ↓Bool.or_eq_false_iff, ↓Bool.and_eq_true, ↓Bool.and_eq_false_iff, ↓Bool.not_eq_true', ↓Bool.not_eq_false', ↓decide_eq_true_eq, ↓decide_eq_false_iff_not, ↓beq_iff_eq, ↓bne_iff_ne, ↓bne_eq_false_iff_eq, ↓ne_eq, ↓beq_eq_false_iff_ne, ↓Bool.not_eq_true] at hc; try simp only [Ty.dflt, Int.toNat_natCast] at hc)
      exact absurd hc he
end Go.Proofs.Ytdmfofjaknngnaa

-- mps map113
namespace Go.Proofs.Ytdmfofjaknngnaa
open Go Go.RowKit Ox Ox.Two
attribute [local irreducible] JC JL JK JW
theorem map113 : mapB Go.Proofs.Try.prog 113 = true := by decide +kernel
set_option maxRecDepth 20000 in
theorem mpS : MapT Go.Proofs.Try.prog (.int .i64) stT 113 3 65 := .of (by rfl) (by decide +kernel)
abbrev EnS := Ent (.int .i64) stT
/-- The entries of a map that are a list of what is found. -/
def prj (es : List EnS) : List (Int × stD) := es.map fun e => (e.1, e.2.1)
structure Rl (es : List EnS) (clk : Nat) (by_ : List (Int × stD)) : Prop where
  wf : MWF es clk
  eq : prj es = by_
theorem Rl.has {es : List EnS} {clk : Nat} {by_ : List (Int × stD)} (h : Rl es clk by_) (x : Int) : mHas es x = hasA by_ x ∧ mGet es x stT.dflt = (getA by_ x).getD (st0 0) := by
  by_cases hx : ∃ e ∈ es, e.1 = x
  · obtain ⟨e, he, rfl⟩ := hx
    have hm : (e.1, e.2.1) ∈ by_ := by rw [← h.eq]; exact List.mem_map.2 ⟨e, he, rfl⟩
    have hh : hasA by_ e.1 = true := mem_keys.1 (List.mem_map.2 ⟨_, hm, rfl⟩)
    obtain ⟨z, hz⟩ := hasA_iff.1 hh
    have hz2 := getA_mem hz
    rw [← h.eq] at hz2
    obtain ⟨e', he', hee⟩ := List.mem_map.1 hz2
    have : e' = e := h.wf.eq he' he (congrArg (fun p : Int × stD => p.1) hee)
    subst this
    refine ⟨?_, ?_⟩
    · rw [hh]
      unfold mHas
      cases hi : mIdx es e'.1 with
      | none => exact absurd rfl (mIdx_none.1 hi e' he')
      | some j => rfl
    · rw [mGet_mem h.wf he', hz]; exact congrArg (fun p : Int × stD => p.2) hee
  · have hx' : ∀ e ∈ es, e.1 ≠ x := fun e he k => hx ⟨e, he, k⟩
    have hh : hasA by_ x = false := by
      cases hb : hasA by_ x with
      | false => rfl
      | true =>
        obtain ⟨z, hz⟩ := hasA_iff.1 hb
        have := getA_mem hz
        rw [← h.eq] at this
        obtain ⟨e, he, hee⟩ := List.mem_map.1 this
        exact absurd (congrArg (fun p : Int × stD => p.1) hee) (hx' e he)
    have hn : getA by_ x = none := by
      cases hg : getA by_ x with
      | none => rfl
      | some z => rw [hasA_iff.2 ⟨z, hg⟩] at hh; cases hh
    refine ⟨?_, ?_⟩
    · rw [hh]; unfold mHas; rw [mIdx_none.2 hx']; rfl
    · rw [mGet_not hx', hn]; rfl
theorem Rl.put {es : List EnS} {clk : Nat} {by_ : List (Int × stD)} (h : Rl es clk by_) {x : Int} (hx : hasA by_ x = false) (z : stD) : Rl (mPut es clk x z) (mClk es clk x) (by_ ++ [(x, z)]) := by
  refine ⟨h.wf.put, ?_⟩
  have hn : mIdx es x = none := by
    have := (h.has x).1
    rw [hx] at this
    unfold mHas at this
    cases hi : mIdx es x with
    | none => rfl
    | some j => rw [hi] at this; cases this
  unfold mPut prj
  rw [hn]
  show (es ++ [(x, z, clk)]).map _ = _
  rw [List.map_append, ← h.eq]; rfl
def mZ (l : List stD) (q : List EnS × Nat) : List EnS × Nat := l.foldl (fun q z => if mHas q.1 z.2.1 = true then q else (mPut q.1 q.2 z.2.1 z, mClk q.1 q.2 z.2.1)) q
theorem mZ_snoc (l : List stD) (z : stD) (q : List EnS × Nat) : mZ (l ++ [z]) q = if mHas (mZ l q).1 z.2.1 = true then mZ l q else (mPut (mZ l q).1 (mZ l q).2 z.2.1 z, mClk (mZ l q).1 (mZ l q).2 z.2.1) := by unfold mZ; rw [List.foldl_append]; rfl
theorem bfsZ_snoc (z : stD) : ∀ (l : List stD) (b : List (Int × stD)) (w : List Int), bfsZ (l ++ [z]) b w = if hasA (bfsZ l b w).1 z.2.1 = true then bfsZ l b w else ((bfsZ l b w).1 ++ [(z.2.1, z)], (bfsZ l b w).2 ++ [z.2.1])
  | [], b, w => by rw [List.nil_append, bfsZ, bfsZ, bfsZ, bfsZ]
  | y :: l, b, w => by
    rw [List.cons_append, bfsZ, bfsZ]
    by_cases h : hasA b y.2.1 = true
    · rw [if_pos h, if_pos h]; exact bfsZ_snoc z l b w
    · rw [if_neg h, if_neg h]; exact bfsZ_snoc z l _ _
theorem mZ_rl {es : List EnS} {clk : Nat} {b : List (Int × stD)} (h : Rl es clk b) (w : List Int) (l : List stD) : Rl (mZ l (es, clk)).1 (mZ l (es, clk)).2 (bfsZ l b w).1 := by
  refine snoc_ind (P := fun l => Rl (mZ l (es, clk)).1 (mZ l (es, clk)).2 (bfsZ l b w).1) h (fun l z ih => ?_) l
  rw [mZ_snoc, bfsZ_snoc, (ih.has z.2.1).1]
  by_cases hx : hasA (bfsZ l b w).1 z.2.1 = true
  · rw [if_pos hx, if_pos hx]; exact ih
  · rw [if_neg hx, if_neg hx]; exact ih.put (by simpa using hx) z
/-! Turned round. -/
def RevI (xs : List stD) (q : Nat × List stD) : Prop := q.2.length = xs.length ∧ 2 * q.1 ≤ xs.length + 1 ∧ ∀ p, p < xs.length → q.2.getD p (0, 0, 0, ()) = if p < q.1 ∨ xs.length ≤ p + q.1 then xs.getD (xs.length - 1 - p) (0, 0, 0, ()) else xs.getD p (0, 0, 0, ())
theorem RevI.begin (xs : List stD) : RevI xs (0, xs) := ⟨rfl, by omega, fun p hp => by rw [if_neg (by omega)]⟩
theorem getD_setD {l : List stD} {i k : Nat} (h : i < l.length) (x : stD) : (l.set i x).getD k (0, 0, 0, ()) = if k = i then x else l.getD k (0, 0, 0, ()) := by
  rw [List.getD_eq_getElem?_getD, List.getD_eq_getElem?_getD, List.getElem?_set]
  by_cases e : i = k
  · subst e; rw [if_pos rfl, if_pos rfl, if_pos h]; rfl
  · rw [if_neg e, if_neg (fun h => e h.symm)]
theorem RevI.step {xs : List stD} {k : Nat} {ys : List stD} (h : RevI xs (k, ys)) (hk : k + k + 1 < xs.length) :
    RevI xs (k + 1, (ys.set k (ys.getD (xs.length - 1 - k) (0, 0, 0, ()))).set (xs.length - 1 - k) (ys.getD k (0, 0, 0, ()))) := by
  obtain ⟨h1, h2, h3⟩ := h
  dsimp only at h1 h2 h3
  refine ⟨by simp [h1], by dsimp only; omega, fun p hp => ?_⟩
  dsimp only
  rw [getD_setD (by simp; omega), getD_setD (by omega), h3 k (by omega), h3 (xs.length - 1 - k) (by omega), h3 p hp]
  rw [if_neg (by omega : ¬ (k < k ∨ xs.length ≤ k + k)), if_neg (by omega : ¬ (xs.length - 1 - k < k ∨ xs.length ≤ xs.length - 1 - k + k))]
  by_cases e1 : p = xs.length - 1 - k
  · rw [if_pos e1, if_pos (by omega), show xs.length - 1 - p = k by omega]
  · rw [if_neg e1]
    by_cases e2 : p = k
    · rw [if_pos e2, if_pos (by omega), e2]
    · rw [if_neg e2]
      by_cases e3 : p < k ∨ xs.length ≤ p + k
      · rw [if_pos e3, if_pos (by omega)]
      · rw [if_neg e3, if_neg (by omega)]
theorem RevI.done {xs : List stD} {k : Nat} {ys : List stD} (h : RevI xs (k, ys)) (hk : ¬ k + k + 1 < xs.length) : ys = xs.reverse := by
  obtain ⟨h1, h2, h3⟩ := h
  dsimp only at h1 h2 h3
  refine List.ext_getElem (by simpa using h1) fun p hp1 hp2 => ?_
  have := h3 p (by omega)
  rw [getD_nat ys hp1] at this
  rw [this, List.getElem_reverse]
  by_cases e : p < k ∨ xs.length ≤ p + k
  · rw [if_pos e, getD_nat xs (by omega)]
  · rw [if_neg e, getD_nat xs (by omega)]
    congr 1; omega
end Go.Proofs.Ytdmfofjaknngnaa

namespace Ox
open Go Go.RowKit
variable {X : Ctx} {s : S} {M : Mem} {ρ : Env} {a : Act} {w w' : World} {QA : Exit → S → Prop} {all l : List Oper} {o : Oper}

structure FnRow (P : Program) (f : FuncId) (args : AV) (eid : TypeId) (e : Ty) (xs : List e.den) : Prop where
  call : ∀ az w, (callFunc f az).run P w = .ok (.enter f az) w
  run : ∀ M ρ w vs, MemIn M w → args.rvs M ρ vs → args.bd 0 → Calls P f vs.toArray w fun en w' => ∃ v cs M', en = Ending.returned v ∧ w'.ownsRow w.heap.size eid e.size v xs.length cs ∧ RL M' e xs cs ∧ Below w.heap.size w w' ∧ M.le M' ∧ MemIn M' w' ∧ (∀ b, b < w.heap.size → M' b = M b) ∧ ∀ b, v.ownBlock = some b → M' b = none

/-- What is asked at the end of such a body. -/
def rowQ (fn : Func) (eid : TypeId) (e : Ty) (xs : List e.den) (ex : Exit) (s : S) : Prop :=
  (ex = .ret ∨ ex = .normal) ∧ ∃ d m, fn.results.toList = [.tmp d] ∧ lk s.L d = some (.lf (.osl m)) ∧ lk s.H m = some (.sl eid e xs)

theorem FnRow.intro {P : Program} {T : List (Nat × Ty)} {ET : List (Nat × Nat)} {MT : List (Nat × (Nat × Nat))} {f : FuncId} {fn : Func} {c : Code} {args : AV} {eid : TypeId} {e : Ty} {xs : List e.den} (hf : P.funcs[f]? = some fn) (hb : fn.body = some c)
    (hcall : ∀ az w, (callFunc f az).run P w = .ok (.enter f az) w) (hn : argN args ≤ fn.ntmps) (h : ∀ E M0 up, JC ⟨P, T, ET, MT, E, M0, fn.ntmps, none, up, 0⟩ c (rowQ fn eid e xs) ⟨argL args 0, [], 0⟩) : FnRow P f args eid e xs := by
  refine ⟨hcall, fun M ρ w vs hM hvs hbd => (callsIn_wide (n := 0)).1 (callsIn_of_wp_marks hf hb trivial ?_ rfl)⟩
  let up0 : Nat → Nat → Value := fun _ _ => Go.undef
  have hsat : SAT ⟨P, T, ET, MT, w, M, fn.ntmps, none, up0, 0⟩ M ρ ⟨argL args 0, [], 0⟩ w :=
    ⟨Below.refl _ _, fun _ _ h => h, fun _ _ => rfl, hM, fun l o h => by simp [lk] at h, fun l l' o o' b h => by simp [lk] at h, fun l o b h => by simp [lk] at h⟩
  have hreg : REG ⟨P, T, ET, MT, w, M, fn.ntmps, none, up0, 0⟩ M ρ ⟨argL args 0, [], 0⟩ { tmps := vs.toArray ++ Array.replicate (fn.ntmps - vs.toArray.size) Go.undef, defers := [] } := REG.args hvs hbd rfl hn
  refine wpIn_mono (h w M up0 M ρ _ w hsat hreg) ?_
  rintro ex a1 w1 ⟨M2, ρ1, s1, k1', k2', hex, d, m, hr1, hr2, hr3⟩
  obtain ⟨Ds, hds, hnd, hDs, _⟩ := k2'.defers
  have fin : LeavesInM Fence.wide 0 P fn a1.tmps (fun en w' => ∃ v cs M', en = Ending.returned v ∧ w'.ownsRow w.heap.size eid e.size v xs.length cs ∧ RL M' e xs cs ∧ Below w.heap.size w w' ∧ M.le M' ∧ MemIn M' w' ∧ (∀ b, b < w.heap.size → M' b = M b) ∧ ∀ b, v.ownBlock = some b → M' b = none) a1.defers .returning w1 := by
    rw [hds]
    refine takeAll hnd (fun D hD => k1'.mem _ _ (hDs D hD).2) fun w' hbel hkeep => ?_
    obtain ⟨hle, k1⟩ := k1'.taken (fun D hD => by
      show M D = none
      cases hMD : M D with
      | none => rfl
      | some o => have h1 := (Array.getElem?_eq_some_iff.1 (hM D o hMD)).1; have h2 : w.heap.size ≤ D := (hDs D hD).1; omega) hDs hbel hkeep
    have hown := (k1.own m _ hr3).2.2
    simp only [HO.ok] at hown
    obtain ⟨_, cs, hrow, hrl⟩ := hown
    have hv := (k2'.reg d _ hr2).2
    rw [rv_lf] at hv
    simp only [Leaf.at, Option.some.injEq] at hv
    refine ⟨ρ1.sv m, ?_, ρ1.sv m, cs, M2.without Ds, rfl, hrow, hrl, k1.below, fun b c ty fz hm => k1.msub b _ hm, k1.mem, fun b hlt => k1.mnew b hlt, fun b hb => k1.notM m _ b hr3 hb⟩
    have hrs : (fn.results.toList.mapM (resOne a1.tmps)).run P w' = .ok [ρ1.sv m] w' := by
      rw [hr1]
      simp only [List.mapM_cons, List.mapM_nil, resOne, Sem.run_bind, Sem.run_pure, Result.andThen_ok, hv.1]
    have := results_run hrs
    simpa using this
  rcases hex with rfl | rfl
  · exact fin
  · exact fin

/-- Such a call. -/
theorem JL.callRow {cs : List Prop} {f : FuncId} {args : AV} {eid : TypeId} {e : Ty} {xs : List e.den} (hg : o.guard = none) (h : callA X.T o.op ⟨s.L, [], s.nx⟩ = some (cs, f, args)) (hf : FnRow X.P f args eid e xs) (hd : dstOk X.n o.dst) (hc : allP cs)
    (k : JL X true all QA l (putS o.dst (.lf (.osl s.nx)) ⟨s.L, (s.nx, .sl eid e xs) :: s.H, s.nx + 1⟩)) : JL X true all QA (o :: l) s := by
  intro M ρ a w h1 h2
  have h1' : SAT X M ρ ⟨s.L, [], s.nx⟩ w := ⟨h1.below, h1.msub, h1.mnew, h1.mem, fun l o h => by simp [lk] at h, fun l l' o o' b h => by simp [lk] at h, fun l o b h => by simp [lk] at h⟩
  have h2' : REG X M ρ ⟨s.L, [], s.nx⟩ a := ⟨h2.size, h2.defers, h2.reg⟩
  obtain ⟨hb, vs, hvs, hrun⟩ := callA_sound h1' (Mx := M) ⟨Mem.le_refl M, fun l o b h => by simp [lk] at h⟩ h2' h hc
  refine wpListIn_w (wanted_none hg) (wpIn_enter (callA_nd h) (by rw [hrun, hf.call]) (hf.run M ρ w vs h1.mem hvs hb) ?_)
  rintro en w' ⟨v, cs', M', rfl, hrow, hrl, hbl, hm, hin, hnew, hno⟩
  have h3 := h1.ext hbl hm hin hnew
  have hv1 : v.oneCell' = true := by rcases hrow.2 with ⟨e1, _⟩ | ⟨g, cap, cur, e1, _⟩ <;> rw [e1] <;> rfl
  have hge : ∀ b, v.ownBlock = some b → w.heap.size ≤ b := fun b hb => by
    rcases hrow.2 with ⟨e1, _⟩ | ⟨g, cap, cur, e1, e2, _⟩
    · rw [e1] at hb; cases hb
    · rw [e1] at hb
      simp only [Value.ownBlock, Option.some.injEq] at hb
      subst hb; exact e2
  have h5 : SAT X M' (ρ.with s.nx 0 e v) ⟨s.L, (s.nx, .sl eid e xs) :: s.H, s.nx + 1⟩ w' := by
    refine h3.add (row := none) ⟨rfl, rfl, rfl, Nat.le_refl _, fun _ _ _ => rfl⟩ (fun b hb => by cases hb) (fun l o hl => ⟨hl, fun b _ e => by cases e⟩) (Env.with_upTo _ _ _ _ _) trivial ?_ ?_
    · simp only [HO.ok, Env.with, if_true]
      refine ⟨trivial, cs', ⟨hrow.1, ?_⟩, hrl⟩
      rcases hrow.2 with e1 | ⟨g, cap, cur, e1, e2, e3⟩
      · exact .inl e1
      · exact .inr ⟨g, cap, cur, e1, Nat.le_trans h1.below.size e2, e3⟩
    · intro b hbb
      simp only [HO.at, Env.with, if_true] at hbb
      refine ⟨hno b hbb, fun l o1 hl hat => ?_⟩
      have := (HO.at_lt (h1.own l o1 hl).2.2 hat).2
      have := hge b hbb
      omega
  have h4 : REG X M' (ρ.with s.nx 0 e v) ⟨s.L, (s.nx, .sl eid e xs) :: s.H, s.nx + 1⟩ a := h2.grow hm (Env.with_upTo _ _ _ _ _) (Nat.le_succ _) fun D hD => by rw [hnew D (Array.getElem?_eq_some_iff.1 (h1.mem _ _ hD)).1]; exact hD
  refine ⟨_, rfl, k M' _ _ w' (putS_sat h5) (h4.putO hd.spec (Nat.lt_succ_self _) ?_)⟩
  rw [rv_lf]
  exact ⟨by simp [Leaf.at, Env.with], hv1⟩
theorem JK.callRow {r : List Fr} {L : List (Nat × AV)} {H : List (Nat × HO)} {nx d : Nat} {op : Op} {ty : TypeId} {ps : String} {af : Array Edge} {cs : List Prop} {f : FuncId} {args : AV} {eid : TypeId} {e : Ty} {xs : List e.den} (h : callA X.T op ⟨L, [], nx⟩ = some (cs, f, args)) (hf : FnRow X.P f args eid e xs) (hd : ltB d X.n = true) (hc : allP cs)
    (k : JK X (.ops true all l :: r) QA ⟨(d, .lf (.osl nx)) :: L, (nx, .sl eid e xs) :: H, nx + 1⟩) : JK X (.ops true all (⟨some d, op, ty, ps, af, none⟩ :: l) :: r) QA ⟨L, H, nx⟩ := JL.callRow (s := ⟨L, H, nx⟩) rfl h hf (ltB_lt hd) hc k
end Ox

-- mps map113
namespace Go.Proofs.Ytdmfofjaknngnaa
open Go Go.RowKit Ox Ox.Two
attribute [local irreducible] JC JL JK JW

theorem del_get {es : List EnS} {clk : Nat} (h : MWF es clk) {a x : Int} (hx : x ≠ a) : mGet (Ox.mDel es a) x stT.dflt = mGet es x stT.dflt := by
  by_cases hk : ∃ e ∈ es, e.1 = x
  · obtain ⟨e, he, rfl⟩ := hk
    rw [mGet_mem h he, mGet_mem h.del (mDel_mem h |>.2 ⟨he, hx⟩)]
  · have hk' : ∀ e ∈ es, e.1 ≠ x := fun e he k => hk ⟨e, he, k⟩
    rw [mGet_not hk', mGet_not fun e he => hk' e ((mDel_mem h).1 he).1]
theorem found_zero {n : Nat} {ev : List evD} {a x : Int} {es : List EnS} {clk : Nat} {by_ : List (Int × stD)} (hv : valid n ev) (hr : Rl es clk by_) (h : Two.Found n ev a by_) (ha : isSay n a) : stT.eqB (mGet es x stT.dflt) (0, 0, 0, ()) = !hasA by_ x := by
  obtain ⟨_, h2⟩ := hr.has x
  rw [h2]
  cases hx : hasA by_ x with
  | false =>
    have hn : getA by_ x = none := by
      cases hg : getA by_ x with
      | none => rfl
      | some z => rw [hasA_iff.2 ⟨z, hg⟩] at hx; cases hx
    rw [hn]
    exact Ty.eqB_iff.2 rfl
  | true =>
    obtain ⟨z, hz⟩ := hasA_iff.1 hx
    rw [hz]
    show stT.eqB z (0, 0, 0, ()) = false
    cases he : stT.eqB z (0, 0, 0, ()) with
    | false => rfl
    | true =>
      exfalso
      have he' : z = (0, 0, 0, ()) := Ty.eqB_iff.1 he
      rcases (h.node x z hz).2 with rfl | ⟨h3, _⟩
      · have := h.start
        rw [hz] at this
        injection this with this
        have h0 : z.1 = x := by rw [this]; rfl
        rw [he'] at h0
        exact ha.ne h0.symm
      · have := ((stepsL_step.2 ⟨z, h3, rfl⟩ : Step ev z.1 z.2.1).say hv).1
        rw [he'] at this
        exact this.ne rfl
theorem bfsZ_len : ∀ (l : List stD) (b : List (Int × stD)) (w : List Int), (bfsZ l b w).2.length ≤ w.length + l.length
  | [], b, w => by rw [bfsZ]; simp
  | z :: l, b, w => by
    rw [bfsZ]
    by_cases h : hasA b z.2.1 = true
    · rw [if_pos h]; have := bfsZ_len l b w; simp; omega
    · rw [if_neg h]; have := bfsZ_len l (b ++ [(z.2.1, z)]) (w ++ [z.2.1]); simp at this ⊢; omega
theorem stepsF_len (s : Int) : ∀ (l : List evD) (i : Nat), (stepsF s i l).length ≤ 2 * l.length
  | [], i => by simp [stepsF]
  | x :: l, i => by
    have := stepsF_len s l (i + 1)
    rw [stepsF, List.length_append, List.length_append, List.length_cons]
    have h1 : (if x.1 = -s then [(s, x.2.1, (i : Int), ())] else []).length ≤ 1 := by split <;> simp
    have h2 : (if x.2.1 = -s then [(s, x.1, (i : Int), ())] else []).length ≤ 1 := by split <;> simp
    omega
def K62 (c d : Code) (n : Int) (ev : List evD) (t : List Int) (a b : Int) (es : List EnS) (clk : Nat) (w : List Int) : List (Nat × HO) :=
  [(4, .fr 0 [(81, .lf (.yld 3)), (0, vDe n ev t), (1, vI a), (2, vI b), (7, .pfn (.lf (.mp 0))), (8, .lf (.optr 1 []))]), (3, .loop .ready none #[41] c d 81 [(0, vDe n ev t), (1, vI a), (2, vI b), (7, .pfn (.lf (.mp 0))), (8, .lf (.optr 1 []))]),
   (0, .map (.int .i64) stT es clk), (1, .cell (.slice (.int .i64)) (.lf (.osl 2))), (2, .cus (Qi 3 w))]
set_option maxRecDepth 8000 in
set_option maxHeartbeats 2000000 in
theorem fn62 (n : Nat) (ev : List evD) (t : List Int) (a b : Int) (hn : n ≤ 12) (hl : ev.length ≤ 40) (hv : valid n ev) (ha : isSay n a) (hb : isSay n b) (hr : Two.Reach ev a b) :
    Ox.FnRow Go.Proofs.Try.prog 62 (.acons (vDe n ev t) (.acons (vI a) (.acons (vI b) .anil))) 65 stT (chainS ev a b) := by
  refine Ox.FnRow.intro (T := tys) (ET := ets) (MT := mts) Go.Proofs.Try.func62 rfl Go.Proofs.Try.call62 (Nat.le_of_ble_eq_true rfl) (fun E M0 up => ?_)
  refine JK.start ?_
  (repeat (first | refine zs rfl ?_ | refine zg rfl rfl rfl ?_ | refine zd ?_ | refine JK.fin ?_ | refine JK.ret ?_ | refine zml mpS rfl rfl rfl rfl ?_ | refine zmo mpS rfl rfl rfl rfl ?_ | refine zmi mpS rfl rfl rfl rfl ?_ | refine zmu mpS rfl rfl rfl rfl ?_ | refine zmd mpS rfl rfl rfl ?_ | refine zmr mpS rfl rfl rfl ?_ | refine zmm mpS rfl ?_ | refine zlm map113 rfl rfl rfl ?_ | refine zdm map113 rfl rfl ?_ | refine zdn map113 rfl rfl rfl ?_ | refine zeq eqS rfl rfl rfl ?_ | refine zne eqS rfl rfl rfl ?_ | refine zeqg eqS rfl rfl rfl rfl ?_ | refine zneg eqS rfl rfl rfl rfl ?_))
  obtain ⟨B0, hB0⟩ : ∃ B, bfs ev b 60 [(a, st0 a)] [a] = B := ⟨_, rfl⟩
  refine JK.toQ 1 (eid := 3) (xs := [a]) rfl (by simp) ?_
  refine JK.loopE (σ := List EnS × Nat × List Int) (τ := List EnS × Nat) (fun q => ⟨[(0, vDe n ev t), (1, vI a), (2, vI b), (7, .pfn (.lf (.mp 0))), (8, .lf (.optr 1 []))], [(0, .map (.int .i64) stT q.1 q.2.1), (1, .cell (.slice (.int .i64)) (.lf (.osl 2))), (2, .cus (Qi 3 q.2.2))], 3⟩)
    (fun q => Rl q.1 q.2.1 (prj q.1) ∧ Btw n ev a (prj q.1) q.2.2 ∧ muB n (prj q.1) q.2.2 < 60 ∧ ∃ f, muB n (prj q.1) q.2.2 < f ∧ B0 = bfs ev b f (prj q.1) q.2.2) (fun q => muB n (prj q.1) q.2.2) ([(a, st0 a, 0)], 1, [a]) ?_ (by (exact JW.Auto (by conv => lhs; reduce)))
    (fun q => ⟨[(1, vI a), (2, vI b), (7, .pfn (.lf (.mp 0)))], [(0, .map (.int .i64) stT q.1 q.2)], 1⟩) (fun q => Rl q.1 q.2 (prj q.1) ∧ prj q.1 = B0) (fun q hq => ?_) (fun q hq => ?_)
  · refine ⟨⟨⟨fun e he => ?_, by simp, by simp⟩, rfl⟩, Btw.begin ha, ?_, 60, ?_, hB0.symm⟩
    · rw [List.mem_singleton.1 he]; exact Nat.zero_lt_one
    · show muB n [(a, st0 a)] [a] < 60
      unfold muB; simp; omega
    · show muB n [(a, st0 a)] [a] < 60
      unfold muB; simp; omega
  · obtain ⟨es, clk⟩ := q
    obtain ⟨hrl, hbf⟩ := hq
    dsimp only at hrl hbf
    have hfd : Two.Found n ev a B0 := by rw [← hB0]; exact (bfs_spec hv (to := b) 60 (Btw.begin (ev := ev) ha) (by unfold muB; simp; omega)).1
    have hrb : hasA B0 b = true := by rw [← hB0]; exact (bfs_spec hv (to := b) 60 (Btw.begin (ev := ev) ha) (by unfold muB; simp; omega)).2 hr
    have hch : chainS ev a b = (backA B0 a 60 b).reverse := by rw [← hB0]; rfl
    rw [hch]
    rw [← hbf] at hfd hrb ⊢
    have hget := fun x (hx : x ≠ a) => (del_get hrl.wf hx).trans (hrl.has x).2
    have hwf := hrl.wf
    clear hbf hB0 hch
    generalize prj es = by_ at hfd hrb hget ⊢
    (repeat (first | refine zs rfl ?_ | refine zg rfl rfl rfl ?_ | refine zd ?_ | refine JK.fin ?_ | refine JK.ret ?_ | refine zml mpS rfl rfl rfl rfl ?_ | refine zmo mpS rfl rfl rfl rfl ?_ | refine zmi mpS rfl rfl rfl rfl ?_ | refine zmu mpS rfl rfl rfl rfl ?_ | refine zmd mpS rfl rfl rfl ?_ | refine zmr mpS rfl rfl rfl ?_ | refine zmm mpS rfl ?_ | refine zlm map113 rfl rfl rfl ?_ | refine zdm map113 rfl rfl ?_ | refine zdn map113 rfl rfl rfl ?_ | refine zeq eqS rfl rfl rfl ?_ | refine zne eqS rfl rfl rfl ?_ | refine zeqg eqS rfl rfl rfl rfl ?_ | refine zneg eqS rfl rfl rfl rfl ?_))
    generalize Ox.mDel es a = em at hget ⊢
    refine JK.ghost 13 65 stT rfl ?_
    obtain ⟨k0, hk0⟩ := hfd.dist hrb
    have hk60 := hk0.lt hv ha
    refine JK.loop (σ := Int × List stD × Nat) (fun q => ⟨[(1, vI a), (7, .pfn (.lf (.mp 0))), (13, .lf (.osl 1)), (14, vI q.1)], [(0, .map (.int .i64) stT em clk), (1, .sl 65 stT q.2.1)], 2⟩)
      (fun q => Dist ev a q.2.2 q.1 ∧ hasA by_ q.1 = true ∧ q.2.1.length + q.2.2 < 60 ∧ backA by_ a 60 b = q.2.1 ++ backA by_ a (60 - q.2.1.length) q.1) (fun q => q.2.2) (b, [], k0) ⟨hk0, hrb, by dsimp only [List.length_nil]; omega, rfl⟩ (by (exact JW.Auto (by conv => lhs; reduce))) fun ⟨at', out, k⟩ ⟨i1, i2, i3, i4⟩ => ?_
    dsimp only at i1 i2 i3 i4 ⊢
    obtain ⟨z, hz⟩ := hasA_iff.1 i2
    obtain ⟨hsat, hnode⟩ := hfd.node at' z hz
    have hsa0 := hsat.ne
    (repeat (first | refine zs rfl ?_ | refine zg rfl rfl rfl ?_ | refine zd ?_ | refine JK.fin ?_ | refine JK.ret ?_ | refine zml mpS rfl rfl rfl rfl ?_ | refine zmo mpS rfl rfl rfl rfl ?_ | refine zmi mpS rfl rfl rfl rfl ?_ | refine zmu mpS rfl rfl rfl rfl ?_ | refine zmd mpS rfl rfl rfl ?_ | refine zmr mpS rfl rfl rfl ?_ | refine zmm mpS rfl ?_ | refine zlm map113 rfl rfl rfl ?_ | refine zdm map113 rfl rfl ?_ | refine zdn map113 rfl rfl rfl ?_ | refine zeq eqS rfl rfl rfl ?_ | refine zne eqS rfl rfl rfl ?_ | refine zeqg eqS rfl rfl rfl rfl ?_ | refine zneg eqS rfl rfl rfl rfl ?_))
    refine JK.cond rfl (fun hc => ?_) (fun hc => ?_)
    · have hne : at' ≠ a := by
        intro e; subst e; revert hc; simp
      obtain ⟨f1, f2, m, f3, f4, f5⟩ := hnode.resolve_left hne
      have hkm : k = m + 1 := i1.eq f4
      have hgz : mGet em at' stT.dflt = z := by rw [hget at' hne, hz]; rfl
      have hbk : backA by_ a (60 - out.length) at' = z :: backA by_ a (60 - (out.length + 1)) z.1 := by
        rw [show 60 - out.length = (60 - (out.length + 1)) + 1 by omega, backA, if_neg (fun h => h.elim hne hsa0), hz]; rfl
      clear hc
      (repeat (first | refine zs rfl ?_ | refine zg rfl rfl rfl ?_ | refine zd ?_ | refine JK.fin ?_ | refine JK.ret ?_ | refine zml mpS rfl rfl rfl rfl ?_ | refine zmo mpS rfl rfl rfl rfl ?_ | refine zmi mpS rfl rfl rfl rfl ?_ | refine zmu mpS rfl rfl rfl rfl ?_ | refine zmd mpS rfl rfl rfl ?_ | refine zmr mpS rfl rfl rfl ?_ | refine zmm mpS rfl ?_ | refine zlm map113 rfl rfl rfl ?_ | refine zdm map113 rfl rfl ?_ | refine zdn map113 rfl rfl rfl ?_ | refine zeq eqS rfl rfl rfl ?_ | refine zne eqS rfl rfl rfl ?_ | refine zeqg eqS rfl rfl rfl rfl ?_ | refine zneg eqS rfl rfl rfl rfl ?_))
      rw [hgz]
      (repeat (first | refine zs rfl ?_ | refine zg rfl rfl rfl ?_ | refine zd ?_ | refine JK.fin ?_ | refine JK.ret ?_ | refine zml mpS rfl rfl rfl rfl ?_ | refine zmo mpS rfl rfl rfl rfl ?_ | refine zmi mpS rfl rfl rfl rfl ?_ | refine zmu mpS rfl rfl rfl rfl ?_ | refine zmd mpS rfl rfl rfl ?_ | refine zmr mpS rfl rfl rfl ?_ | refine zmm mpS rfl ?_ | refine zlm map113 rfl rfl rfl ?_ | refine zdm map113 rfl rfl ?_ | refine zdn map113 rfl rfl rfl ?_ | refine zeq eqS rfl rfl rfl ?_ | refine zne eqS rfl rfl rfl ?_ | refine zeqg eqS rfl rfl rfl rfl ?_ | refine zneg eqS rfl rfl rfl rfl ?_))
      refine ⟨(z.1, out ++ [z], m), by (exact JW.Auto (by conv => lhs; reduce)), ⟨f3, f5, by dsimp only; rw [List.length_append]; simp; omega, ?_⟩, by dsimp only; omega⟩
      dsimp only
      rw [i4, hbk, List.length_append]; simp
    · have he : at' = a := by
        by_cases e : at' = a
        · exact e
        · exfalso; revert hc; simp [e, hsa0]
      have hout : backA by_ a 60 b = out := by
        rw [i4, show 60 - out.length = (59 - out.length) + 1 by omega, backA, if_pos (.inl he), List.append_nil]
      rw [hout]
      clear i4 hout hc
      (repeat (first | refine zs rfl ?_ | refine zg rfl rfl rfl ?_ | refine zd ?_ | refine JK.fin ?_ | refine JK.ret ?_ | refine zml mpS rfl rfl rfl rfl ?_ | refine zmo mpS rfl rfl rfl rfl ?_ | refine zmi mpS rfl rfl rfl rfl ?_ | refine zmu mpS rfl rfl rfl rfl ?_ | refine zmd mpS rfl rfl rfl ?_ | refine zmr mpS rfl rfl rfl ?_ | refine zmm mpS rfl ?_ | refine zlm map113 rfl rfl rfl ?_ | refine zdm map113 rfl rfl ?_ | refine zdn map113 rfl rfl rfl ?_ | refine zeq eqS rfl rfl rfl ?_ | refine zne eqS rfl rfl rfl ?_ | refine zeqg eqS rfl rfl rfl rfl ?_ | refine zneg eqS rfl rfl rfl rfl ?_))
      refine JK.weakO (s' := ⟨[(13, .lf (.osl 0)), (78, .lf (.osl 0))], [(0, .sl 65 stT out)], 1⟩) (by (exact JW.Auto (by conv => lhs; reduce))) ?_
      refine JK.inl [13] rfl rfl trivial rfl rfl Go.Proofs.Try.call91 (Nat.le_of_ble_eq_true rfl) rfl fun M1 up1 => ?_
      have hol : out.length ≤ 60 := by omega
      (repeat (first | refine zs rfl ?_ | refine zg rfl rfl rfl ?_ | refine zd ?_ | refine JK.fin ?_ | refine JK.ret ?_ | refine zml mpS rfl rfl rfl rfl ?_ | refine zmo mpS rfl rfl rfl rfl ?_ | refine zmi mpS rfl rfl rfl rfl ?_ | refine zmu mpS rfl rfl rfl rfl ?_ | refine zmd mpS rfl rfl rfl ?_ | refine zmr mpS rfl rfl rfl ?_ | refine zmm mpS rfl ?_ | refine zlm map113 rfl rfl rfl ?_ | refine zdm map113 rfl rfl ?_ | refine zdn map113 rfl rfl rfl ?_ | refine zeq eqS rfl rfl rfl ?_ | refine zne eqS rfl rfl rfl ?_ | refine zeqg eqS rfl rfl rfl rfl ?_ | refine zneg eqS rfl rfl rfl rfl ?_))
      refine JK.loop (σ := Nat × List stD) (fun q => ⟨[(0, .lf (.osl 0)), (2, vI (q.1 : Int)), (3, vI ((out.length : Int) - 1 - (q.1 : Int)))], [(1, .fr 0 [(13, .lf (.osl 0))]), (0, .sl 65 stT q.2)], 2⟩) (RevI out) (fun q => out.length - q.1) (0, out) (RevI.begin out) (by (exact JW.Auto (by conv => lhs; reduce))) fun ⟨k, ys⟩ hq => ?_
      have hyl : ys.length = out.length := hq.1
      dsimp only
      (repeat (first | refine zs rfl ?_ | refine zg rfl rfl rfl ?_ | refine zd ?_ | refine JK.fin ?_ | refine JK.ret ?_ | refine zml mpS rfl rfl rfl rfl ?_ | refine zmo mpS rfl rfl rfl rfl ?_ | refine zmi mpS rfl rfl rfl rfl ?_ | refine zmu mpS rfl rfl rfl rfl ?_ | refine zmd mpS rfl rfl rfl ?_ | refine zmr mpS rfl rfl rfl ?_ | refine zmm mpS rfl ?_ | refine zlm map113 rfl rfl rfl ?_ | refine zdm map113 rfl rfl ?_ | refine zdn map113 rfl rfl rfl ?_ | refine zeq eqS rfl rfl rfl ?_ | refine zne eqS rfl rfl rfl ?_ | refine zeqg eqS rfl rfl rfl rfl ?_ | refine zneg eqS rfl rfl rfl rfl ?_))
      refine JK.cond rfl (fun hc => ?_) (fun hc => ?_)
      · (simp only [↓bif_or, ↓bif_and, ↓Bool.or_eq_true, ↓Bool.or_eq_false_iff, ↓Bool.and_eq_true, ↓Bool.and_eq_false_iff, ↓Bool.not_eq_true', ↓Bool.not_eq_false', ↓decide_eq_true_eq, ↓decide_eq_false_iff_not, ↓beq_iff_eq, ↓bne_iff_ne, ↓bne_eq_false_iff_eq, ↓ne_eq, ↓beq_eq_false_iff_ne, ↓Bool.not_eq_true] at hc; try simp only [Ty.dflt, Int.toNat_natCast] at hc)
        have hst := hq.step (by omega)
        have hyl2 : (ys.set k (ys.getD ((out.length : Int) - 1 - (k : Int)).toNat (0, 0, 0, ()))).length = out.length := by rw [List.length_set]; exact hyl
        have ht1 : ((out.length : Int) - 1 - (k : Int)).toNat = out.length - 1 - k := by omega
        rw [← ht1] at hst
        (repeat (first | refine zs rfl ?_ | refine zg rfl rfl rfl ?_ | refine JK.fin ?_ | refine JK.ret ?_ | refine zml mpS rfl rfl rfl rfl ?_ | refine zmo mpS rfl rfl rfl rfl ?_ | refine zmi mpS rfl rfl rfl rfl ?_ | refine zmu mpS rfl rfl rfl rfl ?_ | refine zmd mpS rfl rfl rfl ?_ | refine zmr mpS rfl rfl rfl ?_ | refine zmm mpS rfl ?_ | refine zlm map113 rfl rfl rfl ?_ | refine zdm map113 rfl rfl ?_ | refine zdn map113 rfl rfl rfl ?_ | refine zeq eqS rfl rfl rfl ?_ | refine zne eqS rfl rfl rfl ?_ | refine zeqg eqS rfl rfl rfl rfl ?_ | refine zneg eqS rfl rfl rfl rfl ?_))
        refine JK.drawP (xok rfl rfl rfl rfl) (Go.Proofs.Try.f91.body.getD .skip) rfl 16 rfl ?_
        (refine JF.First 0 (xok rfl rfl rfl rfl) rfl rfl ?_; refine JF.First 1 (xok rfl rfl rfl rfl) rfl rfl ?_; refine JF.First 2 (xok rfl rfl rfl rfl) rfl rfl ?_; refine JF.First 3 (xok rfl rfl rfl rfl) rfl rfl ?_; refine JF.First 4 (xok rfl rfl rfl rfl) rfl rfl ?_; refine JF.First 5 (xok rfl rfl rfl rfl) rfl rfl ?_; refine JF.First 6 (xok rfl rfl rfl rfl) rfl rfl ?_; refine JF.First 8 (xok rfl rfl rfl rfl) rfl rfl ?_; refine JF.First 9 (xok rfl rfl rfl rfl) rfl rfl ?_; refine JF.First 10 (xok rfl rfl rfl rfl) rfl rfl ?_; refine JF.Float 7 (xok rfl rfl rfl rfl) rfl rfl ?_; refine JF.Float 11 (xok rfl rfl rfl rfl) rfl rfl ?_; refine JF.Float 12 (xok rfl rfl rfl rfl) rfl rfl ?_; refine JF.Branch 13 [] (xok rfl rfl rfl rfl) ?_ ?_; (focus (repeat (first | exact StF.nil | refine StF.One rfl rfl rfl ?_))); refine BrF.one rfl rfl ?_ BrF.nil; (· (first | refine JL.Q1 (xok rfl rfl rfl rfl) rfl rfl ?_ | refine JL.G1 (xok rfl rfl rfl rfl) rfl rfl rfl ?_ | refine JL.M1 (xok rfl rfl rfl rfl) rfl rfl ?_ | refine JL.M0 (xok rfl rfl rfl rfl) rfl ?_ | refine JL.Q0 (xok rfl rfl rfl rfl) rfl ?_ | refine JL.MLook mpS rfl rfl rfl rfl ?_ | refine JL.MIns mpS rfl rfl rfl rfl ?_ | refine JL.MEnt mpS rfl rfl rfl rfl ?_ | refine JL.MDel mpS rfl rfl rfl ?_ | refine JL.MRng mpS rfl rfl rfl ?_ | refine JL.mMake mpS rfl ?_ | refine JL.MStoE (by assumption) rfl rfl rfl rfl ?_ | refine JL.EqQ eqS rfl rfl rfl ?_ | refine JL.NeQ eqS rfl rfl rfl ?_); refine JL.finN ?_; refine JF.First 14 (xok rfl rfl rfl rfl) rfl rfl ?_; refine JF.Branch 15 [] (xok rfl rfl rfl rfl) ?_ ?_; (focus (repeat (first | exact StF.nil | refine StF.One rfl rfl rfl ?_))); refine BrF.one rfl rfl ?_ BrF.nil; (· (first | refine JL.Q1 (xok rfl rfl rfl rfl) rfl rfl ?_ | refine JL.G1 (xok rfl rfl rfl rfl) rfl rfl rfl ?_ | refine JL.M1 (xok rfl rfl rfl rfl) rfl rfl ?_ | refine JL.M0 (xok rfl rfl rfl rfl) rfl ?_ | refine JL.Q0 (xok rfl rfl rfl rfl) rfl ?_ | refine JL.MLook mpS rfl rfl rfl rfl ?_ | refine JL.MIns mpS rfl rfl rfl rfl ?_ | refine JL.MEnt mpS rfl rfl rfl rfl ?_ | refine JL.MDel mpS rfl rfl rfl ?_ | refine JL.MRng mpS rfl rfl rfl ?_ | refine JL.mMake mpS rfl ?_ | refine JL.MStoE (by assumption) rfl rfl rfl rfl ?_ | refine JL.EqQ eqS rfl rfl rfl ?_ | refine JL.NeQ eqS rfl rfl rfl ?_); refine JL.finN ?_; refine JF.Done (xok rfl rfl rfl rfl) ?_ ?_; (focus (repeat (first | exact StF.nil | refine StF.One rfl rfl rfl ?_))); (((repeat (first | refine zs rfl ?_ | refine zg rfl rfl rfl ?_ | refine zd ?_ | refine JK.fin ?_ | refine JK.ret ?_ | refine zml mpS rfl rfl rfl rfl ?_ | refine zmo mpS rfl rfl rfl rfl ?_ | refine zmi mpS rfl rfl rfl rfl ?_ | refine zmu mpS rfl rfl rfl rfl ?_ | refine zmd mpS rfl rfl rfl ?_ | refine zmr mpS rfl rfl rfl ?_ | refine zmm mpS rfl ?_ | refine zlm map113 rfl rfl rfl ?_ | refine zdm map113 rfl rfl ?_ | refine zdn map113 rfl rfl rfl ?_ | refine zeq eqS rfl rfl rfl ?_ | refine zne eqS rfl rfl rfl ?_ | refine zeqg eqS rfl rfl rfl rfl ?_ | refine zneg eqS rfl rfl rfl rfl ?_)); exact ⟨(k + 1, (ys.set k (ys.getD ((out.length : Int) - 1 - (k : Int)).toNat (0, 0, 0, ()))).set ((out.length : Int) - 1 - (k : Int)).toNat (ys.getD k (0, 0, 0, ()))), by (exact JW.Auto (by conv => lhs; reduce)), hst, by dsimp only; omega⟩)))))
      · (simp only [↓bif_or, ↓bif_and, ↓Bool.or_eq_true, ↓Bool.or_eq_false_iff, ↓Bool.and_eq_true, ↓Bool.and_eq_false_iff, ↓Bool.not_eq_true', ↓Bool.not_eq_false', ↓decide_eq_true_eq, ↓decide_eq_false_iff_not, ↓beq_iff_eq, ↓bne_iff_ne, ↓bne_eq_false_iff_eq, ↓ne_eq, ↓beq_eq_false_iff_ne, ↓Bool.not_eq_true] at hc; try simp only [Ty.dflt, Int.toNat_natCast] at hc)
        rw [← hq.done (by omega)]
        (repeat (first | refine zs rfl ?_ | refine zg rfl rfl rfl ?_ | refine zd ?_ | refine JK.fin ?_ | refine JK.ret ?_ | refine zml mpS rfl rfl rfl rfl ?_ | refine zmo mpS rfl rfl rfl rfl ?_ | refine zmi mpS rfl rfl rfl rfl ?_ | refine zmu mpS rfl rfl rfl rfl ?_ | refine zmd mpS rfl rfl rfl ?_ | refine zmr mpS rfl rfl rfl ?_ | refine zmm mpS rfl ?_ | refine zlm map113 rfl rfl rfl ?_ | refine zdm map113 rfl rfl ?_ | refine zdn map113 rfl rfl rfl ?_ | refine zeq eqS rfl rfl rfl ?_ | refine zne eqS rfl rfl rfl ?_ | refine zeqg eqS rfl rfl rfl rfl ?_ | refine zneg eqS rfl rfl rfl rfl ?_))
        refine JK.done (inlQ.nor rfl rfl rfl rfl ?_)
        (repeat (first | refine zs rfl ?_ | refine zg rfl rfl rfl ?_ | refine zd ?_ | refine JK.fin ?_ | refine JK.ret ?_ | refine zml mpS rfl rfl rfl rfl ?_ | refine zmo mpS rfl rfl rfl rfl ?_ | refine zmi mpS rfl rfl rfl rfl ?_ | refine zmu mpS rfl rfl rfl rfl ?_ | refine zmd mpS rfl rfl rfl ?_ | refine zmr mpS rfl rfl rfl ?_ | refine zmm mpS rfl ?_ | refine zlm map113 rfl rfl rfl ?_ | refine zdm map113 rfl rfl ?_ | refine zdn map113 rfl rfl rfl ?_ | refine zeq eqS rfl rfl rfl ?_ | refine zne eqS rfl rfl rfl ?_ | refine zeqg eqS rfl rfl rfl rfl ?_ | refine zneg eqS rfl rfl rfl rfl ?_))
        exact ⟨.inl rfl, 6, 0, rfl, rfl, rfl⟩
  · obtain ⟨es, clk, w⟩ := q
    obtain ⟨hrl, hbt, hf60, f, hf, hbf⟩ := hq
    dsimp only at hrl hbt hf60 hf hbf
    cases w with
    | nil =>
      (repeat (first | refine zs rfl ?_ | refine zdm map113 rfl rfl ?_ | refine JK.qLen (xok rfl rfl rfl rfl) rfl rfl rfl trivial rfl ?_ | refine zfl rfl rfl rfl ?_))
      refine JK.pickF rfl rfl rfl rfl trivial trivial ?_
      (repeat (first | refine zs rfl ?_ | refine zg rfl rfl rfl ?_ | refine zd ?_ | refine JK.fin ?_ | refine JK.ret ?_ | refine zml mpS rfl rfl rfl rfl ?_ | refine zmo mpS rfl rfl rfl rfl ?_ | refine zmi mpS rfl rfl rfl rfl ?_ | refine zmu mpS rfl rfl rfl rfl ?_ | refine zmd mpS rfl rfl rfl ?_ | refine zmr mpS rfl rfl rfl ?_ | refine zmm mpS rfl ?_ | refine zlm map113 rfl rfl rfl ?_ | refine zdm map113 rfl rfl ?_ | refine zdn map113 rfl rfl rfl ?_ | refine zeq eqS rfl rfl rfl ?_ | refine zne eqS rfl rfl rfl ?_ | refine zeqg eqS rfl rfl rfl rfl ?_ | refine zneg eqS rfl rfl rfl rfl ?_))
      refine JK.cond rfl (fun h => by cases h) (fun _ => ?_)
      (repeat (first | refine zs rfl ?_ | refine zg rfl rfl rfl ?_ | refine zd ?_ | refine JK.fin ?_ | refine JK.ret ?_ | refine zml mpS rfl rfl rfl rfl ?_ | refine zmo mpS rfl rfl rfl rfl ?_ | refine zmi mpS rfl rfl rfl rfl ?_ | refine zmu mpS rfl rfl rfl rfl ?_ | refine zmd mpS rfl rfl rfl ?_ | refine zmr mpS rfl rfl rfl ?_ | refine zmm mpS rfl ?_ | refine zlm map113 rfl rfl rfl ?_ | refine zdm map113 rfl rfl ?_ | refine zdn map113 rfl rfl rfl ?_ | refine zeq eqS rfl rfl rfl ?_ | refine zne eqS rfl rfl rfl ?_ | refine zeqg eqS rfl rfl rfl rfl ?_ | refine zneg eqS rfl rfl rfl rfl ?_))
      refine ⟨(es, clk), by (exact JW.Auto (by conv => lhs; reduce)), hrl, ?_⟩
      obtain ⟨g, rfl⟩ : ∃ g, f = g + 1 := ⟨f - 1, by omega⟩
      rw [hbf]; rfl
    | cons s w =>
      obtain ⟨hh, hg⟩ := hrl.has b
      (repeat (first | refine zs rfl ?_ | refine zdm map113 rfl rfl ?_ | refine JK.qLen (xok rfl rfl rfl rfl) rfl rfl rfl trivial rfl ?_ | refine zt rfl (by show decide (((s :: w).length : Int) > 0) = true; rw [decide_eq_true_eq, List.length_cons]; omega) ?_ | refine zml mpS rfl rfl rfl rfl ?_ | refine zeq eqS rfl rfl rfl ?_))
      have hz0 := found_zero hv hrl hbt.toFound ha (x := b)
      obtain ⟨g, rfl⟩ : ∃ g, f = g + 1 := ⟨f - 1, by omega⟩
      rw [bfs] at hbf
      refine JK.cond rfl (fun hc => ?_) (fun hc => ?_)
      · have hno : hasA (prj es) b = false := by
          have h2 : stT.eqB (mGet es b stT.dflt) (0, 0, 0, ()) = true := by
            revert hc
            cases decide ((0 : Int) < (s :: w).length) with
            | true => exact fun h => h
            | false => exact fun h => by cases h
          rw [hz0] at h2
          simpa using h2
        rw [if_neg (by rw [hno]; simp)] at hbf
        obtain ⟨n1, n2, n3⟩ := hbt.next hv
        have n4 := n1.few
        have hss : isSay n s := by
          have := hbt.wait s List.mem_cons_self
          obtain ⟨z, hz⟩ := hasA_iff.1 this
          exact (hbt.node s z hz).1
        have hsb : -1000 ≤ s ∧ s ≤ 1000 := by unfold isSay at hss; omega
        have hmu : w.length < 60 := by unfold muB at hf60; rw [List.length_cons] at hf60; omega
        clear hc hz0
        (repeat (first | refine zs rfl ?_ | refine JK.qHead (xok rfl rfl rfl rfl) rfl rfl rfl rfl rfl rfl trivial trivial rfl rfl ?_ | refine JK.qTail (xok rfl rfl rfl rfl) rfl rfl rfl rfl rfl trivial trivial rfl ?_ | refine ze rfl (fn90 n ev t s) rfl ?_))
        refine JK.rangeG [0, 1, 2, 7, 8] rfl rfl rfl Go.Proofs.Try.func98 rfl Go.Proofs.Try.call98 (Nat.le_of_ble_eq_true rfl) trivial fun M2 up2 a1 b1 ha1 hb1 => ?_
        (repeat (first | refine zs rfl ?_ | refine zg rfl rfl rfl ?_ | refine zd ?_ | refine JK.fin ?_ | refine JK.ret ?_ | refine zml mpS rfl rfl rfl rfl ?_ | refine zmo mpS rfl rfl rfl rfl ?_ | refine zmi mpS rfl rfl rfl rfl ?_ | refine zmu mpS rfl rfl rfl rfl ?_ | refine zmd mpS rfl rfl rfl ?_ | refine zmr mpS rfl rfl rfl ?_ | refine zmm mpS rfl ?_ | refine zlm map113 rfl rfl rfl ?_ | refine zdm map113 rfl rfl ?_ | refine zdn map113 rfl rfl rfl ?_ | refine zeq eqS rfl rfl rfl ?_ | refine zne eqS rfl rfl rfl ?_ | refine zeqg eqS rfl rfl rfl rfl ?_ | refine zneg eqS rfl rfl rfl rfl ?_))
        refine JK.weak (s' := ⟨[(0, .lf (.yld 3)), (2, pI s), (10, vEs ev), (11, vI ev.length), (12, vI 0)], K62 a1 b1 n ev t a b es clk w, 100⟩) (by (exact JW.Auto (by conv => lhs; reduce))) ?_
        refine steps_it (Mx := M2) (nX := 48) (rdX := none) ev s hsb hl (fun pre => K62 a1 b1 n ev t a b (mZ pre (es, clk)).1 (mZ pre (es, clk)).2 (bfsZ pre (prj es) w).2) (fun q => ?_) (by omega) ?_ ?_
        · (repeat' (first | exact trivial | exact rfl | refine And.intro ?_ ?_ | exact Nat.le_of_ble_eq_true rfl | refine HO.bdF ?_ | refine HO.bdP ?_ | (refine congrArg (fun z : Int => some (AV.val (.int .i64) z)) ?_; push_cast; omega)))
        · intro pre z post hps
          refine YO.intro 0 81 (ps := #[41]) (assign := a1) (body := b1) (nO := 81) (LO := [(0, vDe n ev t), (1, vI a), (2, vI b), (7, .pfn (.lf (.mp 0))), (8, .lf (.optr 1 []))]) (L0 := [(41, vS z), (0, vDe n ev t), (1, vI a), (2, vI b), (7, .pfn (.lf (.mp 0))), (8, .lf (.optr 1 []))]) rfl rfl rfl ⟨4, _, rfl, rfl⟩ ⟨4, _, rfl, rfl⟩ fun M3 M4 up4 bl hup => JK.start (JK.codeEq ha1 ?_)
          (repeat (first | refine zs rfl ?_ | refine zg rfl rfl rfl ?_ | refine zd ?_ | refine JK.fin ?_ | refine JK.ret ?_ | refine zml mpS rfl rfl rfl rfl ?_ | refine zmo mpS rfl rfl rfl rfl ?_ | refine zmi mpS rfl rfl rfl rfl ?_ | refine zmu mpS rfl rfl rfl rfl ?_ | refine zmd mpS rfl rfl rfl ?_ | refine zmr mpS rfl rfl rfl ?_ | refine zmm mpS rfl ?_ | refine zlm map113 rfl rfl rfl ?_ | refine zdm map113 rfl rfl ?_ | refine zdn map113 rfl rfl rfl ?_ | refine zeq eqS rfl rfl rfl ?_ | refine zne eqS rfl rfl rfl ?_ | refine zeqg eqS rfl rfl rfl rfl ?_ | refine zneg eqS rfl rfl rfl rfl ?_))
          refine JK.done (asgQ.nor rfl rfl rfl rfl (JK.start (JK.codeEq hb1 ?_)))
          have hq := mZ_rl hrl w pre
          have hms := mZ_snoc pre z (es, clk)
          have hbs := bfsZ_snoc z pre (prj es) w
          obtain ⟨q1, q2⟩ := hq.has z.2.1
          rw [q1] at hms
          have hpl := bfsZ_len pre (prj es) w
          have hpl2 : pre.length ≤ 80 := by
            have h1 := stepsF_len s ev 0
            have h2 := congrArg List.length hps
            change (stepsF s 0 ev).length = _ at h2
            rw [List.length_append] at h2; omega
          generalize mZ (pre ++ [z]) (es, clk) = m2 at hms ⊢
          generalize bfsZ (pre ++ [z]) (prj es) w = v2 at hbs ⊢
          generalize mZ pre (es, clk) = m1 at hq hms q1 q2 ⊢
          generalize bfsZ pre (prj es) w = v1 at hq hms hbs hpl q1 q2 ⊢
          generalize hasA v1.1 z.2.1 = hd at q1 hms hbs
          (repeat (first | refine zs rfl ?_ | refine zg rfl rfl rfl ?_ | refine zd ?_ | refine JK.fin ?_ | refine JK.ret ?_ | refine zml mpS rfl rfl rfl rfl ?_ | refine zmo mpS rfl rfl rfl rfl ?_ | refine zmi mpS rfl rfl rfl rfl ?_ | refine zmu mpS rfl rfl rfl rfl ?_ | refine zmd mpS rfl rfl rfl ?_ | refine zmr mpS rfl rfl rfl ?_ | refine zmm mpS rfl ?_ | refine zlm map113 rfl rfl rfl ?_ | refine zdm map113 rfl rfl ?_ | refine zdn map113 rfl rfl rfl ?_ | refine zeq eqS rfl rfl rfl ?_ | refine zne eqS rfl rfl rfl ?_ | refine zeqg eqS rfl rfl rfl rfl ?_ | refine zneg eqS rfl rfl rfl rfl ?_))
          refine JK.cond rfl (fun hc => ?_) (fun hc => ?_)
          · have hd1 : hd = true := q1 ▸ hc
            rw [hd1, if_pos rfl] at hms
            rw [hd1, if_pos rfl] at hbs
            (repeat (first | refine zs rfl ?_ | refine zg rfl rfl rfl ?_ | refine zd ?_ | refine JK.fin ?_ | refine JK.ret ?_ | refine zml mpS rfl rfl rfl rfl ?_ | refine zmo mpS rfl rfl rfl rfl ?_ | refine zmi mpS rfl rfl rfl rfl ?_ | refine zmu mpS rfl rfl rfl rfl ?_ | refine zmd mpS rfl rfl rfl ?_ | refine zmr mpS rfl rfl rfl ?_ | refine zmm mpS rfl ?_ | refine zlm map113 rfl rfl rfl ?_ | refine zdm map113 rfl rfl ?_ | refine zdn map113 rfl rfl rfl ?_ | refine zeq eqS rfl rfl rfl ?_ | refine zne eqS rfl rfl rfl ?_ | refine zeqg eqS rfl rfl rfl rfl ?_ | refine zneg eqS rfl rfl rfl rfl ?_))
            refine JK.done (bodyQ.of rfl rfl rfl rfl rfl rfl ⟨rfl, ?_⟩)
            show JW _ ⟨[], K62 a1 b1 n ev t a b m2.1 m2.2 v2.2, 100⟩ _
            rw [hms, hbs]
            (exact JW.Auto (by conv => lhs; reduce))
          · have hd1 : hd = false := q1 ▸ hc
            rw [hd1, if_neg (by simp)] at hms
            rw [hd1, if_neg (by simp)] at hbs
            (repeat (first | refine zs rfl ?_ | refine zg rfl rfl rfl ?_ | refine zd ?_ | refine JK.fin ?_ | refine JK.ret ?_ | refine zml mpS rfl rfl rfl rfl ?_ | refine zmo mpS rfl rfl rfl rfl ?_ | refine zmi mpS rfl rfl rfl rfl ?_ | refine zmu mpS rfl rfl rfl rfl ?_ | refine zmd mpS rfl rfl rfl ?_ | refine zmr mpS rfl rfl rfl ?_ | refine zmm mpS rfl ?_ | refine zlm map113 rfl rfl rfl ?_ | refine zdm map113 rfl rfl ?_ | refine zdn map113 rfl rfl rfl ?_ | refine zeq eqS rfl rfl rfl ?_ | refine zne eqS rfl rfl rfl ?_ | refine zeqg eqS rfl rfl rfl rfl ?_ | refine zneg eqS rfl rfl rfl rfl ?_))
            refine JK.qApp (xok rfl rfl rfl rfl) rfl rfl rfl rfl rfl rfl (Nat.zero_lt_one) (by show v1.2.length + 1 ≤ _; omega) trivial trivial trivial rfl ?_
            (repeat (first | refine zs rfl ?_ | refine zg rfl rfl rfl ?_ | refine zd ?_ | refine JK.fin ?_ | refine JK.ret ?_ | refine zml mpS rfl rfl rfl rfl ?_ | refine zmo mpS rfl rfl rfl rfl ?_ | refine zmi mpS rfl rfl rfl rfl ?_ | refine zmu mpS rfl rfl rfl rfl ?_ | refine zmd mpS rfl rfl rfl ?_ | refine zmr mpS rfl rfl rfl ?_ | refine zmm mpS rfl ?_ | refine zlm map113 rfl rfl rfl ?_ | refine zdm map113 rfl rfl ?_ | refine zdn map113 rfl rfl rfl ?_ | refine zeq eqS rfl rfl rfl ?_ | refine zne eqS rfl rfl rfl ?_ | refine zeqg eqS rfl rfl rfl rfl ?_ | refine zneg eqS rfl rfl rfl rfl ?_))
            refine JK.done (bodyQ.of rfl rfl rfl rfl rfl rfl ⟨rfl, ?_⟩)
            show JW _ ⟨[], K62 a1 b1 n ev t a b m2.1 m2.2 v2.2, 100⟩ _
            rw [hms, hbs]
            (exact JW.Auto (by conv => lhs; reduce))
        · intro L
          refine JK.done (rngQ.of (.inr rfl) rfl rfl rfl rfl rfl rfl rfl (endJ.kn ?_))
          have hq := mZ_rl hrl w (stepsL ev s)
          generalize mZ (stepsL ev s) (es, clk) = m1 at hq ⊢
          obtain ⟨es1, clk1⟩ := m1
          have hpe : prj es1 = (bfsZ (stepsL ev s) (prj es) w).1 := hq.eq
          rw [← hpe] at hq n1 n2 n3 n4 hbf
          generalize (bfsZ (stepsL ev s) (prj es) w).2 = w1 at n1 n2 hbf ⊢
          (repeat (first | refine zs rfl ?_ | refine zg rfl rfl rfl ?_ | refine zd ?_ | refine JK.fin ?_ | refine JK.ret ?_ | refine zml mpS rfl rfl rfl rfl ?_ | refine zmo mpS rfl rfl rfl rfl ?_ | refine zmi mpS rfl rfl rfl rfl ?_ | refine zmu mpS rfl rfl rfl rfl ?_ | refine zmd mpS rfl rfl rfl ?_ | refine zmr mpS rfl rfl rfl ?_ | refine zmm mpS rfl ?_ | refine zlm map113 rfl rfl rfl ?_ | refine zdm map113 rfl rfl ?_ | refine zdn map113 rfl rfl rfl ?_ | refine zeq eqS rfl rfl rfl ?_ | refine zne eqS rfl rfl rfl ?_ | refine zeqg eqS rfl rfl rfl rfl ?_ | refine zneg eqS rfl rfl rfl rfl ?_))
          refine ⟨(es1, clk1, w1), by (exact JW.Auto (by conv => lhs; reduce)), ⟨hq, n1, ?_, g, ?_, hbf⟩, ?_⟩ <;> (dsimp only; unfold muB at *; rw [List.length_cons] at *; omega)
      · have hyes : hasA (prj es) b = true := by
          have h2 : stT.eqB (mGet es b stT.dflt) (0, 0, 0, ()) = false := by
            have : decide ((0 : Int) < (s :: w).length) = true := by rw [decide_eq_true_eq, List.length_cons]; omega
            change (bif decide (((s :: w).length : Int) > 0) then _ else _) = false at hc
            rw [show decide (((s :: w).length : Int) > 0) = true from this] at hc
            exact hc
          rw [hz0] at h2
          simpa using h2
        rw [if_pos hyes] at hbf
        (repeat (first | refine zs rfl ?_ | refine zg rfl rfl rfl ?_ | refine zd ?_ | refine JK.fin ?_ | refine JK.ret ?_ | refine zml mpS rfl rfl rfl rfl ?_ | refine zmo mpS rfl rfl rfl rfl ?_ | refine zmi mpS rfl rfl rfl rfl ?_ | refine zmu mpS rfl rfl rfl rfl ?_ | refine zmd mpS rfl rfl rfl ?_ | refine zmr mpS rfl rfl rfl ?_ | refine zmm mpS rfl ?_ | refine zlm map113 rfl rfl rfl ?_ | refine zdm map113 rfl rfl ?_ | refine zdn map113 rfl rfl rfl ?_ | refine zeq eqS rfl rfl rfl ?_ | refine zne eqS rfl rfl rfl ?_ | refine zeqg eqS rfl rfl rfl rfl ?_ | refine zneg eqS rfl rfl rfl rfl ?_))
        exact ⟨(es, clk), by (exact JW.Auto (by conv => lhs; reduce)), hrl, hbf.symm⟩
end Go.Proofs.Ytdmfofjaknngnaa

namespace Go.Proofs.Ytdmfofjaknngnaa
open Go Go.RowKit Ox Ox.Two
attribute [local irreducible] JC JL JK JW

abbrev vSI (l : List stD) (e : Int) : AV := .tup (.acons (vSs l) (.acons (vI e) .anil))
theorem far_link {n : Nat} {ev : List evD} (hv : valid n ev) (hn : n ≤ 12) {a b : Int} (ha : isSay n a) (hb : isSay n b) : (farS ev n a).getD (key b) 0 < 0 ↔ follows (deskT ev n) a b = false := by
  have hf := follows_iff hv hn ha hb
  by_cases h : Two.Reach ev a b
  · obtain ⟨k, hk⟩ := h.dist
    rw [farS_dist hv ha hb hk, hf.2 h]
    simp
  · rw [farS_none hv ha hb h]
    have : follows (deskT ev n) a b = false := by
      cases hh : follows (deskT ev n) a b with
      | false => rfl
      | true => exact absurd (hf.1 hh) h
    simp [this]
theorem chain_reach {n : Nat} {ev : List evD} {a b : Int} (hv : valid n ev) (hn : n ≤ 12) (h : chainErr n ev a b = 0) : caseErr n ev = 0 ∧ isSay n a ∧ isSay n b ∧ a ≠ b ∧ Two.Reach ev a b := by
  unfold chainErr at h
  by_cases h0 : caseErr (n : Int) ev = 0
  · rw [if_neg (fun h => h h0)] at h
    by_cases h1 : sayB (n : Int) a = true ∧ sayB (n : Int) b = true ∧ a ≠ b
    · rw [if_neg (fun h => h h1), Int.toNat_natCast] at h
      have ha := sayB_isSay.1 h1.1
      have hb := sayB_isSay.1 h1.2.1
      have hl := far_link hv hn ha hb
      by_cases h2 : (farS ev n a).getD (key b) 0 < 0
      · rw [if_pos h2] at h; cases h
      · refine ⟨h0, ha, hb, h1.2.2, (follows_iff hv hn ha hb).1 ?_⟩
        cases hf : follows (deskT ev n) a b with
        | true => rfl
        | false => exact absurd (hl.2 hf) h2
    · rw [if_pos h1] at h; cases h
  · rw [if_pos h0] at h; exact absurd h h0
set_option maxRecDepth 8000 in
theorem fn18 (n : Int) (ev : List evD) (a b : Int) (hin : inI n) : Ox.Fn Go.Proofs.Try.prog 18 (.acons (vC n ev) (.acons (vI a) (.acons (vI b) .anil))) (· = vSI (if chainErr n ev a b = 0 then chainS ev a b else []) (chainErr n ev a b)) := by
  refine Ox.Fn.intro xok Go.Proofs.Try.func18 rfl Go.Proofs.Try.call18 (Nat.le_of_ble_eq_true rfl) (fun E M0 up => ?_)
  refine JK.start ?_
  by_cases h0 : caseErr n ev = 0
  · obtain ⟨N, rfl, q1, q2, q3, q4⟩ := ok_cast h0
    have c1 := fn59ok N ev h0
    have hd := (deskT_way (ev := ev) (n := N) q4 q2).1.ok
    have c60 := fn60 N [a, b] ⟨by omega, by omega⟩
    have hce : chainErr N ev a b = if ¬ (sayB N a = true ∧ sayB N b = true ∧ a ≠ b) then 2 else if (farS ev N a).getD (key b) 0 < 0 then 5 else 0 := by rw [chainErr, if_neg (fun h => h h0), Int.toNat_natCast]
    have hcr := chain_reach (a := a) (b := b) q4 q2
    have hall : ([a, b].all (sayB (N : Int))) = (sayB N a && sayB N b) := by simp
    rw [hall] at c60
    by_cases h1 : sayB (N : Int) a = true ∧ sayB (N : Int) b = true
    · have ha := sayB_isSay.1 h1.1
      have hb := sayB_isSay.1 h1.2
      have c2 := fn61 N ev (deskT ev N) a b q2 hd ha hb
      have hfl := far_link q4 q2 ha hb
      rw [show (sayB (N : Int) a && sayB (N : Int) b) = true by rw [h1.1, h1.2]; rfl] at c60
      rw [hce] at hcr ⊢
      have c62 := fun hr => fn62 N ev (deskT ev N) a b q2 q3 q4 ha hb hr
      generalize follows (deskT ev N) a b = f at c2 hfl ⊢
      generalize deskT ev N = T at c1 c2 hd c62 ⊢
      (repeat (first | refine zs rfl ?_ | refine zg rfl rfl rfl ?_ | refine zd ?_ | refine JK.fin ?_ | refine JK.ret ?_ | refine zc rfl (c1) rfl rfl ?_ | refine ze rfl (c1) rfl ?_ | refine zk rfl rfl (fun _ => c1) rfl rfl ?_))
      refine JK.cond rfl (fun hc => by cases hc) (fun _ => ?_)
      (repeat (first | refine zt rfl rfl ?_ | refine zs rfl ?_ | refine zg rfl rfl rfl ?_ | refine zd ?_ | refine JK.fin ?_ | refine JK.ret ?_ | refine zc rfl (c60) rfl rfl ?_ | refine ze rfl (c60) rfl ?_ | refine zk rfl rfl (fun _ => c60) rfl rfl ?_))
      refine JK.cond rfl (fun hc => ?_) (fun hc => ?_)
      · have e : a = b := by simpa using hc
        (repeat (first | refine zs rfl ?_ | refine zg rfl rfl rfl ?_ | refine zd ?_ | refine JK.fin ?_ | refine JK.ret ?_))
        refine ⟨.inl rfl, _, _, rfl, trivial, ?_⟩
        rw [if_pos (fun h => h.2.2 e)]
        rfl
      · have e : a ≠ b := by simpa using hc
        have hnn : ¬ ¬ (sayB (N : Int) a = true ∧ sayB (N : Int) b = true ∧ a ≠ b) := fun h => h ⟨h1.1, h1.2, e⟩
        rw [if_neg hnn] at hcr ⊢
        (repeat (first | refine zs rfl ?_ | refine zg rfl rfl rfl ?_ | refine zd ?_ | refine JK.fin ?_ | refine JK.ret ?_ | refine zc rfl (c2) rfl rfl ?_ | refine ze rfl (c2) rfl ?_ | refine zk rfl rfl (fun _ => c2) rfl rfl ?_))
        refine JK.cond rfl (fun hc2 => ?_) (fun hc2 => ?_)
        · have hf : f = false := by simpa using hc2
          rw [if_pos (hfl.2 hf)]
          (repeat (first | refine zs rfl ?_ | refine zg rfl rfl rfl ?_ | refine zd ?_ | refine JK.fin ?_ | refine JK.ret ?_))
          refine ⟨.inl rfl, _, _, rfl, trivial, ?_⟩
          rfl
        · have hf : f = true := by simpa using hc2
          have hnf : ¬ (farS ev N a).getD (key b) 0 < 0 := fun h => by have := hfl.1 h; rw [hf] at this; cases this
          rw [if_neg hnf] at hcr ⊢
          have c3 := c62 (hcr rfl).2.2.2.2
          (repeat (first | refine zs rfl ?_ | refine JK.callRow rfl c3 rfl trivial ?_ | refine JK.ret ?_))
          refine ⟨.inl rfl, _, _, rfl, trivial, ?_⟩
          rfl
    · rw [show (sayB (N : Int) a && sayB (N : Int) b) = false by
        cases hx : sayB (N : Int) a <;> cases hy : sayB (N : Int) b <;> simp [hx, hy] at h1 ⊢] at c60
      rw [hce, if_pos (fun h => h1 ⟨h.1, h.2.1⟩)]
      generalize deskT ev N = T at c1 ⊢
      (repeat (first | refine zs rfl ?_ | refine zg rfl rfl rfl ?_ | refine zd ?_ | refine JK.fin ?_ | refine JK.ret ?_ | refine zc rfl (c1) rfl rfl ?_ | refine ze rfl (c1) rfl ?_ | refine zk rfl rfl (fun _ => c1) rfl rfl ?_))
      refine JK.cond rfl (fun hc => by cases hc) (fun _ => ?_)
      (repeat (first | refine zs rfl ?_ | refine zc rfl c60 rfl rfl ?_ | refine zfl rfl rfl rfl ?_))
      refine JK.pickT rfl rfl rfl rfl trivial trivial ?_
      (repeat (first | refine zs rfl ?_ | refine zg rfl rfl rfl ?_ | refine zd ?_ | refine JK.fin ?_ | refine JK.ret ?_))
      refine JK.cond rfl (fun _ => ?_) (fun h => by cases h)
      (repeat (first | refine zs rfl ?_ | refine zg rfl rfl rfl ?_ | refine zd ?_ | refine JK.fin ?_ | refine JK.ret ?_))
      refine ⟨.inl rfl, _, _, rfl, trivial, ?_⟩
      rfl
  · have c1 := fn59no n ev h0
    have hce : chainErr n ev a b = caseErr n ev := by rw [chainErr, if_pos h0]
    rw [hce, if_neg h0]
    generalize caseErr n ev = e at h0 c1 ⊢
    (repeat (first | refine zs rfl ?_ | refine zg rfl rfl rfl ?_ | refine zd ?_ | refine JK.fin ?_ | refine JK.ret ?_ | refine zc rfl (c1) rfl rfl ?_ | refine ze rfl (c1) rfl ?_ | refine zk rfl rfl (fun _ => c1) rfl rfl ?_))
    refine JK.cond rfl (fun hc => ?_) (fun hc => ?_)
    · (repeat (first | refine zs rfl ?_ | refine zg rfl rfl rfl ?_ | refine zd ?_ | refine JK.fin ?_ | refine JK.ret ?_))
      refine ⟨.inl rfl, _, _, rfl, trivial, ?_⟩
      rfl
    · (simp only [↓bif_or, ↓bif_and, ↓Bool.or_eq_true, ↓Bool.or_eq_false_iff, ↓Bool.and_eq_true, ↓Bool.and_eq_false_iff, ↓Bool.not_eq_true', ↓Bool.not_eq_false', ↓decide_eq_true_eq, ↓decide_eq_false_iff_not, ↓beq_iff_eq, ↓bne_iff_ne, ↓bne_eq_false_iff_eq, ↓ne_eq, ↓beq_eq_false_iff_ne, ↓Bool.not_eq_true] at hc; try simp only [Ty.dflt, Int.toNat_natCast] at hc)
      exact absurd hc h0
end Go.Proofs.Ytdmfofjaknngnaa

namespace Go.Proofs.Ytdmfofjaknngnaa
open Go Go.RowKit Ox Ox.Two
attribute [local irreducible] JC JL JK JW

theorem clashF_at (t : List Int) : ∀ (f i : Nat), 0 ≤ clashF t i f → ∃ k : Nat, clashF t i f = k ∧ i ≤ k ∧ k < i + f ∧ clashAt t k = true
  | 0, i, h => by rw [clashF] at h; omega
  | f + 1, i, h => by
    rw [clashF] at h ⊢
    by_cases e : clashAt t i = true
    · rw [if_pos e]; exact ⟨i, rfl, by omega, by omega, e⟩
    · rw [if_neg e] at h ⊢
      obtain ⟨k, h1, h2, h3, h4⟩ := clashF_at t f (i + 1) h
      exact ⟨k, h1, by omega, by omega, h4⟩
def clashL (n : Int) (ev : List evD) : List stD × Int :=
  if caseErr n ev ≠ 0 then ([], caseErr n ev) else if clashF (deskT ev n.toNat) 0 n.toNat < 0 then ([], 5)
  else (chainS ev (clashF (deskT ev n.toNat) 0 n.toNat + 1) (-1 - clashF (deskT ev n.toNat) 0 n.toNat) ++ chainS ev (-1 - clashF (deskT ev n.toNat) 0 n.toNat) (clashF (deskT ev n.toNat) 0 n.toNat + 1), 0)
theorem chainS_len {n : Nat} {ev : List evD} (hv : valid n ev) (hn : n ≤ 12) {a b : Int} (ha : isSay n a) (h : Two.Reach ev a b) : (chainS ev a b).length ≤ 24 := by
  obtain ⟨k, hk⟩ := h.dist
  have := (chainS_spec hv hn ha hk).2
  have := hk.lt hv ha
  omega
theorem fn39 (n : Int) (ev : List evD) : Ox.Fn Go.Proofs.Try.prog 39 (.acons (vC n ev) .anil) (· = vSI (clashL n ev).1 (clashL n ev).2) := by
  refine Ox.Fn.intro xok Go.Proofs.Try.func39 rfl Go.Proofs.Try.call39 (Nat.le_of_ble_eq_true rfl) (fun E M0 up => ?_)
  refine JK.start ?_
  by_cases h0 : caseErr n ev = 0
  · obtain ⟨N, rfl, q1, q2, q3, q4⟩ := ok_cast h0
    have c1 := fn59ok N ev h0
    have hd := (deskT_way (ev := ev) (n := N) q4 q2).1.ok
    have c2 := fn77 N ev (deskT ev N) q2 hd
    by_cases hk : 0 ≤ clashF (deskT ev N) 0 N
    · obtain ⟨k, h1, _, h3, h4⟩ := clashF_at _ _ _ hk
      obtain ⟨r1, r2⟩ := (clash_at q4 q2 (by omega)).1 h4
      rw [show -((k : Int) + 1) = -1 - (k : Int) by omega] at r1 r2
      have s1 : isSay N ((k : Int) + 1) := .inl ⟨by omega, by omega⟩
      have s2 : isSay N (-1 - (k : Int)) := .inr ⟨by omega, by omega⟩
      have hr : clashL N ev = (chainS ev ((k : Int) + 1) (-1 - (k : Int)) ++ chainS ev (-1 - (k : Int)) ((k : Int) + 1), 0) := by rw [clashL, if_neg (fun h => h h0), Int.toNat_natCast, h1, if_neg (by omega)]
      rw [hr]
      have c3 := fn62 N ev (deskT ev N) _ _ q2 q3 q4 s1 s2 r1
      have c4 := fn62 N ev (deskT ev N) _ _ q2 q3 q4 s2 s1 r2
      have l1 := chainS_len q4 q2 s1 r1
      have l2 := chainS_len q4 q2 s2 r2
      rw [h1] at c2
      generalize deskT ev N = T at c1 c2 c3 c4 ⊢
      generalize chainS ev ((k : Int) + 1) (-1 - (k : Int)) = A at c3 l1 ⊢
      generalize chainS ev (-1 - (k : Int)) ((k : Int) + 1) = B at c4 l2 ⊢
      (repeat (first | refine zs rfl ?_ | refine zg rfl rfl rfl ?_ | refine zd ?_ | refine JK.fin ?_ | refine JK.ret ?_ | refine zc rfl (c1) rfl rfl ?_ | refine ze rfl (c1) rfl ?_ | refine zk rfl rfl (fun _ => c1) rfl rfl ?_))
      refine JK.cond rfl (fun hc => by cases hc) (fun _ => ?_)
      (repeat (first | refine zs rfl ?_ | refine zg rfl rfl rfl ?_ | refine zd ?_ | refine JK.fin ?_ | refine JK.ret ?_ | refine zc rfl (c2) rfl rfl ?_ | refine ze rfl (c2) rfl ?_ | refine zk rfl rfl (fun _ => c2) rfl rfl ?_))
      refine JK.cond rfl (fun hc => ?_) (fun hc => ?_)
      · (simp only [↓bif_or, ↓bif_and, ↓Bool.or_eq_true, ↓Bool.or_eq_false_iff, ↓Bool.and_eq_true, ↓Bool.and_eq_false_iff, ↓Bool.not_eq_true', ↓Bool.not_eq_false', ↓decide_eq_true_eq, ↓decide_eq_false_iff_not, ↓beq_iff_eq, ↓bne_iff_ne, ↓bne_eq_false_iff_eq, ↓ne_eq, ↓beq_eq_false_iff_ne, ↓Bool.not_eq_true] at hc; try simp only [Ty.dflt, Int.toNat_natCast] at hc)
        omega
      · (repeat (first | refine zs rfl ?_ | refine JK.callRow rfl c3 rfl trivial ?_ | refine JK.callRow rfl c4 rfl trivial ?_ | refine JK.ret ?_))
        refine ⟨.inl rfl, _, _, rfl, trivial, ?_⟩
        rfl
    · have hr : clashL N ev = ([], 5) := by rw [clashL, if_neg (fun h => h h0), Int.toNat_natCast, if_pos (by omega)]
      rw [hr]
      generalize clashF (deskT ev N) 0 N = c at c2 hk
      generalize deskT ev N = T at c1 c2 ⊢
      (repeat (first | refine zs rfl ?_ | refine zg rfl rfl rfl ?_ | refine zd ?_ | refine JK.fin ?_ | refine JK.ret ?_ | refine zc rfl (c1) rfl rfl ?_ | refine ze rfl (c1) rfl ?_ | refine zk rfl rfl (fun _ => c1) rfl rfl ?_))
      refine JK.cond rfl (fun hc => by cases hc) (fun _ => ?_)
      (repeat (first | refine zs rfl ?_ | refine zg rfl rfl rfl ?_ | refine zd ?_ | refine JK.fin ?_ | refine JK.ret ?_ | refine zc rfl (c2) rfl rfl ?_ | refine ze rfl (c2) rfl ?_ | refine zk rfl rfl (fun _ => c2) rfl rfl ?_))
      refine JK.cond rfl (fun hc => ?_) (fun hc => ?_)
      · (repeat (first | refine zs rfl ?_ | refine zg rfl rfl rfl ?_ | refine zd ?_ | refine JK.fin ?_ | refine JK.ret ?_))
        refine ⟨.inl rfl, _, _, rfl, trivial, ?_⟩
        rfl
      · (simp only [↓bif_or, ↓bif_and, ↓Bool.or_eq_true, ↓Bool.or_eq_false_iff, ↓Bool.and_eq_true, ↓Bool.and_eq_false_iff, ↓Bool.not_eq_true', ↓Bool.not_eq_false', ↓decide_eq_true_eq, ↓decide_eq_false_iff_not, ↓beq_iff_eq, ↓bne_iff_ne, ↓bne_eq_false_iff_eq, ↓ne_eq, ↓beq_eq_false_iff_ne, ↓Bool.not_eq_true] at hc; try simp only [Ty.dflt, Int.toNat_natCast] at hc)
        omega
  · have c1 := fn59no n ev h0
    have hr : clashL n ev = ([], caseErr n ev) := by rw [clashL, if_pos h0]
    rw [hr]
    generalize caseErr n ev = e at h0 c1 ⊢
    (repeat (first | refine zs rfl ?_ | refine zg rfl rfl rfl ?_ | refine zd ?_ | refine JK.fin ?_ | refine JK.ret ?_ | refine zc rfl (c1) rfl rfl ?_ | refine ze rfl (c1) rfl ?_ | refine zk rfl rfl (fun _ => c1) rfl rfl ?_))
    refine JK.cond rfl (fun hc => ?_) (fun hc => ?_)
    · (repeat (first | refine zs rfl ?_ | refine zg rfl rfl rfl ?_ | refine zd ?_ | refine JK.fin ?_ | refine JK.ret ?_))
      refine ⟨.inl rfl, _, _, rfl, trivial, ?_⟩
      rfl
    · (simp only [↓bif_or, ↓bif_and, ↓Bool.or_eq_true, ↓Bool.or_eq_false_iff, ↓Bool.and_eq_true, ↓Bool.and_eq_false_iff, ↓Bool.not_eq_true', ↓Bool.not_eq_false', ↓decide_eq_true_eq, ↓decide_eq_false_iff_not, ↓beq_iff_eq, ↓bne_iff_ne, ↓bne_eq_false_iff_eq, ↓ne_eq, ↓beq_eq_false_iff_ne, ↓Bool.not_eq_true] at hc; try simp only [Ty.dflt, Int.toNat_natCast] at hc)
      exact absurd hc h0
end Go.Proofs.Ytdmfofjaknngnaa

namespace Go.Proofs.Ytdmfofjaknngnaa
open Go Go.RowKit Ox Ox.Two
attribute [local irreducible] JC JL JK JW

def fullB (n : Int) (ev : List evD) : Bool := decide (caseErr n ev = 0 ∧ n > 9)
theorem fn24 (n : Int) (ev : List evD) : Ox.Fn Go.Proofs.Try.prog 24 (.acons (vC n ev) .anil) (· = vB (fullB n ev)) := by
  refine Ox.Fn.intro xok Go.Proofs.Try.func24 rfl Go.Proofs.Try.call24 (Nat.le_of_ble_eq_true rfl) (fun E M0 up => ?_)
  refine JK.start ?_
  unfold fullB
  have c1 := fn57 n ev
  generalize caseErr n ev = e at c1 ⊢
  (repeat (first | refine zs rfl ?_ | refine zg rfl rfl rfl ?_ | refine zd ?_ | refine JK.fin ?_ | refine JK.ret ?_ | refine zc rfl (c1) rfl rfl ?_ | refine ze rfl (c1) rfl ?_ | refine zk rfl rfl (fun _ => c1) rfl rfl ?_))
  refine ⟨.inl rfl, _, _, rfl, trivial, ?_⟩
  refine congrArg vB ?_
  rw [Bool.eq_iff_iff]
  simp only [bif_and, Bool.and_eq_true, beq_iff_eq, decide_eq_true_eq]
def fineB (n : Int) (ev : List evD) : Bool := decide (caseErr n ev = 0)
theorem fn37 (n : Int) (ev : List evD) : Ox.Fn Go.Proofs.Try.prog 37 (.acons (vC n ev) .anil) (· = vB (fineB n ev)) := by
  refine Ox.Fn.intro xok Go.Proofs.Try.func37 rfl Go.Proofs.Try.call37 (Nat.le_of_ble_eq_true rfl) (fun E M0 up => ?_)
  refine JK.start ?_
  unfold fineB
  have c1 := fn57 n ev
  have c2 := fn14 n ev
  have hc : caseErr n ev = 0 → ¬ ev.length > 50 := fun h => by have := (case_ok h).2.2.1; omega
  generalize caseErr n ev = e at c1 hc ⊢
  generalize hg : decide (ev.length > 50) = gr at c2
  (repeat (first | refine zs rfl ?_ | refine zg rfl rfl rfl ?_ | refine zd ?_ | refine JK.fin ?_ | refine JK.ret ?_ | refine zc rfl (c1) rfl rfl ?_ | refine ze rfl (c1) rfl ?_ | refine zk rfl rfl (fun _ => c1) rfl rfl ?_ | refine zc rfl (c2) rfl rfl ?_ | refine ze rfl (c2) rfl ?_ | refine zk rfl rfl (fun _ => c2) rfl rfl ?_))
  refine ⟨.inl rfl, _, _, rfl, trivial, ?_⟩
  refine congrArg vB ?_
  rw [Bool.eq_iff_iff]
  simp only [bif_and, Bool.and_eq_true, beq_iff_eq, decide_eq_true_eq, Bool.not_eq_true']
  constructor
  · exact fun h => h.2
  · intro h
    refine ⟨?_, h⟩
    rw [← hg]; exact decide_eq_false (hc h)
def pairsL : List Int → List evD
  | a :: b :: r => (a, b, ()) :: pairsL r
  | _ => []
theorem pairs_len : ∀ l : List Int, (pairsL l).length ≤ l.length
  | [] => Nat.le_refl _
  | [_] => Nat.zero_le _
  | a :: b :: r => by
    have := pairs_len r
    simp only [pairsL, List.length_cons]; omega
theorem pairs_take : ∀ (l : List Int) (j : Nat), 2 * j + 1 < l.length → pairsL (l.take (2 * (j + 1))) = pairsL (l.take (2 * j)) ++ [(l.getD (2 * j) 0, l.getD (2 * j + 1) 0, ())]
  | a :: b :: r, 0, _ => by simp [pairsL]
  | a :: b :: r, j + 1, h => by
    have ih := pairs_take r j (by simp at h; omega)
    rw [show 2 * (j + 1 + 1) = 2 * (j + 1) + 1 + 1 by omega, List.take_succ_cons, List.take_succ_cons, pairsL, ih, show 2 * (j + 1) = 2 * j + 1 + 1 by omega, List.take_succ_cons, List.take_succ_cons, pairsL, List.cons_append]
    congr 1
  | [], j, h => by simp at h
  | [_], j, h => by simp at h
theorem pairs_end : ∀ (l : List Int) (j : Nat), ¬ 2 * j + 1 < l.length → pairsL (l.take (2 * j)) = pairsL l
  | [], j, h => by simp
  | [x], 0, h => by simp [pairsL]
  | [x], j + 1, h => by rw [show 2 * (j + 1) = 2 * j + 1 + 1 by omega]; simp [pairsL]
  | a :: b :: r, 0, h => by simp at h
  | a :: b :: r, j + 1, h => by
    have ih := pairs_end r j (by simp at h; omega)
    rw [show 2 * (j + 1) = 2 * j + 1 + 1 by omega, List.take_succ_cons, List.take_succ_cons, pairsL, ih, pairsL]
theorem fn82 (n : Int) (l : List Int) (hl : l.length ≤ 1000) : Ox.Fn Go.Proofs.Try.prog 82 (.acons (vI n) (.acons (vL l) .anil)) (· = vC n (pairsL l)) := by
  refine Ox.Fn.intro xok Go.Proofs.Try.func82 rfl Go.Proofs.Try.call82 (Nat.le_of_ble_eq_true rfl) (fun E M0 up => ?_)
  refine JK.start ?_
  (repeat (first | refine zs rfl ?_ | refine zg rfl rfl rfl ?_ | refine zd ?_ | refine JK.fin ?_ | refine JK.ret ?_))
  refine JK.ghostC 1 1 50 evT rfl rfl ?_
  refine JK.loop (fun j : Nat => ⟨[(1, vL l), (4, .lf (.optr 0 [])), (5, .lf (.optr 1 [])), (6, vI ((2 * j : Nat) : Int))], [(0, .cell caT (zav caT)), (1, .cell caT (.mix (vI n) (.mix (.lf (.osl 2)) (.val .nil ())))), (2, .sl 50 evT (pairsL (l.take (2 * j))))], 3⟩)
    (fun j => 2 * j ≤ l.length + 1) (fun j => l.length + 1 - 2 * j) 0 (by omega) (by (exact JW.Auto (by conv => lhs; reduce))) fun j hj => ?_
  have hnx := pairs_take l j
  have hen := pairs_end l j
  have hpl := pairs_len (l.take (2 * j))
  rw [List.length_take] at hpl
  generalize pairsL (l.take (2 * j)) = P0 at hnx hen hpl ⊢
  (repeat (first | refine zs rfl ?_ | refine zg rfl rfl rfl ?_ | refine zd ?_ | refine JK.fin ?_ | refine JK.ret ?_))
  refine JK.cond rfl (fun hc => ?_) (fun hc => ?_)
  · (simp only [↓bif_or, ↓bif_and, ↓Bool.or_eq_true, ↓Bool.or_eq_false_iff, ↓Bool.and_eq_true, ↓Bool.and_eq_false_iff, ↓Bool.not_eq_true', ↓Bool.not_eq_false', ↓decide_eq_true_eq, ↓decide_eq_false_iff_not, ↓beq_iff_eq, ↓bne_iff_ne, ↓bne_eq_false_iff_eq, ↓ne_eq, ↓beq_eq_false_iff_ne, ↓Bool.not_eq_true] at hc; try simp only [Ty.dflt, Int.toNat_natCast] at hc)
    replace hnx := hnx (by omega)
    (repeat (first | refine zs rfl ?_ | refine zg rfl rfl rfl ?_ | refine JK.fin ?_ | refine JK.ret ?_))
    refine JK.drawP (xok rfl rfl rfl rfl) (Go.Proofs.Try.f82.body.getD .skip) rfl 16 rfl ?_
    (refine JF.First 0 (xok rfl rfl rfl rfl) rfl rfl ?_; refine JF.First 2 (xok rfl rfl rfl rfl) rfl rfl ?_; refine JF.First 3 (xok rfl rfl rfl rfl) rfl rfl ?_; refine JF.First 4 (xok rfl rfl rfl rfl) rfl rfl ?_; refine JF.First 6 (xok rfl rfl rfl rfl) rfl rfl ?_; refine JF.First 7 (xok rfl rfl rfl rfl) rfl rfl ?_; refine JF.First 8 (xok rfl rfl rfl rfl) rfl rfl ?_; refine JF.First 9 (xok rfl rfl rfl rfl) rfl rfl ?_; refine JF.Float 1 (xok rfl rfl rfl rfl) rfl rfl ?_; refine JF.Float 5 (xok rfl rfl rfl rfl) rfl rfl ?_; refine JF.Float 10 (xok rfl rfl rfl rfl) rfl rfl ?_; refine JF.Branch 11 [] (xok rfl rfl rfl rfl) ?_ ?_; (focus (repeat (first | exact StF.nil | refine StF.One rfl rfl rfl ?_))); refine BrF.one rfl rfl ?_ BrF.nil; (· (first | refine JL.Q1 (xok rfl rfl rfl rfl) rfl rfl ?_ | refine JL.G1 (xok rfl rfl rfl rfl) rfl rfl rfl ?_ | refine JL.M1 (xok rfl rfl rfl rfl) rfl rfl ?_ | refine JL.M0 (xok rfl rfl rfl rfl) rfl ?_ | refine JL.Q0 (xok rfl rfl rfl rfl) rfl ?_); refine JL.finN ?_; refine JF.Branch 12 [] (xok rfl rfl rfl rfl) ?_ ?_; (focus (repeat (first | exact StF.nil | refine StF.One rfl rfl rfl ?_))); refine BrF.one rfl rfl ?_ BrF.nil; (· (first | refine JL.Q1 (xok rfl rfl rfl rfl) rfl rfl ?_ | refine JL.G1 (xok rfl rfl rfl rfl) rfl rfl rfl ?_ | refine JL.M1 (xok rfl rfl rfl rfl) rfl rfl ?_ | refine JL.M0 (xok rfl rfl rfl rfl) rfl ?_ | refine JL.Q0 (xok rfl rfl rfl rfl) rfl ?_); refine JL.finN ?_; refine JF.Branch 13 [] (xok rfl rfl rfl rfl) ?_ ?_; (focus (repeat (first | exact StF.nil | refine StF.One rfl rfl rfl ?_))); refine BrF.one rfl rfl ?_ BrF.nil; (· (first | refine JL.Q1 (xok rfl rfl rfl rfl) rfl rfl ?_ | refine JL.G1 (xok rfl rfl rfl rfl) rfl rfl rfl ?_ | refine JL.M1 (xok rfl rfl rfl rfl) rfl rfl ?_ | refine JL.M0 (xok rfl rfl rfl rfl) rfl ?_ | refine JL.Q0 (xok rfl rfl rfl rfl) rfl ?_); refine JL.finN ?_; refine JF.First 14 (xok rfl rfl rfl rfl) rfl rfl ?_; refine JF.Branch 15 [] (xok rfl rfl rfl rfl) ?_ ?_; (focus (repeat (first | exact StF.nil | refine StF.One rfl rfl rfl ?_))); refine BrF.one rfl rfl ?_ BrF.nil; (· (first | refine JL.Q1 (xok rfl rfl rfl rfl) rfl rfl ?_ | refine JL.G1 (xok rfl rfl rfl rfl) rfl rfl rfl ?_ | refine JL.M1 (xok rfl rfl rfl rfl) rfl rfl ?_ | refine JL.M0 (xok rfl rfl rfl rfl) rfl ?_ | refine JL.Q0 (xok rfl rfl rfl rfl) rfl ?_); refine JL.finN ?_; refine JF.Done (xok rfl rfl rfl rfl) ?_ ?_; (focus (repeat (first | exact StF.nil | refine StF.One rfl rfl rfl ?_))); (((repeat (first | refine zs rfl ?_ | refine zg rfl rfl rfl ?_ | refine zd ?_ | refine JK.fin ?_ | refine JK.ret ?_)); refine ⟨j + 1, ?_, by omega, by omega⟩; dsimp only; rw [hnx]; (refine JW.auto (by conv => lhs; reduce) ?_ ?_ ?_ ?_ rfl <;> (repeat' (first | exact trivial | exact rfl | refine And.intro ?_ ?_ | exact Nat.le_of_ble_eq_true rfl | refine HO.bdF ?_ | refine HO.bdP ?_ | (refine congrArg (fun z : Int => some (AV.val (.int .i64) z)) ?_; push_cast; omega) | exact congrArg (fun q : Int × Int => some (HO.sl 50 evT (P0 ++ [(q.1, q.2, ())]))) (Prod.ext (congrArg (fun i => l.getD i 0) (show (2 * j : Nat) = _ by omega)) (congrArg (fun i => l.getD i 0) (show 2 * j + 1 = _ by omega)))))))))))))
  · (simp only [↓bif_or, ↓bif_and, ↓Bool.or_eq_true, ↓Bool.or_eq_false_iff, ↓Bool.and_eq_true, ↓Bool.and_eq_false_iff, ↓Bool.not_eq_true', ↓Bool.not_eq_false', ↓decide_eq_true_eq, ↓decide_eq_false_iff_not, ↓beq_iff_eq, ↓bne_iff_ne, ↓bne_eq_false_iff_eq, ↓ne_eq, ↓beq_eq_false_iff_ne, ↓Bool.not_eq_true] at hc; try simp only [Ty.dflt, Int.toNat_natCast] at hc)
    rw [hen (by omega)]
    (repeat (first | refine zs rfl ?_ | refine zg rfl rfl rfl ?_ | refine zd ?_ | refine JK.fin ?_ | refine JK.ret ?_))
    refine ⟨.inl rfl, _, _, rfl, trivial, ?_⟩
    rfl
def dupL (l : List Int) : List evD := l.map fun x => (x, x, ())
theorem fn49 (n : Int) (ev : List evD) (l : List Int) (hl : l.length ≤ 1000) (he : ev.length ≤ 1000) : Ox.Fn Go.Proofs.Try.prog 49 (.acons (vC n ev) (.acons (vL l) .anil)) (· = vC n (ev ++ dupL l)) := by
  refine Ox.Fn.intro xok Go.Proofs.Try.func49 rfl Go.Proofs.Try.call49 (Nat.le_of_ble_eq_true rfl) (fun E M0 up => ?_)
  refine JK.start ?_
  (repeat (first | refine zs rfl ?_ | refine zg rfl rfl rfl ?_ | refine JK.fin ?_ | refine JK.ret ?_))
  refine JK.drawTo (xok rfl rfl rfl rfl) (Go.Proofs.Try.f49.body.getD .skip) ⟨[(1, vL l), (4, .lf (.optr 1 [])), (5, .lf (.optr 2 []))], [(1, .cell caT (zav caT)), (2, .cell caT (.mix (vI n) (.mix (.lf (.osl 3)) (.val .nil ())))), (3, .sl 50 evT ([] ++ ev))], 4⟩ rfl 9 rfl ?_ ?_
  · (refine JF.First 0 (xok rfl rfl rfl rfl) rfl rfl ?_; refine JF.First 3 (xok rfl rfl rfl rfl) rfl rfl ?_; refine JF.Float 1 (xok rfl rfl rfl rfl) rfl rfl ?_; refine JF.Float 4 (xok rfl rfl rfl rfl) rfl rfl ?_; refine JF.Branch 2 [7] (xok rfl rfl rfl rfl) ?_ ?_; (focus (repeat (first | exact StF.nil | refine StF.One rfl rfl rfl ?_))); refine BrF.one rfl rfl ?_ (BrF.one rfl rfl ?_ BrF.nil); (· (first | refine JL.Q1 (xok rfl rfl rfl rfl) rfl rfl ?_ | refine JL.G1 (xok rfl rfl rfl rfl) rfl rfl rfl ?_ | refine JL.M1 (xok rfl rfl rfl rfl) rfl rfl ?_ | refine JL.M0 (xok rfl rfl rfl rfl) rfl ?_ | refine JL.Q0 (xok rfl rfl rfl rfl) rfl ?_); refine JL.finN ?_; refine JF.Branch 5 [7] (xok rfl rfl rfl rfl) ?_ ?_; (focus (repeat (first | exact StF.nil | refine StF.One rfl rfl rfl ?_))); refine BrF.one rfl rfl ?_ (BrF.one rfl rfl ?_ BrF.nil); (· (first | refine JL.Q1 (xok rfl rfl rfl rfl) rfl rfl ?_ | refine JL.G1 (xok rfl rfl rfl rfl) rfl rfl rfl ?_ | refine JL.M1 (xok rfl rfl rfl rfl) rfl rfl ?_ | refine JL.M0 (xok rfl rfl rfl rfl) rfl ?_ | refine JL.Q0 (xok rfl rfl rfl rfl) rfl ?_); refine JL.finN ?_; refine JF.Branch 6 [7] (xok rfl rfl rfl rfl) ?_ ?_; (focus (repeat (first | exact StF.nil | refine StF.One rfl rfl rfl ?_))); refine BrF.one rfl rfl ?_ (BrF.one rfl rfl ?_ BrF.nil); (· (first | refine JL.Q1 (xok rfl rfl rfl rfl) rfl rfl ?_ | refine JL.G1 (xok rfl rfl rfl rfl) rfl rfl rfl ?_ | refine JL.M1 (xok rfl rfl rfl rfl) rfl rfl ?_ | refine JL.M0 (xok rfl rfl rfl rfl) rfl ?_ | refine JL.Q0 (xok rfl rfl rfl rfl) rfl ?_); refine JL.finN ?_; refine JF.Branch 7 [] (xok rfl rfl rfl rfl) ?_ ?_; (focus (repeat (first | exact StF.nil | refine StF.One rfl rfl rfl ?_))); refine BrF.one rfl rfl ?_ BrF.nil; (· (first | refine JL.Q1 (xok rfl rfl rfl rfl) rfl rfl ?_ | refine JL.G1 (xok rfl rfl rfl rfl) rfl rfl rfl ?_ | refine JL.M1 (xok rfl rfl rfl rfl) rfl rfl ?_ | refine JL.M0 (xok rfl rfl rfl rfl) rfl ?_ | refine JL.Q0 (xok rfl rfl rfl rfl) rfl ?_); refine JL.finN ?_; refine JF.Branch 8 [] (xok rfl rfl rfl rfl) ?_ ?_; (focus (repeat (first | exact StF.nil | refine StF.One rfl rfl rfl ?_))); refine BrF.one rfl rfl ?_ BrF.nil; (· (first | refine JL.Q1 (xok rfl rfl rfl rfl) rfl rfl ?_ | refine JL.G1 (xok rfl rfl rfl rfl) rfl rfl rfl ?_ | refine JL.M1 (xok rfl rfl rfl rfl) rfl rfl ?_ | refine JL.M0 (xok rfl rfl rfl rfl) rfl ?_ | refine JL.Q0 (xok rfl rfl rfl rfl) rfl ?_); refine JL.finN ?_; refine JF.Done (xok rfl rfl rfl rfl) ?_ ?_; (focus (repeat (first | exact StF.nil | refine StF.One rfl rfl rfl ?_))); ((exact JW.Auto (by conv => lhs; reduce)))))); (· (first | refine JL.Q1 (xok rfl rfl rfl rfl) rfl rfl ?_ | refine JL.G1 (xok rfl rfl rfl rfl) rfl rfl rfl ?_ | refine JL.M1 (xok rfl rfl rfl rfl) rfl rfl ?_ | refine JL.M0 (xok rfl rfl rfl rfl) rfl ?_ | refine JL.Q0 (xok rfl rfl rfl rfl) rfl ?_); refine JL.finN ?_; refine JF.Branch 6 [] (xok rfl rfl rfl rfl) ?_ ?_; (focus (repeat (first | exact StF.nil | refine StF.One rfl rfl rfl ?_))); refine BrF.one rfl rfl ?_ BrF.nil; (· (first | refine JL.Q1 (xok rfl rfl rfl rfl) rfl rfl ?_ | refine JL.G1 (xok rfl rfl rfl rfl) rfl rfl rfl ?_ | refine JL.M1 (xok rfl rfl rfl rfl) rfl rfl ?_ | refine JL.M0 (xok rfl rfl rfl rfl) rfl ?_ | refine JL.Q0 (xok rfl rfl rfl rfl) rfl ?_); refine JL.finN ?_; refine JF.Branch 8 [] (xok rfl rfl rfl rfl) ?_ ?_; (focus (repeat (first | exact StF.nil | refine StF.One rfl rfl rfl ?_))); refine BrF.one rfl rfl ?_ BrF.nil; (· (first | refine JL.Q1 (xok rfl rfl rfl rfl) rfl rfl ?_ | refine JL.G1 (xok rfl rfl rfl rfl) rfl rfl rfl ?_ | refine JL.M1 (xok rfl rfl rfl rfl) rfl rfl ?_ | refine JL.M0 (xok rfl rfl rfl rfl) rfl ?_ | refine JL.Q0 (xok rfl rfl rfl rfl) rfl ?_); refine JL.finN ?_; refine JF.Done (xok rfl rfl rfl rfl) ?_ ?_; (focus (repeat (first | exact StF.nil | refine StF.One rfl rfl rfl ?_))); ((exact JW.Auto (by conv => lhs; reduce))))))); (· (first | refine JL.Q1 (xok rfl rfl rfl rfl) rfl rfl ?_ | refine JL.G1 (xok rfl rfl rfl rfl) rfl rfl rfl ?_ | refine JL.M1 (xok rfl rfl rfl rfl) rfl rfl ?_ | refine JL.M0 (xok rfl rfl rfl rfl) rfl ?_ | refine JL.Q0 (xok rfl rfl rfl rfl) rfl ?_); refine JL.finN ?_; refine JF.Branch 5 [] (xok rfl rfl rfl rfl) ?_ ?_; (focus (repeat (first | exact StF.nil | refine StF.One rfl rfl rfl ?_))); refine BrF.one rfl rfl ?_ BrF.nil; (· (first | refine JL.Q1 (xok rfl rfl rfl rfl) rfl rfl ?_ | refine JL.G1 (xok rfl rfl rfl rfl) rfl rfl rfl ?_ | refine JL.M1 (xok rfl rfl rfl rfl) rfl rfl ?_ | refine JL.M0 (xok rfl rfl rfl rfl) rfl ?_ | refine JL.Q0 (xok rfl rfl rfl rfl) rfl ?_); refine JL.finN ?_; refine JF.Branch 6 [] (xok rfl rfl rfl rfl) ?_ ?_; (focus (repeat (first | exact StF.nil | refine StF.One rfl rfl rfl ?_))); refine BrF.one rfl rfl ?_ BrF.nil; (· (first | refine JL.Q1 (xok rfl rfl rfl rfl) rfl rfl ?_ | refine JL.G1 (xok rfl rfl rfl rfl) rfl rfl rfl ?_ | refine JL.M1 (xok rfl rfl rfl rfl) rfl rfl ?_ | refine JL.M0 (xok rfl rfl rfl rfl) rfl ?_ | refine JL.Q0 (xok rfl rfl rfl rfl) rfl ?_); refine JL.finN ?_; refine JF.Branch 8 [] (xok rfl rfl rfl rfl) ?_ ?_; (focus (repeat (first | exact StF.nil | refine StF.One rfl rfl rfl ?_))); refine BrF.one rfl rfl ?_ BrF.nil; (· (first | refine JL.Q1 (xok rfl rfl rfl rfl) rfl rfl ?_ | refine JL.G1 (xok rfl rfl rfl rfl) rfl rfl rfl ?_ | refine JL.M1 (xok rfl rfl rfl rfl) rfl rfl ?_ | refine JL.M0 (xok rfl rfl rfl rfl) rfl ?_ | refine JL.Q0 (xok rfl rfl rfl rfl) rfl ?_); refine JL.finN ?_; refine JF.Done (xok rfl rfl rfl rfl) ?_ ?_; (focus (repeat (first | exact StF.nil | refine StF.One rfl rfl rfl ?_))); ((exact JW.Auto (by conv => lhs; reduce)))))))); (· (first | refine JL.Q1 (xok rfl rfl rfl rfl) rfl rfl ?_ | refine JL.G1 (xok rfl rfl rfl rfl) rfl rfl rfl ?_ | refine JL.M1 (xok rfl rfl rfl rfl) rfl rfl ?_ | refine JL.M0 (xok rfl rfl rfl rfl) rfl ?_ | refine JL.Q0 (xok rfl rfl rfl rfl) rfl ?_); refine JL.finN ?_; refine JF.Branch 2 [] (xok rfl rfl rfl rfl) ?_ ?_; (focus (repeat (first | exact StF.nil | refine StF.One rfl rfl rfl ?_))); refine BrF.one rfl rfl ?_ BrF.nil; (· (first | refine JL.Q1 (xok rfl rfl rfl rfl) rfl rfl ?_ | refine JL.G1 (xok rfl rfl rfl rfl) rfl rfl rfl ?_ | refine JL.M1 (xok rfl rfl rfl rfl) rfl rfl ?_ | refine JL.M0 (xok rfl rfl rfl rfl) rfl ?_ | refine JL.Q0 (xok rfl rfl rfl rfl) rfl ?_); refine JL.finN ?_; refine JF.Branch 5 [] (xok rfl rfl rfl rfl) ?_ ?_; (focus (repeat (first | exact StF.nil | refine StF.One rfl rfl rfl ?_))); refine BrF.one rfl rfl ?_ BrF.nil; (· (first | refine JL.Q1 (xok rfl rfl rfl rfl) rfl rfl ?_ | refine JL.G1 (xok rfl rfl rfl rfl) rfl rfl rfl ?_ | refine JL.M1 (xok rfl rfl rfl rfl) rfl rfl ?_ | refine JL.M0 (xok rfl rfl rfl rfl) rfl ?_ | refine JL.Q0 (xok rfl rfl rfl rfl) rfl ?_); refine JL.finN ?_; refine JF.Branch 6 [] (xok rfl rfl rfl rfl) ?_ ?_; (focus (repeat (first | exact StF.nil | refine StF.One rfl rfl rfl ?_))); refine BrF.one rfl rfl ?_ BrF.nil; (· (first | refine JL.Q1 (xok rfl rfl rfl rfl) rfl rfl ?_ | refine JL.G1 (xok rfl rfl rfl rfl) rfl rfl rfl ?_ | refine JL.M1 (xok rfl rfl rfl rfl) rfl rfl ?_ | refine JL.M0 (xok rfl rfl rfl rfl) rfl ?_ | refine JL.Q0 (xok rfl rfl rfl rfl) rfl ?_); refine JL.finN ?_; refine JF.Branch 8 [] (xok rfl rfl rfl rfl) ?_ ?_; (focus (repeat (first | exact StF.nil | refine StF.One rfl rfl rfl ?_))); refine BrF.one rfl rfl ?_ BrF.nil; (· (first | refine JL.Q1 (xok rfl rfl rfl rfl) rfl rfl ?_ | refine JL.G1 (xok rfl rfl rfl rfl) rfl rfl rfl ?_ | refine JL.M1 (xok rfl rfl rfl rfl) rfl rfl ?_ | refine JL.M0 (xok rfl rfl rfl rfl) rfl ?_ | refine JL.Q0 (xok rfl rfl rfl rfl) rfl ?_); refine JL.finN ?_; refine JF.Done (xok rfl rfl rfl rfl) ?_ ?_; (focus (repeat (first | exact StF.nil | refine StF.One rfl rfl rfl ?_))); ((exact JW.Auto (by conv => lhs; reduce)))))))))
  · rw [List.nil_append]
    (repeat (first | refine zs rfl ?_ | refine zg rfl rfl rfl ?_ | refine zd ?_ | refine JK.fin ?_ | refine JK.ret ?_))
    refine JK.loop (fun j : Nat => ⟨[(1, vL l), (4, .lf (.optr 1 [])), (5, .lf (.optr 2 [])), (6, vI (j : Int))], [(1, .cell caT (zav caT)), (2, .cell caT (.mix (vI n) (.mix (.lf (.osl 3)) (.val .nil ())))), (3, .sl 50 evT (ev ++ dupL (l.take j)))], 4⟩)
      (fun j => j ≤ l.length) (fun j => l.length - j) 0 (Nat.zero_le _) (by (refine JW.auto (by conv => lhs; reduce) ?_ ?_ ?_ ?_ rfl <;> (repeat' (first | exact trivial | exact rfl | refine And.intro ?_ ?_ | exact Nat.le_of_ble_eq_true rfl | refine HO.bdF ?_ | refine HO.bdP ?_ | (refine congrArg (fun z : Int => some (AV.val (.int .i64) z)) ?_; push_cast; omega) | exact congrArg (fun q => some (HO.sl 50 evT q)) (List.append_nil ev).symm)))) fun j hj => ?_
    have hnx : j < l.length → ev ++ dupL (l.take (j + 1)) = (ev ++ dupL (l.take j)) ++ [(l.getD j 0, l.getD j 0, ())] := fun h => by
      rw [List.take_succ, List.getElem?_eq_getElem h, getD_nat l h, dupL, List.map_append, ← List.append_assoc]; rfl
    have hen : j = l.length → ev ++ dupL (l.take j) = ev ++ dupL l := fun e => by rw [e, List.take_length]
    have hpl : (ev ++ dupL (l.take j)).length ≤ 2000 := by unfold dupL; simp; omega
    generalize ev ++ dupL (l.take j) = P0 at hnx hen hpl ⊢
    (repeat (first | refine zs rfl ?_ | refine zg rfl rfl rfl ?_ | refine zd ?_ | refine JK.fin ?_ | refine JK.ret ?_))
    refine JK.cond rfl (fun hc => ?_) (fun hc => ?_)
    · (simp only [↓bif_or, ↓bif_and, ↓Bool.or_eq_true, ↓Bool.or_eq_false_iff, ↓Bool.and_eq_true, ↓Bool.and_eq_false_iff, ↓Bool.not_eq_true', ↓Bool.not_eq_false', ↓decide_eq_true_eq, ↓decide_eq_false_iff_not, ↓beq_iff_eq, ↓bne_iff_ne, ↓bne_eq_false_iff_eq, ↓ne_eq, ↓beq_eq_false_iff_ne, ↓Bool.not_eq_true] at hc; try simp only [Ty.dflt, Int.toNat_natCast] at hc)
      replace hnx := hnx (by omega)
      (repeat (first | refine zs rfl ?_ | refine zg rfl rfl rfl ?_ | refine JK.fin ?_ | refine JK.ret ?_))
      refine JK.drawP (xok rfl rfl rfl rfl) (Go.Proofs.Try.f49.body.getD .skip) rfl 15 rfl ?_
      (refine JF.First 0 (xok rfl rfl rfl rfl) rfl rfl ?_; refine JF.First 2 (xok rfl rfl rfl rfl) rfl rfl ?_; refine JF.First 3 (xok rfl rfl rfl rfl) rfl rfl ?_; refine JF.First 4 (xok rfl rfl rfl rfl) rfl rfl ?_; refine JF.First 6 (xok rfl rfl rfl rfl) rfl rfl ?_; refine JF.First 7 (xok rfl rfl rfl rfl) rfl rfl ?_; refine JF.First 8 (xok rfl rfl rfl rfl) rfl rfl ?_; refine JF.Float 1 (xok rfl rfl rfl rfl) rfl rfl ?_; refine JF.Float 5 (xok rfl rfl rfl rfl) rfl rfl ?_; refine JF.Float 9 (xok rfl rfl rfl rfl) rfl rfl ?_; refine JF.Branch 10 [] (xok rfl rfl rfl rfl) ?_ ?_; (focus (repeat (first | exact StF.nil | refine StF.One rfl rfl rfl ?_))); refine BrF.one rfl rfl ?_ BrF.nil; (· (first | refine JL.Q1 (xok rfl rfl rfl rfl) rfl rfl ?_ | refine JL.G1 (xok rfl rfl rfl rfl) rfl rfl rfl ?_ | refine JL.M1 (xok rfl rfl rfl rfl) rfl rfl ?_ | refine JL.M0 (xok rfl rfl rfl rfl) rfl ?_ | refine JL.Q0 (xok rfl rfl rfl rfl) rfl ?_); refine JL.finN ?_; refine JF.Branch 11 [] (xok rfl rfl rfl rfl) ?_ ?_; (focus (repeat (first | exact StF.nil | refine StF.One rfl rfl rfl ?_))); refine BrF.one rfl rfl ?_ BrF.nil; (· (first | refine JL.Q1 (xok rfl rfl rfl rfl) rfl rfl ?_ | refine JL.G1 (xok rfl rfl rfl rfl) rfl rfl rfl ?_ | refine JL.M1 (xok rfl rfl rfl rfl) rfl rfl ?_ | refine JL.M0 (xok rfl rfl rfl rfl) rfl ?_ | refine JL.Q0 (xok rfl rfl rfl rfl) rfl ?_); refine JL.finN ?_; refine JF.Branch 12 [] (xok rfl rfl rfl rfl) ?_ ?_; (focus (repeat (first | exact StF.nil | refine StF.One rfl rfl rfl ?_))); refine BrF.one rfl rfl ?_ BrF.nil; (· (first | refine JL.Q1 (xok rfl rfl rfl rfl) rfl rfl ?_ | refine JL.G1 (xok rfl rfl rfl rfl) rfl rfl rfl ?_ | refine JL.M1 (xok rfl rfl rfl rfl) rfl rfl ?_ | refine JL.M0 (xok rfl rfl rfl rfl) rfl ?_ | refine JL.Q0 (xok rfl rfl rfl rfl) rfl ?_); refine JL.finN ?_; refine JF.First 13 (xok rfl rfl rfl rfl) rfl rfl ?_; refine JF.Branch 14 [] (xok rfl rfl rfl rfl) ?_ ?_; (focus (repeat (first | exact StF.nil | refine StF.One rfl rfl rfl ?_))); refine BrF.one rfl rfl ?_ BrF.nil; (· (first | refine JL.Q1 (xok rfl rfl rfl rfl) rfl rfl ?_ | refine JL.G1 (xok rfl rfl rfl rfl) rfl rfl rfl ?_ | refine JL.M1 (xok rfl rfl rfl rfl) rfl rfl ?_ | refine JL.M0 (xok rfl rfl rfl rfl) rfl ?_ | refine JL.Q0 (xok rfl rfl rfl rfl) rfl ?_); refine JL.finN ?_; refine JF.Done (xok rfl rfl rfl rfl) ?_ ?_; (focus (repeat (first | exact StF.nil | refine StF.One rfl rfl rfl ?_))); (((repeat (first | refine zs rfl ?_ | refine zg rfl rfl rfl ?_ | refine zd ?_ | refine JK.fin ?_ | refine JK.ret ?_)); refine ⟨j + 1, ?_, by omega, by omega⟩; dsimp only; rw [hnx]; (exact JW.Auto (by conv => lhs; reduce)))))))))
    · (simp only [↓bif_or, ↓bif_and, ↓Bool.or_eq_true, ↓Bool.or_eq_false_iff, ↓Bool.and_eq_true, ↓Bool.and_eq_false_iff, ↓Bool.not_eq_true', ↓Bool.not_eq_false', ↓decide_eq_true_eq, ↓decide_eq_false_iff_not, ↓beq_iff_eq, ↓bne_iff_ne, ↓bne_eq_false_iff_eq, ↓ne_eq, ↓beq_eq_false_iff_ne, ↓Bool.not_eq_true] at hc; try simp only [Ty.dflt, Int.toNat_natCast] at hc)
      rw [← hen (by omega)]
      (repeat (first | refine zs rfl ?_ | refine zg rfl rfl rfl ?_ | refine zd ?_ | refine JK.fin ?_ | refine JK.ret ?_))
      refine ⟨.inl rfl, _, _, rfl, trivial, ?_⟩
      rfl
def truL (n : Nat) (b : Nat) : List Int := (List.range n).map fun k => ((b / 2 ^ k % 2 : Nat) : Int)
theorem truL_succ (n b : Nat) : truL (n + 1) b = truL n b ++ [((b / 2 ^ n % 2 : Nat) : Int)] := by unfold truL; rw [List.range_succ]; simp
theorem truL_len (n b : Nat) : (truL n b).length = n := by simp [truL]
theorem truL_bin (n b : Nat) : bin (truL n b) := fun x hx => by
  obtain ⟨k, _, rfl⟩ := List.mem_map.1 hx
  have := Nat.mod_two_eq_zero_or_one (b / 2 ^ k)
  omega
def trueX (tr : List Int) (x : evD) : evD := if (holdsR tr x.1 || holdsR tr x.2.1) = true then x else (x.1, 0 - x.2.1, ())
def trueE (tr : List Int) (ev : List evD) : List evD := ev.map (trueX tr)
theorem fn43 (n : Nat) (ev : List evD) (b : Nat) (hb : b < 65536) (hn : n ≤ 12) (hl : ev.length ≤ 1000) (hv : valid n ev) : Ox.Fn Go.Proofs.Try.prog 43 (.acons (vC n ev) (.acons (.val (.int .u16) (b : Int)) .anil)) (· = .tup (.acons (vC n (trueE (truL n b) ev)) (.acons (vL (truL n b)) .anil))) := by
  refine Ox.Fn.intro xok Go.Proofs.Try.func43 rfl Go.Proofs.Try.call43 (Nat.le_of_ble_eq_true rfl) (fun E M0 up => ?_)
  refine JK.start ?_
  (repeat (first | refine zs rfl ?_ | refine zg rfl rfl rfl ?_ | refine zd ?_ | refine JK.fin ?_ | refine JK.ret ?_))
  refine JK.ghost 6 3 (.int .i64) rfl ?_
  refine JK.loop (fun k : Nat => ⟨[(1, .val (.int .u16) (b : Int)), (2, .lf (.optr 0 [])), (4, .lf (.optr 1 [])), (6, .lf (.osl 2)), (7, vI (k : Int))], [(0, .cell caT (vC n ev)), (1, .cell caT (zav caT)), (2, .sl 3 (.int .i64) (truL k b))], 3⟩) (fun k => k ≤ n) (fun k => n - k) 0 (Nat.zero_le _) (by (exact JW.Auto (by conv => lhs; reduce))) fun k hk => ?_
  have hln := truL_len k b
  have hnx := truL_succ k b
  have hend : k = n → truL k b = truL n b := fun e => by rw [e]
  generalize truL k b = tk at hln hnx hend ⊢
  (repeat (first | refine zs rfl ?_ | refine zg rfl rfl rfl ?_ | refine zd ?_ | refine JK.fin ?_ | refine JK.ret ?_))
  refine JK.cond rfl (fun hc => ?_) (fun hc => ?_)
  · (simp only [↓bif_or, ↓bif_and, ↓Bool.or_eq_true, ↓Bool.or_eq_false_iff, ↓Bool.and_eq_true, ↓Bool.and_eq_false_iff, ↓Bool.not_eq_true', ↓Bool.not_eq_false', ↓decide_eq_true_eq, ↓decide_eq_false_iff_not, ↓beq_iff_eq, ↓bne_iff_ne, ↓bne_eq_false_iff_eq, ↓ne_eq, ↓beq_eq_false_iff_ne, ↓Bool.not_eq_true] at hc; try simp only [Ty.dflt, Int.toNat_natCast] at hc)
    have hq : (b : Int) / 2 ^ k = ((b / 2 ^ k : Nat) : Int) := by push_cast; rfl
    have hq2 : b / 2 ^ k ≤ b := Nat.div_le_self _ _
    have hq3 : 0 ≤ (b : Int) / 2 ^ k ∧ (b : Int) / 2 ^ k ≤ 65535 := by
      rw [hq]; generalize b / 2 ^ k = q at hq2; omega
    have hdg : ((((b : Int) / 2 ^ ((k : Int)).toNat).toNat &&& 1 : Nat) : Int) = ((b / 2 ^ k % 2 : Nat) : Int) := by
      rw [Int.toNat_natCast, hq, Int.toNat_natCast, Nat.and_one_is_mod]
    have hand : ((b : Int) / 2 ^ k).toNat &&& Int.toNat 1 ≤ 1 := Nat.and_le_right
    (repeat (first | refine zs rfl ?_ | refine zg rfl rfl rfl ?_ | refine zd ?_ | refine JK.fin ?_ | refine JK.ret ?_))
    refine ⟨k + 1, ?_, by omega, by omega⟩
    dsimp only
    rw [hnx, ← hdg]
    (exact JW.Auto (by conv => lhs; reduce))
  · (simp only [↓bif_or, ↓bif_and, ↓Bool.or_eq_true, ↓Bool.or_eq_false_iff, ↓Bool.and_eq_true, ↓Bool.and_eq_false_iff, ↓Bool.not_eq_true', ↓Bool.not_eq_false', ↓decide_eq_true_eq, ↓decide_eq_false_iff_not, ↓beq_iff_eq, ↓bne_iff_ne, ↓bne_eq_false_iff_eq, ↓ne_eq, ↓beq_eq_false_iff_ne, ↓Bool.not_eq_true] at hc; try simp only [Ty.dflt, Int.toNat_natCast] at hc)
    obtain rfl : n = k := by omega
    rw [hend rfl] at hln ⊢
    have hbn := truL_bin n b
    generalize truL n b = tr at hln hbn ⊢
    clear hnx hend
    (repeat (first | refine zs rfl ?_ | refine zg rfl rfl rfl ?_ | refine zd ?_ | refine JK.fin ?_ | refine JK.ret ?_))
    refine JK.ghostC 3 1 50 evT rfl rfl ?_
    refine JK.loop (fun j : Nat => ⟨[(2, .lf (.optr 0 [])), (4, .lf (.optr 1 [])), (6, .lf (.osl 2)), (8, .lf (.optr 3 [])), (9, vI (j : Int))], [(0, .cell caT (vC n ev)), (1, .cell caT (zav caT)), (2, .sl 3 (.int .i64) tr), (3, .cell caT (.mix (vI n) (.mix (.lf (.osl 4)) (.val .nil ())))), (4, .sl 50 evT (trueE tr (ev.take j)))], 5⟩) (fun j => j ≤ ev.length) (fun j => ev.length - j) 0 (Nat.zero_le _) (by (exact JW.Auto (by conv => lhs; reduce))) fun j hj => ?_
    have hnx : j < ev.length → trueE tr (ev.take (j + 1)) = trueE tr (ev.take j) ++ [trueX tr (ev.getD j (0, 0, ()))] := fun h => by
      rw [List.take_succ, List.getElem?_eq_getElem h, getD_nat ev h, trueE, List.map_append]; rfl
    have hen : j = ev.length → trueE tr (ev.take j) = trueE tr ev := fun e => by rw [e, List.take_length]
    have hpl : (trueE tr (ev.take j)).length ≤ 1000 := by unfold trueE; simp; omega
    generalize trueE tr (ev.take j) = P0 at hnx hen hpl ⊢
    (repeat (first | refine zs rfl ?_ | refine zg rfl rfl rfl ?_ | refine zd ?_ | refine JK.fin ?_ | refine JK.ret ?_))
    refine JK.cond rfl (fun hd => ?_) (fun hd => ?_)
    · (simp only [↓bif_or, ↓bif_and, ↓Bool.or_eq_true, ↓Bool.or_eq_false_iff, ↓Bool.and_eq_true, ↓Bool.and_eq_false_iff, ↓Bool.not_eq_true', ↓Bool.not_eq_false', ↓decide_eq_true_eq, ↓decide_eq_false_iff_not, ↓beq_iff_eq, ↓bne_iff_ne, ↓bne_eq_false_iff_eq, ↓ne_eq, ↓beq_eq_false_iff_ne, ↓Bool.not_eq_true] at hd; try simp only [Ty.dflt, Int.toNat_natCast] at hd)
      have hj' : j < ev.length := by omega
      replace hnx := hnx hj'
      have hx := hv (ev.getD j (0, 0, ())) (by rw [getD_nat ev hj']; exact List.getElem_mem _)
      have eX : ev.getD ((j : Int)).toNat evT.dflt = ev.getD j (0, 0, ()) := rfl
      (repeat (first | refine zu rfl ?_ | refine zg rfl rfl rfl ?_ | refine zd ?_ | refine JK.fin ?_ | refine JK.ret ?_))
      rw [eX]
      generalize ev.getD j (0, 0, ()) = X at hx hnx ⊢
      obtain ⟨x, y, u⟩ := X
      dsimp only at hx
      have c71 := fn71 tr (x, y, u) (by rw [hln]; exact hx.1) (by rw [hln]; exact hx.2) (by omega)
      have hyb : -1000 ≤ y ∧ y ≤ 1000 := by have := hx.2; unfold isSay at this; omega
      unfold trueX at hnx
      dsimp only at c71 hnx
      generalize (holdsR tr x || holdsR tr y) = h at c71 hnx
      (repeat (first | refine zs rfl ?_ | refine zg rfl rfl rfl ?_ | refine zd ?_ | refine JK.fin ?_ | refine JK.ret ?_ | refine zc rfl (c71) rfl rfl ?_ | refine ze rfl (c71) rfl ?_ | refine zk rfl rfl (fun _ => c71) rfl rfl ?_))
      refine JK.cond rfl (fun hg => ?_) (fun hg => ?_)
      · have hh : h = false := by simpa using hg
        rw [hh, if_neg (by simp)] at hnx
        (repeat (first | refine zs rfl ?_ | refine zg rfl rfl rfl ?_ | refine zd ?_ | refine JK.fin ?_ | refine JK.ret ?_))
        refine ⟨j + 1, ?_, by omega, by omega⟩
        dsimp only
        rw [hnx]
        (exact JW.Auto (by conv => lhs; reduce))
      · have hh : h = true := by simpa using hg
        rw [hh, if_pos rfl] at hnx
        (repeat (first | refine zs rfl ?_ | refine zg rfl rfl rfl ?_ | refine zd ?_ | refine JK.fin ?_ | refine JK.ret ?_))
        refine ⟨j + 1, ?_, by omega, by omega⟩
        dsimp only
        rw [hnx]
        (exact JW.Auto (by conv => lhs; reduce))
    · (simp only [↓bif_or, ↓bif_and, ↓Bool.or_eq_true, ↓Bool.or_eq_false_iff, ↓Bool.and_eq_true, ↓Bool.and_eq_false_iff, ↓Bool.not_eq_true', ↓Bool.not_eq_false', ↓decide_eq_true_eq, ↓decide_eq_false_iff_not, ↓beq_iff_eq, ↓bne_iff_ne, ↓bne_eq_false_iff_eq, ↓ne_eq, ↓beq_eq_false_iff_ne, ↓Bool.not_eq_true] at hd; try simp only [Ty.dflt, Int.toNat_natCast] at hd)
      rw [← hen (by omega)]
      (repeat (first | refine zs rfl ?_ | refine zg rfl rfl rfl ?_ | refine zd ?_ | refine JK.fin ?_ | refine JK.ret ?_))
      refine ⟨.inl rfl, _, _, rfl, trivial, ?_⟩
      rfl
end Go.Proofs.Ytdmfofjaknngnaa

namespace Go.Proofs.Ytdmfofjaknngnaa
open Go Go.RowKit Ox Ox.Two

abbrev z0 : stD := (0, 0, 0, ())
theorem stepB_step {ev : List evD} {z : stD} (hz : byB ev z = true) (h : stepB ev z = true) : Step ev z.1 z.2.1 := by
  have hb := of_decide_eq_true hz
  have hi : z.2.2.1.toNat < ev.length := by omega
  have := of_decide_eq_true h
  rw [getD_nat ev hi] at this
  exact ⟨_, List.getElem_mem hi, this⟩
theorem step_stepB {ev : List evD} {z : stD} (h : z ∈ stepsL ev z.1) : stepB ev z = true ∧ byB ev z = true := by
  obtain ⟨k, x, h1, h2, h3⟩ := mem_stepsF.1 h
  have hk : k < ev.length := (List.getElem?_eq_some_iff.1 h1).1
  have hx : ev[k] = x := (List.getElem?_eq_some_iff.1 h1).2
  have e3 : z.2.2.1 = ((0 + k : Nat) : Int) := by rw [h2]
  refine ⟨decide_eq_true ?_, decide_eq_true (by omega)⟩
  rw [e3, show (((0 + k : Nat) : Int)).toNat = k by omega, getD_nat ev hk, hx]
  exact h3.imp (fun h => ⟨h.1, h.2.symm⟩) fun h => ⟨h.1, h.2.symm⟩
theorem getD_app {l : List stD} {z : stD} {j : Nat} (h : j < l.length) : (l ++ [z]).getD j z0 = l.getD j z0 := by
  rw [getD_nat _ (by simp; omega), getD_nat l h, List.getElem_append_left h]
theorem getD_end (l : List stD) (z : stD) : (l ++ [z]).getD l.length z0 = z := by
  rw [getD_nat _ (by simp)]; simp
theorem link_app {ev : List evD} {l : List stD} {z : stD} (h : linkB ev l l.length = true) : linkB ev (l ++ [z]) l.length = true := by
  unfold linkB at *
  rw [List.all_eq_true] at *
  intro j hj
  have hj' := List.mem_range.1 hj
  have := h j hj
  unfold linkAt at *
  rw [show (l ++ [z]).getD j (0, 0, 0, ()) = l.getD j (0, 0, 0, ()) from getD_app hj', show (l ++ [z]).getD (j - 1) (0, 0, 0, ()) = l.getD (j - 1) (0, 0, 0, ()) from getD_app (by omega)]
  exact this
theorem path_link {ev : List evD} {a b : Int} {l : List stD} (h : Two.Path ev a l b) : l.all (byB ev) = true ∧ linkB ev l l.length = true ∧ (l ≠ [] → (l.getD 0 z0).1 = a ∧ (l.getD (l.length - 1) z0).2.1 = b) ∧ (l = [] → b = a) := by
  induction h with
  | nil => exact ⟨rfl, rfl, fun h => absurd rfl h, fun _ => rfl⟩
  | @snoc l z h1 h2 ih =>
    obtain ⟨i1, i2, i3, i4⟩ := ih
    obtain ⟨s1, s2⟩ := step_stepB h2
    refine ⟨by rw [List.all_append, i1]; simp [s2], ?_, fun _ => ⟨?_, ?_⟩, fun h => by simp at h⟩
    · rw [List.length_append]
      refine linkB_succ (link_app i2) ?_
      unfold linkAt
      rw [show (l ++ [z]).getD l.length (0, 0, 0, ()) = z from getD_end l z, s1, Bool.true_and, Bool.or_eq_true, decide_eq_true_eq, decide_eq_true_eq]
      by_cases e : l = []
      · left; rw [e]; rfl
      · right
        have hp : 0 < l.length := List.length_pos_iff.2 e
        rw [show (l ++ [z]).getD (l.length - 1) (0, 0, 0, ()) = l.getD (l.length - 1) (0, 0, 0, ()) from getD_app (by omega)]
        exact ((i3 e).2).symm
    · by_cases e : l = []
      · subst e; show z.1 = a; exact i4 rfl
      · rw [getD_app (List.length_pos_iff.2 e)]; exact (i3 e).1
    · rw [List.length_append, show l.length + [z].length - 1 = l.length by simp, getD_end]
theorem path_trans {ev : List evD} {a b c : Int} {l m : List stD} (h : Two.Path ev a l b) (k : Two.Path ev b m c) : Two.Path ev a (l ++ m) c := by
  induction k with
  | nil => rw [List.append_nil]; exact h
  | snoc k1 k2 ih => rw [← List.append_assoc]; exact Two.Path.snoc ih k2
theorem path_chain {n : Int} {ev : List evD} {a b : Int} {l : List stD} (h0 : caseErr n ev = 0) (h : Two.Path ev a l b) (h1 : 1 ≤ l.length) (h2 : l.length ≤ 60) : chainR n ev l = (a, b, 0) := by
  obtain ⟨p1, p2, p3, _⟩ := path_link h
  have hne : l ≠ [] := fun e => by rw [e] at h1; simp at h1
  rw [chainR, if_neg (fun h => h h0), if_neg (by omega), if_neg (fun h => h p1), if_pos p2]
  rw [show (l.getD 0 (0, 0, 0, ())).1 = a from (p3 hne).1, show (l.getD (l.length - 1) (0, 0, 0, ())).2.1 = b from (p3 hne).2]
/-- A chain that is returned leads there, with the fewest steps. -/
theorem chain_ok {n : Nat} {ev : List evD} {a b : Int} (hv : valid n ev) (hn : n ≤ 12) (h : chainErr n ev a b = 0) : chainR n ev (chainS ev a b) = (a, b, 0) ∧ ((chainS ev a b).length : Int) = (farS ev n a).getD (key b) 0 ∧ (chainS ev a b).length ≤ 24 ∧ 1 ≤ (chainS ev a b).length := by
  obtain ⟨h0, ha, hb, hne, hr⟩ := chain_reach hv hn h
  obtain ⟨k, hk⟩ := hr.dist
  obtain ⟨p1, p2⟩ := chainS_spec hv hn ha hk
  have hlt := hk.lt hv ha
  have h1 : 1 ≤ k := by
    rcases Nat.eq_zero_or_pos k with e | e
    · subst e; exact absurd (Dist.zero.1 hk) hne
    · exact e
  exact ⟨path_chain h0 p1 (by omega) (by omega), by rw [farS_dist hv ha hb hk, p2], by omega, by omega⟩
theorem link_steps {n : Int} {ev : List evD} {ch : List stD} (h : (chainR n ev ch).2.2 = 0) : caseErr n ev = 0 ∧ ch ≠ [] ∧ (chainR n ev ch).1 = (ch.getD 0 z0).1 ∧ (chainR n ev ch).2.1 = (ch.getD (ch.length - 1) z0).2.1 ∧ ∀ j, j < ch.length → Step ev (ch.getD j z0).1 (ch.getD j z0).2.1 ∧ (j = 0 ∨ (ch.getD j z0).1 = (ch.getD (j - 1) z0).2.1) := by
  unfold chainR at h ⊢
  by_cases h1 : caseErr n ev = 0
  · rw [if_neg (fun h => h h1)] at h ⊢
    by_cases h2 : ch.length < 1 ∨ ch.length > 60
    · rw [if_pos h2] at h; cases h
    · rw [if_neg h2] at h ⊢
      by_cases h3 : ch.all (byB ev) = true
      · rw [if_neg (fun h => h h3)] at h ⊢
        by_cases h4 : linkB ev ch ch.length = true
        · rw [if_pos h4] at h ⊢
          refine ⟨h1, fun e => by rw [e] at h2; simp at h2, rfl, rfl, fun j hj => ?_⟩
          have h5 := List.all_eq_true.1 h4 j (List.mem_range.2 hj)
          have h6 := Bool.and_eq_true_iff.1 h5
          have hby : byB ev (ch.getD j z0) = true := by rw [getD_nat ch hj]; exact List.all_eq_true.1 h3 _ (List.getElem_mem hj)
          refine ⟨stepB_step hby h6.1, ?_⟩
          have h7 := h6.2
          rw [Bool.or_eq_true, decide_eq_true_eq, decide_eq_true_eq] at h7
          exact h7
        · rw [if_neg h4] at h; cases h
      · rw [if_pos h3] at h; cases h
  · rw [if_pos h1] at h; exact absurd h h1
theorem link_reach {ev : List evD} {ch : List stD} (hs : ∀ j, j < ch.length → Step ev (ch.getD j z0).1 (ch.getD j z0).2.1 ∧ (j = 0 ∨ (ch.getD j z0).1 = (ch.getD (j - 1) z0).2.1)) : ∀ i j, i ≤ j → j < ch.length → Two.Reach ev (ch.getD i z0).1 (ch.getD j z0).2.1 := by
  intro i j hij hj
  induction j with
  | zero =>
    obtain rfl : i = 0 := by omega
    exact (Two.Reach.refl ev _).snoc (hs 0 hj).1
  | succ j ih =>
    by_cases e : i = j + 1
    · subst e; exact (Two.Reach.refl ev _).snoc (hs _ hj).1
    · have h1 := ih (by omega) (by omega)
      have h2 := (hs (j + 1) hj).2.resolve_left (by omega)
      rw [Nat.add_sub_cancel] at h2
      rw [← h2] at h1
      exact h1.snoc (hs _ hj).1
/-- Steps that are a contradiction: there is no truth. -/
theorem clash_no {n : Nat} {ev : List evD} {ch : List stD} (hv : valid n ev) (h : clashR n ev ch = 0) : Clash n ev := by
  unfold clashR at h
  by_cases h1 : (chainR n ev ch).2.2 = 0
  · rw [if_neg (fun h => h h1)] at h
    obtain ⟨k1, k2, k3, k4, k5⟩ := link_steps h1
    have hlen : 0 < ch.length := List.length_pos_iff.2 k2
    split at h
    · rename_i hc
      obtain ⟨c1, c2⟩ := hc
      obtain ⟨z, hz, c3⟩ := List.any_eq_true.1 c2
      obtain ⟨j, hj, rfl⟩ := List.mem_iff_getElem.1 hz
      have c3' := of_decide_eq_true c3
      rw [← getD_nat ch hj z0] at c3'
      have hst := (k5 0 hlen).1
      have hsay := (hst.say hv).1
      rw [k4, k3] at c1
      rw [k3] at c3'
      have r1 := link_reach k5 0 j (by omega) hj
      rw [c3'] at r1
      have r2 : Two.Reach ev (-(ch.getD 0 z0).1) (ch.getD 0 z0).1 := by
        by_cases e : j = ch.length - 1
        · rw [e, ← c1] at c3'
          exact absurd c3' (by have := hsay.ne; omega)
        · have := link_reach k5 (j + 1) (ch.length - 1) (by omega) (by omega)
          have h6 := (k5 (j + 1) (by omega)).2.resolve_left (by omega)
          rw [Nat.add_sub_cancel, c3'] at h6
          rw [h6, ← c1] at this
          exact this
      apply Classical.byContradiction
      intro hno
      exact no_clash hno hsay ⟨r1, r2⟩
    · cases h
  · rw [if_pos h1] at h; exact absurd h h1
/-- A contradiction that is returned is one. -/
theorem clash_ok {n : Nat} {ev : List evD} (hv : valid n ev) (hn : n ≤ 12) (h0 : caseErr n ev = 0) (hc : Clash n ev) : (clashL n ev).2 = 0 ∧ clashR n ev (clashL n ev).1 = 0 := by
  have hk := (clash_iff hv hn).2 hc
  obtain ⟨k, h1, _, h3, h4⟩ := clashF_at _ _ _ hk
  obtain ⟨r1, r2⟩ := (clash_at hv hn (by omega)).1 h4
  rw [show -((k : Int) + 1) = -1 - (k : Int) by omega] at r1 r2
  have s1 : isSay n ((k : Int) + 1) := .inl ⟨by omega, by omega⟩
  have s2 : isSay n (-1 - (k : Int)) := .inr ⟨by omega, by omega⟩
  have hr : clashL n ev = (chainS ev ((k : Int) + 1) (-1 - (k : Int)) ++ chainS ev (-1 - (k : Int)) ((k : Int) + 1), 0) := by rw [clashL, if_neg (fun h => h h0), Int.toNat_natCast, h1, if_neg (by omega)]
  rw [hr]
  refine ⟨rfl, ?_⟩
  have l1 := chainS_len hv hn s1 r1
  have l2 := chainS_len hv hn s2 r2
  obtain ⟨k1, d1⟩ := r1.dist
  obtain ⟨k2, d2⟩ := r2.dist
  obtain ⟨p1, e1⟩ := chainS_spec hv hn s1 d1
  obtain ⟨p2, e2⟩ := chainS_spec hv hn s2 d2
  have hpos : 1 ≤ k1 := by
    rcases Nat.eq_zero_or_pos k1 with e | e
    · subst e; have := Dist.zero.1 d1; omega
    · exact e
  have hch := path_chain h0 (path_trans p1 p2) (by rw [List.length_append]; omega) (by rw [List.length_append]; omega)
  unfold clashR
  dsimp only
  rw [hch]
  rw [if_neg (fun h => h rfl), if_pos]
  refine ⟨rfl, List.any_eq_true.2 ⟨(chainS ev ((k : Int) + 1) (-1 - (k : Int))).getD ((chainS ev ((k : Int) + 1) (-1 - (k : Int))).length - 1) z0, ?_, decide_eq_true ?_⟩⟩
  · rw [getD_nat _ (by omega)]
    exact List.mem_append_left _ (List.getElem_mem _)
  · have := (path_link p1).2.2.1 (fun e => by rw [e] at e1; simp at e1; omega)
    rw [this.2]
    dsimp only
    omega
end Go.Proofs.Ytdmfofjaknngnaa

namespace Go.Proofs.Ytdmfofjaknngnaa
open Go Go.RowKit Ox Ox.Two
attribute [local irreducible] JC JL JK JW

abbrev evE : List evD := [(1, 2, ()), (-1, 3, ()), (-2, -3, ())]
abbrev evF : List evD := [(1, 2, ()), (-1, 3, ()), (-2, -3, ()), (1, 1, ())]
abbrev evG : List evD := [(1, 2, ()), (-1, 3, ()), (-2, -3, ()), (1, 1, ()), (2, -3, ())]
abbrev clG : List stD := [(1, 3, 1, ()), (3, 2, 4, ()), (2, -3, 2, ()), (-3, -1, 1, ()), (-1, 1, 3, ())]
theorem fn52 : Ox.Fn Go.Proofs.Try.prog 52 .anil (· = .tup (.acons (vC 3 evE) (.acons (vC 3 evF) (.acons (vC 3 evG) (.acons (vSs clG) .anil))))) := by
  refine Ox.Fn.intro xok Go.Proofs.Try.func52 rfl Go.Proofs.Try.call52 (Nat.le_of_ble_eq_true rfl) (fun E M0 up => ?_)
  refine JK.start ?_
  have c1 : Ox.Fn Go.Proofs.Try.prog 82 (.acons (vI 3) (.acons (vL [1, 2, -1, 3, -2, -3]) .anil)) (· = vC 3 evE) := fn82 3 [1, 2, -1, 3, -2, -3] (by decide)
  have c2 : Ox.Fn Go.Proofs.Try.prog 82 (.acons (vI 3) (.acons (vL [1, 2, -1, 3, -2, -3, 1, 1]) .anil)) (· = vC 3 evF) := fn82 3 [1, 2, -1, 3, -2, -3, 1, 1] (by decide)
  have c3 : Ox.Fn Go.Proofs.Try.prog 82 (.acons (vI 3) (.acons (vL [1, 2, -1, 3, -2, -3, 1, 1, 2, -3]) .anil)) (· = vC 3 evG) := fn82 3 [1, 2, -1, 3, -2, -3, 1, 1, 2, -3] (by decide)
  (repeat (first | refine zs rfl ?_ | refine zg rfl rfl rfl ?_ | refine zd ?_ | refine JK.fin ?_ | refine JK.ret ?_))
  (refine JK.frzL [3] [0,1,2,4] rfl (by (first | exact trivial | (try dsimp only [allP, inK, idxC, loC, lohiC, fullC, underG, List.append, List.nil_append, List.cons_append, Ty.den, Ty.dflt, Int.toNat_natCast, List.length_cons, List.length_nil] at *); first | omega | ((repeat' (first | exact trivial | assumption | refine And.intro ?_ ?_ | exact fun h => h | (intro hpk; first | exact hpk | simp only [wantB, hpk, Bool.not_false, Bool.not_true]))) <;> omega) | fail)) ?_)
  refine ze rfl c1 rfl ?_
  (repeat (first | refine zs rfl ?_ | refine zg rfl rfl rfl ?_ | refine zd ?_ | refine JK.fin ?_ | refine JK.ret ?_))
  (refine JK.frzL [4] [0,1,2,5,6] rfl (by (first | exact trivial | (try dsimp only [allP, inK, idxC, loC, lohiC, fullC, underG, List.append, List.nil_append, List.cons_append, Ty.den, Ty.dflt, Int.toNat_natCast, List.length_cons, List.length_nil] at *); first | omega | ((repeat' (first | exact trivial | assumption | refine And.intro ?_ ?_ | exact fun h => h | (intro hpk; first | exact hpk | simp only [wantB, hpk, Bool.not_false, Bool.not_true]))) <;> omega) | fail)) ?_)
  refine ze rfl c2 rfl ?_
  (repeat (first | refine zs rfl ?_ | refine zg rfl rfl rfl ?_ | refine zd ?_ | refine JK.fin ?_ | refine JK.ret ?_))
  (refine JK.frzL [5] [0,1,2,5,7,8] rfl (by (first | exact trivial | (try dsimp only [allP, inK, idxC, loC, lohiC, fullC, underG, List.append, List.nil_append, List.cons_append, Ty.den, Ty.dflt, Int.toNat_natCast, List.length_cons, List.length_nil] at *); first | omega | ((repeat' (first | exact trivial | assumption | refine And.intro ?_ ?_ | exact fun h => h | (intro hpk; first | exact hpk | simp only [wantB, hpk, Bool.not_false, Bool.not_true]))) <;> omega) | fail)) ?_)
  refine ze rfl c3 rfl ?_
  (repeat (first | refine zs rfl ?_ | refine zg rfl rfl rfl ?_ | refine zd ?_ | refine JK.fin ?_ | refine JK.ret ?_ | refine zc rfl (fn47 _ _ _) rfl rfl ?_ | refine ze rfl (fn47 _ _ _) rfl ?_ | refine zk rfl rfl (fun _ => fn47 _ _ _) rfl rfl ?_))
  refine ⟨.inl rfl, _, _, rfl, trivial, ?_⟩
  rfl
end Go.Proofs.Ytdmfofjaknngnaa

namespace Go.Proofs.Ytdmfofjaknngnaa
open Go Go.RowKit Ox Ox.Two
attribute [local irreducible] JC JL JK JW

theorem clashL_none {n : Nat} {ev : List evD} (hv : valid n ev) (hn : n ≤ 12) (h0 : caseErr n ev = 0) (hne : trL ev n ≠ []) : clashL n ev = ([], 5) := by
  rw [clashL, if_neg (fun h => h h0), Int.toNat_natCast, if_pos]
  have := clash_iff hv hn
  have h2 := trL_none hv
  by_cases h : 0 ≤ clashF (deskT ev n) 0 n
  · exact absurd (h2.2 (this.1 h)) hne
  · omega
theorem validB {n : Nat} {ev : List evD} (h : ev.all (fun x => sayB n x.1 && sayB n x.2.1) = true) : valid n ev := fun x hx => by
  have := Bool.and_eq_true_iff.1 (List.all_eq_true.1 h x hx)
  exact ⟨sayB_isSay.1 this.1, sayB_isSay.1 this.2⟩
theorem vEv : valid 3 evE := validB (by decide)
theorem vFv : valid 3 evF := validB (by decide)
theorem vGv : valid 3 evG := validB (by decide)
theorem exE : chainR 3 evE (chainS evE 1 (-2)) = (1, -2, 0) ∧ (chainS evE 1 (-2)).length = 2 := by
  have h : chainErr ((3 : Nat) : Int) evE 1 (-2) = 0 := by decide +kernel
  obtain ⟨h1, h2, _⟩ := chain_ok vEv (by decide) h
  have h3 : (farS evE 3 1).getD (key (-2)) 0 = 2 := by decide +kernel
  rw [h3] at h2
  exact ⟨h1, by omega⟩
theorem exG : (clashL 3 evG).2 = 0 ∧ clashR 3 evG (clashL 3 evG).1 = 0 := clash_ok (n := 3) vGv (by decide) (by decide +kernel) ((trL_none vGv).1 (by decide +kernel))
theorem exF : clashL 3 evF = ([], 5) := clashL_none (n := 3) vFv (by decide) (by decide +kernel) (by decide +kernel)
set_option maxRecDepth 20000 in
set_option maxHeartbeats 4000000 in
theorem fn15 : Ox.Fn Go.Proofs.Try.prog 15 .anil (· = vB true) := by
  refine Ox.Fn.intro xok Go.Proofs.Try.func15 rfl Go.Proofs.Try.call15 (Nat.le_of_ble_eq_true rfl) (fun E M0 up => ?_)
  refine JK.start ?_
  have d1 : Ox.Fn Go.Proofs.Try.prog 38 (.acons (vC 3 evE) .anil) (· = vLI [0, 1, 0] 0) := by have := fn38 3 evE; rwa [show truthR 3 evE = ([0, 1, 0], 0) by decide +kernel] at this
  have d2 : Ox.Fn Go.Proofs.Try.prog 38 (.acons (vC 3 evG) .anil) (· = vLI [] 23) := by have := fn38 3 evG; rwa [show truthR 3 evG = ([], 23) by decide +kernel] at this
  have d3 : Ox.Fn Go.Proofs.Try.prog 41 (.acons (vC 3 evE) (.acons (vL [1, 1, 0]) .anil)) (· = vI 16) := by have := fn41 3 evE [1, 1, 0]; rwa [show truthErr 3 evE [1, 1, 0] = 16 by decide +kernel] at this
  have d4 : Ox.Fn Go.Proofs.Try.prog 40 (.acons (vC 3 evE) .anil) (· = vT2 2 0) := by have := fn40 3 evE; rwa [show countR 3 evE = (2, 0) by decide +kernel] at this
  have d5 : Ox.Fn Go.Proofs.Try.prog 18 (.acons (vC 3 evE) (.acons (vI 1) (.acons (vI (-2)) .anil))) (· = vSI (chainS evE 1 (-2)) 0) := by have := fn18 3 evE 1 (-2) (by decide); rwa [show chainErr 3 evE 1 (-2) = 0 by decide +kernel] at this
  have d6 : Ox.Fn Go.Proofs.Try.prog 18 (.acons (vC 3 evE) (.acons (vI 1) (.acons (vI 2) .anil))) (· = vSI [] 5) := by have := fn18 3 evE 1 2 (by decide); rwa [show chainErr 3 evE 1 2 = 5 by decide +kernel] at this
  have d7 : Ox.Fn Go.Proofs.Try.prog 25 (.acons (vC 3 evF) (.acons (vI 1) .anil)) (· = vT2 2 0) := by have := fn25 3 evF 1 (by decide); rwa [show kindR 3 evF 1 = (2, 0) by decide +kernel] at this
  have d8 : Ox.Fn Go.Proofs.Try.prog 27 (.acons (vC 3 evF) .anil) (· = vLI [1, -2, 3] 0) := by
    have := fn27 3 evF
    rwa [show needErr 3 evF = 0 by decide +kernel, if_neg (by decide), show sureF (trL evF (3 : Int).toNat) (2 * (3 : Int).toNat) = [1, -2, 3] by decide +kernel] at this
  have d9 : Ox.Fn Go.Proofs.Try.prog 29 (.acons (vC 3 evE) .anil) (· = vLLI [[1, -2, 3]] 0) := by
    have := fn29 3 evE
    rwa [show needErr 3 evE = 0 by decide +kernel, if_neg (by decide), show tiedF (trL evE (3 : Int).toNat) (3 : Int).toNat (3 : Int).toNat = [[1, -2, 3]] by decide +kernel] at this
  have d10 : Ox.Fn Go.Proofs.Try.prog 20 (.acons (vC 3 evG) (.acons (vSs clG) .anil)) (· = vI 0) := by have := fn20 3 evG clG; rwa [show clashR 3 evG clG = 0 by decide +kernel] at this
  have d11 : Ox.Fn Go.Proofs.Try.prog 39 (.acons (vC 3 evG) .anil) (· = vSI (clashL 3 evG).1 0) := by have := fn39 3 evG; rwa [exG.1] at this
  have d12 : Ox.Fn Go.Proofs.Try.prog 39 (.acons (vC 3 evF) .anil) (· = vSI [] 5) := by have := fn39 3 evF; rwa [exF] at this
  have d13 : Ox.Fn Go.Proofs.Try.prog 48 (.acons (vC 3 evE) .anil) (· = vLI [0, 1, 0] 0) := by have := fn48 3 evE; rwa [show fewR 3 evE = ([0, 1, 0], 0) by decide +kernel] at this
  have d14 : Ox.Fn Go.Proofs.Try.prog 33 (.acons (vC 3 evE) (.acons (vE (-1, -2, ())) .anil)) (· = vT2 0 0) := by have := fn33 3 evE (-1) (-2) (by decide); rwa [show tellsR 3 evE (-1, -2, ()) = (0, 0) by decide +kernel] at this
  have d15 : Ox.Fn Go.Proofs.Try.prog 35 (.acons (vC 3 evE) .anil) (· = vT3 0 1 0) := by
    have := fn35 3 evE
    rwa [show needErr 3 evE = 0 by decide +kernel, if_neg (by decide), if_neg (by decide), show askF (trL evE (3 : Int).toNat) (3 : Int).toNat = (0, 1) by decide +kernel] at this
  have d16 : Ox.Fn Go.Proofs.Try.prog 17 (.acons (vC 3 evE) (.acons (vSs (chainS evE 1 (-2))) .anil)) (· = vT3 1 (-2) 0) := by have := fn17 3 evE (chainS evE 1 (-2)); rwa [exE.1] at this
  have d17 : Ox.Fn Go.Proofs.Try.prog 21 (.acons (vC 3 evG) (.acons (vSs (clashL 3 evG).1) .anil)) (· = vI 0) := by have := fn21 3 evG (clashL 3 evG).1; rwa [exG.2] at this
  have hlen := exE.2
  generalize chainS evE 1 (-2) = h at d5 d16 hlen
  generalize (clashL 3 evG).1 = x at d11 d17
  obtain ⟨z1, z2, rfl⟩ : ∃ z1 z2, h = [z1, z2] := by
    match h, hlen with
    | [z1, z2], _ => exact ⟨z1, z2, rfl⟩
  clear hlen
  have e1 := fn31 [0, 1, 0] [0, 1, 0]
  have e2 := fn31 [1, -2, 3] [1, -2, 3]
  have e3 := fn32 [[1, -2, 3]] [[1, -2, 3]]
  rw [decide_eq_true rfl] at e1 e2 e3
  (repeat (first | refine zs rfl ?_ | refine zg rfl rfl rfl ?_ | refine zd ?_ | refine JK.fin ?_ | refine JK.ret ?_ | refine zc rfl (fn52) rfl rfl ?_ | refine ze rfl (fn52) rfl ?_ | refine zk rfl rfl (fun _ => fn52) rfl rfl ?_ | refine zc rfl (d1) rfl rfl ?_ | refine ze rfl (d1) rfl ?_ | refine zk rfl rfl (fun _ => d1) rfl rfl ?_ | refine zc rfl (d2) rfl rfl ?_ | refine ze rfl (d2) rfl ?_ | refine zk rfl rfl (fun _ => d2) rfl rfl ?_ | refine zc rfl (d3) rfl rfl ?_ | refine ze rfl (d3) rfl ?_ | refine zk rfl rfl (fun _ => d3) rfl rfl ?_ | refine zc rfl (d4) rfl rfl ?_ | refine ze rfl (d4) rfl ?_ | refine zk rfl rfl (fun _ => d4) rfl rfl ?_ | refine zc rfl (d5) rfl rfl ?_ | refine ze rfl (d5) rfl ?_ | refine zk rfl rfl (fun _ => d5) rfl rfl ?_ | refine zc rfl (d6) rfl rfl ?_ | refine ze rfl (d6) rfl ?_ | refine zk rfl rfl (fun _ => d6) rfl rfl ?_ | refine zc rfl (d7) rfl rfl ?_ | refine ze rfl (d7) rfl ?_ | refine zk rfl rfl (fun _ => d7) rfl rfl ?_ | refine zc rfl (d8) rfl rfl ?_ | refine ze rfl (d8) rfl ?_ | refine zk rfl rfl (fun _ => d8) rfl rfl ?_ | refine zc rfl (d9) rfl rfl ?_ | refine ze rfl (d9) rfl ?_ | refine zk rfl rfl (fun _ => d9) rfl rfl ?_ | refine zc rfl (d10) rfl rfl ?_ | refine ze rfl (d10) rfl ?_ | refine zk rfl rfl (fun _ => d10) rfl rfl ?_ | refine zc rfl (d11) rfl rfl ?_ | refine ze rfl (d11) rfl ?_ | refine zk rfl rfl (fun _ => d11) rfl rfl ?_ | refine zc rfl (d12) rfl rfl ?_ | refine ze rfl (d12) rfl ?_ | refine zk rfl rfl (fun _ => d12) rfl rfl ?_))
  refine JK.cond rfl (fun h => absurd h (by decide)) (fun _ => ?_)
  (repeat (first | refine ze rfl (d13) rfl ?_ | refine ze rfl (d14) rfl ?_ | refine ze rfl (d15) rfl ?_ | refine ze rfl (d16) rfl ?_ | refine zt rfl rfl ?_ | refine zs rfl ?_ | refine zc rfl d17 rfl rfl ?_ | refine zc rfl e1 rfl rfl ?_ | refine zc rfl e2 rfl rfl ?_ | refine zc rfl e3 rfl rfl ?_ | refine JK.ret ?_))
  (refine JK.frzL [6] [27,28,29,30,216,217,218] rfl (by (first | exact trivial | (try dsimp only [allP, inK, idxC, loC, lohiC, fullC, underG, List.append, List.nil_append, List.cons_append, Ty.den, Ty.dflt, Int.toNat_natCast, List.length_cons, List.length_nil] at *); first | omega | ((repeat' (first | exact trivial | assumption | refine And.intro ?_ ?_ | exact fun h => h | (intro hpk; first | exact hpk | simp only [wantB, hpk, Bool.not_false, Bool.not_true]))) <;> omega) | fail)) ?_)
  (repeat (first | refine ze rfl (d13) rfl ?_ | refine ze rfl (d14) rfl ?_ | refine ze rfl (d15) rfl ?_ | refine ze rfl (d16) rfl ?_ | refine zt rfl rfl ?_ | refine zs rfl ?_ | refine zc rfl d17 rfl rfl ?_ | refine zc rfl e1 rfl rfl ?_ | refine zc rfl e2 rfl rfl ?_ | refine zc rfl e3 rfl rfl ?_ | refine JK.ret ?_))
  refine ⟨.inl rfl, _, _, rfl, trivial, ?_⟩
  rfl
end Go.Proofs.Ytdmfofjaknngnaa

namespace Go.Proofs.Ytdmfofjaknngnaa
open Go Go.RowKit Ox Ox.Two
attribute [local irreducible] JC JL JK JW

theorem binB {t : List Int} : (t.all fun x => decide (0 ≤ x ∧ x ≤ 1)) = true ↔ bin t := by
  rw [List.all_eq_true]
  constructor
  · intro h x hx
    have := of_decide_eq_true (h x hx)
    omega
  · intro h x hx
    refine decide_eq_true ?_
    have := h x hx
    omega
theorem truth_mem {n : Nat} {ev : List evD} (h0 : caseErr n ev = 0) (t : List Int) : truthErr n ev t = 0 ↔ t ∈ trL ev n := by
  rw [mem_trL, truthErr, if_neg (fun h => h h0)]
  by_cases h1 : t.length = n
  · rw [if_neg (by omega)]
    by_cases h2 : bin t
    · rw [if_neg (fun h => h (binB.2 h2))]
      by_cases h3 : satB ev t = true
      · rw [if_pos h3]; exact ⟨fun _ => ⟨h1, h2, h3⟩, fun _ => rfl⟩
      · rw [if_neg h3]; exact ⟨fun h => absurd h (by decide), fun h => absurd h.2.2 h3⟩
    · rw [if_pos (fun h => h2 (binB.1 h))]; exact ⟨fun h => absurd h (by decide), fun h => absurd h.2.1 h2⟩
  · rw [if_pos (by omega)]; exact ⟨fun h => absurd h (by decide), fun h => absurd h.1 h1⟩
theorem need_yes {n : Nat} {ev : List evD} (h0 : caseErr n ev = 0) (h : trL ev n ≠ []) : needErr n ev = 0 := by
  rw [needErr, if_neg (fun h => h h0), Int.toNat_natCast, if_neg (fun e => h (List.length_eq_zero_iff.1 e))]
theorem need_no {n : Nat} {ev : List evD} (h0 : caseErr n ev = 0) (h : trL ev n = []) : needErr n ev = 23 := by
  rw [needErr, if_neg (fun h => h h0), Int.toNat_natCast, h]; rfl
theorem count_ok {n : Nat} {ev : List evD} (h0 : caseErr n ev = 0) : countR n ev = (((trL ev n).length : Int), 0) := by
  rw [countR, if_neg (fun h => h h0), Int.toNat_natCast]
theorem truth_yes {n : Nat} {ev : List evD} (h0 : caseErr n ev = 0) (h : trL ev n ≠ []) : ∃ t, t ∈ trL ev n ∧ truthR n ev = (t, 0) := by
  refine ⟨(trL ev n).headD [], ?_, ?_⟩
  · cases hl : trL ev n with
    | nil => exact absurd hl h
    | cons a l => exact List.mem_cons_self
  · rw [truthR, need_yes h0 h, if_neg (fun h => h rfl), Int.toNat_natCast]
theorem truth_no {n : Nat} {ev : List evD} (h0 : caseErr n ev = 0) (h : trL ev n = []) : truthR n ev = ([], 23) := by
  rw [truthR, need_no h0 h, if_pos (by decide)]
theorem clash_yes {n : Nat} {ev : List evD} (hv : valid n ev) (h : trL ev n ≠ []) (ch : List stD) : clashR n ev ch ≠ 0 := fun e => h ((trL_none hv).2 (clash_no hv e))


theorem case_iff {n : Nat} {ev : List evD} : caseErr n ev = 0 ↔ 1 ≤ n ∧ n ≤ 12 ∧ ev.length ≤ 40 ∧ valid n ev := by
  constructor
  · intro h
    obtain ⟨N, h1, q⟩ := ok_cast h
    obtain rfl : n = N := by omega
    exact q
  · rintro ⟨h1, h2, h3, h4⟩
    rw [caseErr, if_neg (by omega), if_neg (by omega), if_pos]
    rw [List.all_eq_true]
    intro x hx
    rw [Bool.and_eq_true]
    exact ⟨sayB_isSay.2 (h4 x hx).1, sayB_isSay.2 (h4 x hx).2⟩
section
variable {n : Nat} {ev : List evD} (h0 : caseErr n ev = 0)
include h0
theorem chain_iff {a b : Int} (ha : isSay n a) (hb : isSay n b) (hne : a ≠ b) : chainErr n ev a b = 0 ↔ Two.Reach ev a b := by
  obtain ⟨_, h2, _, h4⟩ := case_iff.1 h0
  rw [chainErr, if_neg (fun h => h h0), if_neg (fun h => h ⟨sayB_isSay.2 ha, sayB_isSay.2 hb, hne⟩), Int.toNat_natCast, ← follows_iff h4 h2 ha hb]
  have := far_link h4 h2 ha hb
  by_cases h : (farS ev n a).getD (key b) 0 < 0
  · rw [if_pos h, this.1 h]; simp
  · rw [if_neg h]
    cases hf : follows (deskT ev n) a b with
    | true => simp
    | false => exact absurd (this.2 hf) h
theorem chain_or {a b : Int} (ha : isSay n a) (hb : isSay n b) (hne : a ≠ b) : chainErr n ev a b = 0 ∨ chainErr n ev a b = 5 := by
  rw [chainErr, if_neg (fun h => h h0), if_neg (fun h => h ⟨sayB_isSay.2 ha, sayB_isSay.2 hb, hne⟩)]
  split
  · exact .inr rfl
  · exact .inl rfl
theorem kind_ok (hne : trL ev n ≠ []) {s : Int} (hs : isSay n s) : kindR n ev s = (kindS (trL ev n) s, 0) := by
  rw [kindR, if_neg (fun h => h h0), if_neg (fun h => h (sayB_isSay.2 hs)), need_yes h0 hne, if_neg (fun h => h rfl), Int.toNat_natCast]
theorem kind2 (hne : trL ev n ≠ []) {s : Int} (hs : isSay n s) : kindS (trL ev n) s = 2 ↔ Two.Reach ev (-s) s := by
  obtain ⟨_, h2, _, h4⟩ := case_iff.1 h0
  rw [kind_link h4 h2 hne hs, ← follows_iff h4 h2 hs.neg hs]
  by_cases h : follows (deskT ev n) (-s) s = true
  · rw [if_pos h]; simp [h]
  · rw [if_neg h]
    split <;> simp [h]
theorem kind0 (hne : trL ev n ≠ []) {s : Int} (hs : isSay n s) : kindS (trL ev n) s = 0 ↔ Two.Reach ev s (-s) := by
  obtain ⟨_, h2, _, h4⟩ := case_iff.1 h0
  have hx : ¬ (Two.Reach ev s (-s) ∧ Two.Reach ev (-s) s) := no_clash (fun h => hne ((trL_none h4).2 h)) hs
  rw [← follows_iff h4 h2 hs.neg hs, ← follows_iff h4 h2 hs hs.neg] at hx
  rw [kind_link h4 h2 hne hs, ← follows_iff h4 h2 hs hs.neg]
  by_cases h : follows (deskT ev n) (-s) s = true
  · rw [if_pos h]
    have : ¬ follows (deskT ev n) s (-s) = true := fun e => hx ⟨e, h⟩
    simp [this]
  · rw [if_neg h]
    split <;> simp_all
theorem kind_cases {s : Int} : kindS (trL ev n) s = 0 ∨ kindS (trL ev n) s = 1 ∨ kindS (trL ev n) s = 2 := by
  unfold kindS
  split
  · exact .inl rfl
  · split
    · exact .inr (.inr rfl)
    · exact .inr (.inl rfl)
end
theorem kindS_yes {l : List (List Int)} {s : Int} (h : kindS l s = 2) : ∀ t ∈ l, holdsR t s = true := by
  rw [← filter_all]
  change manyS l s = l.length
  unfold kindS at h
  split at h
  · cases h
  · split at h
    · assumption
    · cases h
theorem kindS_no {l : List (List Int)} {s : Int} (h : kindS l s = 0) : ∀ t ∈ l, holdsR t s = false := by
  rw [← filter_none]
  change manyS l s = 0
  unfold kindS at h
  split at h
  · assumption
  · split at h <;> cases h
theorem mem_sayKs {n : Nat} {s : Int} : s ∈ sayKs (2 * n) ↔ isSay n s := by rw [← sayL_eq, mem_sayL]
theorem mem_sure {n : Nat} {l : List (List Int)} {s : Int} : s ∈ sureF l (2 * n) ↔ isSay n s ∧ kindS l s = 2 := by
  unfold sureF
  rw [List.mem_filter, mem_sayKs, decide_eq_true_eq]
section
variable {n : Nat} {ev : List evD} {tr : List Int}
theorem trueX_say (hv : ∀ x ∈ ev, isSay n x.1 ∧ isSay n x.2.1) : valid n (trueE tr ev) := fun y hy => by
  obtain ⟨x, hx, rfl⟩ := List.mem_map.1 hy
  obtain ⟨h1, h2⟩ := hv x hx
  unfold trueX
  split
  · exact ⟨h1, h2⟩
  · refine ⟨h1, ?_⟩
    have := h2.neg
    rw [show -x.2.1 = 0 - x.2.1 by omega] at this
    exact this
theorem trueE_len : (trueE tr ev).length = ev.length := by unfold trueE; rw [List.length_map]
theorem trueE_case (h0 : caseErr n ev = 0) : caseErr n (trueE tr ev) = 0 := by
  obtain ⟨h1, h2, h3, h4⟩ := case_iff.1 h0
  exact case_iff.2 ⟨h1, h2, by rw [trueE_len]; exact h3, trueX_say h4⟩
theorem holdsR_opp {s : Int} (hb : bin tr) (hs : isSay tr.length s) : holdsR tr (0 - s) = !holdsR tr s := by
  rw [Int.zero_sub, holdsR_eq hb hs, holdsR_eq hb hs.neg, Two.holds_neg _ hs]
theorem trueE_sat (hb : bin tr) (hv : valid tr.length ev) : satB (trueE tr ev) tr = true := by
  unfold satB
  rw [List.all_eq_true]
  intro y hy
  obtain ⟨x, hx, rfl⟩ := List.mem_map.1 hy
  unfold trueX
  split
  · assumption
  · rename_i h
    have h2 : holdsR tr x.2.1 = false := by
      cases he : holdsR tr x.2.1 with
      | false => rfl
      | true => exact absurd (by rw [he, Bool.or_true]) h
    dsimp only
    rw [holdsR_opp hb (hv x hx).2, h2, Bool.not_false, Bool.or_true]
end
/-- A case that is made so has a truth. -/
theorem true_mem {n : Nat} {ev : List evD} (h0 : caseErr n ev = 0) (b : Nat) : truL n b ∈ trL (trueE (truL n b) ev) n := by
  have hl := truL_len n b
  exact mem_trL.2 ⟨hl, truL_bin n b, trueE_sat (truL_bin n b) (by rw [hl]; exact (case_iff.1 h0).2.2.2)⟩
theorem true_ne {n : Nat} {ev : List evD} (h0 : caseErr n ev = 0) (b : Nat) : trL (trueE (truL n b) ev) n ≠ [] := fun e => by
  have := true_mem h0 b
  rw [e] at this; cases this
end Go.Proofs.Ytdmfofjaknngnaa

namespace Go.Proofs.Ytdmfofjaknngnaa
open Go Go.RowKit Ox Ox.Two
attribute [local irreducible] JC JL JK JW

section
variable {n : Nat} {ev : List evD} {l : List Int}
theorem with_valid (hv : valid n ev) (hl : ∀ s ∈ l, isSay n s) : valid n (ev ++ dupL l) := fun x hx => by
  rcases List.mem_append.1 hx with h | h
  · exact hv x h
  · obtain ⟨s, hs, rfl⟩ := List.mem_map.1 h
    exact ⟨hl s hs, hl s hs⟩
theorem with_len : (ev ++ dupL l).length = ev.length + l.length := by unfold dupL; rw [List.length_append, List.length_map]
theorem with_ok (h0 : caseErr n ev = 0) (hl : ∀ s ∈ l, isSay n s) (h : ev.length + l.length ≤ 40) : caseErr n (ev ++ dupL l) = 0 := by
  obtain ⟨h1, h2, h3, h4⟩ := case_iff.1 h0
  exact case_iff.2 ⟨h1, h2, by rw [with_len]; exact h, with_valid h4 hl⟩
theorem with_many (h0 : caseErr n ev = 0) (h : ¬ ev.length + l.length ≤ 40) : caseErr n (ev ++ dupL l) = 6 := by
  obtain ⟨h1, h2, h3, h4⟩ := case_iff.1 h0
  rw [caseErr, if_neg (by omega), if_pos (by rw [with_len]; omega)]
theorem satB_app {a b : List evD} {t : List Int} : satB (a ++ b) t = (satB a t && satB b t) := by unfold satB; rw [List.all_append]
theorem satB_dup {t : List Int} : satB (dupL l) t = true ↔ ∀ s ∈ l, holdsR t s = true := by
  unfold satB dupL
  rw [List.all_map, List.all_eq_true]
  exact ⟨fun h s hs => by simpa using h s hs, fun h s hs => by simpa using h s hs⟩
theorem mem_with {t : List Int} : t ∈ trL (ev ++ dupL l) n ↔ t ∈ trL ev n ∧ ∀ s ∈ l, holdsR t s = true := by
  rw [mem_trL, mem_trL, satB_app, Bool.and_eq_true, satB_dup, and_assoc, and_assoc]
theorem with_filter : trL (ev ++ dupL l) n = (trL ev n).filter fun t => l.all (holdsR t) := by
  unfold trL
  rw [List.filter_filter]
  congr 1
  funext t
  rw [satB_app, Bool.and_comm]
  congr 1
  rw [Bool.eq_iff_iff, satB_dup, List.all_eq_true]
theorem count_with (h0 : caseErr n ev = 0) (hl : ∀ s ∈ l, isSay n s) : ∃ c e : Int, countR n (ev ++ dupL l) = (c, e) ∧ (e = 6 ∧ ¬ ev.length + l.length ≤ 40 ∨ e = 0 ∧ ev.length + l.length ≤ 40 ∧ c = ((trL (ev ++ dupL l) n).length : Nat)) := by
  by_cases h : ev.length + l.length ≤ 40
  · exact ⟨_, _, count_ok (with_ok h0 hl h), .inr ⟨rfl, h, rfl⟩⟩
  · refine ⟨0, 6, ?_, .inl ⟨rfl, h⟩⟩
    rw [countR, with_many h0 h, if_pos (by decide)]
theorem ne_iff {l : List (List Int)} : 0 < l.length ↔ ∃ t, t ∈ l := by
  rw [List.length_pos_iff]
  exact ⟨fun h => List.exists_mem_of_ne_nil _ h, fun ⟨t, ht⟩ e => by rw [e] at ht; cases ht⟩
/-- Each two hold together in some truth just if all do in one. -/
theorem helly_tr (hv : valid n ev) (hl : ∀ s ∈ l, isSay n s) (hne : trL ev n ≠ []) : 0 < (trL (ev ++ dupL l) n).length ↔ ∀ i k, i < l.length → k ≤ i → 0 < (trL (ev ++ dupL [l.getD i 0, l.getD k 0]) n).length := by
  constructor
  · intro h i k hi hk
    obtain ⟨t, ht⟩ := ne_iff.1 h
    obtain ⟨h1, h2⟩ := mem_with.1 ht
    refine ne_iff.2 ⟨t, mem_with.2 ⟨h1, fun s hs => ?_⟩⟩
    simp only [List.mem_cons, List.not_mem_nil, or_false] at hs
    rcases hs with rfl | rfl
    · rw [getD_nat l hi]; exact h2 _ (List.getElem_mem hi)
    · rw [getD_nat l (by omega)]; exact h2 _ (List.getElem_mem (by omega))
  · intro h
    have hex : ∃ v, Sat ev v := by
      obtain ⟨t, ht⟩ := List.exists_mem_of_ne_nil _ hne
      exact ⟨_, (trL_sat hv ht).1⟩
    have hp : ∀ i k, i < l.length → k < l.length → ∃ t ∈ trL ev n, holdsR t (l.getD i 0) = true ∧ holdsR t (l.getD k 0) = true := fun i k hi hk => by
      rcases Nat.le_total k i with e | e
      · obtain ⟨t, ht⟩ := ne_iff.1 (h i k hi e)
        obtain ⟨h1, h2⟩ := mem_with.1 ht
        exact ⟨t, h1, h2 _ (by simp), h2 _ (by simp)⟩
      · obtain ⟨t, ht⟩ := ne_iff.1 (h k i hk e)
        obtain ⟨h1, h2⟩ := mem_with.1 ht
        exact ⟨t, h1, h2 _ (by simp), h2 _ (by simp)⟩
    obtain ⟨v, v1, v2⟩ := helly hv hl hex fun x hx y hy => by
      obtain ⟨i, hi, rfl⟩ := List.mem_iff_getElem.1 hx
      obtain ⟨k, hk, rfl⟩ := List.mem_iff_getElem.1 hy
      obtain ⟨t, t1, t2, t3⟩ := hp i k hi hk
      rw [getD_nat l hi] at t2
      rw [getD_nat l hk] at t3
      obtain ⟨s1, s2⟩ := trL_sat hv t1
      exact ⟨_, s1, by rw [← s2 _ (hl _ hx)]; exact t2, by rw [← s2 _ (hl _ hy)]; exact t3⟩
    obtain ⟨r, hr, hr2⟩ := row_of hv v1
    exact ne_iff.2 ⟨r, mem_with.2 ⟨hr, fun s hs => by rw [hr2 s (hl s hs)]; exact v2 s hs⟩⟩
end
/-- What two or three of three truths say. -/
def mostL (n : Nat) (a b c : List Int) : List Int := (List.range n).map fun k => (a.getD k 0 + b.getD k 0 + c.getD k 0) / 2
theorem mostL_succ (n : Nat) (a b c : List Int) : mostL (n + 1) a b c = mostL n a b c ++ [(a.getD n 0 + b.getD n 0 + c.getD n 0) / 2] := by unfold mostL; rw [List.range_succ]; simp
theorem mostL_len (n : Nat) (a b c : List Int) : (mostL n a b c).length = n := by simp [mostL]
theorem mostL_get {n : Nat} {a b c : List Int} {k : Nat} (h : k < n) : (mostL n a b c).getD k 0 = (a.getD k 0 + b.getD k 0 + c.getD k 0) / 2 := by
  rw [getD_nat _ (by rw [mostL_len]; exact h)]; simp [mostL]
theorem getD_bin {t : List Int} (h : bin t) (k : Nat) : t.getD k 0 = 0 ∨ t.getD k 0 = 1 := by
  by_cases hk : k < t.length
  · exact h.get hk
  · left; rw [List.getD_eq_getElem?_getD, List.getElem?_eq_none (by omega)]; rfl
theorem most_holds {n : Nat} {a b c : List Int} (ha : bin a) (hb : bin b) (hc : bin c) {s : Int} (hs : isSay n s) :
    holdsR (mostL n a b c) s = ((holdsR a s && holdsR b s) || (holdsR a s && holdsR c s) || (holdsR b s && holdsR c s)) := by
  unfold isSay at hs
  unfold holdsR
  by_cases h : s < 0
  · simp only [if_pos h]
    rw [mostL_get (by omega)]
    rcases getD_bin ha (-1 - s).toNat with e1 | e1 <;> rcases getD_bin hb (-1 - s).toNat with e2 | e2 <;> rcases getD_bin hc (-1 - s).toNat with e3 | e3 <;> rw [e1, e2, e3] <;> decide
  · simp only [if_neg h]
    rw [mostL_get (by omega)]
    rcases getD_bin ha (s - 1).toNat with e1 | e1 <;> rcases getD_bin hb (s - 1).toNat with e2 | e2 <;> rcases getD_bin hc (s - 1).toNat with e3 | e3 <;> rw [e1, e2, e3] <;> decide
theorem most_mem {n : Nat} {ev : List evD} (hv : valid n ev) {a b c : List Int} (ha : a ∈ trL ev n) (hb : b ∈ trL ev n) (hc : c ∈ trL ev n) : mostL n a b c ∈ trL ev n := by
  obtain ⟨a1, a2, a3⟩ := mem_trL.1 ha
  obtain ⟨b1, b2, b3⟩ := mem_trL.1 hb
  obtain ⟨c1, c2, c3⟩ := mem_trL.1 hc
  refine mem_trL.2 ⟨mostL_len n a b c, fun x hx => ?_, ?_⟩
  · obtain ⟨k, hk, rfl⟩ := List.mem_map.1 hx
    have e1 := getD_bin a2 k
    have e2 := getD_bin b2 k
    have e3 := getD_bin c2 k
    omega
  · unfold satB at *
    rw [List.all_eq_true] at *
    intro x hx
    have h1 := a3 x hx
    have h2 := b3 x hx
    have h3 := c3 x hx
    rw [most_holds a2 b2 c2 (hv x hx).1, most_holds a2 b2 c2 (hv x hx).2]
    revert h1 h2 h3
    generalize holdsR a x.1 = p1
    generalize holdsR b x.1 = p2
    generalize holdsR c x.1 = p3
    generalize holdsR a x.2.1 = q1
    generalize holdsR b x.2.1 = q2
    generalize holdsR c x.2.1 = q3
    revert p1 p2 p3 q1 q2 q3
    decide
/-- The sayings that are asked to hold. -/
def someL (S : Nat) (n : Nat) : List Int := (List.range n).flatMap fun k : Nat => if S / 2 ^ k % 2 = 1 then [sayN (2 * (k : Int) + ((S / 2 ^ (15 - k) % 2 : Nat) : Int))] else []
theorem someL_succ (S n : Nat) : someL S (n + 1) = someL S n ++ if S / 2 ^ n % 2 = 1 then [sayN (2 * (n : Int) + ((S / 2 ^ (15 - n) % 2 : Nat) : Int))] else [] := by unfold someL; rw [List.range_succ]; simp
theorem someL_len (S : Nat) : ∀ n, (someL S n).length ≤ n
  | 0 => by simp [someL]
  | n + 1 => by
    have := someL_len S n
    rw [someL_succ, List.length_append]
    split <;> simp <;> omega
theorem someL_say {S n : Nat} : ∀ s ∈ someL S n, isSay n s := fun s hs => by
  unfold someL at hs
  rw [List.mem_flatMap] at hs
  obtain ⟨k, hk, h⟩ := hs
  have hk' := List.mem_range.1 hk
  split at h
  · obtain rfl := List.mem_singleton.1 h
    have : S / 2 ^ (15 - k) % 2 < 2 := Nat.mod_lt _ (by omega)
    have e : (2 * (k : Int) + ((S / 2 ^ (15 - k) % 2 : Nat) : Int)) = ((2 * k + S / 2 ^ (15 - k) % 2 : Nat) : Int) := by push_cast; rfl
    rw [e]
    exact sayN_say (by omega)
  · cases h
end Go.Proofs.Ytdmfofjaknngnaa

namespace Go.Proofs.Ytdmfofjaknngnaa
open Go Go.RowKit Ox Ox.Two
attribute [local irreducible] JC JL JK JW

theorem many_pos {l : List (List Int)} {s : Int} : manyS l s = (l.filter fun t => [s].all (holdsR t)).length := by
  unfold manyS; congr 1; congr 1; funext t; simp
theorem count_one {n : Nat} {ev : List evD} {s : Int} (h0 : caseErr n ev = 0) (hs : isSay n s) (hl : ev.length ≤ 39) : countR n (ev ++ dupL [s]) = ((manyS (trL ev n) s : Int), 0) := by
  rw [count_ok (with_ok h0 (by simpa using hs) (by simp; omega)), with_filter, ← many_pos]
theorem say_pos {n k : Nat} (h : k < n) : isSay n ((k : Int) + 1) := .inl ⟨by omega, by omega⟩
theorem say_neg {n k : Nat} (h : k < n) : isSay n (-1 - (k : Int)) := .inr ⟨by omega, by omega⟩
theorem opp_holds {n : Nat} {ev : List evD} (hv : valid n ev) (hn : n ≤ 12) {k : Nat} (hk : k < n) {t : List Int} (ht : t ∈ trL ev n) : holdsR t (-1 - (k : Int)) = !holdsR t ((k : Int) + 1) := by
  have := holdsR_neg hv hn ht (say_pos hk)
  rw [show -((k : Int) + 1) = -1 - (k : Int) by omega] at this
  exact this
theorem many_sum {n : Nat} {ev : List evD} (hv : valid n ev) (hn : n ≤ 12) {k : Nat} (hk : k < n) : manyS (trL ev n) ((k : Int) + 1) + manyS (trL ev n) (-1 - (k : Int)) = (trL ev n).length := by
  have h : ∀ l : List (List Int), (∀ t ∈ l, t ∈ trL ev n) → manyS l ((k : Int) + 1) + manyS l (-1 - (k : Int)) = l.length := by
    intro l
    induction l with
    | nil => intro _; rfl
    | cons t l ih =>
      intro h
      have ih := ih fun u hu => h u (List.mem_cons_of_mem _ hu)
      have ho := opp_holds hv hn hk (h t List.mem_cons_self)
      unfold manyS at *
      rw [List.filter_cons, List.filter_cons, ho]
      cases holdsR t ((k : Int) + 1) <;> simp <;> omega
  exact h _ fun _ h => h
theorem askW_max {n : Nat} {ev : List evD} (hv : valid n ev) (hn : n ≤ 12) {k : Nat} (hk : k < n) : askW (trL ev n) k = Max.max (manyS (trL ev n) ((k : Int) + 1) : Int) (manyS (trL ev n) (-1 - (k : Int)) : Int) := by
  have := many_sum hv hn hk
  unfold askW
  congr 1
  omega
theorem askF_least (all : List (List Int)) : ∀ n, 1 ≤ n → ∃ k : Nat, k < n ∧ askF all n = ((k : Int), askW all k) ∧ ∀ j, j < n → askW all k ≤ askW all j
  | 0, h => by omega
  | 1, _ => by
    refine ⟨0, by omega, ?_, fun j hj => by obtain rfl : j = 0 := by omega
                                            omega⟩
    have h : askW all 0 < (askF all 0).2 := by
      rw [askF, askW]
      have := manyS_le all (((0 : Nat) : Int) + 1)
      dsimp only
      omega
    rw [askF, if_pos h]
  | n + 2, _ => by
    obtain ⟨k, h1, h2, h3⟩ := askF_least all (n + 1) (by omega)
    rw [askF, h2]
    by_cases h : askW all (n + 1) < askW all k
    · rw [if_pos h]
      refine ⟨n + 1, by omega, rfl, fun j hj => ?_⟩
      rcases Nat.lt_or_ge j (n + 1) with e | e
      · have := h3 j e; omega
      · obtain rfl : j = n + 1 := by omega
        omega
    · rw [if_neg h]
      refine ⟨k, by omega, rfl, fun j hj => ?_⟩
      rcases Nat.lt_or_ge j (n + 1) with e | e
      · exact h3 j e
      · obtain rfl : j = n + 1 := by omega
        omega
theorem sayN_inj {i j : Nat} (h : sayN (i : Int) = sayN (j : Int)) : i = j := by
  unfold sayN at h; split at h <;> split at h <;> omega
theorem sayKs_nodup (m : Nat) : (sayKs m).Nodup := by
  unfold sayKs
  rw [List.nodup_iff_pairwise_ne, List.pairwise_map]
  exact List.nodup_range.imp fun {a b} h e => h (sayN_inj e)
theorem mem_tiedF {all : List (List Int)} {n : Nat} {g : List Int} : ∀ {m : Nat}, g ∈ tiedF all n m → ∃ k, k < m ∧ g = grpF all k (2 * n) ∧ 1 < g.length
  | 0, h => by cases h
  | m + 1, h => by
    rw [tiedF] at h
    rcases List.mem_append.1 h with h | h
    · obtain ⟨k, h1, h2⟩ := mem_tiedF h
      exact ⟨k, by omega, h2⟩
    · split at h
      · rename_i hb
        obtain rfl := List.mem_singleton.1 h
        exact ⟨m, by omega, rfl, (of_decide_eq_true hb).1⟩
      · cases h
/-- Of a group that is tied: two sayings, no truth in which one holds without the other one. -/
theorem tied_ok {n : Nat} {ev : List evD} (hv : valid n ev) (hn : n ≤ 12) {g : List Int} (h : g ∈ tiedF (trL ev n) n n) :
    2 ≤ g.length ∧ g.length ≤ 24 ∧ isSay n (g.getD 0 0) ∧ isSay n (g.getD (g.length - 1) 0) ∧ g.getD 0 0 ≠ g.getD (g.length - 1) 0 ∧ (trL (ev ++ dupL [g.getD 0 0, 0 - g.getD (g.length - 1) 0]) n).length = 0 := by
  obtain ⟨k, h1, h2, h3⟩ := mem_tiedF h
  have hm : ∀ s ∈ g, isSay n s ∧ tieB (trL ev n) ((k : Int) + 1) s = true := fun s hs => by
    rw [h2, grpF, List.mem_filter] at hs
    exact ⟨mem_sayKs.1 hs.1, hs.2⟩
  have hl : g.length ≤ 24 := by have := grpF_len (trL ev n) k (2 * n); rw [← h2] at this; omega
  have e0 : g.getD 0 0 = g[0] := getD_nat g (by omega) 0
  have e1 : g.getD (g.length - 1) 0 = g[g.length - 1] := getD_nat g (by omega) 0
  have m0 := hm g[0] (List.getElem_mem _)
  have m1 := hm g[g.length - 1] (List.getElem_mem _)
  have hnd : g.Nodup := by rw [h2]; exact (sayKs_nodup (2 * n)).filter _
  rw [e0, e1]
  refine ⟨by omega, hl, m0.1, m1.1, fun e => ?_, ?_⟩
  · have := (List.getElem_inj hnd).1 e
    omega
  · rw [List.length_eq_zero_iff]
    refine List.eq_nil_iff_forall_not_mem.2 fun t ht => ?_
    obtain ⟨t1, t2⟩ := mem_with.1 ht
    have a0 := t2 g[0] (by simp)
    have a1 := t2 (0 - g[g.length - 1]) (by simp)
    rw [Int.zero_sub, holdsR_neg hv hn t1 m1.1] at a1
    have b0 := beq_iff_eq.1 (List.all_eq_true.1 m0.2 t t1)
    have b1 := beq_iff_eq.1 (List.all_eq_true.1 m1.2 t t1)
    rw [← b0] at a0
    rw [← b1, a0] at a1
    cases a1
end Go.Proofs.Ytdmfofjaknngnaa
