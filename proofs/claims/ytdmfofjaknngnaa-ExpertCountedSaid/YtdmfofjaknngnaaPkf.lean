/- A statement of the seat, proved: see the last theorem. Texts of the proof, part 6 of 6.
  ExpertCounted.
  The engine, part ZT: from a function's contract to the row of a law: arguments that are plain data. -/
import Derived.Test.YtdmfofjaknngnaaPke
import Derived.ProofKit
import Derived.OpenShut
import Derived.Carry
import Derived.JoinedOf
set_option linter.all false
set_option maxHeartbeats 2000000
namespace Go.Proofs.Ytdmfofjaknngnaa
open Go Go.RowKit Ox Ox.Two
attribute [local irreducible] JC JL JK JW

theorem fine_fullC {n : Int} {ev : List evD} : fineB n ev = true → fullB n ev = false → ∃ N : Nat, n = N ∧ caseErr n ev = 0 ∧ 1 ≤ N ∧ N ≤ 9 ∧ ev.length ≤ 40 ∧ valid N ev := fun h h' => by
  have h0 : caseErr n ev = 0 := of_decide_eq_true h
  obtain ⟨N, rfl, q1, q2, q3, q4⟩ := ok_cast h0
  refine ⟨N, rfl, h0, q1, ?_, q3, q4⟩
  have := of_decide_eq_false h'
  have h1 : ¬ ((N : Int) > 9) := fun e => this ⟨h0, e⟩
  omega

set_option maxRecDepth 20000 in
set_option maxHeartbeats 4000000 in
theorem law11 (n : Int) (ev : List evD) (w : Int) (hin : inI n) (hw : 0 ≤ w ∧ w ≤ 255) : Ox.Fn Go.Proofs.Try.prog 11 (.acons (vC n ev) (.acons (.val (.int .u8) w) .anil)) (· = vB true) := by
  refine Ox.Fn.intro xok Go.Proofs.Try.func11 rfl Go.Proofs.Try.call11 (Nat.le_of_ble_eq_true rfl) (fun E M0 up => ?_)
  refine JK.start ?_
  refine JK.lenOf 0 rfl fun hlen => ?_
  replace hlen : ev.length ≤ 9223372036854775807 := hlen.2.1.1
  have c1 := fn37 n ev
  have c2 := fn24 n ev
  have hfi := fine_fullC (n := n) (ev := ev)
  generalize fineB n ev = fi at c1 hfi
  generalize fullB n ev = fu at c2 hfi
  (repeat (first | refine zs rfl ?_ | refine zg rfl rfl rfl ?_ | refine zd ?_ | refine JK.fin ?_ | refine JK.ret ?_ | refine zc rfl (c1) rfl rfl ?_ | refine ze rfl (c1) rfl ?_ | refine zk rfl rfl (fun _ => c1) rfl rfl ?_ | refine zc rfl (c2) rfl rfl ?_ | refine ze rfl (c2) rfl ?_ | refine zk rfl rfl (fun _ => c2) rfl rfl ?_))
  refine JK.cond rfl (fun hc => ?_) (fun hc => ?_)
  · (repeat (first | refine zs rfl ?_ | refine zg rfl rfl rfl ?_ | refine zd ?_ | refine JK.fin ?_ | refine JK.ret ?_ | refine zc rfl (fn15) rfl rfl ?_ | refine ze rfl (fn15) rfl ?_ | refine zk rfl rfl (fun _ => fn15) rfl rfl ?_))
    refine ⟨.inl rfl, _, _, rfl, trivial, ?_⟩
    rfl
  · have hlt : ev.length ≤ 38 := by
      revert hc
      cases fi <;> cases fu <;> simp
      omega
    obtain ⟨N, rfl, h0, q1, q2, q3, q4⟩ := hfi (by revert hc; cases fi <;> simp) (by revert hc; cases fi <;> cases fu <;> simp)
    clear hfi hc c1 c2 hlen
    have hm1 := Int.emod_nonneg w (b := (N : Int)) (by omega)
    have hm2 := Int.emod_lt_of_pos w (b := (N : Int)) (by omega)
    (repeat (first | refine zs rfl ?_ | refine zg rfl rfl rfl ?_ | refine zd ?_ | refine JK.fin ?_ | refine JK.ret ?_))
    generalize w % (N : Int) = kk at hm1 hm2 ⊢
    obtain ⟨K, rfl⟩ := Int.eq_ofNat_of_zero_le hm1
    have hK : K < N := by omega
    have d1 := fn40 N ev
    have d2 := fn49 N ev [(K : Int) + 1] (by simp) (by omega)
    have d3 := fn40 N (ev ++ dupL [(K : Int) + 1])
    have d4 := fn49 N ev [-1 - (K : Int)] (by simp) (by omega)
    have d5 := fn40 N (ev ++ dupL [-1 - (K : Int)])
    rw [count_ok h0] at d1
    rw [count_one h0 (say_pos hK) (by omega)] at d3
    rw [count_one h0 (say_neg hK) (by omega)] at d5
    have hsum := many_sum q4 (by omega) hK
    have hml := trL_len ev (n := N) (by omega)
    dsimp only at d1 d3 d5
    have d6 := fn35 N ev
    have d7 := fn25 N ev ((K : Int) + 1) hin
    have d8 := fn29 N ev
    rw [Int.toNat_natCast] at d6 d8
    by_cases ht : trL ev N = []
    · rw [need_no h0 ht] at d6 d8
      have hkr : kindR N ev ((K : Int) + 1) = (0, 23) := by rw [kindR, if_neg (fun h => h h0), if_neg (fun h => h (sayB_isSay.2 (say_pos hK))), need_no h0 ht, if_pos (by decide)]
      rw [hkr] at d7
      rw [ht] at d1 d3 d5
      rw [if_pos (by decide), if_pos (by decide)] at d6
      rw [if_pos (by decide)] at d8
      dsimp only [manyS, List.filter_nil, List.length_nil] at d1 d3 d5 d7
      (repeat (first | refine zs rfl ?_ | refine zg rfl rfl rfl ?_ | refine zd ?_ | refine JK.fin ?_ | refine JK.ret ?_ | refine zc rfl (d1) rfl rfl ?_ | refine ze rfl (d1) rfl ?_ | refine zk rfl rfl (fun _ => d1) rfl rfl ?_))
      (refine JK.frzL [1] [2,5,6,7,51,54] rfl (by (first | exact trivial | (try dsimp only [allP, inK, idxC, loC, lohiC, fullC, underG, List.append, List.nil_append, List.cons_append, Ty.den, Ty.dflt, Int.toNat_natCast, List.length_cons, List.length_nil] at *); first | omega | ((repeat' (first | exact trivial | assumption | refine And.intro ?_ ?_ | exact fun h => h | (intro hpk; first | exact hpk | simp only [wantB, hpk, Bool.not_false, Bool.not_true]))) <;> omega) | fail)) ?_)
      (repeat (first | refine zs rfl ?_ | refine zg rfl rfl rfl ?_ | refine zd ?_ | refine JK.fin ?_ | refine JK.ret ?_ | refine zc rfl (d2) rfl rfl ?_ | refine ze rfl (d2) rfl ?_ | refine zk rfl rfl (fun _ => d2) rfl rfl ?_ | refine zc rfl (d3) rfl rfl ?_ | refine ze rfl (d3) rfl ?_ | refine zk rfl rfl (fun _ => d3) rfl rfl ?_))
      (refine JK.frzL [2] [2,5,6,7,8,9,60,63] rfl (by (first | exact trivial | (try dsimp only [allP, inK, idxC, loC, lohiC, fullC, underG, List.append, List.nil_append, List.cons_append, Ty.den, Ty.dflt, Int.toNat_natCast, List.length_cons, List.length_nil] at *); first | omega | ((repeat' (first | exact trivial | assumption | refine And.intro ?_ ?_ | exact fun h => h | (intro hpk; first | exact hpk | simp only [wantB, hpk, Bool.not_false, Bool.not_true]))) <;> omega) | fail)) ?_)
      (repeat (first | refine zs rfl ?_ | refine zg rfl rfl rfl ?_ | refine zd ?_ | refine JK.fin ?_ | refine JK.ret ?_ | refine zc rfl (d4) rfl rfl ?_ | refine ze rfl (d4) rfl ?_ | refine zk rfl rfl (fun _ => d4) rfl rfl ?_ | refine zc rfl (d5) rfl rfl ?_ | refine ze rfl (d5) rfl ?_ | refine zk rfl rfl (fun _ => d5) rfl rfl ?_))
      refine JK.cond rfl (fun h => by exfalso; revert h; decide) (fun _ => ?_)
      (repeat (first | refine zs rfl ?_ | refine zg rfl rfl rfl ?_ | refine zd ?_ | refine JK.fin ?_ | refine JK.ret ?_ | refine zc rfl (d6) rfl rfl ?_ | refine ze rfl (d6) rfl ?_ | refine zk rfl rfl (fun _ => d6) rfl rfl ?_ | refine zc rfl (d7) rfl rfl ?_ | refine ze rfl (d7) rfl ?_ | refine zk rfl rfl (fun _ => d7) rfl rfl ?_ | refine zc rfl (d8) rfl rfl ?_ | refine ze rfl (d8) rfl ?_ | refine zk rfl rfl (fun _ => d8) rfl rfl ?_))
      refine JK.cond rfl (fun _ => ?_) (fun h => by exfalso; revert h; decide)
      (repeat (first | refine zs rfl ?_ | refine zg rfl rfl rfl ?_ | refine zd ?_ | refine JK.fin ?_ | refine JK.ret ?_ | refine zc rfl (fn15) rfl rfl ?_ | refine ze rfl (fn15) rfl ?_ | refine zk rfl rfl (fun _ => fn15) rfl rfl ?_))
      refine ⟨.inl rfl, _, _, rfl, trivial, ?_⟩
      rfl
    · have hkr := kind_ok h0 ht (say_pos hK)
      rw [hkr] at d7
      rw [need_yes h0 ht] at d6 d8
      rw [if_neg (fun h => h rfl), if_neg (fun h => h rfl)] at d6
      rw [if_neg (fun h => h rfl)] at d8
      obtain ⟨A, a1, a2, a3⟩ := askF_least (trL ev N) N q1
      rw [a2] at d6
      have a4 := a3 K hK
      rw [askW_max q4 (by omega) hK] at a4
      have a5 := askW_max q4 (by omega) a1
      have e1 := fn49 N ev [(A : Int) + 1] (by simp) (by omega)
      have e2 := fn40 N (ev ++ dupL [(A : Int) + 1])
      have e3 := fn49 N ev [-1 - (A : Int)] (by simp) (by omega)
      have e4 := fn40 N (ev ++ dupL [-1 - (A : Int)])
      rw [count_one h0 (say_pos a1) (by omega)] at e2
      rw [count_one h0 (say_neg a1) (by omega)] at e4
      have hkd : (kindS (trL ev N) ((K : Int) + 1) = 2 ↔ manyS (trL ev N) (-1 - (K : Int)) = 0) ∧ (kindS (trL ev N) ((K : Int) + 1) = 0 ↔ manyS (trL ev N) ((K : Int) + 1) = 0) := by
        have hp := List.length_pos_iff.2 ht
        unfold kindS
        split
        · exact ⟨⟨fun h => (by cases h), fun h => (by omega)⟩, ⟨fun _ => by assumption, fun _ => rfl⟩⟩
        · split
          · exact ⟨⟨fun h => (by omega), fun h => rfl⟩, ⟨fun h => (by cases h), fun h => (by omega)⟩⟩
          · exact ⟨⟨fun h => (by cases h), fun h => (by omega)⟩, ⟨fun h => (by cases h), fun h => (by omega)⟩⟩
      have hti := fun g hg => tied_ok q4 (show N ≤ 12 by omega) (g := g) hg
      have htl := tiedF_len (trL ev N) N N
      have hpos : 0 < (trL ev N).length := List.length_pos_iff.2 ht
      have hmA := manyS_le (trL ev N) ((A : Int) + 1)
      have hmB := manyS_le (trL ev N) (-1 - (A : Int))
      clear a2 a3 hkr
      generalize tiedF (trL ev N) N N = G at d8 hti htl
      generalize kindS (trL ev N) ((K : Int) + 1) = kd at d7 hkd
      generalize askW (trL ev N) A = lf at d6 a4 a5
      generalize manyS (trL ev N) ((K : Int) + 1) = p at d3 hsum a4 hkd
      generalize manyS (trL ev N) (-1 - (K : Int)) = q at d5 hsum a4 hkd
      generalize manyS (trL ev N) ((A : Int) + 1) = pa at e2 a5 hmA
      generalize manyS (trL ev N) (-1 - (A : Int)) = qa at e4 a5 hmB
      generalize (trL ev N).length = m at d1 hsum hml hpos hmA hmB
      dsimp only at d6 d7 e2 e4
      (repeat (first | refine zs rfl ?_ | refine zg rfl rfl rfl ?_ | refine zd ?_ | refine JK.fin ?_ | refine JK.ret ?_ | refine zc rfl (d1) rfl rfl ?_ | refine ze rfl (d1) rfl ?_ | refine zk rfl rfl (fun _ => d1) rfl rfl ?_))
      (refine JK.frzL [1] [2,5,6,7,51,54] rfl (by (first | exact trivial | (try dsimp only [allP, inK, idxC, loC, lohiC, fullC, underG, List.append, List.nil_append, List.cons_append, Ty.den, Ty.dflt, Int.toNat_natCast, List.length_cons, List.length_nil] at *); first | omega | ((repeat' (first | exact trivial | assumption | refine And.intro ?_ ?_ | exact fun h => h | (intro hpk; first | exact hpk | simp only [wantB, hpk, Bool.not_false, Bool.not_true]))) <;> omega) | fail)) ?_)
      (repeat (first | refine zs rfl ?_ | refine zg rfl rfl rfl ?_ | refine zd ?_ | refine JK.fin ?_ | refine JK.ret ?_ | refine zc rfl (d2) rfl rfl ?_ | refine ze rfl (d2) rfl ?_ | refine zk rfl rfl (fun _ => d2) rfl rfl ?_ | refine zc rfl (d3) rfl rfl ?_ | refine ze rfl (d3) rfl ?_ | refine zk rfl rfl (fun _ => d3) rfl rfl ?_))
      (refine JK.frzL [2] [2,5,6,7,8,9,60,63] rfl (by (first | exact trivial | (try dsimp only [allP, inK, idxC, loC, lohiC, fullC, underG, List.append, List.nil_append, List.cons_append, Ty.den, Ty.dflt, Int.toNat_natCast, List.length_cons, List.length_nil] at *); first | omega | ((repeat' (first | exact trivial | assumption | refine And.intro ?_ ?_ | exact fun h => h | (intro hpk; first | exact hpk | simp only [wantB, hpk, Bool.not_false, Bool.not_true]))) <;> omega) | fail)) ?_)
      (repeat (first | refine zs rfl ?_ | refine zg rfl rfl rfl ?_ | refine zd ?_ | refine JK.fin ?_ | refine JK.ret ?_ | refine zc rfl (d4) rfl rfl ?_ | refine ze rfl (d4) rfl ?_ | refine zk rfl rfl (fun _ => d4) rfl rfl ?_ | refine zc rfl (d5) rfl rfl ?_ | refine ze rfl (d5) rfl ?_ | refine zk rfl rfl (fun _ => d5) rfl rfl ?_))
      refine JK.cond rfl (fun h => by exfalso; revert h; simp; omega) (fun _ => ?_)
      (repeat (first | refine zs rfl ?_ | refine zg rfl rfl rfl ?_ | refine zd ?_ | refine JK.fin ?_ | refine JK.ret ?_ | refine zc rfl (d6) rfl rfl ?_ | refine ze rfl (d6) rfl ?_ | refine zk rfl rfl (fun _ => d6) rfl rfl ?_ | refine zc rfl (d7) rfl rfl ?_ | refine ze rfl (d7) rfl ?_ | refine zk rfl rfl (fun _ => d7) rfl rfl ?_ | refine zc rfl (d8) rfl rfl ?_ | refine ze rfl (d8) rfl ?_ | refine zk rfl rfl (fun _ => d8) rfl rfl ?_))
      refine JK.cond rfl (fun h => by exfalso; revert h; simp; omega) (fun _ => ?_)
      clear d1 d2 d3 d4 d5 d6 d7 d8
      (repeat (first | refine zs rfl ?_ | refine zg rfl rfl rfl ?_ | refine zd ?_ | refine JK.fin ?_ | refine JK.ret ?_))
      refine JK.cond rfl (fun h => ?_) (fun _ => ?_)
      · exfalso
        revert h
        rw [show decide ((A : Int) < 0) = false from decide_eq_false (by omega), show decide ((N : Int) ≤ A) = false from decide_eq_false (by omega), show decide (Max.max (p : Int) (q : Int) < lf) = false from decide_eq_false (by omega),
          show (kd == 2) = ((q : Int) == 0) from by rw [Bool.eq_iff_iff, beq_iff_eq, beq_iff_eq]; omega, show (kd == 0) = ((p : Int) == 0) from by rw [Bool.eq_iff_iff, beq_iff_eq, beq_iff_eq]; omega]
        simp
      · clear a4 hkd hsum
        (repeat (first | refine zs rfl ?_ | refine zg rfl rfl rfl ?_ | refine zd ?_ | refine JK.fin ?_ | refine JK.ret ?_ | refine zc rfl (e1) rfl rfl ?_ | refine ze rfl (e1) rfl ?_ | refine zk rfl rfl (fun _ => e1) rfl rfl ?_))
        (refine JK.frzL [3] [2,12,13,17,160,163] rfl (by (first | exact trivial | (try dsimp only [allP, inK, idxC, loC, lohiC, fullC, underG, List.append, List.nil_append, List.cons_append, Ty.den, Ty.dflt, Int.toNat_natCast, List.length_cons, List.length_nil] at *); first | omega | ((repeat' (first | exact trivial | assumption | refine And.intro ?_ ?_ | exact fun h => h | (intro hpk; first | exact hpk | simp only [wantB, hpk, Bool.not_false, Bool.not_true]))) <;> omega) | fail)) ?_)
        (repeat (first | refine zs rfl ?_ | refine zg rfl rfl rfl ?_ | refine zd ?_ | refine JK.fin ?_ | refine JK.ret ?_ | refine zc rfl (e1) rfl rfl ?_ | refine ze rfl (e1) rfl ?_ | refine zk rfl rfl (fun _ => e1) rfl rfl ?_ | refine zc rfl (e2) rfl rfl ?_ | refine ze rfl (e2) rfl ?_ | refine zk rfl rfl (fun _ => e2) rfl rfl ?_))
        (refine JK.frzL [4] [2,7,12,13,17,19,169,172] rfl (by (first | exact trivial | (try dsimp only [allP, inK, idxC, loC, lohiC, fullC, underG, List.append, List.nil_append, List.cons_append, Ty.den, Ty.dflt, Int.toNat_natCast, List.length_cons, List.length_nil] at *); first | omega | ((repeat' (first | exact trivial | assumption | refine And.intro ?_ ?_ | exact fun h => h | (intro hpk; first | exact hpk | simp only [wantB, hpk, Bool.not_false, Bool.not_true]))) <;> omega) | fail)) ?_)
        (repeat (first | refine zs rfl ?_ | refine zg rfl rfl rfl ?_ | refine zd ?_ | refine JK.fin ?_ | refine JK.ret ?_ | refine zc rfl (e3) rfl rfl ?_ | refine ze rfl (e3) rfl ?_ | refine zk rfl rfl (fun _ => e3) rfl rfl ?_ | refine zc rfl (e4) rfl rfl ?_ | refine ze rfl (e4) rfl ?_ | refine zk rfl rfl (fun _ => e4) rfl rfl ?_))
        refine JK.cond rfl (fun h => by exfalso; revert h; rw [← a5]; simp) (fun _ => ?_)
        clear e1 e2 e3 e4 a5
        (repeat (first | refine zs rfl ?_ | refine zg rfl rfl rfl ?_ | refine zd ?_ | refine JK.fin ?_ | refine JK.ret ?_))
        refine JK.loop (fun i : Nat => ⟨[(2, .lf (.optr 0 [])), (17, vLL G), (21, vI (i : Int))], [(0, .cell caT (vC N ev))], 5⟩) (fun i => i ≤ G.length) (fun i => G.length - i) 0 (Nat.zero_le _) (by (exact JW.Auto (by conv => lhs; reduce))) fun i hi => ?_
        (repeat (first | refine zs rfl ?_ | refine zg rfl rfl rfl ?_ | refine zd ?_ | refine JK.fin ?_ | refine JK.ret ?_))
        refine JK.cond rfl (fun hc => ?_) (fun hc => ?_)
        · (simp only [↓bif_or, ↓bif_and, ↓Bool.or_eq_true, ↓Bool.or_eq_false_iff, ↓Bool.and_eq_true, ↓Bool.and_eq_false_iff, ↓Bool.not_eq_true', ↓Bool.not_eq_false', ↓decide_eq_true_eq, ↓decide_eq_false_iff_not, ↓beq_iff_eq, ↓bne_iff_ne, ↓bne_eq_false_iff_eq, ↓ne_eq, ↓beq_eq_false_iff_ne, ↓Bool.not_eq_true] at hc; try simp only [Ty.dflt, Int.toNat_natCast] at hc)
          have hg := hti (G.getD ((i : Int)).toNat (Ty.dflt (.slice (.int .i64)))) (by rw [show (G.getD ((i : Int)).toNat (Ty.dflt (.slice (.int .i64)))) = G.getD i [] from rfl, getD_nat G (by omega)]; exact List.getElem_mem _)
          have hlu : ((G.getD ((i : Int)).toNat (Ty.dflt (.slice (.int .i64))))).getD (((G.getD ((i : Int)).toNat (Ty.dflt (.slice (.int .i64))))).length - 1) 0 = (((G.getD ((i : Int)).toNat (Ty.dflt (.slice (.int .i64))))).getD ((((G.getD ((i : Int)).toNat (Ty.dflt (.slice (.int .i64))))).length : Int) - 1).toNat (Ty.dflt (.int .i64))) := congrArg (fun j => ((G.getD ((i : Int)).toNat (Ty.dflt (.slice (.int .i64))))).getD j 0) (show ((G.getD ((i : Int)).toNat (Ty.dflt (.slice (.int .i64))))).length - 1 = ((((G.getD ((i : Int)).toNat (Ty.dflt (.slice (.int .i64))))).length : Int) - 1).toNat by omega)
          have hou : ((G.getD ((i : Int)).toNat (Ty.dflt (.slice (.int .i64))))).getD 0 0 = (((G.getD ((i : Int)).toNat (Ty.dflt (.slice (.int .i64))))).getD (Int.toNat 0) (Ty.dflt (.int .i64))) := rfl
          rw [hlu, hou] at hg
          have e6 := fn49 N ev [(((G.getD ((i : Int)).toNat (Ty.dflt (.slice (.int .i64))))).getD (Int.toNat 0) (Ty.dflt (.int .i64))), 0 - (((G.getD ((i : Int)).toNat (Ty.dflt (.slice (.int .i64))))).getD ((((G.getD ((i : Int)).toNat (Ty.dflt (.slice (.int .i64))))).length : Int) - 1).toNat (Ty.dflt (.int .i64)))] (by simp) (by omega)
          have e5 := fn40 N (ev ++ dupL [(((G.getD ((i : Int)).toNat (Ty.dflt (.slice (.int .i64))))).getD (Int.toNat 0) (Ty.dflt (.int .i64))), 0 - (((G.getD ((i : Int)).toNat (Ty.dflt (.slice (.int .i64))))).getD ((((G.getD ((i : Int)).toNat (Ty.dflt (.slice (.int .i64))))).length : Int) - 1).toNat (Ty.dflt (.int .i64)))])
          rw [count_ok (with_ok h0 (by
            intro s hs
            simp only [List.mem_cons, List.not_mem_nil, or_false] at hs
            rcases hs with rfl | rfl
            · exact hg.2.2.1
            · rw [Int.zero_sub]; exact hg.2.2.2.1.neg) (by simp only [List.length_cons, List.length_nil]; omega)), hg.2.2.2.2.2] at e5
          obtain ⟨g1, g2, g3, g4, g5, _⟩ := hg
          change isSay N (((G.getD ((i : Int)).toNat (Ty.dflt (.slice (.int .i64))))).getD (Int.toNat 0) (Ty.dflt (.int .i64))) at g3
          change (((G.getD ((i : Int)).toNat (Ty.dflt (.slice (.int .i64))))).getD (Int.toNat 0) (Ty.dflt (.int .i64))) ≠ (((G.getD ((i : Int)).toNat (Ty.dflt (.slice (.int .i64))))).getD ((((G.getD ((i : Int)).toNat (Ty.dflt (.slice (.int .i64))))).length : Int) - 1).toNat (Ty.dflt (.int .i64))) at g5
          have f1 := fn50 N (((G.getD ((i : Int)).toNat (Ty.dflt (.slice (.int .i64))))).getD (Int.toNat 0) (Ty.dflt (.int .i64))) (by omega)
          have f2 := fn50 N (((G.getD ((i : Int)).toNat (Ty.dflt (.slice (.int .i64))))).getD ((((G.getD ((i : Int)).toNat (Ty.dflt (.slice (.int .i64))))).length : Int) - 1).toNat (Ty.dflt (.int .i64))) (by omega)
          have b1 := sayB_isSay.2 g3
          have b2 := sayB_isSay.2 g4
          have h3 : -1000 ≤ (((G.getD ((i : Int)).toNat (Ty.dflt (.slice (.int .i64))))).getD (Int.toNat 0) (Ty.dflt (.int .i64))) ∧ (((G.getD ((i : Int)).toNat (Ty.dflt (.slice (.int .i64))))).getD (Int.toNat 0) (Ty.dflt (.int .i64))) ≤ 1000 := by unfold isSay at g3; omega
          have h4 : -1000 ≤ (((G.getD ((i : Int)).toNat (Ty.dflt (.slice (.int .i64))))).getD ((((G.getD ((i : Int)).toNat (Ty.dflt (.slice (.int .i64))))).length : Int) - 1).toNat (Ty.dflt (.int .i64))) ∧ (((G.getD ((i : Int)).toNat (Ty.dflt (.slice (.int .i64))))).getD ((((G.getD ((i : Int)).toNat (Ty.dflt (.slice (.int .i64))))).length : Int) - 1).toNat (Ty.dflt (.int .i64))) ≤ 1000 := by unfold isSay at g4; omega
          clear hlu g3 g4
          generalize sayB (N : Int) (((G.getD ((i : Int)).toNat (Ty.dflt (.slice (.int .i64))))).getD (Int.toNat 0) (Ty.dflt (.int .i64))) = s1 at f1 b1
          generalize sayB (N : Int) (((G.getD ((i : Int)).toNat (Ty.dflt (.slice (.int .i64))))).getD ((((G.getD ((i : Int)).toNat (Ty.dflt (.slice (.int .i64))))).length : Int) - 1).toNat (Ty.dflt (.int .i64))) = s2 at f2 b2
          (repeat (first | refine zs rfl ?_ | refine zg rfl rfl rfl ?_ | refine zd ?_ | refine JK.fin ?_ | refine JK.ret ?_))
          refine JK.cond rfl (fun h => by exfalso; have := of_decide_eq_true h; omega) (fun _ => ?_)
          have ge : ((((G.getD ((i : Int)).toNat (Ty.dflt (.slice (.int .i64))))).getD (Int.toNat 0) (Ty.dflt (.int .i64))) == (((G.getD ((i : Int)).toNat (Ty.dflt (.slice (.int .i64))))).getD ((((G.getD ((i : Int)).toNat (Ty.dflt (.slice (.int .i64))))).length : Int) - 1).toNat (Ty.dflt (.int .i64)))) = false := beq_eq_false_iff_ne.2 g5
          (repeat (first | refine zs rfl ?_ | refine zg rfl rfl rfl ?_ | refine zd ?_ | refine JK.fin ?_ | refine JK.ret ?_ | refine zc rfl (f1) rfl rfl ?_ | refine ze rfl (f1) rfl ?_ | refine zk rfl rfl (fun _ => f1) rfl rfl ?_ | refine zc rfl (f2) rfl rfl ?_ | refine ze rfl (f2) rfl ?_ | refine zk rfl rfl (fun _ => f2) rfl rfl ?_))
          refine JK.cond rfl (fun h => ?_) (fun _ => ?_)
          · rw [ge, b1, b2] at h
            exact absurd h (by decide)
          · clear f1 f2 ge
            (repeat (first | refine zs rfl ?_ | refine zg rfl rfl rfl ?_ | refine zd ?_ | refine JK.fin ?_ | refine JK.ret ?_))
            (refine JK.frzL [5] [2,17,21,238,242] rfl (by (first | exact trivial | (try dsimp only [allP, inK, idxC, loC, lohiC, fullC, underG, List.append, List.nil_append, List.cons_append, Ty.den, Ty.dflt, Int.toNat_natCast, List.length_cons, List.length_nil] at *); first | omega | ((repeat' (first | exact trivial | assumption | refine And.intro ?_ ?_ | exact fun h => h | (intro hpk; first | exact hpk | simp only [wantB, hpk, Bool.not_false, Bool.not_true]))) <;> omega) | fail)) ?_)
            (repeat (first | refine zs rfl ?_ | refine zg rfl rfl rfl ?_ | refine zd ?_ | refine JK.fin ?_ | refine JK.ret ?_ | refine zc rfl (e6) rfl rfl ?_ | refine ze rfl (e6) rfl ?_ | refine zk rfl rfl (fun _ => e6) rfl rfl ?_ | refine zc rfl (e5) rfl rfl ?_ | refine ze rfl (e5) rfl ?_ | refine zk rfl rfl (fun _ => e5) rfl rfl ?_))
            refine JK.cond rfl (fun h => by exfalso; revert h; decide) (fun _ => ?_)
            clear e5 e6
            (repeat (first | refine zs rfl ?_ | refine zg rfl rfl rfl ?_ | refine zd ?_ | refine JK.fin ?_ | refine JK.ret ?_))
            refine ⟨i + 1, ?_, by omega, by omega⟩
            (exact JW.Auto (by conv => lhs; reduce))
        · (repeat (first | refine zs rfl ?_ | refine zg rfl rfl rfl ?_ | refine zd ?_ | refine JK.fin ?_ | refine JK.ret ?_ | refine zc rfl (fn15) rfl rfl ?_ | refine ze rfl (fn15) rfl ?_ | refine zk rfl rfl (fun _ => fn15) rfl rfl ?_))
          refine ⟨.inl rfl, _, _, rfl, trivial, ?_⟩
          rfl
end Go.Proofs.Ytdmfofjaknngnaa

namespace Ox
open Go Go.RowKit Go.ChangeShapes Go.WideShapes Go.ChangeAt

section
variable {H : Type} {enc : TypeId × Value → H} {P : Program} {w : World} {base : Nat} {spare : Nat → Bool} {held : Bool}

/-- Types of arguments: no pointers. -/
def Ty.argB : Ty → Bool
  | .int _ | .bool | .nil => true
  | .slice e => e.argB && decide (0 < e.size)
  | .arr _ e => e.argB
  | .cons a b => a.argB && b.argB
  | .ptr _ => false

theorem cells?_take {b off n : Nat} {spot : Option Nat} {cs : List Value} (h : w.cells? base ⟨b, off, spot⟩ n = some cs) (hn : 0 < n) :
    spot = none ∧ ∃ c ty fz, w.heap[b]? = some (.cells c ty fz) ∧ cs = (c.toList.drop off).take n := by
  unfold World.cells? at h
  split at h
  · have hl := mapM_some_length h
    have hg := fun i (hi : i < n) => mapM_some_get h i i (by simp [hi])
    have h0 := hg 0 hn
    rw [List.length_range] at hl
    rw [List.getElem?_eq_getElem (by omega)] at h0
    simp only [Addr.add, if_true, World.cell?] at h0
    split at h0
    · rename_i c ty fz hb
      split at h0
      · cases h0
      · rename_i hs
        have hs : spot = none := by simpa using hs
        subst hs
        refine ⟨rfl, c, ty, fz, hb, ?_⟩
        apply List.ext_getElem?
        intro i
        rw [List.getElem?_take]
        by_cases hi : i < n
        · rw [if_pos hi, ← hg i hi, Addr.add_plain, cell?_block hb, List.getElem?_drop]
          simp
        · rw [if_neg hi, List.getElem?_eq_none (by omega)]
    · cases h0
  · cases h

/-- Each number is one of its kind. -/
def Ty.fit : (t : Ty) → t.den → Prop
  | .int k, n => inK k n
  | .bool, _ => True
  | .slice e, l => ∀ y ∈ l, e.fit y
  | .ptr _, _ => True
  | .arr _ e, l => ∀ y ∈ l, e.fit y
  | .nil, _ => True
  | .cons a b, y => a.fit y.1 ∧ b.fit y.2
theorem inK_wf {k : IntKind} {n : Int} (h : (Lit.int k n).wf = true) : inK k n := by
  simp only [Lit.wf, Bool.and_eq_true, decide_eq_true_eq] at h
  cases k <;> exact h
/-- What reads as a datum is data. -/
def RepA (P : Program) (t : Ty) : Prop := ∀ {H : Type} {enc : TypeId × Value → H} {w : World} {base : Nat} {spare : Nat → Bool} {held : Bool} (id : TypeId) (fuel : Nat) (cs : List Value) (x : DataW H × List MemPlace),
  TyOf P t id → t.argB = true → DataW.trod enc P w base spare held fuel id cs = some x → ∃ y, Rep (fun b => w.heap[b]?) t y cs ∧ t.fit y
def RepF (P : Program) (t : Ty) : Prop := ∀ {H : Type} {enc : TypeId × Value → H} {w : World} {base : Nat} {spare : Nat → Bool} {held : Bool} (fs : List Field) (off fuel : Nat) (cs : List Value),
  TyOf.fields P t fs off → t.argB = true → cs.length = off + t.size → (∀ (i : Nat) (f : Field), fs[i]? = some f → ∃ x, DataW.trod enc P w base spare held fuel f.type ((cs.drop f.offset).take (P.cellsOf f.type)) = some x) →
    ∃ y, Rep (fun b => w.heap[b]?) t y (cs.drop off) ∧ t.fit y

theorem size_pos_of_nz {n : Nat} (h : n ≠ 0) : 0 < n := Nat.pos_of_ne_zero h

theorem list_of {α : Type} {n : Nat} {p : Nat → α → Prop} (h : ∀ i, i < n → ∃ y, p i y) : ∃ l : List α, l.length = n ∧ ∀ i (hi : i < l.length), p i (l.get ⟨i, hi⟩) := by
  induction n with
  | zero => exact ⟨[], rfl, fun i hi => absurd hi (by simp)⟩
  | succ n ih =>
    obtain ⟨l, h1, h2⟩ := ih fun i hi => h i (by omega)
    obtain ⟨y, hy⟩ := h n (by omega)
    refine ⟨l ++ [y], by simp [h1], fun i hi => ?_⟩
    simp only [List.get_eq_getElem]
    by_cases hl : i < l.length
    · rw [List.getElem_append_left hl]; exact h2 i hl
    · have : i = l.length := by simp at hi; omega
      subst this
      rw [List.getElem_append_right (Nat.le_refl _)]
      simp only [Nat.sub_self, List.getElem_cons_zero]
      rw [h1]; exact hy

theorem rep_all (P : Program) : ∀ t : Ty, RepA P t ∧ RepF P t := by
  intro t
  induction t with
  | int k =>
    refine ⟨fun id fuel cs x ht _ h => ?_, fun fs off fuel cs hf _ _ _ => by simp [TyOf.fields] at hf⟩
    simp only [TyOf] at ht
    have hu := ht.under
    cases fuel with
    | zero => simp [DataW.trod] at h
    | succ n =>
      unfold DataW.trod at h
      rw [hu] at h
      split at h <;> try (simp_all; done)
      rename_i k' q n' he
      split at h
      · rename_i hk
        injection he with he
        injection he with he
        subst he
        exact ⟨n', by simp only [Rep]; rw [hk.1], inK_wf hk.2⟩
      · cases h
  | bool =>
    refine ⟨fun id fuel cs x ht _ h => ?_, fun fs off fuel cs hf _ _ _ => by simp [TyOf.fields] at hf⟩
    simp only [TyOf] at ht
    have hu := ht.under
    cases fuel with
    | zero => simp [DataW.trod] at h
    | succ n =>
      unfold DataW.trod at h
      rw [hu] at h
      split at h <;> try (simp_all; done)
      rename_i b he
      exact ⟨b, by simp only [Rep], trivial⟩
  | slice e ih =>
    refine ⟨@fun H enc w base spare held id fuel cs x ht hb h => ?_, fun fs off fuel cs hf _ _ _ => by simp [TyOf.fields] at hf⟩
    simp only [TyOf] at ht
    obtain ⟨eid, hi, he⟩ := ht
    simp only [Ty.argB, Bool.and_eq_true, decide_eq_true_eq] at hb
    have hsz := cells_of he
    rcases DataW.trod_slice hi.under h with ⟨h0, _⟩ | ⟨a, len, cap, elems, rest, n, _, rfl, _, _, hlc, hcm, hel, hg, _⟩
    · exact ⟨[], by simp only [Rep]; exact ⟨none, 0, h0, Nat.le_refl _, Nat.zero_le _, fun _ => rfl, .inl rfl⟩, fun y hy => by cases hy⟩
    · have each : ∀ i, i < len → ∃ y : e.den, ∃ spot c ty fz, a = ⟨a.block, a.off, spot⟩ ∧ (spot = none ∨ i ≠ 0) ∧ ∃ _ : w.heap[a.block]? = some (.cells c ty fz), Rep (fun b => w.heap[b]?) e y ((c.toList.drop (a.off + i * e.size)).take e.size) ∧ e.fit y := by
        intro i hi'
        have h1 := hg i hi'
        rw [List.getElem?_eq_getElem (by omega), Option.bind_eq_some_iff, hsz] at h1
        obtain ⟨ce, h2, h3⟩ := h1
        obtain ⟨blk, off, spot⟩ := a
        by_cases h0 : i * e.size = 0
        · have hi0 : i = 0 := by
            rcases Nat.mul_eq_zero.1 h0 with h0 | h0
            · exact h0
            · omega
          subst hi0
          simp only [Nat.zero_mul, Addr.add, if_true] at h2
          obtain ⟨hs, c, ty, fz, h4, rfl⟩ := cells?_take h2 hb.2
          obtain ⟨y, hy, hyf⟩ := ih.1 eid n _ _ he hb.1 h3
          exact ⟨y, spot, c, ty, fz, rfl, .inl hs, h4, by simpa using hy, hyf⟩
        · have e1 : (Addr.add ⟨blk, off, spot⟩ (i * e.size)) = ⟨blk, off + i * e.size, none⟩ := by simp only [Addr.add, if_neg h0]
          rw [e1] at h2
          obtain ⟨hs, c, ty, fz, h4, rfl⟩ := cells?_take h2 hb.2
          obtain ⟨y, hy, hyf⟩ := ih.1 eid n _ _ he hb.1 h3
          exact ⟨y, spot, c, ty, fz, rfl, .inr (fun hi0 => h0 (by rw [hi0, Nat.zero_mul])), h4, hy, hyf⟩
      by_cases hl0 : len = 0
      · subst hl0
        exact ⟨[], by simp only [Rep]; exact ⟨some a, cap, rfl, Nat.zero_le _, hcm, (fun h => by cases h), .inl rfl⟩, fun y hy => by cases hy⟩
      · obtain ⟨y0, spot, c, ty, fz, ha, hs, hc, _⟩ := each 0 (by omega)
        have hs : spot = none := hs.resolve_right (fun h => h rfl)
        subst hs
        obtain ⟨l, hl, hr⟩ := list_of (p := fun i (y : e.den) => Rep (fun b => w.heap[b]?) e y ((c.toList.drop (a.off + i * e.size)).take e.size) ∧ e.fit y) (n := len) (fun i hi' => by
          obtain ⟨y, _, c', ty', fz', _, _, hc', hy⟩ := each i hi'
          rw [hc] at hc'
          injection hc' with hc'
          injection hc' with hc' _ _
          subst hc'
          exact ⟨y, hy⟩)
        refine ⟨l, ?_, fun y hy => by
          obtain ⟨i, hi, rfl⟩ := List.mem_iff_get.1 hy
          exact (hr i.1 i.2).2⟩
        simp only [Rep]
        refine ⟨some a, cap, by rw [hl], by rw [hl]; exact hlc, hcm, (fun h => by cases h), .inr ⟨a.block, a.off, c, ty, fz, by rw [ha], hc, fun i hi => (hr i hi).1⟩⟩
  | ptr e ih => exact ⟨fun id fuel cs x _ hb _ => by simp [Ty.argB] at hb, fun fs off fuel cs hf _ _ _ => by simp [TyOf.fields] at hf⟩
  | arr n e ih =>
    refine ⟨@fun H enc w base spare held id fuel cs x ht hb h => ?_, fun fs off fuel cs hf _ _ _ => by simp [TyOf.fields] at hf⟩
    simp only [TyOf] at ht
    obtain ⟨eid, hi, he⟩ := ht
    simp only [Ty.argB] at hb
    have hsz := cells_of he
    have hsa : P.cellsOf id = n * e.size := cells_of (t := .arr n e) ⟨eid, hi, he⟩
    obtain ⟨xs, m, _, _, hl, hxl, hg⟩ := DataW.trod_array hi.under h
    obtain ⟨l, h1, h2⟩ := list_of (p := fun i (y : e.den) => Rep (fun b => w.heap[b]?) e y ((cs.drop (i * e.size)).take e.size) ∧ e.fit y) (n := n) (fun i hi' => by
      have h3 := hg i hi'
      rw [hsz, List.getElem?_eq_getElem (by omega)] at h3
      exact ih.1 eid m _ _ he hb h3)
    exact ⟨l, by simp only [Rep]; exact ⟨h1, by rw [hl, hsa], fun i hi => (h2 i hi).1⟩, fun y hy => by
      obtain ⟨i, hi, rfl⟩ := List.mem_iff_get.1 hy
      exact (h2 i.1 i.2).2⟩
  | nil =>
    refine ⟨fun id fuel cs x ht _ _ => by simp [TyOf] at ht, fun fs off fuel cs hf _ hl _ => ⟨(), ?_, trivial⟩⟩
    simp only [Rep, Ty.size] at hl ⊢
    exact List.drop_of_length_le (by omega)
  | cons a b iha ihb =>
    have hF : RepF P (.cons a b) := by
      intro H enc w base spare held fs off fuel cs hf hb hl hg
      cases fs with
      | nil => simp [TyOf.fields] at hf
      | cons f r =>
        simp only [TyOf.fields] at hf
        obtain ⟨h1, h2, h3, h4⟩ := hf
        simp only [Ty.argB, Bool.and_eq_true] at hb
        simp only [Ty.size] at hl
        obtain ⟨x, hx⟩ := hg 0 f rfl
        rw [h1, cells_of h2] at hx
        obtain ⟨y1, hy1, hf1⟩ := iha.1 _ _ _ _ h2 hb.1 hx
        obtain ⟨y2, hy2, hf2⟩ := ihb.2 r (off + a.size) fuel cs h4 hb.2 (by omega) fun i f hf => hg (i + 1) f (by simpa using hf)
        refine ⟨(y1, y2), ?_, hf1, hf2⟩
        simp only [Rep]
        refine ⟨_, _, ?_, hy1, hy2⟩
        rw [← List.drop_drop, List.take_append_drop]
    refine ⟨@fun H enc w base spare held id fuel cs x ht hb h => ?_, hF⟩
    have hct := cells_of ht
    simp only [TyOf] at ht
    obtain ⟨fs, hi, hm⟩ := ht
    obtain ⟨xs, n, _, _, hl, hxl, hg⟩ := DataW.trod_struct hi.under h
    have hff : TyOf.fields P (.cons a b) fs.toList 0 := by
      split at hm
      · rename_i f r hfr
        rw [hfr]
        simp only [TyOf.fields]
        simpa using hm
      · exact hm.elim
    have := hF fs.toList 0 n cs hff hb (by rw [hl, hct]; omega) (held := held) (enc := enc) (w := w) (base := base) (spare := spare) fun i f hf => by
      have h1 := hg i f (by simpa using hf)
      have hlt : i < xs.length := by
        rw [hxl]
        have := (List.getElem?_eq_some_iff.1 hf).1
        simpa using this
      rw [List.getElem?_eq_getElem hlt] at h1
      exact ⟨_, h1⟩
    simpa using this

/-- Data of a list of types. -/
def Dat : List Ty → Type
  | [] => Unit
  | t :: ts => t.den × Dat ts
def Dat.av : {ts : List Ty} → Dat ts → AV
  | [], _ => .anil
  | t :: _, x => .acons (.val t x.1) (Dat.av x.2)
def Dat.fit : {ts : List Ty} → Dat ts → Prop
  | [], _ => True
  | t :: _, x => t.fit x.1 ∧ Dat.fit x.2
def tysB (P : Program) : List Ty → List TypeId → Bool
  | [], [] => true
  | t :: ts, i :: is => (tyB P t i && t.argB) && (P.readableRec i && decide (i < P.types.size)) && tysB P ts is
  | _, _ => false

theorem agg_of {t : Ty} {id : TypeId} (ht : TyOf P t id) (hb : t.argB = true) : (t.agg = true ∧ ((∃ fs, P.underlying id = some (.struct fs)) ∨ ∃ n e, P.underlying id = some (.array n e))) ∨
    (t.agg = false ∧ ((∃ k, P.underlying id = some (.int k)) ∨ P.underlying id = some .bool ∨ ∃ e, P.underlying id = some (.slice e))) := by
  cases t with
  | int k => simp only [TyOf] at ht; exact .inr ⟨rfl, .inl ⟨k, ht.under⟩⟩
  | bool => simp only [TyOf] at ht; exact .inr ⟨rfl, .inr (.inl ht.under)⟩
  | slice e => simp only [TyOf] at ht; obtain ⟨eid, h, _⟩ := ht; exact .inr ⟨rfl, .inr (.inr ⟨eid, h.under⟩)⟩
  | ptr e => simp [Ty.argB] at hb
  | arr n e => simp only [TyOf] at ht; obtain ⟨eid, h, _⟩ := ht; exact .inl ⟨rfl, .inr ⟨n, eid, h.under⟩⟩
  | nil => simp [TyOf] at ht
  | cons a b => simp only [TyOf] at ht; obtain ⟨fs, h, _⟩ := ht; exact .inl ⟨rfl, .inl ⟨fs, h.under⟩⟩

theorem arg_rv {ρ : Env} {t : Ty} {id : TypeId} {v : Value} {d : DataW H} {ps : List MemPlace} (ht : TyOf P t id) (hb : t.argB = true) (hv : Value.okWide P w .any base id v) {b0 : Nat}
    (h : DataW.Trod enc P w b0 spare held id v d ps) : ∃ y, (AV.val t y).rv (fun b => w.heap[b]?) ρ v ∧ t.fit y := by
  obtain ⟨fuel, h⟩ := h
  obtain ⟨y, hy, hyf⟩ := (rep_all P t).1 id fuel _ _ ht hb h
  refine ⟨y, ?_, hyf⟩
  simp only [AV.rv]
  refine ⟨_, hy, ?_⟩
  unfold Value.okWide at hv
  rcases agg_of ht hb with ⟨hag, hu⟩ | ⟨hag, hu⟩
  · have : ∃ cs, v = .agg cs := by
      rcases hu with ⟨fs, hu⟩ | ⟨n, e, hu⟩ <;> · rw [hu] at hv; obtain ⟨cs, h1, _⟩ := hv; exact ⟨cs, h1⟩
    obtain ⟨cs, rfl⟩ := this
    rw [Ty.wrap_agg hag]
    simp [Value.cells]
  · have hone : v.oneCell' = true := by
      rcases hu with ⟨k, hu⟩ | hu | ⟨e, hu⟩ <;> rw [hu] at hv <;> simp only [Cell.okWide, hu, Cell.ok] at hv <;> (split at hv <;> first | rfl | (exact hv.elim) | (split at hv <;> first | rfl | exact hv.elim))
    rw [Value.cells_one hone]
    simp [Ty.wrap, hag]

theorem tysB_cons {t : Ty} {ts : List Ty} {i : TypeId} {is : List TypeId} (h : tysB P (t :: ts) (i :: is) = true) : TyOf P t i ∧ t.argB = true ∧ P.readableRec i = true ∧ i < P.types.size ∧ tysB P ts is = true := by
  simp only [tysB, Bool.and_eq_true, decide_eq_true_eq] at h
  exact ⟨tyB_sound h.1.1.1, h.1.1.2, h.1.2.1, h.1.2.2, h.2⟩

theorem all_rvs {ρ : Env} {b0 : Nat} : ∀ {ts : List Ty} {is : List TypeId} {vs : List Value} {ds : List (DataW H)} {ps : List MemPlace}, tysB P ts is = true → (∀ (j : Nat) t v, is[j]? = some t → vs[j]? = some v → Value.okWide P w .any base t v) →
    DataW.TrodAll enc P w b0 spare held is vs ds ps → ∃ ys : Dat ts, ys.av.rvs (fun b => w.heap[b]?) ρ vs ∧ ys.fit
  | [], [], vs, ds, ps, _, _, h => by
    cases vs with
    | nil => exact ⟨(), by simp only [Dat.av, AV.rvs], trivial⟩
    | cons v vs => cases ds <;> simp [DataW.TrodAll] at h
  | t :: ts, i :: is, vs, ds, ps, hb, hv, h => by
    obtain ⟨h1, h2, _, _, h5⟩ := tysB_cons hb
    cases vs with
    | nil => cases ds <;> simp [DataW.TrodAll] at h
    | cons v vs =>
      cases ds with
      | nil => simp [DataW.TrodAll] at h
      | cons d ds =>
        obtain ⟨p, q, h6, h7, _⟩ := h
        obtain ⟨y, hy, hyf⟩ := arg_rv (ρ := ρ) h1 h2 (hv 0 i v rfl rfl) h6
        obtain ⟨ys, hys, hysf⟩ := all_rvs (ρ := ρ) h5 (fun j t v hj hjv => hv (j + 1) t v (by simpa using hj) (by simpa using hjv)) h7
        exact ⟨(y, ys), by simp only [Dat.av, AV.rvs]; exact ⟨v, vs, hy, hys, rfl⟩, hyf, hysf⟩
  | [], _ :: _, _, _, _, hb, _, _ => by simp [tysB] at hb
  | _ :: _, [], _, _, _, hb, _, _ => by simp [tysB] at hb

theorem Dat.bd : ∀ {ts : List Ty} (ys : Dat ts) (n : Nat), ys.av.bd n
  | [], _, _ => trivial
  | _ :: _, x, n => ⟨trivial, Dat.bd x.2 n⟩

theorem args_again {W W' : World} (hl : laidOutB P = true) (hbl : Below W.heap.size W W') {sp : Nat → Bool} : ∀ {ts : List Ty} {is : List TypeId} {vs : List Value} {ds : List (DataW H)} {ps : List MemPlace}, tysB P ts is = true →
    DataW.TrodAll enc P W 0 (fun _ => true) true is vs ds ps → (∀ p ∈ ps, p.block < W.heap.size) → (∀ p ∈ ps, sp p.block = true) → DataW.TrodAll enc P W' 0 sp true is vs ds ps
  | [], [], vs, ds, ps, _, h, _, _ => by
    cases vs <;> cases ds <;> simp_all [DataW.TrodAll]
  | t :: ts, i :: is, vs, ds, ps, hb, h, hlt, hsp => by
    obtain ⟨_, _, h3, h4, h5⟩ := tysB_cons hb
    cases vs with
    | nil => cases ds <;> simp [DataW.TrodAll] at h
    | cons v vs =>
      cases ds with
      | nil => simp [DataW.TrodAll] at h
      | cons d ds =>
        obtain ⟨p, q, h6, h7, rfl⟩ := h
        refine ⟨p, q, WideElems.Trod_stays hl h3 h4 h6 (fun x hx => hbl.same (hlt x (List.mem_append_left _ hx))) (fun x hx => hsp x (List.mem_append_left _ hx)), ?_, rfl⟩
        exact args_again hl hbl h5 h7 (fun x hx => hlt x (List.mem_append_right _ hx)) (fun x hx => hsp x (List.mem_append_right _ hx))
  | [], _ :: _, _, _, _, hb, _, _, _ => by simp [tysB] at hb
  | _ :: _, [], _, _, _, hb, _, _, _ => by simp [tysB] at hb

/-- A law's contract is what its row asks: the call returns true, each argument reads behind it as before. -/
theorem law_calls {f : FuncId} {fn : Func} {s : ChangeSpec} {ts : List Ty} {W : World} {base : Nat} {args : Array Value} {ds gs : List (DataW H)} {before : List MemPlace} {fresh handsOn : Bool}
    (hfn : ∀ ys : Dat ts, ys.fit → Fn P f ys.av (· = .val .bool true)) (hts : tysB P ts fn.params.toList = true) (hl : laidOutB P = true) (hvars : s.vars = [])
    (hspec : ∀ ds : List (DataW H), ds.length = ts.length → (s.fn H ds).results = [.lit (.bool true)] ∧ (s.fn H ds).args = ds ∧ (s.fn H ds).vars = []) {rt : TypeId} (hres : fn.resultTypes = #[rt]) (hrt : P.underlying rt = some .bool)
    (hval : ∀ (j : Nat) t v, fn.params[j]? = some t → args[j]? = some v → Value.okWide P W .any base t v) (hW : DataW.Whole enc P fn.params.toList s.vars false W args.toList ds gs before) :
    Calls P f args W fun e W' => ∃ v, e = .returned v ∧ s.post enc P fn false fresh handsOn false W args v W' := by
  have hW' := hW
  obtain ⟨p, q, hA, hV, rfl, hfz, _⟩ := hW
  rw [hvars] at hV
  obtain ⟨rfl, rfl⟩ := trodVars_none hV
  rw [List.append_nil] at hW'
  obtain ⟨ys, hys, hysf⟩ := all_rvs (ρ := ⟨fun _ => 0, fun _ => .nil, fun _ => Go.undef⟩) hts (fun j t v hj hv => hval j t v (by simpa using hj) (by simpa using hv)) hA
  have hlen : ∀ {ts : List Ty} {is : List TypeId} {vs : List Value} {ds : List (DataW H)} {ps : List MemPlace}, tysB P ts is = true → DataW.TrodAll enc P W 0 (fun _ => true) true is vs ds ps → ds.length = ts.length := by
    intro ts
    induction ts with
    | nil => intro is vs ds ps hb h; cases is <;> cases vs <;> cases ds <;> simp_all [DataW.TrodAll, tysB]
    | cons t ts ih =>
      intro is vs ds ps hb h
      cases is with
      | nil => simp [tysB] at hb
      | cons i is =>
        cases vs <;> cases ds <;> try (simp [DataW.TrodAll] at h; done)
        obtain ⟨p, q, _, h7, _⟩ := h
        simp [ih (tysB_cons hb).2.2.2.2 h7]
  have hdl := hlen hts hA
  have hrun := (hfn ys hysf).run (fun b => W.heap[b]?) ⟨fun _ => 0, fun _ => .nil, fun _ => Go.undef⟩ W args.toList (fun _ _ h => h) hys (Dat.bd ys 0)
  rw [Array.toArray_toList] at hrun
  refine hrun.mono fun e W' => ?_
  rintro ⟨v, r, M', rfl, rfl, _, hrv, hbl, _⟩
  rw [rv_bool] at hrv
  subst hrv
  obtain ⟨hs1, hs2, hs3⟩ := hspec ds hdl
  have hlt := fun x hx => hW'.lt x hx
  refine ⟨_, rfl, ds, [], p, [], p, [], hW', ?_, ?_, ?_, World.keptBut_mono (fun x hx => ⟨hx, .inr (.inl hx)⟩) (hbl.frame (· ∈ p)), fun h => by cases h⟩
  · rw [List.append_nil, hs1, hres]
    exact trodAll_cons_mk (shut_bool hrt _) trodAll_mk0
  · rw [List.append_nil, hs2]
    exact args_again hl hbl hts hA hlt fun x hx => by simpa using hlt x hx
  · rw [List.append_nil, hs3, hvars]
    rfl
end
end Ox
