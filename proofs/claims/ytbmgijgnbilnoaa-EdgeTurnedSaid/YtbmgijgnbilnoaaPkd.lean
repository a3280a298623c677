/- Texts of the proof, part 4 of 6.
  plan.
  What count reckons: the ways, as a list of places, and maps that say how often each comes.
  played, Fetches, Kept, Bench, Best, CheckMoments.
  count.
  Bench, Best, CheckMoments, Moments.
  greatest, Reverse, moments.
  moments.
  Moments, Before, Curve.
  Kind, Count.
  The definitions: Played.
  The definitions: Planned, Fetches, Kept, Bench.
  The definitions: CheckMoments.
  Day, example, great, Works. -/
import Derived.Test.YtbmgijgnbilnoaaPkc
set_option linter.all false
namespace Go.Proofs.Ytbmgijgnbilnoaa
open Go Go.RowKit Ox
attribute [local irreducible] JC JL JK JW

/-- The block that is needed last, from the k-th on: at most 'n' are looked at. -/
def farF (xs m : List Int) (i : Nat) : Nat → Nat → Int → Int → Int
  | 0, _, _, back => back
  | n + 1, k, far, back =>
    if m.getD k 0 = 0 then farF xs m i n (k + 1) far back
    else if (waitS xs k i : Int) > far then (if (waitS xs k i : Int) = xs.length then (k : Int) else farF xs m i n (k + 1) (waitS xs k i) k)
    else (if (waitS xs k i : Int) = xs.length then back else farF xs m i n (k + 1) far back)

def planF (r : Int) (xs : List Int) : Nat → Nat → List Int → List Int
  | 0, _, _ => []
  | n + 1, i, m =>
    if m.getD (xs.getD i 0).toNat 0 = 0 ∧ m.sum = r then farF xs m i 8 0 (-1) (-1) :: planF r xs n (i + 1) ((m.set (farF xs m i 8 0 (-1) (-1)).toNat 0).set (xs.getD i 0).toNat 1)
    else -1 :: planF r xs n (i + 1) (m.set (xs.getD i 0).toNat 1)
def planS (r : Int) (xs : List Int) : List Int := planF r xs xs.length 0 zero8

theorem waitF_bd (xs : List Int) (b : Int) : ∀ n i, i ≤ waitF xs b n i ∧ waitF xs b n i ≤ i + n
  | 0, i => by simp [waitF]
  | n + 1, i => by
    have := waitF_bd xs b n (i + 1)
    rw [waitF]; split <;> omega
theorem waitS_bd (xs : List Int) (b : Int) {i : Nat} (h : i ≤ xs.length) : i ≤ waitS xs b i ∧ waitS xs b i ≤ xs.length := by
  have := waitF_bd xs b (xs.length - i) i
  rw [waitS]; omega

theorem farF_bd (xs m : List Int) (i : Nat) : ∀ n k far back, k + n = 8 → ((0 ≤ back ∧ back ≤ 7) ∨ (far = -1 ∧ ∃ j, k ≤ j ∧ j < 8 ∧ m.getD j 0 ≠ 0)) → 0 ≤ farF xs m i n k far back ∧ farF xs m i n k far back ≤ 7
  | 0, k, far, back, hk, h => by
    rcases h with h | ⟨_, j, h1, h2, _⟩
    · exact h
    · omega
  | n + 1, k, far, back, hk, h => by
    rw [farF]
    by_cases h0 : m.getD k 0 = 0
    · rw [if_pos h0]
      refine farF_bd xs m i n (k + 1) far back (by omega) (h.imp id fun ⟨h1, j, h2, h3, h4⟩ => ⟨h1, j, ?_, h3, h4⟩)
      rcases Nat.lt_or_ge k j with h5 | h5
      · exact h5
      · exact absurd h0 (by rwa [show k = j by omega])
    · rw [if_neg h0]
      by_cases h1 : (waitS xs k i : Int) > far
      · rw [if_pos h1]
        split
        · omega
        · exact farF_bd xs m i n (k + 1) _ _ (by omega) (.inl (by omega))
      · rw [if_neg h1]
        rcases h with h | ⟨h2, _⟩
        · split
          · exact h
          · exact farF_bd xs m i n (k + 1) _ _ (by omega) (.inl h)
        · omega

theorem sum_zero : ∀ {m : List Int}, (∀ j, j < m.length → m.getD j 0 = 0) → m.sum = 0
  | [], _ => rfl
  | x :: r, h => by
    have h0 := h 0 (by simp)
    have h1 := sum_zero (m := r) fun j hj => by have := h (j + 1) (by simp; omega); simpa using this
    simp at h0
    simp [h0, h1]

theorem some_bit {m : List Int} (h8 : m.length = 8) (hs : 1 ≤ m.sum) : ∃ j, 0 ≤ j ∧ j < 8 ∧ m.getD j 0 ≠ 0 := by
  by_cases h : ∃ j, 0 ≤ j ∧ j < 8 ∧ m.getD j 0 ≠ 0
  · exact h
  · have := sum_zero (m := m) fun j hj => by
      by_cases e : m.getD j 0 = 0
      · exact e
      · exact absurd ⟨j, Nat.zero_le _, by omega, e⟩ h
    omega

set_option maxHeartbeats 1000000 in
theorem fn54 (r : Int) (xs la ne : List Int) (hr : 1 ≤ r) (hx : ∀ x ∈ xs, 0 ≤ x ∧ x ≤ 7) (hl : xs.length ≤ 1000) :
    Ox.Fn Go.Proofs.Try.prog 54 (.acons (vB0 r xs la ne) .anil) (· = vL (planS r xs)) := by
  refine Ox.Fn.intro xok Go.Proofs.Try.func54 rfl Go.Proofs.Try.call54 (Nat.le_of_ble_eq_true rfl) (fun E M0 up => ?_)
  refine JK.start ?_
  (repeat (first | refine zs rfl ?_ | refine zg rfl rfl rfl ?_ | refine zd ?_ | refine JK.fin ?_ | refine JK.ret ?_))
  refine JK.ghost 3 3 (.int .i64) rfl ?_
  refine JK.loop (σ := Nat × List Int × List Int) (fun q => ⟨[(0, vB0 r xs la ne), (3, .lf (.osl 1)), (4, .lf (.optr 0 [])), (16, vL xs), (17, vI xs.length), (18, vI (q.1 : Int))], [(0, .cell marT (vM q.2.1)), (1, .sl 3 (.int .i64) q.2.2)], 2⟩)
    (fun q => q.1 ≤ xs.length ∧ bits q.2.1 ∧ q.2.2.length = q.1 ∧ q.2.2 ++ planF r xs (xs.length - q.1) q.1 q.2.1 = planS r xs) (fun q => xs.length - q.1) (0, zero8, [])
    ⟨by simp, ⟨by simp, by simp [zero8]⟩, rfl, rfl⟩ (by (exact JW.Auto rfl)) fun q hq => ?_
  obtain ⟨i, m, out⟩ := q
  obtain ⟨hi, hm, hol, hinv⟩ := hq
  dsimp only at hi hm hol hinv
  have hm8 := hm.1
  (repeat (first | refine zs rfl ?_ | refine zg rfl rfl rfl ?_ | refine zd ?_ | refine JK.fin ?_ | refine JK.ret ?_))
  refine JK.cond rfl (fun hc => ?_) (fun hc => ?_)
  · (simp only [↓bif_or, ↓bif_and, ↓Bool.or_eq_true, ↓Bool.or_eq_false_iff, ↓Bool.and_eq_true, ↓Bool.and_eq_false_iff, ↓Bool.not_eq_true', ↓Bool.not_eq_false', ↓decide_eq_true_eq, ↓decide_eq_false_iff_not, ↓beq_iff_eq, ↓bne_iff_ne, ↓bne_eq_false_iff_eq, ↓ne_eq, ↓beq_eq_false_iff_ne, ↓Bool.not_eq_true] at hc; try simp only [Ty.dflt, Int.toNat_natCast] at hc)
    have hi' : i < xs.length := by omega
    have hb := hx (xs.getD i 0) (by rw [getD_nat xs hi']; exact List.getElem_mem hi')
    rw [show xs.length - i = (xs.length - (i + 1)) + 1 by omega, planF] at hinv
    have hm68 := fn68 m hm.2
    have hsb := sum_bd hm.2
    (repeat (first | refine zs rfl ?_ | refine zg rfl rfl rfl ?_ | refine zd ?_ | refine JK.fin ?_ | refine JK.ret ?_ | refine zc rfl (hm68) rfl rfl ?_ | refine ze rfl (hm68) rfl ?_ | refine zk rfl rfl (fun _ => hm68) rfl rfl ?_))
    refine JK.cond rfl (fun hd => ?_) (fun hd => ?_)
    · (simp only [↓bif_or, ↓bif_and, ↓Bool.or_eq_true, ↓Bool.or_eq_false_iff, ↓Bool.and_eq_true, ↓Bool.and_eq_false_iff, ↓Bool.not_eq_true', ↓Bool.not_eq_false', ↓decide_eq_true_eq, ↓decide_eq_false_iff_not, ↓beq_iff_eq, ↓bne_iff_ne, ↓bne_eq_false_iff_eq, ↓ne_eq, ↓beq_eq_false_iff_ne, ↓Bool.not_eq_true] at hd; try simp only [Ty.dflt, Int.toNat_natCast] at hd)
      rw [if_pos hd] at hinv
      have hfb := farF_bd xs m i 8 0 (-1) (-1) rfl (.inr ⟨rfl, some_bit hm8 (by omega)⟩)
      generalize hfv : farF xs m i 8 0 (-1) (-1) = fv at hinv hfb
      (repeat (first | refine zs rfl ?_ | refine zg rfl rfl rfl ?_ | refine zd ?_ | refine JK.fin ?_ | refine JK.ret ?_))
      refine JK.loopE (σ := Nat × Int × Int) (τ := Unit) (fun p => ⟨[(0, vB0 r xs la ne), (3, .lf (.osl 1)), (4, .lf (.optr 0 [])), (5, vI (i : Int)), (6, vI (xs.getD i 0)), (7, vI p.2.2), (8, vI p.2.1), (16, vL xs), (17, vI xs.length), (18, vI (i : Int)), (37, vI (p.1 : Int))], [(0, .cell marT (vM m)), (1, .sl 3 (.int .i64) out)], 2⟩)
        (fun p => p.1 ≤ 8 ∧ farF xs m i (8 - p.1) p.1 p.2.1 p.2.2 = fv) (fun p => 8 - p.1) (0, -1, -1) ⟨by simp, hfv⟩ (by (exact JW.Auto rfl))
        (fun _ => ⟨[(0, vB0 r xs la ne), (3, .lf (.osl 1)), (4, .lf (.optr 0 [])), (5, vI (i : Int)), (6, vI (xs.getD i 0)), (7, vI fv), (16, vL xs), (17, vI xs.length), (18, vI (i : Int))], [(0, .cell marT (vM m)), (1, .sl 3 (.int .i64) out)], 2⟩) (fun _ => True) (fun _ _ => ?_) (fun p hp => ?_)
      · (repeat (first | refine zs rfl ?_ | refine zg rfl rfl rfl ?_ | refine zd ?_ | refine JK.fin ?_ | refine JK.ret ?_))
        have hm2 := bits_set hm fv.toNat (x := 0) (by omega)
        (repeat (first | refine zs rfl ?_ | refine zg rfl rfl rfl ?_ | refine zd ?_ | refine JK.fin ?_ | refine JK.ret ?_))
        refine ⟨(i + 1, (m.set fv.toNat 0).set (xs.getD i 0).toNat 1, out ++ [fv]), by (exact JW.Auto rfl), ⟨by omega, bits_set hm2 _ (by omega), by simp [hol], ?_⟩, by dsimp only; omega⟩
        rw [List.append_assoc]; exact hinv
      · obtain ⟨k, far, back⟩ := p
        obtain ⟨hk8, hpv⟩ := hp
        dsimp only at hk8 hpv
        (repeat (first | refine zs rfl ?_ | refine zg rfl rfl rfl ?_ | refine zd ?_ | refine JK.fin ?_ | refine JK.ret ?_))
        refine JK.cond rfl (fun hg => ?_) (fun hg => ?_)
        · (simp only [↓bif_or, ↓bif_and, ↓Bool.or_eq_true, ↓Bool.or_eq_false_iff, ↓Bool.and_eq_true, ↓Bool.and_eq_false_iff, ↓Bool.not_eq_true', ↓Bool.not_eq_false', ↓decide_eq_true_eq, ↓decide_eq_false_iff_not, ↓beq_iff_eq, ↓bne_iff_ne, ↓bne_eq_false_iff_eq, ↓ne_eq, ↓beq_eq_false_iff_ne, ↓Bool.not_eq_true] at hg; try simp only [Ty.dflt, Int.toNat_natCast] at hg)
          rw [show 8 - k = (8 - (k + 1)) + 1 by omega, farF] at hpv
          (repeat (first | refine zs rfl ?_ | refine zg rfl rfl rfl ?_ | refine zd ?_ | refine JK.fin ?_ | refine JK.ret ?_))
          refine JK.cond rfl (fun hz => ?_) (fun hz => ?_)
          · (simp only [↓bif_or, ↓bif_and, ↓Bool.or_eq_true, ↓Bool.or_eq_false_iff, ↓Bool.and_eq_true, ↓Bool.and_eq_false_iff, ↓Bool.not_eq_true', ↓Bool.not_eq_false', ↓decide_eq_true_eq, ↓decide_eq_false_iff_not, ↓beq_iff_eq, ↓bne_iff_ne, ↓bne_eq_false_iff_eq, ↓ne_eq, ↓beq_eq_false_iff_ne, ↓Bool.not_eq_true] at hz; try simp only [Ty.dflt, Int.toNat_natCast] at hz)
            rw [if_pos hz] at hpv
            (repeat (first | refine zs rfl ?_ | refine zg rfl rfl rfl ?_ | refine zd ?_ | refine JK.fin ?_ | refine JK.ret ?_))
            exact ⟨(k + 1, far, back), by (exact JW.Auto rfl), ⟨by dsimp only; omega, hpv⟩, by dsimp only; omega⟩
          · (simp only [↓bif_or, ↓bif_and, ↓Bool.or_eq_true, ↓Bool.or_eq_false_iff, ↓Bool.and_eq_true, ↓Bool.and_eq_false_iff, ↓Bool.not_eq_true', ↓Bool.not_eq_false', ↓decide_eq_true_eq, ↓decide_eq_false_iff_not, ↓beq_iff_eq, ↓bne_iff_ne, ↓bne_eq_false_iff_eq, ↓ne_eq, ↓beq_eq_false_iff_ne, ↓Bool.not_eq_true] at hz; try simp only [Ty.dflt, Int.toNat_natCast] at hz)
            rw [if_neg hz] at hpv
            have hwb := waitS_bd xs k (i := i) (by omega)
            (repeat (first | refine zs rfl ?_ | refine zg rfl rfl rfl ?_ | refine zd ?_ | refine JK.fin ?_ | refine JK.ret ?_ | refine zc rfl (fn69 r xs la ne k i (by omega)) rfl rfl ?_ | refine ze rfl (fn69 r xs la ne k i (by omega)) rfl ?_ | refine zk rfl rfl (fun _ => fn69 r xs la ne k i (by omega)) rfl rfl ?_))
            refine JK.cond rfl (fun hf => ?_) (fun hf => ?_)
            · (simp only [↓bif_or, ↓bif_and, ↓Bool.or_eq_true, ↓Bool.or_eq_false_iff, ↓Bool.and_eq_true, ↓Bool.and_eq_false_iff, ↓Bool.not_eq_true', ↓Bool.not_eq_false', ↓decide_eq_true_eq, ↓decide_eq_false_iff_not, ↓beq_iff_eq, ↓bne_iff_ne, ↓bne_eq_false_iff_eq, ↓ne_eq, ↓beq_eq_false_iff_ne, ↓Bool.not_eq_true] at hf; try simp only [Ty.dflt, Int.toNat_natCast] at hf)
              rw [if_pos hf] at hpv
              (repeat (first | refine zs rfl ?_ | refine zg rfl rfl rfl ?_ | refine zd ?_ | refine JK.fin ?_ | refine JK.ret ?_))
              refine JK.cond rfl (fun he => ?_) (fun he => ?_)
              · (simp only [↓bif_or, ↓bif_and, ↓Bool.or_eq_true, ↓Bool.or_eq_false_iff, ↓Bool.and_eq_true, ↓Bool.and_eq_false_iff, ↓Bool.not_eq_true', ↓Bool.not_eq_false', ↓decide_eq_true_eq, ↓decide_eq_false_iff_not, ↓beq_iff_eq, ↓bne_iff_ne, ↓bne_eq_false_iff_eq, ↓ne_eq, ↓beq_eq_false_iff_ne, ↓Bool.not_eq_true] at he; try simp only [Ty.dflt, Int.toNat_natCast] at he)
                rw [if_pos he] at hpv
                (repeat (first | refine zs rfl ?_ | refine zg rfl rfl rfl ?_ | refine zd ?_ | refine JK.fin ?_ | refine JK.ret ?_))
                exact ⟨(), by (exact JW.Auto rfl), trivial⟩
              · (simp only [↓bif_or, ↓bif_and, ↓Bool.or_eq_true, ↓Bool.or_eq_false_iff, ↓Bool.and_eq_true, ↓Bool.and_eq_false_iff, ↓Bool.not_eq_true', ↓Bool.not_eq_false', ↓decide_eq_true_eq, ↓decide_eq_false_iff_not, ↓beq_iff_eq, ↓bne_iff_ne, ↓bne_eq_false_iff_eq, ↓ne_eq, ↓beq_eq_false_iff_ne, ↓Bool.not_eq_true] at he; try simp only [Ty.dflt, Int.toNat_natCast] at he)
                rw [if_neg he] at hpv
                (repeat (first | refine zs rfl ?_ | refine zg rfl rfl rfl ?_ | refine zd ?_ | refine JK.fin ?_ | refine JK.ret ?_))
                exact ⟨(k + 1, waitS xs k i, k), by (exact JW.Auto rfl), ⟨by dsimp only; omega, hpv⟩, by dsimp only; omega⟩
            · (simp only [↓bif_or, ↓bif_and, ↓Bool.or_eq_true, ↓Bool.or_eq_false_iff, ↓Bool.and_eq_true, ↓Bool.and_eq_false_iff, ↓Bool.not_eq_true', ↓Bool.not_eq_false', ↓decide_eq_true_eq, ↓decide_eq_false_iff_not, ↓beq_iff_eq, ↓bne_iff_ne, ↓bne_eq_false_iff_eq, ↓ne_eq, ↓beq_eq_false_iff_ne, ↓Bool.not_eq_true] at hf; try simp only [Ty.dflt, Int.toNat_natCast] at hf)
              rw [if_neg hf] at hpv
              (repeat (first | refine zs rfl ?_ | refine zg rfl rfl rfl ?_ | refine zd ?_ | refine JK.fin ?_ | refine JK.ret ?_))
              refine JK.cond rfl (fun he => ?_) (fun he => ?_)
              · (simp only [↓bif_or, ↓bif_and, ↓Bool.or_eq_true, ↓Bool.or_eq_false_iff, ↓Bool.and_eq_true, ↓Bool.and_eq_false_iff, ↓Bool.not_eq_true', ↓Bool.not_eq_false', ↓decide_eq_true_eq, ↓decide_eq_false_iff_not, ↓beq_iff_eq, ↓bne_iff_ne, ↓bne_eq_false_iff_eq, ↓ne_eq, ↓beq_eq_false_iff_ne, ↓Bool.not_eq_true] at he; try simp only [Ty.dflt, Int.toNat_natCast] at he)
                rw [if_pos he] at hpv
                (repeat (first | refine zs rfl ?_ | refine zg rfl rfl rfl ?_ | refine zd ?_ | refine JK.fin ?_ | refine JK.ret ?_))
                exact ⟨(), by (exact JW.Auto rfl), trivial⟩
              · (simp only [↓bif_or, ↓bif_and, ↓Bool.or_eq_true, ↓Bool.or_eq_false_iff, ↓Bool.and_eq_true, ↓Bool.and_eq_false_iff, ↓Bool.not_eq_true', ↓Bool.not_eq_false', ↓decide_eq_true_eq, ↓decide_eq_false_iff_not, ↓beq_iff_eq, ↓bne_iff_ne, ↓bne_eq_false_iff_eq, ↓ne_eq, ↓beq_eq_false_iff_ne, ↓Bool.not_eq_true] at he; try simp only [Ty.dflt, Int.toNat_natCast] at he)
                rw [if_neg he] at hpv
                (repeat (first | refine zs rfl ?_ | refine zg rfl rfl rfl ?_ | refine zd ?_ | refine JK.fin ?_ | refine JK.ret ?_))
                exact ⟨(k + 1, far, back), by (exact JW.Auto rfl), ⟨by dsimp only; omega, hpv⟩, by dsimp only; omega⟩
        · (simp only [↓bif_or, ↓bif_and, ↓Bool.or_eq_true, ↓Bool.or_eq_false_iff, ↓Bool.and_eq_true, ↓Bool.and_eq_false_iff, ↓Bool.not_eq_true', ↓Bool.not_eq_false', ↓decide_eq_true_eq, ↓decide_eq_false_iff_not, ↓beq_iff_eq, ↓bne_iff_ne, ↓bne_eq_false_iff_eq, ↓ne_eq, ↓beq_eq_false_iff_ne, ↓Bool.not_eq_true] at hg; try simp only [Ty.dflt, Int.toNat_natCast] at hg)
          obtain rfl : k = 8 := by omega
          rw [show 8 - 8 = 0 by rfl, farF] at hpv
          (repeat (first | refine zs rfl ?_ | refine zg rfl rfl rfl ?_ | refine zd ?_ | refine JK.fin ?_ | refine JK.ret ?_))
          exact ⟨(), by (exact JW.Auto rfl), trivial⟩
    · (simp only [↓bif_or, ↓bif_and, ↓Bool.or_eq_true, ↓Bool.or_eq_false_iff, ↓Bool.and_eq_true, ↓Bool.and_eq_false_iff, ↓Bool.not_eq_true', ↓Bool.not_eq_false', ↓decide_eq_true_eq, ↓decide_eq_false_iff_not, ↓beq_iff_eq, ↓bne_iff_ne, ↓bne_eq_false_iff_eq, ↓ne_eq, ↓beq_eq_false_iff_ne, ↓Bool.not_eq_true] at hd; try simp only [Ty.dflt, Int.toNat_natCast] at hd)
      rw [if_neg (by omega)] at hinv
      (repeat (first | refine zs rfl ?_ | refine zg rfl rfl rfl ?_ | refine zd ?_ | refine JK.fin ?_ | refine JK.ret ?_))
      refine ⟨(i + 1, m.set (xs.getD i 0).toNat 1, out ++ [-1]), by (exact JW.Auto rfl), ⟨by omega, bits_set hm _ (by omega), by simp [hol], ?_⟩, by dsimp only; omega⟩
      rw [List.append_assoc]; exact hinv
  · (simp only [↓bif_or, ↓bif_and, ↓Bool.or_eq_true, ↓Bool.or_eq_false_iff, ↓Bool.and_eq_true, ↓Bool.and_eq_false_iff, ↓Bool.not_eq_true', ↓Bool.not_eq_false', ↓decide_eq_true_eq, ↓decide_eq_false_iff_not, ↓beq_iff_eq, ↓bne_iff_ne, ↓bne_eq_false_iff_eq, ↓ne_eq, ↓beq_eq_false_iff_ne, ↓Bool.not_eq_true] at hc; try simp only [Ty.dflt, Int.toNat_natCast] at hc)
    (repeat (first | refine zs rfl ?_ | refine zg rfl rfl rfl ?_ | refine zd ?_ | refine JK.fin ?_ | refine JK.ret ?_))
    obtain rfl : i = xs.length := by omega
    refine ⟨.inl rfl, _, _, rfl, trivial, ?_⟩
    rw [Nat.sub_self, planF, List.append_nil] at hinv
    rw [← hinv]
end Go.Proofs.Ytbmgijgnbilnoaa

namespace Go.Proofs.Ytbmgijgnbilnoaa
open Go Go.RowKit Ox

abbrev plT : Ty := .cons marT (.cons (.int .i64) .nil)
abbrev plD := List Int × Int × Unit
abbrev plE := Ent plT (.int .i64)

/-- The places to which one more book leads. -/
def stepC (r : Int) (ne : List Int) (book : Int) (i : Nat) (k : Int) (p : plD) : List plD :=
  if p.1.getD k.toNat 0 ≠ 1 ∧ (i : Int) = book then []
  else if p.1.set k.toNat 0 ≠ zero8 ∧ (p.1.set k.toNat 0).sum > r - 1 then []
  else (p.1.set k.toNat 0, (if p.1.getD k.toNat 0 = 1 then p.2.1 + 1 else p.2.1), ()) ::
    (if ne.getD i 0 ≥ 0 then [((p.1.set k.toNat 0).set k.toNat 1, (if p.1.getD k.toNat 0 = 1 then p.2.1 + 1 else p.2.1), ())] else [])
/-- All ways up to the i-th book, but those that keep too few. -/
def waysC (r : Int) (xs ne : List Int) (book most : Int) : Nat → List plD
  | 0 => [(zero8, 0, ())]
  | i + 1 => ((waysC r xs ne book most i).flatMap (stepC r ne book i (xs.getD i 0))).filter fun p => !decide (p.2.1 + (xs.length : Int) - 1 - i < most)
def mostS (r : Int) (xs : List Int) : Int := (xs.length : Int) - ((playS r xs (planS r xs)).countP (fun x => !x.2.1) : Nat)
def countS (r : Int) (xs ne : List Int) (book : Int) : Int := ((waysC r xs ne book (mostS r xs) xs.length).count (zero8, mostS r xs, ()) : Nat)

theorem stepC_len (r : Int) (ne : List Int) (book : Int) (i : Nat) (k : Int) (p : plD) : (stepC r ne book i k p).length ≤ 2 := by
  unfold stepC
  split
  · simp
  · split
    · simp
    · have h1 : ∀ (c : Prop) [Decidable c] (a : plD), (if c then [a] else []).length ≤ 1 := by intro c _ a; split <;> simp
      exact Nat.succ_le_succ (h1 _ _)
theorem flat_len {α β : Type} {f : α → List β} (hf : ∀ a, (f a).length ≤ 2) : ∀ l : List α, (l.flatMap f).length ≤ 2 * l.length
  | [] => by simp
  | a :: l => by have := flat_len hf l; have := hf a; simp only [List.flatMap_cons, List.length_append, List.length_cons]; omega
theorem waysC_len (r : Int) (xs ne : List Int) (book most : Int) : ∀ i, (waysC r xs ne book most i).length ≤ 2 ^ i
  | 0 => by simp [waysC]
  | i + 1 => by
    have h1 := waysC_len r xs ne book most i
    have h2 := flat_len (stepC_len r ne book i (xs.getD i 0)) (waysC r xs ne book most i)
    have h3 := List.length_filter_le (fun p : plD => !decide (p.2.1 + (xs.length : Int) - 1 - i < most)) ((waysC r xs ne book most i).flatMap (stepC r ne book i (xs.getD i 0)))
    rw [waysC, Nat.pow_succ]; omega

/-- A map that says how often each place comes. -/
structure CM (es : List plE) (clk : Nat) (i : Nat) (c : plD → Nat) : Prop where
  wf : MWF es clk
  nn : ∀ e ∈ es, 0 ≤ (show Int from e.2.1)
  ok : ∀ e ∈ es, bits (show List Int from e.1.1) ∧ 0 ≤ (show Int from e.1.2.1) ∧ (show Int from e.1.2.1) ≤ i
  eq : ∀ p : plD, (show Int from mGet es p (0 : Int)) = (c p : Int)

theorem CM.congr {es : List plE} {clk i : Nat} {c c' : plD → Nat} (h : CM es clk i c) (hc : ∀ p, c p = c' p) : CM es clk i c' := ⟨h.wf, h.nn, h.ok, fun p => by rw [← hc p]; exact h.eq p⟩
theorem CM.nil (clk i : Nat) : CM [] clk i fun _ => 0 := ⟨.nil, (fun _ h => by cases h), (fun _ h => by cases h), fun _ => rfl⟩
theorem CM.add {es : List plE} {clk i : Nat} {c : plD → Nat} (h : CM es clk i c) (q : plD) (n : Nat) (hq : bits q.1 ∧ 0 ≤ q.2.1 ∧ q.2.1 ≤ i) {v : Int} (hv : v = (c q : Int) + n) :
    CM (mPut es clk q v) (mClk es clk q) i fun p => if p = q then c p + n else c p := by
  refine ⟨h.wf.put, fun e he => ?_, fun e he => ?_, fun p => ?_⟩
  · rcases (mPut_mem h.wf).1 he with ⟨h1, _⟩ | ⟨_, h1, _⟩
    · exact h.nn e h1
    · show (0 : Int) ≤ e.2.1
      rw [h1]; show (0 : Int) ≤ v; omega
  · rcases (mPut_mem h.wf).1 he with ⟨h1, _⟩ | ⟨h1, _, _⟩
    · exact h.ok e h1
    · show bits e.1.1 ∧ (0 : Int) ≤ e.1.2.1 ∧ (e.1.2.1 : Int) ≤ i
      rw [h1]; exact hq
  · show (mGet (mPut es clk q v) p (0 : Int) : Int) = _
    rw [mGet_put h.wf (inferInstanceAs (Decidable ((p : plD) = q)))]
    by_cases e : p = q
    · rw [if_pos e, if_pos e, e]; exact hv
    · rw [if_neg e, if_neg e]; exact h.eq p

/-- The places of some entries, each as often as it comes. -/
def bag (es : List plE) : List plD := es.flatMap fun e => List.replicate (show Int from e.2.1).toNat (e.1 : plD)
theorem bag_snoc (es : List plE) (e : plE) : bag (es ++ [e]) = bag es ++ List.replicate (show Int from e.2.1).toNat (e.1 : plD) := by simp [bag]
theorem count_rep (n : Nat) (a p : plD) : (List.replicate n a).count p = if p = a then n else 0 := by
  rw [List.count_replicate]
  by_cases e : p = a
  · subst e; simp
  · rw [if_neg e, if_neg]; simpa using fun h => e h.symm
theorem count_bag {clk : Nat} : ∀ {es : List plE}, MWF es clk → (∀ e ∈ es, 0 ≤ (show Int from e.2.1)) → ∀ p : plD, ((bag es).count p : Int) = mGet es p (0 : Int)
  | [], _, _, p => rfl
  | e :: es, hw, hn, p => by
    have hw' : MWF es clk := hw.sub (List.sublist_cons_self e es)
    have ih := count_bag hw' (fun a ha => hn a (List.mem_cons_of_mem _ ha)) p
    have hk : ∀ a ∈ es, a.1 ≠ e.1 := fun a ha h => (List.nodup_cons.1 hw.nk).1 (List.mem_map.2 ⟨a, ha, h⟩)
    have e1 : bag (e :: es) = List.replicate (show Int from e.2.1).toNat (e.1 : plD) ++ bag es := rfl
    rw [e1, List.count_append, count_rep]
    have hne := hn e List.mem_cons_self
    by_cases h : p = e.1
    · rw [if_pos h]
      have h0 : ((bag es).count p : Int) = 0 := by rw [ih, mGet_not (fun a ha hx => hk a ha (hx.trans h))]
      have h2 : mGet (e :: es) p (0 : Int) = e.2.1 := by rw [h]; exact mGet_mem hw List.mem_cons_self
      rw [h2]
      have : ((show Int from e.2.1).toNat : Int) = e.2.1 := Int.toNat_of_nonneg hne
      omega
    · rw [if_neg h, Nat.zero_add, ih]
      cases hi : mIdx es p with
      | none =>
        rw [mIdx_none] at hi
        rw [mGet_not hi, mGet_not]
        intro a ha
        rcases List.mem_cons.1 ha with rfl | ha
        · exact fun h' => h h'.symm
        · exact hi a ha
      | some j =>
        obtain ⟨hl, hk2⟩ := mIdx_some hi
        rw [← hk2, mGet_mem hw' (List.getElem_mem hl), mGet_mem hw (List.mem_cons_of_mem _ (List.getElem_mem hl))]

theorem bag_perm {es : List plE} {clk i : Nat} {L : List plD} (h : CM es clk i fun p => L.count p) : (bag es).Perm L := by
  rw [List.perm_iff_count]
  intro p
  have := count_bag h.wf h.nn p
  rw [show mGet es p (0 : Int) = ((L.count p : Nat) : Int) from h.eq p] at this
  omega
theorem perm_flat {α β : Type} {f : α → List β} {l l' : List α} (h : l.Perm l') : (l.flatMap f).Perm (l'.flatMap f) := by
  induction h with
  | nil => exact .refl _
  | cons a _ ih => simp only [List.flatMap_cons]; exact ih.append_left _
  | swap a b l => simp only [List.flatMap_cons, ← List.append_assoc]; exact List.perm_append_comm.append_right _
  | trans _ _ h1 h2 => exact h1.trans h2
theorem count_repFlat (n : Nat) (a : plD) (f : plD → List plD) (q : plD) : ((List.replicate n a).flatMap f).count q = n * (f a).count q := by
  induction n with
  | zero => simp
  | succ n ih => rw [List.replicate_succ, List.flatMap_cons, List.count_append, ih, Nat.succ_mul, Nat.add_comm]

/-- How far a range over a map has come: 'done' is what it has seen. -/
structure Far (es done : List plE) : Prop where
  rest : ∃ rest, (done ++ rest).Perm es
theorem Far.nil (es : List plE) : Far es [] := ⟨es, .refl _⟩
theorem Far.sub {es done : List plE} (h : Far es done) : ∀ e ∈ done, e ∈ es := by
  obtain ⟨rest, h⟩ := h.rest
  exact fun e he => h.mem_iff.1 (List.mem_append_left _ he)
theorem Far.snoc {es done : List plE} {clk : Nat} (hw : MWF es clk) (h : Far es done) {e : plE} (he : e ∈ es) (hs : e.2.2 ∉ done.map (·.2.2)) : Far es (done ++ [e]) := by
  obtain ⟨rest, h⟩ := h.rest
  have : e ∈ rest := (List.mem_append.1 (h.mem_iff.2 he)).resolve_left fun hd => hs (List.mem_map_of_mem hd)
  obtain ⟨s, t, rfl⟩ := List.append_of_mem this
  refine ⟨s ++ t, .trans ?_ h⟩
  rw [List.append_assoc]
  refine List.Perm.append_left _ ?_
  rw [List.singleton_append]
  exact List.perm_middle.symm
theorem Far.all {es done : List plE} {clk : Nat} (hw : MWF es clk) (h : Far es done) (ha : ∀ e ∈ es, e.2.2 ∈ done.map (·.2.2)) : done.Perm es := by
  obtain ⟨rest, h⟩ := h.rest
  cases rest with
  | nil => simpa using h
  | cons x r =>
    have hx : x ∈ es := h.mem_iff.1 (List.mem_append_right _ List.mem_cons_self)
    obtain ⟨y, hy, hxy⟩ := List.mem_map.1 (ha x hx)
    have hn : ((done ++ x :: r).map (·.2.2)).Nodup := (h.map _).nodup_iff.2 hw.nb
    rw [List.map_append, List.nodup_append] at hn
    exact absurd hxy (hn.2.2 _ (List.mem_map_of_mem hy) _ (by simp))
theorem Far.len {es done : List plE} (h : Far es done) : (bag done).length ≤ (bag es).length := by
  obtain ⟨rest, h⟩ := h.rest
  have := (perm_flat (f := fun e : plE => List.replicate (show Int from e.2.1).toNat (e.1 : plD)) h).length_eq
  rw [List.flatMap_append, List.length_append] at this
  unfold bag; omega
end Go.Proofs.Ytbmgijgnbilnoaa

namespace Go.Proofs.Ytbmgijgnbilnoaa
open Go Go.RowKit Ox
attribute [local irreducible] JC JL JK JW

theorem fn46ok (r : Int) (xs bs : List Int) (h : openE r xs bs = 0) : Ox.Fn Go.Proofs.Try.prog 46 (.acons (vD r xs) (.acons (vL bs) .anil)) (· = .tup (.acons (.val (.ptr binT) (some (vDay r xs))) (.acons (vI 0) .anil))) := by
  have := fn46 r xs bs
  rwa [openB, if_pos h, h] at this
theorem fn46er (r : Int) (xs bs : List Int) (h : openE r xs bs ≠ 0) : Ox.Fn Go.Proofs.Try.prog 46 (.acons (vD r xs) (.acons (vL bs) .anil)) (· = .tup (.acons (.val (.ptr binT) none) (.acons (vI (openE r xs bs)) .anil))) := by
  have := fn46 r xs bs
  rwa [openB, if_neg h] at this

theorem openE_valid {r : Int} {xs bs : List Int} (h : openE r xs bs = 0) : dayErr r xs = 0 ∧ ∀ x ∈ bs, 0 ≤ x ∧ x ≤ (xs.length : Int) - 1 := by
  unfold openE at h
  by_cases h0 : dayErr r xs = 0
  · rw [if_neg (by simpa using h0)] at h
    by_cases h1 : ∀ x ∈ bs, 0 ≤ x ∧ x ≤ (xs.length : Int) - 1
    · exact ⟨h0, h1⟩
    · rw [if_neg h1] at h; omega
  · rw [if_pos h0] at h; exact absurd h h0

def playedE (r : Int) (xs plan bs : List Int) : Int :=
  if openE r xs bs ≠ 0 then openE r xs bs else if plan.length ≠ xs.length then 15 else if (playS r xs plan).length < plan.length then 16 else 0
def playedL (r : Int) (xs plan bs : List Int) : List ben := if playedE r xs plan bs = 0 then playS r xs plan else []

theorem playedE_valid {r : Int} {xs plan bs : List Int} (h : playedE r xs plan bs = 0) : openE r xs bs = 0 ∧ plan.length = xs.length ∧ ¬ (playS r xs plan).length < plan.length := by
  unfold playedE at h
  by_cases h0 : openE r xs bs = 0
  · rw [if_neg (by simpa using h0)] at h
    by_cases h1 : plan.length = xs.length
    · rw [if_neg (by simpa using h1)] at h
      by_cases h2 : (playS r xs plan).length < plan.length
      · rw [if_pos h2] at h; omega
      · exact ⟨h0, h1, h2⟩
    · rw [if_pos h1] at h; omega
  · rw [if_pos h0] at h; exact absurd h h0

theorem fn50 (r : Int) (xs plan bs : List Int) : Ox.Fn Go.Proofs.Try.prog 50 (.acons (vD r xs) (.acons (vL plan) (.acons (vL bs) .anil))) (· = .tup (.acons (vBs (playedL r xs plan bs)) (.acons (vI (playedE r xs plan bs)) .anil))) := by
  refine Ox.Fn.intro xok Go.Proofs.Try.func50 rfl Go.Proofs.Try.call50 (Nat.le_of_ble_eq_true rfl) (fun E M0 up => ?_)
  refine JK.start ?_
  refine JK.lenOf 0 rfl fun hlen => ?_
  replace hlen : xs.length ≤ 9223372036854775807 := hlen.2.1.1
  refine JK.lenOf 1 rfl fun hlen2 => ?_
  replace hlen2 : plan.length ≤ 9223372036854775807 := hlen2.1
  by_cases ho : openE r xs bs = 0
  · obtain ⟨hv, _⟩ := openE_valid ho
    obtain ⟨hr, hl, hx⟩ := dayErr_zero.1 hv
    (repeat (first | refine zs rfl ?_ | refine zg rfl rfl rfl ?_ | refine zd ?_ | refine JK.fin ?_ | refine JK.ret ?_ | refine zc rfl (fn46ok r xs bs ho) rfl rfl ?_ | refine ze rfl (fn46ok r xs bs ho) rfl ?_ | refine zk rfl rfl (fun _ => fn46ok r xs bs ho) rfl rfl ?_))
    refine JK.cond rfl (fun hc => absurd hc (by decide)) (fun _ => ?_)
    (repeat (first | refine zs rfl ?_ | refine zg rfl rfl rfl ?_ | refine zd ?_ | refine JK.fin ?_ | refine JK.ret ?_))
    refine JK.cond rfl (fun hc => ?_) (fun hc => ?_)
    · (simp only [↓bif_or, ↓bif_and, ↓Bool.or_eq_true, ↓Bool.or_eq_false_iff, ↓Bool.and_eq_true, ↓Bool.and_eq_false_iff, ↓Bool.not_eq_true', ↓Bool.not_eq_false', ↓decide_eq_true_eq, ↓decide_eq_false_iff_not, ↓beq_iff_eq, ↓bne_iff_ne, ↓bne_eq_false_iff_eq, ↓ne_eq, ↓beq_eq_false_iff_ne, ↓Bool.not_eq_true] at hc; try simp only [Ty.dflt, Int.toNat_natCast] at hc)
      (repeat (first | refine zs rfl ?_ | refine zg rfl rfl rfl ?_ | refine zd ?_ | refine JK.fin ?_ | refine JK.ret ?_))
      refine ⟨.inl rfl, _, _, rfl, trivial, ?_⟩
      have : playedE r xs plan bs = 15 := by rw [playedE, if_neg (by simpa using ho), if_pos (by omega)]
      rw [playedL, this]; rfl
    · (simp only [↓bif_or, ↓bif_and, ↓Bool.or_eq_true, ↓Bool.or_eq_false_iff, ↓Bool.and_eq_true, ↓Bool.and_eq_false_iff, ↓Bool.not_eq_true', ↓Bool.not_eq_false', ↓decide_eq_true_eq, ↓decide_eq_false_iff_not, ↓beq_iff_eq, ↓bne_iff_ne, ↓bne_eq_false_iff_eq, ↓ne_eq, ↓beq_eq_false_iff_ne, ↓Bool.not_eq_true] at hc; try simp only [Ty.dflt, Int.toNat_natCast] at hc)
      (repeat (first | refine zs rfl ?_ | refine zg rfl rfl rfl ?_ | refine zd ?_ | refine JK.fin ?_ | refine JK.ret ?_ | refine zc rfl (fn55 r xs (lasts xs xs.length) (nexts xs xs.length) plan hx (by omega) (by omega)) rfl rfl ?_ | refine ze rfl (fn55 r xs (lasts xs xs.length) (nexts xs xs.length) plan hx (by omega) (by omega)) rfl ?_ | refine zk rfl rfl (fun _ => fn55 r xs (lasts xs xs.length) (nexts xs xs.length) plan hx (by omega) (by omega)) rfl rfl ?_))
      refine JK.cond rfl (fun hd => ?_) (fun hd => ?_)
      · (simp only [↓bif_or, ↓bif_and, ↓Bool.or_eq_true, ↓Bool.or_eq_false_iff, ↓Bool.and_eq_true, ↓Bool.and_eq_false_iff, ↓Bool.not_eq_true', ↓Bool.not_eq_false', ↓decide_eq_true_eq, ↓decide_eq_false_iff_not, ↓beq_iff_eq, ↓bne_iff_ne, ↓bne_eq_false_iff_eq, ↓ne_eq, ↓beq_eq_false_iff_ne, ↓Bool.not_eq_true] at hd; try simp only [Ty.dflt, Int.toNat_natCast] at hd)
        (repeat (first | refine zs rfl ?_ | refine zg rfl rfl rfl ?_ | refine zd ?_ | refine JK.fin ?_ | refine JK.ret ?_))
        refine ⟨.inl rfl, _, _, rfl, trivial, ?_⟩
        have : playedE r xs plan bs = 16 := by rw [playedE, if_neg (by simpa using ho), if_neg (by omega), if_pos (by omega)]
        rw [playedL, this]; rfl
      · (simp only [↓bif_or, ↓bif_and, ↓Bool.or_eq_true, ↓Bool.or_eq_false_iff, ↓Bool.and_eq_true, ↓Bool.and_eq_false_iff, ↓Bool.not_eq_true', ↓Bool.not_eq_false', ↓decide_eq_true_eq, ↓decide_eq_false_iff_not, ↓beq_iff_eq, ↓bne_iff_ne, ↓bne_eq_false_iff_eq, ↓ne_eq, ↓beq_eq_false_iff_ne, ↓Bool.not_eq_true] at hd; try simp only [Ty.dflt, Int.toNat_natCast] at hd)
        (repeat (first | refine zs rfl ?_ | refine zg rfl rfl rfl ?_ | refine zd ?_ | refine JK.fin ?_ | refine JK.ret ?_))
        refine ⟨.inl rfl, _, _, rfl, trivial, ?_⟩
        have : playedE r xs plan bs = 0 := by rw [playedE, if_neg (by simpa using ho), if_neg (by omega), if_neg (by omega)]
        rw [playedL, this]; rfl
  · (repeat (first | refine zs rfl ?_ | refine zg rfl rfl rfl ?_ | refine zd ?_ | refine JK.fin ?_ | refine JK.ret ?_ | refine zc rfl (fn46er r xs bs ho) rfl rfl ?_ | refine ze rfl (fn46er r xs bs ho) rfl ?_ | refine zk rfl rfl (fun _ => fn46er r xs bs ho) rfl rfl ?_))
    refine JK.cond rfl (fun hc => ?_) (fun hc => ?_)
    · (repeat (first | refine zs rfl ?_ | refine zg rfl rfl rfl ?_ | refine zd ?_ | refine JK.fin ?_ | refine JK.ret ?_))
      refine ⟨.inl rfl, _, _, rfl, trivial, ?_⟩
      have : playedE r xs plan bs = openE r xs bs := by rw [playedE, if_pos ho]
      rw [playedL, this, if_neg ho]
    · (simp only [↓bif_or, ↓bif_and, ↓Bool.or_eq_true, ↓Bool.or_eq_false_iff, ↓Bool.and_eq_true, ↓Bool.and_eq_false_iff, ↓Bool.not_eq_true', ↓Bool.not_eq_false', ↓decide_eq_true_eq, ↓decide_eq_false_iff_not, ↓beq_iff_eq, ↓bne_iff_ne, ↓bne_eq_false_iff_eq, ↓ne_eq, ↓beq_eq_false_iff_ne, ↓Bool.not_eq_true] at hc; try simp only [Ty.dflt, Int.toNat_natCast] at hc)
      exact absurd hc ho

def fetS (r : Int) (xs plan : List Int) : Int × Int := if playedE r xs plan [] = 0 then (((playS r xs plan).countP (fun x => !x.2.1) : Nat), 0) else (0, playedE r xs plan [])

theorem fn50ok (r : Int) (xs plan bs : List Int) (h : playedE r xs plan bs = 0) : Ox.Fn Go.Proofs.Try.prog 50 (.acons (vD r xs) (.acons (vL plan) (.acons (vL bs) .anil))) (· = .tup (.acons (vBs (playS r xs plan)) (.acons (vI 0) .anil))) := by
  have := fn50 r xs plan bs
  rwa [playedL, if_pos h, h] at this
theorem fn50er (r : Int) (xs plan bs : List Int) (h : playedE r xs plan bs ≠ 0) : Ox.Fn Go.Proofs.Try.prog 50 (.acons (vD r xs) (.acons (vL plan) (.acons (vL bs) .anil))) (· = .tup (.acons (vBs []) (.acons (vI (playedE r xs plan bs)) .anil))) := by
  have := fn50 r xs plan bs
  rwa [playedL, if_neg h] at this

theorem fn21 (r : Int) (xs plan : List Int) : Ox.Fn Go.Proofs.Try.prog 21 (.acons (vD r xs) (.acons (vL plan) .anil)) (· = vT2 (fetS r xs plan).1 (fetS r xs plan).2) := by
  refine Ox.Fn.intro xok Go.Proofs.Try.func21 rfl Go.Proofs.Try.call21 (Nat.le_of_ble_eq_true rfl) (fun E M0 up => ?_)
  refine JK.start ?_
  by_cases ho : playedE r xs plan [] = 0
  · (repeat (first | refine zs rfl ?_ | refine zg rfl rfl rfl ?_ | refine zd ?_ | refine JK.fin ?_ | refine JK.ret ?_ | refine zc rfl (fn50ok r xs plan List.nil ho) rfl rfl ?_ | refine ze rfl (fn50ok r xs plan List.nil ho) rfl ?_ | refine zk rfl rfl (fun _ => fn50ok r xs plan List.nil ho) rfl rfl ?_))
    refine JK.cond rfl (fun hc => absurd hc (by decide)) (fun _ => ?_)
    (repeat (first | refine zs rfl ?_ | refine zg rfl rfl rfl ?_ | refine zd ?_ | refine JK.fin ?_ | refine JK.ret ?_ | refine zc rfl (fn51 _) rfl rfl ?_ | refine ze rfl (fn51 _) rfl ?_ | refine zk rfl rfl (fun _ => fn51 _) rfl rfl ?_))
    refine ⟨.inl rfl, _, _, rfl, trivial, ?_⟩
    rw [fetS, if_pos ho]
  · (repeat (first | refine zs rfl ?_ | refine zg rfl rfl rfl ?_ | refine zd ?_ | refine JK.fin ?_ | refine JK.ret ?_ | refine zc rfl (fn50er r xs plan List.nil ho) rfl rfl ?_ | refine ze rfl (fn50er r xs plan List.nil ho) rfl ?_ | refine zk rfl rfl (fun _ => fn50er r xs plan List.nil ho) rfl rfl ?_))
    refine JK.cond rfl (fun hc => ?_) (fun hc => ?_)
    · (repeat (first | refine zs rfl ?_ | refine zg rfl rfl rfl ?_ | refine zd ?_ | refine JK.fin ?_ | refine JK.ret ?_))
      refine ⟨.inl rfl, _, _, rfl, trivial, ?_⟩
      rw [fetS, if_neg ho]
    · (simp only [↓bif_or, ↓bif_and, ↓Bool.or_eq_true, ↓Bool.or_eq_false_iff, ↓Bool.and_eq_true, ↓Bool.and_eq_false_iff, ↓Bool.not_eq_true', ↓Bool.not_eq_false', ↓decide_eq_true_eq, ↓decide_eq_false_iff_not, ↓beq_iff_eq, ↓bne_iff_ne, ↓bne_eq_false_iff_eq, ↓ne_eq, ↓beq_eq_false_iff_ne, ↓Bool.not_eq_true] at hc; try simp only [Ty.dflt, Int.toNat_natCast] at hc)
      exact absurd hc ho

/-- The places, from the i-th on, of the books that are kept. -/
def keptF : List ben → Nat → List Int
  | [], _ => []
  | x :: r, i => if x.2.1 = true then (i : Int) :: keptF r (i + 1) else keptF r (i + 1)
def keptS (r : Int) (xs plan : List Int) : List Int := if playedE r xs plan [] = 0 then keptF (playS r xs plan) 0 else []

theorem playF_len (r : Int) : ∀ (l : List (Int × Int)) m, (playF r l m).length ≤ l.length
  | [], _ => by simp [playF]
  | (k, b) :: l, m => by
    rw [playF]
    split
    · simp
    · have := playF_len r l; simp only [List.length_cons]; have := this (by assumption); omega
theorem playS_len (r : Int) (xs plan : List Int) : (playS r xs plan).length ≤ xs.length := by
  have := playF_len r (xs.zip plan) zero8
  simp at this
  rw [playS]; omega

theorem fn23 (r : Int) (xs plan : List Int) : Ox.Fn Go.Proofs.Try.prog 23 (.acons (vD r xs) (.acons (vL plan) .anil)) (· = .tup (.acons (vL (keptS r xs plan)) (.acons (vI (playedE r xs plan [])) .anil))) := by
  refine Ox.Fn.intro xok Go.Proofs.Try.func23 rfl Go.Proofs.Try.call23 (Nat.le_of_ble_eq_true rfl) (fun E M0 up => ?_)
  refine JK.start ?_
  by_cases ho : playedE r xs plan [] = 0
  · obtain ⟨ho1, hpl, _⟩ := playedE_valid ho
    obtain ⟨hr, hl, hx⟩ := dayErr_zero.1 (openE_valid ho1).1
    have hsl := playS_len r xs plan
    rw [ho]
    rw [keptS, if_pos ho]
    (repeat (first | refine zs rfl ?_ | refine zg rfl rfl rfl ?_ | refine zd ?_ | refine JK.fin ?_ | refine JK.ret ?_ | refine zc rfl (fn50ok r xs plan List.nil ho) rfl rfl ?_ | refine ze rfl (fn50ok r xs plan List.nil ho) rfl ?_ | refine zk rfl rfl (fun _ => fn50ok r xs plan List.nil ho) rfl rfl ?_))
    refine JK.cond rfl (fun hc => absurd hc (by decide)) (fun _ => ?_)
    (repeat (first | refine zs rfl ?_ | refine zg rfl rfl rfl ?_ | refine zd ?_ | refine JK.fin ?_ | refine JK.ret ?_))
    generalize hL : playS r xs plan = l at hsl
    refine JK.ghost 8 3 (.int .i64) rfl ?_
    refine JK.loop (σ := Nat × List Int) (fun q => ⟨[(8, .lf (.osl 1)), (20, vBs l), (21, vI l.length), (22, vI (q.1 : Int))], [(1, .sl 3 (.int .i64) q.2)], 2⟩)
      (fun q => q.1 ≤ l.length ∧ q.2.length ≤ q.1 ∧ q.2 ++ keptF (l.drop q.1) q.1 = keptF l 0) (fun q => l.length - q.1) (0, []) ⟨by simp, by simp, rfl⟩ (by (exact JW.Auto rfl)) fun q hq => ?_
    obtain ⟨i, out⟩ := q
    obtain ⟨hi, hol, hinv⟩ := hq
    dsimp only at hi hol hinv
    (repeat (first | refine zs rfl ?_ | refine zg rfl rfl rfl ?_ | refine zd ?_ | refine JK.fin ?_ | refine JK.ret ?_))
    refine JK.cond rfl (fun hc => ?_) (fun hc => ?_)
    · (simp only [↓bif_or, ↓bif_and, ↓Bool.or_eq_true, ↓Bool.or_eq_false_iff, ↓Bool.and_eq_true, ↓Bool.and_eq_false_iff, ↓Bool.not_eq_true', ↓Bool.not_eq_false', ↓decide_eq_true_eq, ↓decide_eq_false_iff_not, ↓beq_iff_eq, ↓bne_iff_ne, ↓bne_eq_false_iff_eq, ↓ne_eq, ↓beq_eq_false_iff_ne, ↓Bool.not_eq_true] at hc; try simp only [Ty.dflt, Int.toNat_natCast] at hc)
      have hi' : i < l.length := by omega
      have hg : ∀ d, l.getD i d = l[i] := fun d => by simp [List.getD_eq_getElem?_getD, List.getElem?_eq_getElem hi']
      rw [List.drop_eq_getElem_cons hi', keptF] at hinv
      (repeat (first | refine zs rfl ?_ | refine zg rfl rfl rfl ?_ | refine zd ?_ | refine JK.fin ?_ | refine JK.ret ?_))
      refine JK.cond rfl (fun hd => ?_) (fun hd => ?_)
      · replace hd : (l[i]).2.1 = true := by rw [← hg benT.dflt]; exact hd
        rw [if_pos hd] at hinv
        (repeat (first | refine zs rfl ?_ | refine zg rfl rfl rfl ?_ | refine zd ?_ | refine JK.fin ?_ | refine JK.ret ?_))
        refine ⟨(i + 1, out ++ [(i : Int)]), by (exact JW.Auto rfl), ⟨by omega, by simp; omega, ?_⟩, by dsimp only; omega⟩
        rw [List.append_assoc]; exact hinv
      · replace hd : (l[i]).2.1 = false := by rw [← hg benT.dflt]; exact hd
        rw [if_neg (by rw [hd]; simp)] at hinv
        (repeat (first | refine zs rfl ?_ | refine zg rfl rfl rfl ?_ | refine zd ?_ | refine JK.fin ?_ | refine JK.ret ?_))
        exact ⟨(i + 1, out), by (exact JW.Auto rfl), ⟨by omega, by dsimp only; omega, hinv⟩, by dsimp only; omega⟩
    · (simp only [↓bif_or, ↓bif_and, ↓Bool.or_eq_true, ↓Bool.or_eq_false_iff, ↓Bool.and_eq_true, ↓Bool.and_eq_false_iff, ↓Bool.not_eq_true', ↓Bool.not_eq_false', ↓decide_eq_true_eq, ↓decide_eq_false_iff_not, ↓beq_iff_eq, ↓bne_iff_ne, ↓bne_eq_false_iff_eq, ↓ne_eq, ↓beq_eq_false_iff_ne, ↓Bool.not_eq_true] at hc; try simp only [Ty.dflt, Int.toNat_natCast] at hc)
      (repeat (first | refine zs rfl ?_ | refine zg rfl rfl rfl ?_ | refine zd ?_ | refine JK.fin ?_ | refine JK.ret ?_))
      obtain rfl : i = l.length := by omega
      refine ⟨.inl rfl, _, _, rfl, trivial, ?_⟩
      rw [List.drop_length, keptF, List.append_nil] at hinv
      rw [hinv]
  · (repeat (first | refine zs rfl ?_ | refine zg rfl rfl rfl ?_ | refine zd ?_ | refine JK.fin ?_ | refine JK.ret ?_ | refine zc rfl (fn50er r xs plan List.nil ho) rfl rfl ?_ | refine ze rfl (fn50er r xs plan List.nil ho) rfl ?_ | refine zk rfl rfl (fun _ => fn50er r xs plan List.nil ho) rfl rfl ?_))
    refine JK.cond rfl (fun hc => ?_) (fun hc => ?_)
    · (repeat (first | refine zs rfl ?_ | refine zg rfl rfl rfl ?_ | refine zd ?_ | refine JK.fin ?_ | refine JK.ret ?_))
      refine ⟨.inl rfl, _, _, rfl, trivial, ?_⟩
      rw [keptS, if_neg ho]
    · (simp only [↓bif_or, ↓bif_and, ↓Bool.or_eq_true, ↓Bool.or_eq_false_iff, ↓Bool.and_eq_true, ↓Bool.and_eq_false_iff, ↓Bool.not_eq_true', ↓Bool.not_eq_false', ↓decide_eq_true_eq, ↓decide_eq_false_iff_not, ↓beq_iff_eq, ↓bne_iff_ne, ↓bne_eq_false_iff_eq, ↓ne_eq, ↓beq_eq_false_iff_ne, ↓Bool.not_eq_true] at hc; try simp only [Ty.dflt, Int.toNat_natCast] at hc)
      exact absurd hc ho
end Go.Proofs.Ytbmgijgnbilnoaa

namespace Go.Proofs.Ytbmgijgnbilnoaa
open Go Go.RowKit Ox
attribute [local irreducible] JC JL JK JW

theorem eqM : EqT Go.Proofs.Try.prog marT 76 := .of (by decide +kernel)
theorem eqPl : EqT Go.Proofs.Try.prog plT 100 := .of (by decide +kernel)
theorem mpT : MapT Go.Proofs.Try.prog plT (.int .i64) 101 100 2 := .of (by rfl) (by decide +kernel)

theorem mostS_bd (r : Int) (xs : List Int) : 0 ≤ mostS r xs ∧ mostS r xs ≤ xs.length := by
  have h1 := playS_len r xs (planS r xs)
  have h2 := List.countP_le_length (p := fun x : ben => !x.2.1) (l := playS r xs (planS r xs))
  unfold mostS
  constructor <;> omega

theorem cm_start {r : Int} {xs ne : List Int} {book most : Int} : CM (mPut [] 0 (zero8, 0, ()) 1) 1 0 fun p => (waysC r xs ne book most 0).count p := by
  refine CM.congr (CM.add (CM.nil 0 0) (zero8, 0, ()) 1 ⟨⟨by simp, by simp [zero8]⟩, by simp, by simp⟩ (v := 1) (by simp)) fun p => ?_
  rw [waysC, List.count_cons, List.count_nil]
  by_cases h : p = (zero8, 0, ())
  · rw [if_pos h, if_pos (by rw [h]; exact beq_self_eq_true _)]
  · rw [if_neg h, if_neg (by simpa using fun e => h e.symm)]
theorem far_step {done : List plE} {p : plD} {many : Int} {born : Nat} {f : plD → List plD} (q : plD) : ((bag (done ++ [(p, many, born)])).flatMap f).count q = ((bag done).flatMap f).count q + many.toNat * (f p).count q := by
  rw [bag_snoc, List.flatMap_append, List.count_append, count_repFlat]
def keepB (n : Int) (i : Nat) (most : Int) (p : plD) : Bool := !decide (p.2.1 + n - 1 - i < most)
theorem count_filt (f : plD → Bool) (l : List plD) (p : plD) : (l.filter f).count p = if f p = true then l.count p else 0 := by
  split
  · rename_i h; exact List.count_filter h
  · rename_i h; exact List.count_eq_zero.2 fun hm => h (List.mem_filter.1 hm).2
theorem cm_filter {es es3 : List plE} {clk j : Nat} {c : plD → Nat} {f : plD → Bool} (h : CM es clk j c) (hs : es3.Sublist es) (hi : ∀ e ∈ es, e ∈ es3 ↔ f e.1 = true) : CM es3 clk j fun p => if f p = true then c p else 0 := by
  have hw := h.wf.sub hs
  refine ⟨hw, fun e he => h.nn e (hs.subset he), fun e he => h.ok e (hs.subset he), fun p => ?_⟩
  have h1 := h.eq p
  cases hx : mIdx es p with
  | none =>
    rw [mIdx_none] at hx
    have e1 : mGet es p (0 : Int) = (0 : Int) := mGet_not hx
    have e2 : mGet es3 p (0 : Int) = (0 : Int) := mGet_not fun e he => hx e (hs.subset he)
    show mGet es3 p (0 : Int) = _
    rw [e2]
    have h0 : (c p : Int) = 0 := by rw [← h1]; exact e1
    have h0' : c p = 0 := by omega
    rw [h0']
    split <;> rfl
  | some k =>
    obtain ⟨hl, hk⟩ := mIdx_some hx
    have he := List.getElem_mem hl
    generalize es[k] = e at hk he
    subst hk
    show mGet es3 e.1 (0 : Int) = _
    by_cases hf : f e.1 = true
    · rw [if_pos hf, mGet_mem hw ((hi e he).2 hf), ← h1]
      exact (mGet_mem h.wf he).symm
    · rw [if_neg hf]
      refine mGet_not fun a ha hk => hf ?_
      have := h.wf.eq (hs.subset ha) he hk
      subst this
      exact (hi a he).1 ha
theorem beq_dec {α : Type} [BEq α] [LawfulBEq α] (p a : α) [Decidable (p = a)] : (a == p) = decide (p = a) := by
  rw [Bool.eq_iff_iff, beq_iff_eq, decide_eq_true_iff]; exact eq_comm
theorem cnt1 {α : Type} [BEq α] [LawfulBEq α] (c n : Nat) (p a : α) [Decidable (p = a)] : (if p = a then c + n else c) = c + n * [a].count p := by
  rw [List.count_singleton, beq_dec]
  by_cases h : p = a
  · rw [if_pos h, decide_eq_true h, if_pos rfl]; omega
  · rw [if_neg h, decide_eq_false h, if_neg (by decide)]; omega
theorem cnt2 {α : Type} [BEq α] [LawfulBEq α] (c n : Nat) (p a b : α) [Decidable (p = a)] [Decidable (p = b)] : (if p = b then (if p = a then c + n else c) + n else (if p = a then c + n else c)) = c + n * [a, b].count p := by
  rw [List.count_cons, List.count_singleton, beq_dec p a, beq_dec p b]
  by_cases h : p = b
  · by_cases h2 : p = a
    · rw [if_pos h, if_pos h2, decide_eq_true h, decide_eq_true h2, if_pos rfl]; omega
    · rw [if_pos h, if_neg h2, decide_eq_true h, decide_eq_false h2, if_pos rfl, if_neg (by decide)]; omega
  · by_cases h2 : p = a
    · rw [if_neg h, if_pos h2, decide_eq_false h, decide_eq_true h2, if_neg (by decide), if_pos rfl]; omega
    · rw [if_neg h, if_neg h2, decide_eq_false h, decide_eq_false h2, if_neg (by decide)]; omega
set_option maxHeartbeats 4000000 in
theorem fn63 (r : Int) (xs la ne : List Int) (book : Int) (hr : 1 ≤ r ∧ r ≤ 4) (hx : ∀ x ∈ xs, 0 ≤ x ∧ x ≤ 7) (hl : xs.length ≤ 24) (hne : ne.length = xs.length) (hps : (planS r xs).length = xs.length) :
    Ox.Fn Go.Proofs.Try.prog 63 (.acons (vB0 r xs la ne) (.acons (vI book) .anil)) (· = vI (countS r xs ne book)) := by
  refine Ox.Fn.intro xok Go.Proofs.Try.func63 rfl Go.Proofs.Try.call63 (Nat.le_of_ble_eq_true rfl) (fun E M0 up => ?_)
  refine JK.start ?_
  have h54 := fn54 r xs la ne (by omega) hx (by omega)
  have h55 := fn55 r xs la ne (planS r xs) hx (by omega) hps
  have hmb := mostS_bd r xs
  have h51 := fn51 (playS r xs (planS r xs))
  have hmq : mostS r xs = (xs.length : Int) - ((playS r xs (planS r xs)).countP (fun x => !x.2.1) : Nat) := rfl
  generalize (((playS r xs (planS r xs)).countP (fun x => !x.2.1) : Nat) : Int) = fe at h51 hmq
  generalize hmv : mostS r xs = most at hmb hmq
  (repeat (first | refine zs rfl ?_ | refine zg rfl rfl rfl ?_ | refine JK.fin ?_ | refine JK.ret ?_ | refine zml mpT rfl rfl rfl rfl ?_ | refine zmi mpT rfl rfl rfl rfl ?_ | refine zmd mpT rfl rfl rfl ?_ | refine zmr mpT rfl rfl rfl ?_ | refine zmm mpT rfl ?_ | refine zeq eqM rfl rfl rfl ?_ | refine zne eqM rfl rfl rfl ?_ | refine zeq eqPl rfl rfl rfl ?_ | refine zne eqPl rfl rfl rfl ?_))
  refine JK.drawTo (xok rfl rfl rfl rfl) (Go.Proofs.Try.f63.body.getD .skip) ⟨[(0, vB0 r xs la ne), (1, vI book), (5, .lf (.optr 0 [])), (6, vI most)], [(0, .cell marT (vM zero8))], 1⟩ rfl 13 rfl ?_ ?_
  · (refine JF.First 0 (xok rfl rfl rfl rfl) rfl rfl ?_; refine JF.First 1 (xok rfl rfl rfl rfl) rfl rfl ?_; refine JF.First 2 (xok rfl rfl rfl rfl) rfl rfl ?_; refine JF.First 3 (xok rfl rfl rfl rfl) rfl rfl ?_; refine JF.First 6 (xok rfl rfl rfl rfl) rfl rfl ?_; refine JF.First 7 (xok rfl rfl rfl rfl) rfl rfl ?_; refine JF.Float 4 (xok rfl rfl rfl rfl) rfl rfl ?_; refine JF.Float 5 (xok rfl rfl rfl rfl) rfl rfl ?_; refine JF.Branch 8 [] (xok rfl rfl rfl rfl) ?_ ?_; (focus (repeat (first | exact StF.nil | refine StF.One rfl rfl rfl ?_))); refine BrF.one rfl rfl ?_ BrF.nil; (· (first | refine JL.Q1 (xok rfl rfl rfl rfl) rfl rfl ?_ | refine JL.G1 (xok rfl rfl rfl rfl) rfl rfl rfl ?_ | refine JL.M1 (xok rfl rfl rfl rfl) rfl rfl ?_ | refine JL.M0 (xok rfl rfl rfl rfl) rfl ?_ | refine JL.Q0 (xok rfl rfl rfl rfl) rfl ?_ | refine JL.MLook mpT rfl rfl rfl rfl ?_ | refine JL.MIns mpT rfl rfl rfl rfl ?_ | refine JL.MEnt mpT rfl rfl rfl rfl ?_ | refine JL.MDel mpT rfl rfl rfl ?_ | refine JL.MRng mpT rfl rfl rfl ?_ | refine JL.mMake mpT rfl ?_ | refine JL.MStoE (by assumption) rfl rfl rfl rfl ?_ | refine JL.EqQ eqM rfl rfl rfl ?_ | refine JL.NeQ eqM rfl rfl rfl ?_ | refine JL.EqQ eqPl rfl rfl rfl ?_ | refine JL.NeQ eqPl rfl rfl rfl ?_ | refine JL.S1 rfl (h54) rfl trivial rfl ?_ | refine JL.T1 rfl (h54) rfl rfl ?_ | refine JL.C1 rfl (h54) rfl (fun r hr => ?_); subst hr | refine JL.S1g rfl rfl (fun hgd => h54) rfl trivial rfl ?_ | refine JL.S1 rfl (h55) rfl trivial rfl ?_ | refine JL.T1 rfl (h55) rfl rfl ?_ | refine JL.C1 rfl (h55) rfl (fun r hr => ?_); subst hr | refine JL.S1g rfl rfl (fun hgd => h55) rfl trivial rfl ?_ | refine JL.S1 rfl (h51) rfl trivial rfl ?_ | refine JL.T1 rfl (h51) rfl rfl ?_ | refine JL.C1 rfl (h51) rfl (fun r hr => ?_); subst hr | refine JL.S1g rfl rfl (fun hgd => h51) rfl trivial rfl ?_); refine JL.finN ?_; refine JF.Branch 9 [] (xok rfl rfl rfl rfl) ?_ ?_; (focus (repeat (first | exact StF.nil | refine StF.One rfl rfl rfl ?_))); refine BrF.one rfl rfl ?_ BrF.nil; (· (first | refine JL.Q1 (xok rfl rfl rfl rfl) rfl rfl ?_ | refine JL.G1 (xok rfl rfl rfl rfl) rfl rfl rfl ?_ | refine JL.M1 (xok rfl rfl rfl rfl) rfl rfl ?_ | refine JL.M0 (xok rfl rfl rfl rfl) rfl ?_ | refine JL.Q0 (xok rfl rfl rfl rfl) rfl ?_ | refine JL.MLook mpT rfl rfl rfl rfl ?_ | refine JL.MIns mpT rfl rfl rfl rfl ?_ | refine JL.MEnt mpT rfl rfl rfl rfl ?_ | refine JL.MDel mpT rfl rfl rfl ?_ | refine JL.MRng mpT rfl rfl rfl ?_ | refine JL.mMake mpT rfl ?_ | refine JL.MStoE (by assumption) rfl rfl rfl rfl ?_ | refine JL.EqQ eqM rfl rfl rfl ?_ | refine JL.NeQ eqM rfl rfl rfl ?_ | refine JL.EqQ eqPl rfl rfl rfl ?_ | refine JL.NeQ eqPl rfl rfl rfl ?_ | refine JL.S1 rfl (h54) rfl trivial rfl ?_ | refine JL.T1 rfl (h54) rfl rfl ?_ | refine JL.C1 rfl (h54) rfl (fun r hr => ?_); subst hr | refine JL.S1g rfl rfl (fun hgd => h54) rfl trivial rfl ?_ | refine JL.S1 rfl (h55) rfl trivial rfl ?_ | refine JL.T1 rfl (h55) rfl rfl ?_ | refine JL.C1 rfl (h55) rfl (fun r hr => ?_); subst hr | refine JL.S1g rfl rfl (fun hgd => h55) rfl trivial rfl ?_ | refine JL.S1 rfl (h51) rfl trivial rfl ?_ | refine JL.T1 rfl (h51) rfl rfl ?_ | refine JL.C1 rfl (h51) rfl (fun r hr => ?_); subst hr | refine JL.S1g rfl rfl (fun hgd => h51) rfl trivial rfl ?_); refine JL.finN ?_; refine JF.Branch 10 [] (xok rfl rfl rfl rfl) ?_ ?_; (focus (repeat (first | exact StF.nil | refine StF.One rfl rfl rfl ?_))); refine BrF.one rfl rfl ?_ BrF.nil; (· (first | refine JL.Q1 (xok rfl rfl rfl rfl) rfl rfl ?_ | refine JL.G1 (xok rfl rfl rfl rfl) rfl rfl rfl ?_ | refine JL.M1 (xok rfl rfl rfl rfl) rfl rfl ?_ | refine JL.M0 (xok rfl rfl rfl rfl) rfl ?_ | refine JL.Q0 (xok rfl rfl rfl rfl) rfl ?_ | refine JL.MLook mpT rfl rfl rfl rfl ?_ | refine JL.MIns mpT rfl rfl rfl rfl ?_ | refine JL.MEnt mpT rfl rfl rfl rfl ?_ | refine JL.MDel mpT rfl rfl rfl ?_ | refine JL.MRng mpT rfl rfl rfl ?_ | refine JL.mMake mpT rfl ?_ | refine JL.MStoE (by assumption) rfl rfl rfl rfl ?_ | refine JL.EqQ eqM rfl rfl rfl ?_ | refine JL.NeQ eqM rfl rfl rfl ?_ | refine JL.EqQ eqPl rfl rfl rfl ?_ | refine JL.NeQ eqPl rfl rfl rfl ?_ | refine JL.S1 rfl (h54) rfl trivial rfl ?_ | refine JL.T1 rfl (h54) rfl rfl ?_ | refine JL.C1 rfl (h54) rfl (fun r hr => ?_); subst hr | refine JL.S1g rfl rfl (fun hgd => h54) rfl trivial rfl ?_ | refine JL.S1 rfl (h55) rfl trivial rfl ?_ | refine JL.T1 rfl (h55) rfl rfl ?_ | refine JL.C1 rfl (h55) rfl (fun r hr => ?_); subst hr | refine JL.S1g rfl rfl (fun hgd => h55) rfl trivial rfl ?_ | refine JL.S1 rfl (h51) rfl trivial rfl ?_ | refine JL.T1 rfl (h51) rfl rfl ?_ | refine JL.C1 rfl (h51) rfl (fun r hr => ?_); subst hr | refine JL.S1g rfl rfl (fun hgd => h51) rfl trivial rfl ?_); refine JL.finN ?_; refine JF.Float 11 (xok rfl rfl rfl rfl) rfl rfl ?_; refine JF.Float 12 (xok rfl rfl rfl rfl) rfl rfl ?_; refine JF.Done (xok rfl rfl rfl rfl) ?_ ?_; (focus (repeat (first | exact StF.nil | refine StF.One rfl rfl rfl ?_))); ((refine JW.auto rfl ?_ ?_ ?_ ?_ rfl <;> (repeat' (first | exact trivial | exact rfl | refine And.intro ?_ ?_ | exact Nat.le_of_ble_eq_true rfl | refine HO.bdF ?_ | refine HO.bdP ?_ | (refine congrArg (fun z : Int => some (AV.val (.int .i64) z)) ?_; push_cast; omega) | (refine congrArg (fun z : Int => some (AV.val (.int .i64) z)) ?_; exact hmq)))))))))
  (repeat (first | refine zs rfl ?_ | refine zg rfl rfl rfl ?_ | refine zd ?_ | refine JK.fin ?_ | refine JK.ret ?_ | refine zml mpT rfl rfl rfl rfl ?_ | refine zmi mpT rfl rfl rfl rfl ?_ | refine zmd mpT rfl rfl rfl ?_ | refine zmr mpT rfl rfl rfl ?_ | refine zmm mpT rfl ?_ | refine zeq eqM rfl rfl rfl ?_ | refine zne eqM rfl rfl rfl ?_ | refine zeq eqPl rfl rfl rfl ?_ | refine zne eqPl rfl rfl rfl ?_))
  refine JK.loop (σ := Nat × List plE × Nat) (fun q => ⟨[(0, vB0 r xs la ne), (1, vI book), (5, .lf (.optr 0 [])), (6, vI most), (7, .lf (.mp 1)), (37, vL xs), (38, vI xs.length), (39, vI (q.1 : Int))],
      [(0, .cell marT (vM zero8)), (1, .map plT (.int .i64) q.2.1 q.2.2)], 2⟩)
    (fun q => q.1 ≤ xs.length ∧ CM q.2.1 q.2.2 q.1 fun p => (waysC r xs ne book most q.1).count p) (fun q => xs.length - q.1)
    (0, mPut [] 0 (zero8, 0, ()) 1, 1) ⟨by simp, cm_start⟩ (by (exact JW.Auto rfl)) fun q hq => ?_
  obtain ⟨i, es, clk⟩ := q
  obtain ⟨hi, hcm⟩ := hq
  dsimp only at hi hcm
  (repeat (first | refine zs rfl ?_ | refine zg rfl rfl rfl ?_ | refine zd ?_ | refine JK.fin ?_ | refine JK.ret ?_ | refine zml mpT rfl rfl rfl rfl ?_ | refine zmi mpT rfl rfl rfl rfl ?_ | refine zmd mpT rfl rfl rfl ?_ | refine zmr mpT rfl rfl rfl ?_ | refine zmm mpT rfl ?_ | refine zeq eqM rfl rfl rfl ?_ | refine zne eqM rfl rfl rfl ?_ | refine zeq eqPl rfl rfl rfl ?_ | refine zne eqPl rfl rfl rfl ?_))
  refine JK.cond rfl (fun hc => ?_) (fun hc => ?_)
  · (simp only [↓bif_or, ↓bif_and, ↓Bool.or_eq_true, ↓Bool.or_eq_false_iff, ↓Bool.and_eq_true, ↓Bool.and_eq_false_iff, ↓Bool.not_eq_true', ↓Bool.not_eq_false', ↓decide_eq_true_eq, ↓decide_eq_false_iff_not, ↓beq_iff_eq, ↓bne_iff_ne, ↓bne_eq_false_iff_eq, ↓ne_eq, ↓beq_eq_false_iff_ne, ↓Bool.not_eq_true] at hc; try simp only [Ty.dflt, Int.toNat_natCast] at hc)
    have hi' : i < xs.length := by omega
    have hb := hx (xs.getD i 0) (by rw [getD_nat xs hi']; exact List.getElem_mem hi')
    (repeat (first | refine zs rfl ?_ | refine zg rfl rfl rfl ?_ | refine zd ?_ | refine JK.fin ?_ | refine JK.ret ?_ | refine zml mpT rfl rfl rfl rfl ?_ | refine zmi mpT rfl rfl rfl rfl ?_ | refine zmd mpT rfl rfl rfl ?_ | refine zmr mpT rfl rfl rfl ?_ | refine zmm mpT rfl ?_ | refine zeq eqM rfl rfl rfl ?_ | refine zne eqM rfl rfl rfl ?_ | refine zeq eqPl rfl rfl rfl ?_ | refine zne eqPl rfl rfl rfl ?_))
    refine JK.loopE (σ := List plE × List plE × Nat × Nat) (τ := List plE × Nat) (fun q => ⟨[(0, vB0 r xs la ne), (1, vI book), (5, .lf (.optr 0 [])), (6, vI most), (7, .lf (.mp 1)), (8, vI (i : Int)), (9, vI (xs.getD i 0)), (10, .lf (.mp 2)), (37, vL xs), (38, vI xs.length), (39, vI (i : Int)), (46, .lf (.itr 3))],
        [(0, .cell marT (vM zero8)), (1, .map plT (.int .i64) es clk), (2, .map plT (.int .i64) q.2.1 q.2.2.1), (3, .iter 1 clk (q.1.map (·.2.2)) q.2.2.2)], 4⟩)
      (fun q => Far es q.1 ∧ clk ≤ q.2.2.2 ∧ CM q.2.1 q.2.2.1 (i + 1) fun p => ((bag q.1).flatMap (stepC r ne book i (xs.getD i 0))).count p) (fun q => mLeft es (q.1.map (·.2.2)))
      ([], [], 0, clk) ⟨Far.nil es, Nat.le_refl _, CM.nil 0 (i + 1)⟩ (by (exact JW.Auto rfl))
      (fun q => ⟨[(0, vB0 r xs la ne), (1, vI book), (5, .lf (.optr 0 [])), (6, vI most), (8, vI (i : Int)), (10, .lf (.mp 1)), (37, vL xs), (38, vI xs.length), (39, vI (i : Int))],
        [(0, .cell marT (vM zero8)), (1, .map plT (.int .i64) q.1 q.2)], 2⟩) (fun q => CM q.1 q.2 (i + 1) fun p => ((waysC r xs ne book most i).flatMap (stepC r ne book i (xs.getD i 0))).count p) (fun q hcm2 => ?_) (fun q hq => ?_)
    · obtain ⟨es2, clk2⟩ := q
      dsimp only at hcm2
      (repeat (first | refine zs rfl ?_ | refine zg rfl rfl rfl ?_ | refine zd ?_ | refine JK.fin ?_ | refine JK.ret ?_ | refine zml mpT rfl rfl rfl rfl ?_ | refine zmi mpT rfl rfl rfl rfl ?_ | refine zmd mpT rfl rfl rfl ?_ | refine zmr mpT rfl rfl rfl ?_ | refine zmm mpT rfl ?_ | refine zeq eqM rfl rfl rfl ?_ | refine zne eqM rfl rfl rfl ?_ | refine zeq eqPl rfl rfl rfl ?_ | refine zne eqPl rfl rfl rfl ?_))
      have hnx : ∀ {l : List plE}, l.Sublist es2 → MWF l clk2 := fun h => hcm2.wf.sub h
      refine JK.loopE (σ := List plE × List Nat × Nat) (τ := List plE) (fun q => ⟨[(0, vB0 r xs la ne), (1, vI book), (5, .lf (.optr 0 [])), (6, vI most), (8, vI (i : Int)), (10, .lf (.mp 1)), (37, vL xs), (38, vI xs.length), (39, vI (i : Int)), (109, .lf (.itr 2))],
          [(0, .cell marT (vM zero8)), (1, .map plT (.int .i64) q.1 clk2), (2, .iter 1 clk2 q.2.1 q.2.2)], 3⟩)
        (fun q => q.1.Sublist es2 ∧ clk2 ≤ q.2.2 ∧ ∀ e ∈ es2, e ∈ q.1 ↔ (e.2.2 ∈ q.2.1 → keepB (xs.length : Int) i most e.1 = true)) (fun q => mLeft q.1 q.2.1)
        (es2, [], clk2) ⟨List.Sublist.refl _, Nat.le_refl _, fun e he => ⟨fun _ => (fun h => by cases h), fun _ => he⟩⟩ (by (exact JW.Auto rfl))
        (fun q => ⟨[(0, vB0 r xs la ne), (1, vI book), (5, .lf (.optr 0 [])), (6, vI most), (10, .lf (.mp 1)), (37, vL xs), (38, vI xs.length), (39, vI (i : Int))],
          [(0, .cell marT (vM zero8)), (1, .map plT (.int .i64) q clk2)], 2⟩) (fun q => CM q clk2 (i + 1) fun p => (waysC r xs ne book most (i + 1)).count p) (fun es3 hcm3 => ?_) (fun q hq => ?_)
      · (repeat (first | refine zs rfl ?_ | refine zg rfl rfl rfl ?_ | refine zd ?_ | refine JK.fin ?_ | refine JK.ret ?_ | refine zml mpT rfl rfl rfl rfl ?_ | refine zmi mpT rfl rfl rfl rfl ?_ | refine zmd mpT rfl rfl rfl ?_ | refine zmr mpT rfl rfl rfl ?_ | refine zmm mpT rfl ?_ | refine zeq eqM rfl rfl rfl ?_ | refine zne eqM rfl rfl rfl ?_ | refine zeq eqPl rfl rfl rfl ?_ | refine zne eqPl rfl rfl rfl ?_))
        exact ⟨(i + 1, es3, clk2), by (exact JW.Auto rfl), ⟨by omega, hcm3⟩, by dsimp only; omega⟩
      · obtain ⟨es3, seen, last⟩ := q
        obtain ⟨hsub, hlast, hiff⟩ := hq
        dsimp only at hsub hlast hiff
        have hw3 := hnx hsub
        (repeat (first | refine zs rfl ?_ | refine zg rfl rfl rfl ?_ | refine zd ?_ | refine JK.fin ?_ | refine JK.ret ?_ | refine zml mpT rfl rfl rfl rfl ?_ | refine zmi mpT rfl rfl rfl rfl ?_ | refine zmd mpT rfl rfl rfl ?_ | refine zmr mpT rfl rfl rfl ?_ | refine zmm mpT rfl ?_ | refine zeq eqM rfl rfl rfl ?_ | refine zne eqM rfl rfl rfl ?_ | refine zeq eqPl rfl rfl rfl ?_ | refine zne eqPl rfl rfl rfl ?_))
        refine JK.nxt rfl rfl rfl hw3.lt hlast rfl (fun hall => ?_) (fun e he hes => ?_)
        · (repeat (first | refine zs rfl ?_ | refine zg rfl rfl rfl ?_ | refine zd ?_ | refine JK.fin ?_ | refine JK.ret ?_ | refine zml mpT rfl rfl rfl rfl ?_ | refine zmi mpT rfl rfl rfl rfl ?_ | refine zmd mpT rfl rfl rfl ?_ | refine zmr mpT rfl rfl rfl ?_ | refine zmm mpT rfl ?_ | refine zeq eqM rfl rfl rfl ?_ | refine zne eqM rfl rfl rfl ?_ | refine zeq eqPl rfl rfl rfl ?_ | refine zne eqPl rfl rfl rfl ?_))
          refine JK.cond rfl (fun hc => absurd hc (by decide)) (fun _ => ?_)
          (repeat (first | refine zs rfl ?_ | refine zg rfl rfl rfl ?_ | refine zd ?_ | refine JK.fin ?_ | refine JK.ret ?_ | refine zml mpT rfl rfl rfl rfl ?_ | refine zmi mpT rfl rfl rfl rfl ?_ | refine zmd mpT rfl rfl rfl ?_ | refine zmr mpT rfl rfl rfl ?_ | refine zmm mpT rfl ?_ | refine zeq eqM rfl rfl rfl ?_ | refine zne eqM rfl rfl rfl ?_ | refine zeq eqPl rfl rfl rfl ?_ | refine zne eqPl rfl rfl rfl ?_))
          refine ⟨es3, by (exact JW.Auto rfl), (cm_filter hcm2 hsub fun e he => ⟨fun h => (hiff e he).1 h (hall e h), fun h => (hiff e he).2 fun _ => h⟩).congr fun p => ?_⟩
          rw [waysC]; exact (count_filt _ _ _).symm
        · have hlt := mLeft_lt he hes
          have he2 := hsub.subset he
          obtain ⟨em, ek, many, born, rfl⟩ : ∃ (em : List Int) (ek many : Int) (born : Nat), e = ((em, ek, ()), many, born) := ⟨e.1.1, e.1.2.1, e.2.1, e.2.2, rfl⟩
          have hek : 0 ≤ ek ∧ ek ≤ ((i + 1 : Nat) : Int) := ⟨(hcm2.ok _ he2).2.1, (hcm2.ok _ he2).2.2⟩
          (repeat (first | refine zs rfl ?_ | refine zg rfl rfl rfl ?_ | refine zd ?_ | refine JK.fin ?_ | refine JK.ret ?_ | refine zml mpT rfl rfl rfl rfl ?_ | refine zmi mpT rfl rfl rfl rfl ?_ | refine zmd mpT rfl rfl rfl ?_ | refine zmr mpT rfl rfl rfl ?_ | refine zmm mpT rfl ?_ | refine zeq eqM rfl rfl rfl ?_ | refine zne eqM rfl rfl rfl ?_ | refine zeq eqPl rfl rfl rfl ?_ | refine zne eqPl rfl rfl rfl ?_))
          refine JK.cond rfl (fun _ => ?_) (fun hc => absurd hc (by decide))
          (repeat (first | refine zs rfl ?_ | refine zg rfl rfl rfl ?_ | refine zd ?_ | refine JK.fin ?_ | refine JK.ret ?_ | refine zml mpT rfl rfl rfl rfl ?_ | refine zmi mpT rfl rfl rfl rfl ?_ | refine zmd mpT rfl rfl rfl ?_ | refine zmr mpT rfl rfl rfl ?_ | refine zmm mpT rfl ?_ | refine zeq eqM rfl rfl rfl ?_ | refine zne eqM rfl rfl rfl ?_ | refine zeq eqPl rfl rfl rfl ?_ | refine zne eqPl rfl rfl rfl ?_))
          refine JK.etr rfl rfl rfl rfl rfl he hw3 rfl ?_
          (repeat (first | refine zs rfl ?_ | refine zg rfl rfl rfl ?_ | refine zd ?_ | refine JK.fin ?_ | refine JK.ret ?_ | refine zml mpT rfl rfl rfl rfl ?_ | refine zmi mpT rfl rfl rfl rfl ?_ | refine zmd mpT rfl rfl rfl ?_ | refine zmr mpT rfl rfl rfl ?_ | refine zmm mpT rfl ?_ | refine zeq eqM rfl rfl rfl ?_ | refine zne eqM rfl rfl rfl ?_ | refine zeq eqPl rfl rfl rfl ?_ | refine zne eqPl rfl rfl rfl ?_))
          refine JK.cond rfl (fun hf => ?_) (fun hf => ?_)
          · have hkf : keepB (xs.length : Int) i most (em, ek, ()) = false := by unfold keepB; rw [show decide (ek + (xs.length : Int) - 1 - i < most) = true from hf]; rfl
            (repeat (first | refine zs rfl ?_ | refine zg rfl rfl rfl ?_ | refine zd ?_ | refine JK.fin ?_ | refine JK.ret ?_ | refine zml mpT rfl rfl rfl rfl ?_ | refine zmi mpT rfl rfl rfl rfl ?_ | refine zmd mpT rfl rfl rfl ?_ | refine zmr mpT rfl rfl rfl ?_ | refine zmm mpT rfl ?_ | refine zeq eqM rfl rfl rfl ?_ | refine zne eqM rfl rfl rfl ?_ | refine zeq eqPl rfl rfl rfl ?_ | refine zne eqPl rfl rfl rfl ?_))
            refine ⟨(mDel es3 (em, ek, ()), seen ++ [born], clk2), by (exact JW.Auto rfl), ⟨mDel_sub.trans hsub, Nat.le_refl _, fun a ha => ?_⟩, Nat.lt_of_le_of_lt (mLeft_sub mDel_sub) hlt⟩
            rw [mDel_mem hw3, hiff a ha]
            refine ⟨fun h hs => ?_, fun h => ⟨fun hs => h (List.mem_append_left _ hs), fun hk => ?_⟩⟩
            · rcases List.mem_append.1 hs with hs | hs
              · exact h.1 hs
              · exact absurd (congrArg (·.1) (hcm2.wf.eqb ha he2 (List.mem_singleton.1 hs))) h.2
            · have := h (List.mem_append_right _ (List.mem_singleton.2 (congrArg (·.2.2) (hcm2.wf.eq ha he2 hk))))
              rw [hk, hkf] at this; cases this
          · have hkf : keepB (xs.length : Int) i most (em, ek, ()) = true := by unfold keepB; rw [show decide (ek + (xs.length : Int) - 1 - i < most) = false from hf]; rfl
            (repeat (first | refine zs rfl ?_ | refine zg rfl rfl rfl ?_ | refine zd ?_ | refine JK.fin ?_ | refine JK.ret ?_ | refine zml mpT rfl rfl rfl rfl ?_ | refine zmi mpT rfl rfl rfl rfl ?_ | refine zmd mpT rfl rfl rfl ?_ | refine zmr mpT rfl rfl rfl ?_ | refine zmm mpT rfl ?_ | refine zeq eqM rfl rfl rfl ?_ | refine zne eqM rfl rfl rfl ?_ | refine zeq eqPl rfl rfl rfl ?_ | refine zne eqPl rfl rfl rfl ?_))
            refine ⟨(es3, seen ++ [born], clk2), by (exact JW.Auto rfl), ⟨hsub, Nat.le_refl _, fun a ha => ?_⟩, hlt⟩
            rw [hiff a ha]
            refine ⟨fun h hs => ?_, fun h => fun hs => h (List.mem_append_left _ hs)⟩
            rcases List.mem_append.1 hs with hs | hs
            · exact h hs
            · rw [hcm2.wf.eqb ha he2 (List.mem_singleton.1 hs)]; exact hkf
    · obtain ⟨done, es2, clk2, last⟩ := q
      obtain ⟨hfar, hlast, hcm2⟩ := hq
      dsimp only at hfar hlast hcm2
      have hw := hcm2.wf
      (repeat (first | refine zs rfl ?_ | refine zg rfl rfl rfl ?_ | refine zd ?_ | refine JK.fin ?_ | refine JK.ret ?_ | refine zml mpT rfl rfl rfl rfl ?_ | refine zmi mpT rfl rfl rfl rfl ?_ | refine zmd mpT rfl rfl rfl ?_ | refine zmr mpT rfl rfl rfl ?_ | refine zmm mpT rfl ?_ | refine zeq eqM rfl rfl rfl ?_ | refine zne eqM rfl rfl rfl ?_ | refine zeq eqPl rfl rfl rfl ?_ | refine zne eqPl rfl rfl rfl ?_))
      refine JK.nxt rfl rfl rfl hcm.wf.lt hlast rfl (fun hall => ?_) (fun e he hes => ?_)
      · (repeat (first | refine zs rfl ?_ | refine zg rfl rfl rfl ?_ | refine zd ?_ | refine JK.fin ?_ | refine JK.ret ?_ | refine zml mpT rfl rfl rfl rfl ?_ | refine zmi mpT rfl rfl rfl rfl ?_ | refine zmd mpT rfl rfl rfl ?_ | refine zmr mpT rfl rfl rfl ?_ | refine zmm mpT rfl ?_ | refine zeq eqM rfl rfl rfl ?_ | refine zne eqM rfl rfl rfl ?_ | refine zeq eqPl rfl rfl rfl ?_ | refine zne eqPl rfl rfl rfl ?_))
        refine JK.cond rfl (fun hc => absurd hc (by decide)) (fun _ => ?_)
        (repeat (first | refine zs rfl ?_ | refine zg rfl rfl rfl ?_ | refine zd ?_ | refine JK.fin ?_ | refine JK.ret ?_ | refine zml mpT rfl rfl rfl rfl ?_ | refine zmi mpT rfl rfl rfl rfl ?_ | refine zmd mpT rfl rfl rfl ?_ | refine zmr mpT rfl rfl rfl ?_ | refine zmm mpT rfl ?_ | refine zeq eqM rfl rfl rfl ?_ | refine zne eqM rfl rfl rfl ?_ | refine zeq eqPl rfl rfl rfl ?_ | refine zne eqPl rfl rfl rfl ?_))
        refine ⟨(es2, clk2), by (exact JW.Auto rfl), hcm2.congr fun p => ?_⟩
        exact (perm_flat ((perm_flat (hfar.all hcm.wf hall)).trans (bag_perm hcm))).count_eq p
      · have hfar' := hfar.snoc hcm.wf he hes
        have hlt := mLeft_lt he hes
        obtain ⟨hbt, hk1, hk2⟩ := hcm.ok e he
        (repeat (first | refine zs rfl ?_ | refine zg rfl rfl rfl ?_ | refine zd ?_ | refine JK.fin ?_ | refine JK.ret ?_ | refine zml mpT rfl rfl rfl rfl ?_ | refine zmi mpT rfl rfl rfl rfl ?_ | refine zmd mpT rfl rfl rfl ?_ | refine zmr mpT rfl rfl rfl ?_ | refine zmm mpT rfl ?_ | refine zeq eqM rfl rfl rfl ?_ | refine zne eqM rfl rfl rfl ?_ | refine zeq eqPl rfl rfl rfl ?_ | refine zne eqPl rfl rfl rfl ?_))
        refine JK.cond rfl (fun _ => ?_) (fun hc => absurd hc (by decide))
        (repeat (first | refine zs rfl ?_ | refine zg rfl rfl rfl ?_ | refine zd ?_ | refine JK.fin ?_ | refine JK.ret ?_ | refine zml mpT rfl rfl rfl rfl ?_ | refine zmi mpT rfl rfl rfl rfl ?_ | refine zmd mpT rfl rfl rfl ?_ | refine zmr mpT rfl rfl rfl ?_ | refine zmm mpT rfl ?_ | refine zeq eqM rfl rfl rfl ?_ | refine zne eqM rfl rfl rfl ?_ | refine zeq eqPl rfl rfl rfl ?_ | refine zne eqPl rfl rfl rfl ?_))
        refine JK.etr rfl rfl rfl rfl rfl he hcm.wf rfl ?_
        obtain ⟨em, ek, many, born, rfl⟩ : ∃ (em : List Int) (ek many : Int) (born : Nat), e = ((em, ek, ()), many, born) := ⟨e.1.1, e.1.2.1, e.2.1, e.2.2, rfl⟩
        have hnn : 0 ≤ many := hcm.nn _ he
        have hm8 : bits em := hbt
        have hek : 0 ≤ ek ∧ ek ≤ i := ⟨hk1, hk2⟩
        have hmb8 := hm8.1
        (repeat (first | refine zu rfl ?_ | refine zg rfl rfl rfl ?_ | refine zd ?_ | refine JK.fin ?_ | refine JK.ret ?_ | refine zml mpT rfl rfl rfl rfl ?_ | refine zmi mpT rfl rfl rfl rfl ?_ | refine zmd mpT rfl rfl rfl ?_ | refine zmr mpT rfl rfl rfl ?_ | refine zmm mpT rfl ?_ | refine zeq eqM rfl rfl rfl ?_ | refine zne eqM rfl rfl rfl ?_ | refine zeq eqPl rfl rfl rfl ?_ | refine zne eqPl rfl rfl rfl ?_))
        refine JK.cut (fun kp : Int => ⟨[(0, vB0 r xs la ne), (1, vI book), (5, .lf (.optr 0 [])), (6, vI most), (7, .lf (.mp 1)), (8, vI (i : Int)), (9, vI (xs.getD i 0)), (10, .lf (.mp 2)), (11, .lf (.optr 4 [])), (12, vI many), (37, vL xs), (38, vI xs.length), (39, vI (i : Int)), (46, .lf (.itr 3))],
          [(0, .cell marT (vM zero8)), (1, .map plT (.int .i64) es clk), (2, .map plT (.int .i64) es2 clk2), (3, .iter 1 clk (done.map (·.2.2) ++ [born]) clk), (4, .cell plT (.val plT (em, kp, ())))], 5⟩)
          (fun kp => kp = (if em.getD (xs.getD i 0).toNat 0 = 1 then ek + 1 else ek) ∧ ¬(em.getD (xs.getD i 0).toNat 0 ≠ 1 ∧ (i : Int) = book)) ?_ (fun kp hkp => ?_)
        · (repeat (first | refine zs rfl ?_ | refine zg rfl rfl rfl ?_ | refine zd ?_ | refine JK.fin ?_ | refine JK.ret ?_ | refine zml mpT rfl rfl rfl rfl ?_ | refine zmi mpT rfl rfl rfl rfl ?_ | refine zmd mpT rfl rfl rfl ?_ | refine zmr mpT rfl rfl rfl ?_ | refine zmm mpT rfl ?_ | refine zeq eqM rfl rfl rfl ?_ | refine zne eqM rfl rfl rfl ?_ | refine zeq eqPl rfl rfl rfl ?_ | refine zne eqPl rfl rfl rfl ?_))
          refine JK.cond rfl (fun hs => ?_) (fun hs => ?_)
          · (simp only [↓bif_or, ↓bif_and, ↓Bool.or_eq_true, ↓Bool.or_eq_false_iff, ↓Bool.and_eq_true, ↓Bool.and_eq_false_iff, ↓Bool.not_eq_true', ↓Bool.not_eq_false', ↓decide_eq_true_eq, ↓decide_eq_false_iff_not, ↓beq_iff_eq, ↓bne_iff_ne, ↓bne_eq_false_iff_eq, ↓ne_eq, ↓beq_eq_false_iff_ne, ↓Bool.not_eq_true] at hs; try simp only [Ty.dflt, Int.toNat_natCast] at hs)
            (repeat (first | refine zs rfl ?_ | refine zg rfl rfl rfl ?_ | refine zd ?_ | refine JK.fin ?_ | refine JK.ret ?_ | refine zml mpT rfl rfl rfl rfl ?_ | refine zmi mpT rfl rfl rfl rfl ?_ | refine zmd mpT rfl rfl rfl ?_ | refine zmr mpT rfl rfl rfl ?_ | refine zmm mpT rfl ?_ | refine zeq eqM rfl rfl rfl ?_ | refine zne eqM rfl rfl rfl ?_ | refine zeq eqPl rfl rfl rfl ?_ | refine zne eqPl rfl rfl rfl ?_))
            exact ⟨ek + 1, by (exact JW.Auto rfl), by rw [if_pos hs], fun h => h.1 hs⟩
          · (simp only [↓bif_or, ↓bif_and, ↓Bool.or_eq_true, ↓Bool.or_eq_false_iff, ↓Bool.and_eq_true, ↓Bool.and_eq_false_iff, ↓Bool.not_eq_true', ↓Bool.not_eq_false', ↓decide_eq_true_eq, ↓decide_eq_false_iff_not, ↓beq_iff_eq, ↓bne_iff_ne, ↓bne_eq_false_iff_eq, ↓ne_eq, ↓beq_eq_false_iff_ne, ↓Bool.not_eq_true] at hs; try simp only [Ty.dflt, Int.toNat_natCast] at hs)
            (repeat (first | refine zs rfl ?_ | refine zg rfl rfl rfl ?_ | refine zd ?_ | refine JK.fin ?_ | refine JK.ret ?_ | refine zml mpT rfl rfl rfl rfl ?_ | refine zmi mpT rfl rfl rfl rfl ?_ | refine zmd mpT rfl rfl rfl ?_ | refine zmr mpT rfl rfl rfl ?_ | refine zmm mpT rfl ?_ | refine zeq eqM rfl rfl rfl ?_ | refine zne eqM rfl rfl rfl ?_ | refine zeq eqPl rfl rfl rfl ?_ | refine zne eqPl rfl rfl rfl ?_))
            refine JK.cond rfl (fun hbk => ?_) (fun hbk => ?_)
            · (simp only [↓bif_or, ↓bif_and, ↓Bool.or_eq_true, ↓Bool.or_eq_false_iff, ↓Bool.and_eq_true, ↓Bool.and_eq_false_iff, ↓Bool.not_eq_true', ↓Bool.not_eq_false', ↓decide_eq_true_eq, ↓decide_eq_false_iff_not, ↓beq_iff_eq, ↓bne_iff_ne, ↓bne_eq_false_iff_eq, ↓ne_eq, ↓beq_eq_false_iff_ne, ↓Bool.not_eq_true] at hbk; try simp only [Ty.dflt, Int.toNat_natCast] at hbk)
              (repeat (first | refine zs rfl ?_ | refine zg rfl rfl rfl ?_ | refine zd ?_ | refine JK.fin ?_ | refine JK.ret ?_ | refine zml mpT rfl rfl rfl rfl ?_ | refine zmi mpT rfl rfl rfl rfl ?_ | refine zmd mpT rfl rfl rfl ?_ | refine zmr mpT rfl rfl rfl ?_ | refine zmm mpT rfl ?_ | refine zeq eqM rfl rfl rfl ?_ | refine zne eqM rfl rfl rfl ?_ | refine zeq eqPl rfl rfl rfl ?_ | refine zne eqPl rfl rfl rfl ?_))
              refine ⟨(done ++ [((em, ek, ()), many, born)], es2, clk2, clk), by (refine JW.auto rfl ?_ ?_ ?_ ?_ rfl <;> (repeat' (first | exact trivial | exact rfl | refine And.intro ?_ ?_ | exact Nat.le_of_ble_eq_true rfl | refine HO.bdF ?_ | refine HO.bdP ?_ | (refine congrArg (fun z : Int => some (AV.val (.int .i64) z)) ?_; push_cast; omega) | (simp)))), ⟨hfar', Nat.le_refl _, hcm2.congr fun p => ?_⟩, by simpa using hlt⟩
              rw [far_step]
              have : stepC r ne book i (xs.getD i 0) (em, ek, ()) = [] := by unfold stepC; rw [if_pos ⟨hs, hbk⟩]
              rw [this]; simp
            · (simp only [↓bif_or, ↓bif_and, ↓Bool.or_eq_true, ↓Bool.or_eq_false_iff, ↓Bool.and_eq_true, ↓Bool.and_eq_false_iff, ↓Bool.not_eq_true', ↓Bool.not_eq_false', ↓decide_eq_true_eq, ↓decide_eq_false_iff_not, ↓beq_iff_eq, ↓bne_iff_ne, ↓bne_eq_false_iff_eq, ↓ne_eq, ↓beq_eq_false_iff_ne, ↓Bool.not_eq_true] at hbk; try simp only [Ty.dflt, Int.toNat_natCast] at hbk)
              (repeat (first | refine zs rfl ?_ | refine zg rfl rfl rfl ?_ | refine zd ?_ | refine JK.fin ?_ | refine JK.ret ?_ | refine zml mpT rfl rfl rfl rfl ?_ | refine zmi mpT rfl rfl rfl rfl ?_ | refine zmd mpT rfl rfl rfl ?_ | refine zmr mpT rfl rfl rfl ?_ | refine zmm mpT rfl ?_ | refine zeq eqM rfl rfl rfl ?_ | refine zne eqM rfl rfl rfl ?_ | refine zeq eqPl rfl rfl rfl ?_ | refine zne eqPl rfl rfl rfl ?_))
              exact ⟨ek, by (exact JW.Auto rfl), by rw [if_neg hs], fun h => hbk h.2⟩
        · obtain ⟨hkp, hnb⟩ := hkp
          have hkb : 0 ≤ kp ∧ kp ≤ (i : Int) + 1 := by rw [hkp]; split <;> omega
          have hb0 := bits_set hm8 (xs.getD i 0).toNat (x := 0) (by omega)
          have hb1 := bits_set hb0 (xs.getD i 0).toNat (x := 1) (by omega)
          (repeat (first | refine zs rfl ?_ | refine zg rfl rfl rfl ?_ | refine zd ?_ | refine JK.fin ?_ | refine JK.ret ?_ | refine zml mpT rfl rfl rfl rfl ?_ | refine zmi mpT rfl rfl rfl rfl ?_ | refine zmd mpT rfl rfl rfl ?_ | refine zmr mpT rfl rfl rfl ?_ | refine zmm mpT rfl ?_ | refine zeq eqM rfl rfl rfl ?_ | refine zne eqM rfl rfl rfl ?_ | refine zeq eqPl rfl rfl rfl ?_ | refine zne eqPl rfl rfl rfl ?_ | refine zc rfl (fn68 (List.set em (xs.getD i 0).toNat 0) hb0.2) rfl rfl ?_ | refine ze rfl (fn68 (List.set em (xs.getD i 0).toNat 0) hb0.2) rfl ?_ | refine zk rfl rfl (fun _ => fn68 (List.set em (xs.getD i 0).toNat 0) hb0.2) rfl rfl ?_))
          generalize hmv2 : em.set (xs.getD i 0).toNat 0 = m2 at hb0 hb1
          have hm28 := hb0.1
          generalize hmv3 : m2.set (xs.getD i 0).toNat 1 = m3 at hb1
          have hstep : stepC r ne book i (xs.getD i 0) (em, ek, ()) = if m2 ≠ zero8 ∧ m2.sum > r - 1 then [] else (m2, kp, ()) :: (if ne.getD i 0 ≥ 0 then [(m3, kp, ())] else []) := by
            unfold stepC; rw [if_neg hnb]; dsimp only; rw [hmv2, hmv3, ← hkp]
          refine JK.cond rfl (fun hf => ?_) (fun hf => ?_)
          · have hf' : m2 ≠ zero8 ∧ m2.sum > r - 1 := by
              simp only [cond_eq_ite, Bool.if_false_right, Bool.and_eq_true, Bool.not_eq_true', decide_eq_true_eq] at hf
              refine ⟨fun h => ?_, hf.2⟩
              have := hf.1; rw [Ty.eqB_iff.2 h] at this; cases this
            rw [if_pos hf'] at hstep
            (repeat (first | refine zs rfl ?_ | refine zg rfl rfl rfl ?_ | refine zd ?_ | refine JK.fin ?_ | refine JK.ret ?_ | refine zml mpT rfl rfl rfl rfl ?_ | refine zmi mpT rfl rfl rfl rfl ?_ | refine zmd mpT rfl rfl rfl ?_ | refine zmr mpT rfl rfl rfl ?_ | refine zmm mpT rfl ?_ | refine zeq eqM rfl rfl rfl ?_ | refine zne eqM rfl rfl rfl ?_ | refine zeq eqPl rfl rfl rfl ?_ | refine zne eqPl rfl rfl rfl ?_))
            refine ⟨(done ++ [((em, ek, ()), many, born)], es2, clk2, clk), by (refine JW.auto rfl ?_ ?_ ?_ ?_ rfl <;> (repeat' (first | exact trivial | exact rfl | refine And.intro ?_ ?_ | exact Nat.le_of_ble_eq_true rfl | refine HO.bdF ?_ | refine HO.bdP ?_ | (refine congrArg (fun z : Int => some (AV.val (.int .i64) z)) ?_; push_cast; omega) | (simp)))), ⟨hfar', Nat.le_refl _, hcm2.congr fun p => ?_⟩, by simpa using hlt⟩
            rw [far_step, hstep]; simp
          · have hf' : ¬(m2 ≠ zero8 ∧ m2.sum > r - 1) := by
              rintro ⟨h1, h2⟩
              have h3 : marT.eqB m2 zero8 = false := by
                cases h : marT.eqB m2 zero8
                · rfl
                · exact absurd (Ty.eqB_iff.1 h) h1
              rw [h3, decide_eq_true h2] at hf
              cases hf
            rw [if_neg hf'] at hstep
            have hbd : ∀ q, ((bag done).flatMap (stepC r ne book i (xs.getD i 0))).count q + many.toNat * (stepC r ne book i (xs.getD i 0) (em, ek, ())).count q ≤ 16777216 := fun q => by
              rw [← far_step (born := born)]
              have g1 := List.count_le_length (a := q) (l := (bag (done ++ [((em, ek, ()), many, born)])).flatMap (stepC r ne book i (xs.getD i 0)))
              have g2 := flat_len (stepC_len r ne book i (xs.getD i 0)) (bag (done ++ [((em, ek, ()), many, born)]))
              have g3 := hfar'.len
              have g4 := (bag_perm hcm).length_eq
              have g5 := waysC_len r xs ne book most i
              have g6 : 2 ^ i ≤ 2 ^ 23 := Nat.pow_le_pow_right (by omega) (by omega)
              have g7 : 2 ^ 23 = 8388608 := rfl
              omega
            have hbit2 : bits m2 := hb0
            have hq1 : (0 : Int) ≤ mGet es2 (m2, kp, ()) (Ty.dflt (.int .i64)) ∧ (mGet es2 (m2, kp, ()) (Ty.dflt (.int .i64)) : Int) + many ≤ 16777216 := by
              have g1 : (mGet es2 (m2, kp, ()) (Ty.dflt (.int .i64)) : Int) = _ := hcm2.eq (m2, kp, ())
              have g2 := hbd (m2, kp, ())
              have g3 : 1 ≤ (stepC r ne book i (xs.getD i 0) (em, ek, ())).count (m2, kp, ()) := by rw [hstep, List.count_cons_self]; omega
              have g4 := Nat.mul_le_mul_left many.toNat g3
              rw [Nat.mul_one] at g4
              have g5 := Nat.le_trans (Nat.add_le_add_left g4 _) g2
              rw [g1]
              dsimp only [Ty.den]
              omega
            have hq1' : (0 : Int) ≤ mGet (mEnt es2 clk2 (m2, kp, ())) (m2, kp, ()) (Ty.dflt (.int .i64)) ∧ (mGet (mEnt es2 clk2 (m2, kp, ())) (m2, kp, ()) (Ty.dflt (.int .i64)) : Int) + many ≤ 16777216 := by
              rw [mGet_ent hw]; exact hq1
            (repeat (first | refine zs rfl ?_ | refine zg rfl rfl rfl ?_ | refine JK.fin ?_ | refine JK.ret ?_ | refine zml mpT rfl rfl rfl rfl ?_ | refine zmi mpT rfl rfl rfl rfl ?_ | refine zmd mpT rfl rfl rfl ?_ | refine zmr mpT rfl rfl rfl ?_ | refine zmm mpT rfl ?_ | refine zeq eqM rfl rfl rfl ?_ | refine zne eqM rfl rfl rfl ?_ | refine zeq eqPl rfl rfl rfl ?_ | refine zne eqPl rfl rfl rfl ?_))
            refine JK.drawTo (xok rfl rfl rfl rfl) (Go.Proofs.Try.f63.body.getD .skip) ⟨[(0, vB0 r xs la ne), (1, vI book), (5, .lf (.optr 0 [])), (6, vI most), (7, .lf (.mp 1)), (8, vI (i : Int)), (9, vI (xs.getD i 0)), (10, .lf (.mp 2)), (11, .lf (.optr 4 [])), (12, vI many), (37, vL xs), (38, vI xs.length), (39, vI (i : Int)), (46, .lf (.itr 3))],
              [(0, .cell marT (vM zero8)), (1, .map plT (.int .i64) es clk), (2, .map plT (.int .i64) (mPut es2 clk2 (m2, kp, ()) ((mGet es2 (m2, kp, ()) (Ty.dflt (.int .i64)) : Int) + many)) (mClk es2 clk2 (m2, kp, ()))), (3, .iter 1 clk (done.map (·.2.2) ++ [born]) clk), (4, .cell plT (.val plT (m2, kp, ())))], 5⟩ rfl 8 rfl ?_ ?_
            · (refine JF.First 0 (xok rfl rfl rfl rfl) rfl rfl ?_; refine JF.First 3 (xok rfl rfl rfl rfl) rfl rfl ?_; refine JF.Float 1 (xok rfl rfl rfl rfl) rfl rfl ?_; refine JF.Branch 2 [5] (xok rfl rfl rfl rfl) ?_ ?_; (focus (repeat (first | exact StF.nil | refine StF.One rfl rfl rfl ?_))); refine BrF.one rfl rfl ?_ (BrF.one rfl rfl ?_ BrF.nil); (· (first | refine JL.Q1 (xok rfl rfl rfl rfl) rfl rfl ?_ | refine JL.G1 (xok rfl rfl rfl rfl) rfl rfl rfl ?_ | refine JL.M1 (xok rfl rfl rfl rfl) rfl rfl ?_ | refine JL.M0 (xok rfl rfl rfl rfl) rfl ?_ | refine JL.Q0 (xok rfl rfl rfl rfl) rfl ?_ | refine JL.MLook mpT rfl rfl rfl rfl ?_ | refine JL.MIns mpT rfl rfl rfl rfl ?_ | refine JL.MEnt mpT rfl rfl rfl rfl ?_ | refine JL.MDel mpT rfl rfl rfl ?_ | refine JL.MRng mpT rfl rfl rfl ?_ | refine JL.mMake mpT rfl ?_ | refine JL.MStoE (by assumption) rfl rfl rfl rfl ?_ | refine JL.EqQ eqM rfl rfl rfl ?_ | refine JL.NeQ eqM rfl rfl rfl ?_ | refine JL.EqQ eqPl rfl rfl rfl ?_ | refine JL.NeQ eqPl rfl rfl rfl ?_); refine JL.finN ?_; refine JF.First 4 (xok rfl rfl rfl rfl) rfl rfl ?_; refine JF.Branch 5 [] (xok rfl rfl rfl rfl) ?_ ?_; (focus (repeat (first | exact StF.nil | refine StF.One rfl rfl rfl ?_))); refine BrF.one rfl rfl ?_ BrF.nil; (· (first | refine JL.Q1 (xok rfl rfl rfl rfl) rfl rfl ?_ | refine JL.G1 (xok rfl rfl rfl rfl) rfl rfl rfl ?_ | refine JL.M1 (xok rfl rfl rfl rfl) rfl rfl ?_ | refine JL.M0 (xok rfl rfl rfl rfl) rfl ?_ | refine JL.Q0 (xok rfl rfl rfl rfl) rfl ?_ | refine JL.MLook mpT rfl rfl rfl rfl ?_ | refine JL.MIns mpT rfl rfl rfl rfl ?_ | refine JL.MEnt mpT rfl rfl rfl rfl ?_ | refine JL.MDel mpT rfl rfl rfl ?_ | refine JL.MRng mpT rfl rfl rfl ?_ | refine JL.mMake mpT rfl ?_ | refine JL.MStoE (by assumption) rfl rfl rfl rfl ?_ | refine JL.EqQ eqM rfl rfl rfl ?_ | refine JL.NeQ eqM rfl rfl rfl ?_ | refine JL.EqQ eqPl rfl rfl rfl ?_ | refine JL.NeQ eqPl rfl rfl rfl ?_); refine JL.finN ?_; refine JF.First 6 (xok rfl rfl rfl rfl) rfl rfl ?_; refine JF.Branch 7 [] (xok rfl rfl rfl rfl) ?_ ?_; (focus (repeat (first | exact StF.nil | refine StF.One rfl rfl rfl ?_))); refine BrF.one rfl rfl ?_ BrF.nil; (· (first | refine JL.Q1 (xok rfl rfl rfl rfl) rfl rfl ?_ | refine JL.G1 (xok rfl rfl rfl rfl) rfl rfl rfl ?_ | refine JL.M1 (xok rfl rfl rfl rfl) rfl rfl ?_ | refine JL.M0 (xok rfl rfl rfl rfl) rfl ?_ | refine JL.Q0 (xok rfl rfl rfl rfl) rfl ?_ | refine JL.MLook mpT rfl rfl rfl rfl ?_ | refine JL.MIns mpT rfl rfl rfl rfl ?_ | refine JL.MEnt mpT rfl rfl rfl rfl ?_ | refine JL.MDel mpT rfl rfl rfl ?_ | refine JL.MRng mpT rfl rfl rfl ?_ | refine JL.mMake mpT rfl ?_ | refine JL.MStoE (by assumption) rfl rfl rfl rfl ?_ | refine JL.EqQ eqM rfl rfl rfl ?_ | refine JL.NeQ eqM rfl rfl rfl ?_ | refine JL.EqQ eqPl rfl rfl rfl ?_ | refine JL.NeQ eqPl rfl rfl rfl ?_); refine JL.finN ?_; refine JF.Done (xok rfl rfl rfl rfl) ?_ ?_; (focus (repeat (first | exact StF.nil | refine StF.One rfl rfl rfl ?_))); ((refine JW.auto rfl ?_ ?_ ?_ ?_ rfl <;> (repeat' (first | exact trivial | exact rfl | refine And.intro ?_ ?_ | exact Nat.le_of_ble_eq_true rfl | refine HO.bdF ?_ | refine HO.bdP ?_ | (refine congrArg (fun z : Int => some (AV.val (.int .i64) z)) ?_; push_cast; omega) | exact congrArg (fun z : Int => some (HO.map plT (.int .i64) (mPut es2 clk2 (m2, kp, ()) z) (mClk es2 clk2 (m2, kp, ())))) (congrArg (fun z : Int => z + many) (mGet_ent hw))))))))); (· (first | refine JL.Q1 (xok rfl rfl rfl rfl) rfl rfl ?_ | refine JL.G1 (xok rfl rfl rfl rfl) rfl rfl rfl ?_ | refine JL.M1 (xok rfl rfl rfl rfl) rfl rfl ?_ | refine JL.M0 (xok rfl rfl rfl rfl) rfl ?_ | refine JL.Q0 (xok rfl rfl rfl rfl) rfl ?_ | refine JL.MLook mpT rfl rfl rfl rfl ?_ | refine JL.MIns mpT rfl rfl rfl rfl ?_ | refine JL.MEnt mpT rfl rfl rfl rfl ?_ | refine JL.MDel mpT rfl rfl rfl ?_ | refine JL.MRng mpT rfl rfl rfl ?_ | refine JL.mMake mpT rfl ?_ | refine JL.MStoE (by assumption) rfl rfl rfl rfl ?_ | refine JL.EqQ eqM rfl rfl rfl ?_ | refine JL.NeQ eqM rfl rfl rfl ?_ | refine JL.EqQ eqPl rfl rfl rfl ?_ | refine JL.NeQ eqPl rfl rfl rfl ?_); refine JL.finN ?_; refine JF.First 6 (xok rfl rfl rfl rfl) rfl rfl ?_; refine JF.Branch 2 [] (xok rfl rfl rfl rfl) ?_ ?_; (focus (repeat (first | exact StF.nil | refine StF.One rfl rfl rfl ?_))); refine BrF.one rfl rfl ?_ BrF.nil; (· (first | refine JL.Q1 (xok rfl rfl rfl rfl) rfl rfl ?_ | refine JL.G1 (xok rfl rfl rfl rfl) rfl rfl rfl ?_ | refine JL.M1 (xok rfl rfl rfl rfl) rfl rfl ?_ | refine JL.M0 (xok rfl rfl rfl rfl) rfl ?_ | refine JL.Q0 (xok rfl rfl rfl rfl) rfl ?_ | refine JL.MLook mpT rfl rfl rfl rfl ?_ | refine JL.MIns mpT rfl rfl rfl rfl ?_ | refine JL.MEnt mpT rfl rfl rfl rfl ?_ | refine JL.MDel mpT rfl rfl rfl ?_ | refine JL.MRng mpT rfl rfl rfl ?_ | refine JL.mMake mpT rfl ?_ | refine JL.MStoE (by assumption) rfl rfl rfl rfl ?_ | refine JL.EqQ eqM rfl rfl rfl ?_ | refine JL.NeQ eqM rfl rfl rfl ?_ | refine JL.EqQ eqPl rfl rfl rfl ?_ | refine JL.NeQ eqPl rfl rfl rfl ?_); refine JL.finN ?_; refine JF.First 4 (xok rfl rfl rfl rfl) rfl rfl ?_; refine JF.Branch 7 [] (xok rfl rfl rfl rfl) ?_ ?_; (focus (repeat (first | exact StF.nil | refine StF.One rfl rfl rfl ?_))); refine BrF.one rfl rfl ?_ BrF.nil; (· (first | refine JL.Q1 (xok rfl rfl rfl rfl) rfl rfl ?_ | refine JL.G1 (xok rfl rfl rfl rfl) rfl rfl rfl ?_ | refine JL.M1 (xok rfl rfl rfl rfl) rfl rfl ?_ | refine JL.M0 (xok rfl rfl rfl rfl) rfl ?_ | refine JL.Q0 (xok rfl rfl rfl rfl) rfl ?_ | refine JL.MLook mpT rfl rfl rfl rfl ?_ | refine JL.MIns mpT rfl rfl rfl rfl ?_ | refine JL.MEnt mpT rfl rfl rfl rfl ?_ | refine JL.MDel mpT rfl rfl rfl ?_ | refine JL.MRng mpT rfl rfl rfl ?_ | refine JL.mMake mpT rfl ?_ | refine JL.MStoE (by assumption) rfl rfl rfl rfl ?_ | refine JL.EqQ eqM rfl rfl rfl ?_ | refine JL.NeQ eqM rfl rfl rfl ?_ | refine JL.EqQ eqPl rfl rfl rfl ?_ | refine JL.NeQ eqPl rfl rfl rfl ?_); refine JL.finN ?_; refine JF.Done (xok rfl rfl rfl rfl) ?_ ?_; (focus (repeat (first | exact StF.nil | refine StF.One rfl rfl rfl ?_))); ((refine JW.auto rfl ?_ ?_ ?_ ?_ rfl <;> (repeat' (first | exact trivial | exact rfl | refine And.intro ?_ ?_ | exact Nat.le_of_ble_eq_true rfl | refine HO.bdF ?_ | refine HO.bdP ?_ | (refine congrArg (fun z : Int => some (AV.val (.int .i64) z)) ?_; push_cast; omega) | exact congrArg (fun z : Int => some (HO.map plT (.int .i64) (mPut es2 clk2 (m2, kp, ()) z) (mClk es2 clk2 (m2, kp, ())))) (congrArg (fun z : Int => z + many) (mGet_ent hw))))))))))
            have hcm3 := hcm2.add (m2, kp, ()) many.toNat ⟨hbit2, by dsimp only; omega, by dsimp only; omega⟩ (v := (mGet es2 (m2, kp, ()) (Ty.dflt (.int .i64)) : Int) + many) (by
              have g1 : (mGet es2 (m2, kp, ()) (Ty.dflt (.int .i64)) : Int) = _ := hcm2.eq (m2, kp, ())
              rw [g1]; omega)
            generalize (mPut es2 clk2 (m2, kp, ()) ((mGet es2 (m2, kp, ()) (Ty.dflt (.int .i64)) : Int) + many)) = es3 at hcm3 ⊢
            generalize mClk es2 clk2 (m2, kp, ()) = clk3 at hcm3 ⊢
            have hw3 := hcm3.wf
            have hmn : many ≤ 16777216 := by have := hq1; dsimp only [Ty.den] at this; omega
            (repeat (first | refine zs rfl ?_ | refine zg rfl rfl rfl ?_ | refine zd ?_ | refine JK.fin ?_ | refine JK.ret ?_ | refine zml mpT rfl rfl rfl rfl ?_ | refine zmi mpT rfl rfl rfl rfl ?_ | refine zmd mpT rfl rfl rfl ?_ | refine zmr mpT rfl rfl rfl ?_ | refine zmm mpT rfl ?_ | refine zeq eqM rfl rfl rfl ?_ | refine zne eqM rfl rfl rfl ?_ | refine zeq eqPl rfl rfl rfl ?_ | refine zne eqPl rfl rfl rfl ?_))
            refine JK.cond rfl (fun hn => ?_) (fun hn => ?_)
            · (simp only [↓bif_or, ↓bif_and, ↓Bool.or_eq_true, ↓Bool.or_eq_false_iff, ↓Bool.and_eq_true, ↓Bool.and_eq_false_iff, ↓Bool.not_eq_true', ↓Bool.not_eq_false', ↓decide_eq_true_eq, ↓decide_eq_false_iff_not, ↓beq_iff_eq, ↓bne_iff_ne, ↓bne_eq_false_iff_eq, ↓ne_eq, ↓beq_eq_false_iff_ne, ↓Bool.not_eq_true] at hn; try simp only [Ty.dflt, Int.toNat_natCast] at hn)
              rw [if_pos hn] at hstep
              have hq2 : (0 : Int) ≤ mGet es3 (m3, kp, ()) (Ty.dflt (.int .i64)) ∧ (mGet es3 (m3, kp, ()) (Ty.dflt (.int .i64)) : Int) + many ≤ 100000000 := by
                have g1 : (mGet es3 (m3, kp, ()) (Ty.dflt (.int .i64)) : Int) = _ := hcm3.eq (m3, kp, ())
                have g2 := hbd (m3, kp, ())
                rw [g1]
                dsimp only [Ty.den]
                split <;> omega
              have hq2' : (0 : Int) ≤ mGet (mEnt es3 clk3 (m3, kp, ())) (m3, kp, ()) (Ty.dflt (.int .i64)) ∧ (mGet (mEnt es3 clk3 (m3, kp, ())) (m3, kp, ()) (Ty.dflt (.int .i64)) : Int) + many ≤ 100000000 := by
                rw [mGet_ent hw3]; exact hq2
              have hcm4 := hcm3.add (m3, kp, ()) many.toNat ⟨hb1, by dsimp only; omega, by dsimp only; omega⟩ (v := (mGet es3 (m3, kp, ()) (Ty.dflt (.int .i64)) : Int) + many) (by
                have g1 : (mGet es3 (m3, kp, ()) (Ty.dflt (.int .i64)) : Int) = _ := hcm3.eq (m3, kp, ())
                rw [g1]; omega)
              have hcm5 := hcm4.congr (c' := fun p => ((bag (done ++ [((em, ek, ()), many, born)])).flatMap (stepC r ne book i (xs.getD i 0))).count p) fun p => by
                rw [far_step, hstep]; exact cnt2 _ _ _ _ _
              have hlt5 : mLeft es ((done ++ [((em, ek, ()), many, born)]).map (·.2.2)) < mLeft es (done.map (·.2.2)) := by simpa using hlt
              have hse : (done ++ [((em, ek, ()), many, born)]).map (fun e : plE => e.2.2) = done.map (fun e : plE => e.2.2) ++ [born] := by simp
              (repeat (first | refine zs rfl ?_ | refine zg rfl rfl rfl ?_ | refine JK.fin ?_ | refine JK.ret ?_ | refine zml mpT rfl rfl rfl rfl ?_ | refine zmi mpT rfl rfl rfl rfl ?_ | refine zmd mpT rfl rfl rfl ?_ | refine zmr mpT rfl rfl rfl ?_ | refine zmm mpT rfl ?_ | refine zeq eqM rfl rfl rfl ?_ | refine zne eqM rfl rfl rfl ?_ | refine zeq eqPl rfl rfl rfl ?_ | refine zne eqPl rfl rfl rfl ?_))
              rw [hmv3]
              refine JK.drawP (xok rfl rfl rfl rfl) (Go.Proofs.Try.f63.body.getD .skip) rfl 8 rfl ?_
              (refine JF.First 0 (xok rfl rfl rfl rfl) rfl rfl ?_; refine JF.First 3 (xok rfl rfl rfl rfl) rfl rfl ?_; refine JF.Float 1 (xok rfl rfl rfl rfl) rfl rfl ?_; refine JF.Branch 2 [5] (xok rfl rfl rfl rfl) ?_ ?_; (focus (repeat (first | exact StF.nil | refine StF.One rfl rfl rfl ?_))); refine BrF.one rfl rfl ?_ (BrF.one rfl rfl ?_ BrF.nil); (· (first | refine JL.Q1 (xok rfl rfl rfl rfl) rfl rfl ?_ | refine JL.G1 (xok rfl rfl rfl rfl) rfl rfl rfl ?_ | refine JL.M1 (xok rfl rfl rfl rfl) rfl rfl ?_ | refine JL.M0 (xok rfl rfl rfl rfl) rfl ?_ | refine JL.Q0 (xok rfl rfl rfl rfl) rfl ?_ | refine JL.MLook mpT rfl rfl rfl rfl ?_ | refine JL.MIns mpT rfl rfl rfl rfl ?_ | refine JL.MEnt mpT rfl rfl rfl rfl ?_ | refine JL.MDel mpT rfl rfl rfl ?_ | refine JL.MRng mpT rfl rfl rfl ?_ | refine JL.mMake mpT rfl ?_ | refine JL.MStoE (by assumption) rfl rfl rfl rfl ?_ | refine JL.EqQ eqM rfl rfl rfl ?_ | refine JL.NeQ eqM rfl rfl rfl ?_ | refine JL.EqQ eqPl rfl rfl rfl ?_ | refine JL.NeQ eqPl rfl rfl rfl ?_); refine JL.finN ?_; refine JF.First 4 (xok rfl rfl rfl rfl) rfl rfl ?_; refine JF.Branch 5 [] (xok rfl rfl rfl rfl) ?_ ?_; (focus (repeat (first | exact StF.nil | refine StF.One rfl rfl rfl ?_))); refine BrF.one rfl rfl ?_ BrF.nil; (· (first | refine JL.Q1 (xok rfl rfl rfl rfl) rfl rfl ?_ | refine JL.G1 (xok rfl rfl rfl rfl) rfl rfl rfl ?_ | refine JL.M1 (xok rfl rfl rfl rfl) rfl rfl ?_ | refine JL.M0 (xok rfl rfl rfl rfl) rfl ?_ | refine JL.Q0 (xok rfl rfl rfl rfl) rfl ?_ | refine JL.MLook mpT rfl rfl rfl rfl ?_ | refine JL.MIns mpT rfl rfl rfl rfl ?_ | refine JL.MEnt mpT rfl rfl rfl rfl ?_ | refine JL.MDel mpT rfl rfl rfl ?_ | refine JL.MRng mpT rfl rfl rfl ?_ | refine JL.mMake mpT rfl ?_ | refine JL.MStoE (by assumption) rfl rfl rfl rfl ?_ | refine JL.EqQ eqM rfl rfl rfl ?_ | refine JL.NeQ eqM rfl rfl rfl ?_ | refine JL.EqQ eqPl rfl rfl rfl ?_ | refine JL.NeQ eqPl rfl rfl rfl ?_); refine JL.finN ?_; refine JF.First 6 (xok rfl rfl rfl rfl) rfl rfl ?_; refine JF.Branch 7 [] (xok rfl rfl rfl rfl) ?_ ?_; (focus (repeat (first | exact StF.nil | refine StF.One rfl rfl rfl ?_))); refine BrF.one rfl rfl ?_ BrF.nil; (· (first | refine JL.Q1 (xok rfl rfl rfl rfl) rfl rfl ?_ | refine JL.G1 (xok rfl rfl rfl rfl) rfl rfl rfl ?_ | refine JL.M1 (xok rfl rfl rfl rfl) rfl rfl ?_ | refine JL.M0 (xok rfl rfl rfl rfl) rfl ?_ | refine JL.Q0 (xok rfl rfl rfl rfl) rfl ?_ | refine JL.MLook mpT rfl rfl rfl rfl ?_ | refine JL.MIns mpT rfl rfl rfl rfl ?_ | refine JL.MEnt mpT rfl rfl rfl rfl ?_ | refine JL.MDel mpT rfl rfl rfl ?_ | refine JL.MRng mpT rfl rfl rfl ?_ | refine JL.mMake mpT rfl ?_ | refine JL.MStoE (by assumption) rfl rfl rfl rfl ?_ | refine JL.EqQ eqM rfl rfl rfl ?_ | refine JL.NeQ eqM rfl rfl rfl ?_ | refine JL.EqQ eqPl rfl rfl rfl ?_ | refine JL.NeQ eqPl rfl rfl rfl ?_); refine JL.finN ?_; refine JF.Done (xok rfl rfl rfl rfl) ?_ ?_; (focus (repeat (first | exact StF.nil | refine StF.One rfl rfl rfl ?_))); (((repeat (first | refine zs rfl ?_ | refine zg rfl rfl rfl ?_ | refine zd ?_ | refine JK.fin ?_ | refine JK.ret ?_ | refine zml mpT rfl rfl rfl rfl ?_ | refine zmi mpT rfl rfl rfl rfl ?_ | refine zmd mpT rfl rfl rfl ?_ | refine zmr mpT rfl rfl rfl ?_ | refine zmm mpT rfl ?_ | refine zeq eqM rfl rfl rfl ?_ | refine zne eqM rfl rfl rfl ?_ | refine zeq eqPl rfl rfl rfl ?_ | refine zne eqPl rfl rfl rfl ?_)); refine ⟨(done ++ [((em, ek, ()), many, born)], _, _, clk), ?_, ⟨hfar', Nat.le_refl _, hcm5⟩, hlt5⟩; dsimp only; rw [hse]; (refine JW.auto rfl ?_ ?_ ?_ ?_ rfl <;> (repeat' (first | exact trivial | exact rfl | refine And.intro ?_ ?_ | exact Nat.le_of_ble_eq_true rfl | refine HO.bdF ?_ | refine HO.bdP ?_ | (refine congrArg (fun z : Int => some (AV.val (.int .i64) z)) ?_; push_cast; omega) | exact congrArg (fun z : Int => some (HO.map plT (.int .i64) (mPut es3 clk3 (m3, kp, ()) z) (mClk es3 clk3 (m3, kp, ())))) (congrArg (fun z : Int => z + many) (mGet_ent hw3)))))))))); (· (first | refine JL.Q1 (xok rfl rfl rfl rfl) rfl rfl ?_ | refine JL.G1 (xok rfl rfl rfl rfl) rfl rfl rfl ?_ | refine JL.M1 (xok rfl rfl rfl rfl) rfl rfl ?_ | refine JL.M0 (xok rfl rfl rfl rfl) rfl ?_ | refine JL.Q0 (xok rfl rfl rfl rfl) rfl ?_ | refine JL.MLook mpT rfl rfl rfl rfl ?_ | refine JL.MIns mpT rfl rfl rfl rfl ?_ | refine JL.MEnt mpT rfl rfl rfl rfl ?_ | refine JL.MDel mpT rfl rfl rfl ?_ | refine JL.MRng mpT rfl rfl rfl ?_ | refine JL.mMake mpT rfl ?_ | refine JL.MStoE (by assumption) rfl rfl rfl rfl ?_ | refine JL.EqQ eqM rfl rfl rfl ?_ | refine JL.NeQ eqM rfl rfl rfl ?_ | refine JL.EqQ eqPl rfl rfl rfl ?_ | refine JL.NeQ eqPl rfl rfl rfl ?_); refine JL.finN ?_; refine JF.First 6 (xok rfl rfl rfl rfl) rfl rfl ?_; refine JF.Branch 2 [] (xok rfl rfl rfl rfl) ?_ ?_; (focus (repeat (first | exact StF.nil | refine StF.One rfl rfl rfl ?_))); refine BrF.one rfl rfl ?_ BrF.nil; (· (first | refine JL.Q1 (xok rfl rfl rfl rfl) rfl rfl ?_ | refine JL.G1 (xok rfl rfl rfl rfl) rfl rfl rfl ?_ | refine JL.M1 (xok rfl rfl rfl rfl) rfl rfl ?_ | refine JL.M0 (xok rfl rfl rfl rfl) rfl ?_ | refine JL.Q0 (xok rfl rfl rfl rfl) rfl ?_ | refine JL.MLook mpT rfl rfl rfl rfl ?_ | refine JL.MIns mpT rfl rfl rfl rfl ?_ | refine JL.MEnt mpT rfl rfl rfl rfl ?_ | refine JL.MDel mpT rfl rfl rfl ?_ | refine JL.MRng mpT rfl rfl rfl ?_ | refine JL.mMake mpT rfl ?_ | refine JL.MStoE (by assumption) rfl rfl rfl rfl ?_ | refine JL.EqQ eqM rfl rfl rfl ?_ | refine JL.NeQ eqM rfl rfl rfl ?_ | refine JL.EqQ eqPl rfl rfl rfl ?_ | refine JL.NeQ eqPl rfl rfl rfl ?_); refine JL.finN ?_; refine JF.First 4 (xok rfl rfl rfl rfl) rfl rfl ?_; refine JF.Branch 7 [] (xok rfl rfl rfl rfl) ?_ ?_; (focus (repeat (first | exact StF.nil | refine StF.One rfl rfl rfl ?_))); refine BrF.one rfl rfl ?_ BrF.nil; (· (first | refine JL.Q1 (xok rfl rfl rfl rfl) rfl rfl ?_ | refine JL.G1 (xok rfl rfl rfl rfl) rfl rfl rfl ?_ | refine JL.M1 (xok rfl rfl rfl rfl) rfl rfl ?_ | refine JL.M0 (xok rfl rfl rfl rfl) rfl ?_ | refine JL.Q0 (xok rfl rfl rfl rfl) rfl ?_ | refine JL.MLook mpT rfl rfl rfl rfl ?_ | refine JL.MIns mpT rfl rfl rfl rfl ?_ | refine JL.MEnt mpT rfl rfl rfl rfl ?_ | refine JL.MDel mpT rfl rfl rfl ?_ | refine JL.MRng mpT rfl rfl rfl ?_ | refine JL.mMake mpT rfl ?_ | refine JL.MStoE (by assumption) rfl rfl rfl rfl ?_ | refine JL.EqQ eqM rfl rfl rfl ?_ | refine JL.NeQ eqM rfl rfl rfl ?_ | refine JL.EqQ eqPl rfl rfl rfl ?_ | refine JL.NeQ eqPl rfl rfl rfl ?_); refine JL.finN ?_; refine JF.Done (xok rfl rfl rfl rfl) ?_ ?_; (focus (repeat (first | exact StF.nil | refine StF.One rfl rfl rfl ?_))); (((repeat (first | refine zs rfl ?_ | refine zg rfl rfl rfl ?_ | refine zd ?_ | refine JK.fin ?_ | refine JK.ret ?_ | refine zml mpT rfl rfl rfl rfl ?_ | refine zmi mpT rfl rfl rfl rfl ?_ | refine zmd mpT rfl rfl rfl ?_ | refine zmr mpT rfl rfl rfl ?_ | refine zmm mpT rfl ?_ | refine zeq eqM rfl rfl rfl ?_ | refine zne eqM rfl rfl rfl ?_ | refine zeq eqPl rfl rfl rfl ?_ | refine zne eqPl rfl rfl rfl ?_)); refine ⟨(done ++ [((em, ek, ()), many, born)], _, _, clk), ?_, ⟨hfar', Nat.le_refl _, hcm5⟩, hlt5⟩; dsimp only; rw [hse]; (refine JW.auto rfl ?_ ?_ ?_ ?_ rfl <;> (repeat' (first | exact trivial | exact rfl | refine And.intro ?_ ?_ | exact Nat.le_of_ble_eq_true rfl | refine HO.bdF ?_ | refine HO.bdP ?_ | (refine congrArg (fun z : Int => some (AV.val (.int .i64) z)) ?_; push_cast; omega) | exact congrArg (fun z : Int => some (HO.map plT (.int .i64) (mPut es3 clk3 (m3, kp, ()) z) (mClk es3 clk3 (m3, kp, ())))) (congrArg (fun z : Int => z + many) (mGet_ent hw3)))))))))))
            · (simp only [↓bif_or, ↓bif_and, ↓Bool.or_eq_true, ↓Bool.or_eq_false_iff, ↓Bool.and_eq_true, ↓Bool.and_eq_false_iff, ↓Bool.not_eq_true', ↓Bool.not_eq_false', ↓decide_eq_true_eq, ↓decide_eq_false_iff_not, ↓beq_iff_eq, ↓bne_iff_ne, ↓bne_eq_false_iff_eq, ↓ne_eq, ↓beq_eq_false_iff_ne, ↓Bool.not_eq_true] at hn; try simp only [Ty.dflt, Int.toNat_natCast] at hn)
              rw [if_neg (by omega)] at hstep
              (repeat (first | refine zs rfl ?_ | refine zg rfl rfl rfl ?_ | refine zd ?_ | refine JK.fin ?_ | refine JK.ret ?_ | refine zml mpT rfl rfl rfl rfl ?_ | refine zmi mpT rfl rfl rfl rfl ?_ | refine zmd mpT rfl rfl rfl ?_ | refine zmr mpT rfl rfl rfl ?_ | refine zmm mpT rfl ?_ | refine zeq eqM rfl rfl rfl ?_ | refine zne eqM rfl rfl rfl ?_ | refine zeq eqPl rfl rfl rfl ?_ | refine zne eqPl rfl rfl rfl ?_))
              refine ⟨(done ++ [((em, ek, ()), many, born)], _, _, clk), by (refine JW.auto rfl ?_ ?_ ?_ ?_ rfl <;> (repeat' (first | exact trivial | exact rfl | refine And.intro ?_ ?_ | exact Nat.le_of_ble_eq_true rfl | refine HO.bdF ?_ | refine HO.bdP ?_ | (refine congrArg (fun z : Int => some (AV.val (.int .i64) z)) ?_; push_cast; omega) | (simp)))), ⟨hfar', Nat.le_refl _, hcm3.congr fun p => ?_⟩, by simpa using hlt⟩
              rw [far_step, hstep]; exact cnt1 _ _ _ _
  · (simp only [↓bif_or, ↓bif_and, ↓Bool.or_eq_true, ↓Bool.or_eq_false_iff, ↓Bool.and_eq_true, ↓Bool.and_eq_false_iff, ↓Bool.not_eq_true', ↓Bool.not_eq_false', ↓decide_eq_true_eq, ↓decide_eq_false_iff_not, ↓beq_iff_eq, ↓bne_iff_ne, ↓bne_eq_false_iff_eq, ↓ne_eq, ↓beq_eq_false_iff_ne, ↓Bool.not_eq_true] at hc; try simp only [Ty.dflt, Int.toNat_natCast] at hc)
    obtain rfl : i = xs.length := by omega
    (repeat (first | refine zs rfl ?_ | refine zg rfl rfl rfl ?_ | refine zd ?_ | refine JK.fin ?_ | refine JK.ret ?_ | refine zml mpT rfl rfl rfl rfl ?_ | refine zmi mpT rfl rfl rfl rfl ?_ | refine zmd mpT rfl rfl rfl ?_ | refine zmr mpT rfl rfl rfl ?_ | refine zmm mpT rfl ?_ | refine zeq eqM rfl rfl rfl ?_ | refine zne eqM rfl rfl rfl ?_ | refine zeq eqPl rfl rfl rfl ?_ | refine zne eqPl rfl rfl rfl ?_))
    refine JK.loop (σ := List Nat × Nat) (fun q => ⟨[(14, .lf (.optr 0 [])), (136, .lf (.itr 2))],
        [(0, .cell plT (.val plT (zero8, most, ()))), (1, .map plT (.int .i64) es clk), (2, .iter 1 clk q.1 q.2)], 3⟩)
      (fun q => clk ≤ q.2 ∧ ∀ e ∈ es, e.2.2 ∈ q.1 → (e.1 : plD) ≠ (zero8, most, ())) (fun q => mLeft es q.1) ([], clk) ⟨Nat.le_refl _, fun _ _ h => by cases h⟩ (by (exact JW.Auto rfl)) fun q hq => ?_
    obtain ⟨seen, last⟩ := q
    obtain ⟨hlast, hseen⟩ := hq
    dsimp only at hlast hseen
    have hend : countS r xs ne book = mGet es (zero8, most, ()) (0 : Int) := by rw [countS, hmv]; exact (hcm.eq (zero8, most, ())).symm
    (repeat (first | refine zs rfl ?_ | refine zg rfl rfl rfl ?_ | refine zd ?_ | refine JK.fin ?_ | refine JK.ret ?_ | refine zml mpT rfl rfl rfl rfl ?_ | refine zmi mpT rfl rfl rfl rfl ?_ | refine zmd mpT rfl rfl rfl ?_ | refine zmr mpT rfl rfl rfl ?_ | refine zmm mpT rfl ?_ | refine zeq eqM rfl rfl rfl ?_ | refine zne eqM rfl rfl rfl ?_ | refine zeq eqPl rfl rfl rfl ?_ | refine zne eqPl rfl rfl rfl ?_))
    refine JK.nxt rfl rfl rfl hcm.wf.lt hlast rfl (fun hall => ?_) (fun e he hes => ?_)
    · (repeat (first | refine zs rfl ?_ | refine zg rfl rfl rfl ?_ | refine zd ?_ | refine JK.fin ?_ | refine JK.ret ?_ | refine zml mpT rfl rfl rfl rfl ?_ | refine zmi mpT rfl rfl rfl rfl ?_ | refine zmd mpT rfl rfl rfl ?_ | refine zmr mpT rfl rfl rfl ?_ | refine zmm mpT rfl ?_ | refine zeq eqM rfl rfl rfl ?_ | refine zne eqM rfl rfl rfl ?_ | refine zeq eqPl rfl rfl rfl ?_ | refine zne eqPl rfl rfl rfl ?_))
      refine JK.cond rfl (fun hc => absurd hc (by decide)) (fun _ => ?_)
      (repeat (first | refine zs rfl ?_ | refine zg rfl rfl rfl ?_ | refine zd ?_ | refine JK.fin ?_ | refine JK.ret ?_ | refine zml mpT rfl rfl rfl rfl ?_ | refine zmi mpT rfl rfl rfl rfl ?_ | refine zmd mpT rfl rfl rfl ?_ | refine zmr mpT rfl rfl rfl ?_ | refine zmm mpT rfl ?_ | refine zeq eqM rfl rfl rfl ?_ | refine zne eqM rfl rfl rfl ?_ | refine zeq eqPl rfl rfl rfl ?_ | refine zne eqPl rfl rfl rfl ?_))
      refine ⟨.inl rfl, _, _, rfl, trivial, ?_⟩
      rw [hend]
      exact congrArg vI (mGet_not fun e he => hseen e he (hall e he)).symm
    · have hlt := mLeft_lt he hes
      obtain ⟨em, ek, many, born, rfl⟩ : ∃ (em : List Int) (ek many : Int) (born : Nat), e = ((em, ek, ()), many, born) := ⟨e.1.1, e.1.2.1, e.2.1, e.2.2, rfl⟩
      (repeat (first | refine zs rfl ?_ | refine zg rfl rfl rfl ?_ | refine zd ?_ | refine JK.fin ?_ | refine JK.ret ?_ | refine zml mpT rfl rfl rfl rfl ?_ | refine zmi mpT rfl rfl rfl rfl ?_ | refine zmd mpT rfl rfl rfl ?_ | refine zmr mpT rfl rfl rfl ?_ | refine zmm mpT rfl ?_ | refine zeq eqM rfl rfl rfl ?_ | refine zne eqM rfl rfl rfl ?_ | refine zeq eqPl rfl rfl rfl ?_ | refine zne eqPl rfl rfl rfl ?_))
      refine JK.cond rfl (fun _ => ?_) (fun hc => absurd hc (by decide))
      (repeat (first | refine zs rfl ?_ | refine zg rfl rfl rfl ?_ | refine zd ?_ | refine JK.fin ?_ | refine JK.ret ?_ | refine zml mpT rfl rfl rfl rfl ?_ | refine zmi mpT rfl rfl rfl rfl ?_ | refine zmd mpT rfl rfl rfl ?_ | refine zmr mpT rfl rfl rfl ?_ | refine zmm mpT rfl ?_ | refine zeq eqM rfl rfl rfl ?_ | refine zne eqM rfl rfl rfl ?_ | refine zeq eqPl rfl rfl rfl ?_ | refine zne eqPl rfl rfl rfl ?_))
      refine JK.etr rfl rfl rfl rfl rfl he hcm.wf rfl ?_
      (repeat (first | refine zs rfl ?_ | refine zg rfl rfl rfl ?_ | refine zd ?_ | refine JK.fin ?_ | refine JK.ret ?_ | refine zml mpT rfl rfl rfl rfl ?_ | refine zmi mpT rfl rfl rfl rfl ?_ | refine zmd mpT rfl rfl rfl ?_ | refine zmr mpT rfl rfl rfl ?_ | refine zmm mpT rfl ?_ | refine zeq eqM rfl rfl rfl ?_ | refine zne eqM rfl rfl rfl ?_ | refine zeq eqPl rfl rfl rfl ?_ | refine zne eqPl rfl rfl rfl ?_))
      refine JK.cond rfl (fun hf => ?_) (fun hf => ?_)
      · have hf' : ((em, ek, ()) : plD) = (zero8, most, ()) := Ty.eqB_iff.1 hf
        (repeat (first | refine zs rfl ?_ | refine zg rfl rfl rfl ?_ | refine zd ?_ | refine JK.fin ?_ | refine JK.ret ?_ | refine zml mpT rfl rfl rfl rfl ?_ | refine zmi mpT rfl rfl rfl rfl ?_ | refine zmd mpT rfl rfl rfl ?_ | refine zmr mpT rfl rfl rfl ?_ | refine zmm mpT rfl ?_ | refine zeq eqM rfl rfl rfl ?_ | refine zne eqM rfl rfl rfl ?_ | refine zeq eqPl rfl rfl rfl ?_ | refine zne eqPl rfl rfl rfl ?_))
        refine ⟨.inl rfl, _, _, rfl, trivial, ?_⟩
        rw [hend, ← hf']
        exact congrArg vI (mGet_mem hcm.wf he).symm
      · have hf' : ((em, ek, ()) : plD) ≠ (zero8, most, ()) := fun h => by
          have h2 := Ty.eqB_iff (t := plT).2 h
          rw [show plT.eqB (em, ek, ()) (zero8, most, ()) = false from hf] at h2; cases h2
        (repeat (first | refine zs rfl ?_ | refine zg rfl rfl rfl ?_ | refine zd ?_ | refine JK.fin ?_ | refine JK.ret ?_ | refine zml mpT rfl rfl rfl rfl ?_ | refine zmi mpT rfl rfl rfl rfl ?_ | refine zmd mpT rfl rfl rfl ?_ | refine zmr mpT rfl rfl rfl ?_ | refine zmm mpT rfl ?_ | refine zeq eqM rfl rfl rfl ?_ | refine zne eqM rfl rfl rfl ?_ | refine zeq eqPl rfl rfl rfl ?_ | refine zne eqPl rfl rfl rfl ?_))
        refine ⟨(seen ++ [born], clk), by (exact JW.Auto rfl), ⟨Nat.le_refl _, fun a ha hs => ?_⟩, hlt⟩
        rcases List.mem_append.1 hs with hs | hs
        · exact hseen a ha hs
        · rw [hcm.wf.eqb ha he (List.mem_singleton.1 hs)]; exact hf'
end Go.Proofs.Ytbmgijgnbilnoaa

namespace Go.Proofs.Ytbmgijgnbilnoaa
open Go Go.RowKit Ox
attribute [local irreducible] JC JL JK JW

/-- The blocks that are marked, from the k-th on. -/
def bitsF : List Int → Nat → List Int
  | [], _ => []
  | x :: r, k => if x = 1 then (k : Int) :: bitsF r (k + 1) else bitsF r (k + 1)
abbrev ben0 : ben := (zero8, false, ())
def benchS (r : Int) (xs plan : List Int) (book : Int) : List Int := if playedE r xs plan [book] = 0 then bitsF ((playS r xs plan).getD book.toNat ben0).1 0 else []

theorem fn25 (r : Int) (xs plan : List Int) (book : Int) : Ox.Fn Go.Proofs.Try.prog 25 (.acons (vD r xs) (.acons (vL plan) (.acons (vI book) .anil))) (· = .tup (.acons (vL (benchS r xs plan book)) (.acons (vI (playedE r xs plan [book])) .anil))) := by
  refine Ox.Fn.intro xok Go.Proofs.Try.func25 rfl Go.Proofs.Try.call25 (Nat.le_of_ble_eq_true rfl) (fun E M0 up => ?_)
  refine JK.start ?_
  by_cases ho : playedE r xs plan [book] = 0
  · obtain ⟨ho1, hpl, hge⟩ := playedE_valid ho
    obtain ⟨hv, hbk⟩ := openE_valid ho1
    obtain ⟨hr, hl, hx⟩ := dayErr_zero.1 hv
    have hsl := playS_len r xs plan
    have hb := hbk book (by simp)
    rw [ho]
    rw [benchS, if_pos ho]
    have hcall := fn50ok r xs plan (book :: List.nil) ho
    (repeat (first | refine zs rfl ?_ | refine zg rfl rfl rfl ?_ | refine zd ?_ | refine JK.fin ?_ | refine JK.ret ?_))
    (refine JK.frzL [1] [2,3,14,15,17] rfl (by (first | exact trivial | (try dsimp only [allP, inK, idxC, loC, lohiC, fullC, underG, List.append, List.nil_append, List.cons_append, Ty.den, Ty.dflt, Int.toNat_natCast, List.length_cons, List.length_nil] at *); first | omega | ((repeat' (first | exact trivial | assumption | refine And.intro ?_ ?_ | exact fun h => h | (intro hpk; first | exact hpk | simp only [wantB, hpk, Bool.not_false, Bool.not_true]))) <;> omega) | fail)) ?_)
    (repeat (first | refine zs rfl ?_ | refine zg rfl rfl rfl ?_ | refine zd ?_ | refine JK.fin ?_ | refine JK.ret ?_ | refine zc rfl (hcall) rfl rfl ?_ | refine ze rfl (hcall) rfl ?_ | refine zk rfl rfl (fun _ => hcall) rfl rfl ?_))
    refine JK.cond rfl (fun hc => absurd hc (by decide)) (fun _ => ?_)
    have hlt : book < (playS r xs plan).length := by omega
    (repeat (first | refine zs rfl ?_ | refine zg rfl rfl rfl ?_ | refine zd ?_ | refine JK.fin ?_ | refine JK.ret ?_))
    refine JK.ghost 10 3 (.int .i64) rfl ?_
    refine JK.lenOf 28 rfl fun h8 => ?_
    replace h8 : ((playS r xs plan).getD book.toNat ben0).1.length = 8 := h8.1
    generalize hm : (playS r xs plan).getD book.toNat ben0 = mb at h8
    refine JK.loop (σ := Nat × List Int) (fun q => ⟨[(10, .lf (.osl 1)), (28, vM mb.1), (29, vI (q.1 : Int))], [(1, .sl 3 (.int .i64) q.2)], 2⟩)
      (fun q => q.1 ≤ 8 ∧ q.2.length ≤ q.1 ∧ q.2 ++ bitsF (mb.1.drop q.1) q.1 = bitsF mb.1 0) (fun q => 8 - q.1) (0, []) ⟨by simp, by simp, rfl⟩ (by subst hm; (exact JW.Auto rfl)) fun q hq => ?_
    obtain ⟨i, out⟩ := q
    obtain ⟨hi, hol, hinv⟩ := hq
    dsimp only at hi hol hinv
    (repeat (first | refine zs rfl ?_ | refine zg rfl rfl rfl ?_ | refine zd ?_ | refine JK.fin ?_ | refine JK.ret ?_))
    refine JK.cond rfl (fun hc => ?_) (fun hc => ?_)
    · (simp only [↓bif_or, ↓bif_and, ↓Bool.or_eq_true, ↓Bool.or_eq_false_iff, ↓Bool.and_eq_true, ↓Bool.and_eq_false_iff, ↓Bool.not_eq_true', ↓Bool.not_eq_false', ↓decide_eq_true_eq, ↓decide_eq_false_iff_not, ↓beq_iff_eq, ↓bne_iff_ne, ↓bne_eq_false_iff_eq, ↓ne_eq, ↓beq_eq_false_iff_ne, ↓Bool.not_eq_true] at hc; try simp only [Ty.dflt, Int.toNat_natCast] at hc)
      have hi' : i < mb.1.length := by omega
      have hg := getD_nat mb.1 hi' 0
      rw [List.drop_eq_getElem_cons hi', bitsF, ← hg] at hinv
      (repeat (first | refine zs rfl ?_ | refine zg rfl rfl rfl ?_ | refine zd ?_ | refine JK.fin ?_ | refine JK.ret ?_))
      refine JK.cond rfl (fun hd => ?_) (fun hd => ?_)
      · (simp only [↓bif_or, ↓bif_and, ↓Bool.or_eq_true, ↓Bool.or_eq_false_iff, ↓Bool.and_eq_true, ↓Bool.and_eq_false_iff, ↓Bool.not_eq_true', ↓Bool.not_eq_false', ↓decide_eq_true_eq, ↓decide_eq_false_iff_not, ↓beq_iff_eq, ↓bne_iff_ne, ↓bne_eq_false_iff_eq, ↓ne_eq, ↓beq_eq_false_iff_ne, ↓Bool.not_eq_true] at hd; try simp only [Ty.dflt, Int.toNat_natCast] at hd)
        rw [if_pos hd] at hinv
        (repeat (first | refine zs rfl ?_ | refine zg rfl rfl rfl ?_ | refine zd ?_ | refine JK.fin ?_ | refine JK.ret ?_))
        refine ⟨(i + 1, out ++ [(i : Int)]), by (exact JW.Auto rfl), ⟨by omega, by simp; omega, ?_⟩, by dsimp only; omega⟩
        rw [List.append_assoc]; exact hinv
      · (simp only [↓bif_or, ↓bif_and, ↓Bool.or_eq_true, ↓Bool.or_eq_false_iff, ↓Bool.and_eq_true, ↓Bool.and_eq_false_iff, ↓Bool.not_eq_true', ↓Bool.not_eq_false', ↓decide_eq_true_eq, ↓decide_eq_false_iff_not, ↓beq_iff_eq, ↓bne_iff_ne, ↓bne_eq_false_iff_eq, ↓ne_eq, ↓beq_eq_false_iff_ne, ↓Bool.not_eq_true] at hd; try simp only [Ty.dflt, Int.toNat_natCast] at hd)
        rw [if_neg hd] at hinv
        (repeat (first | refine zs rfl ?_ | refine zg rfl rfl rfl ?_ | refine zd ?_ | refine JK.fin ?_ | refine JK.ret ?_))
        exact ⟨(i + 1, out), by (exact JW.Auto rfl), ⟨by omega, by dsimp only; omega, hinv⟩, by dsimp only; omega⟩
    · (simp only [↓bif_or, ↓bif_and, ↓Bool.or_eq_true, ↓Bool.or_eq_false_iff, ↓Bool.and_eq_true, ↓Bool.and_eq_false_iff, ↓Bool.not_eq_true', ↓Bool.not_eq_false', ↓decide_eq_true_eq, ↓decide_eq_false_iff_not, ↓beq_iff_eq, ↓bne_iff_ne, ↓bne_eq_false_iff_eq, ↓ne_eq, ↓beq_eq_false_iff_ne, ↓Bool.not_eq_true] at hc; try simp only [Ty.dflt, Int.toNat_natCast] at hc)
      (repeat (first | refine zs rfl ?_ | refine zg rfl rfl rfl ?_ | refine zd ?_ | refine JK.fin ?_ | refine JK.ret ?_))
      obtain rfl : i = 8 := by omega
      refine ⟨.inl rfl, _, _, rfl, trivial, ?_⟩
      rw [← h8, List.drop_length, bitsF, List.append_nil] at hinv
      rw [hinv]
  · have hcall := fn50er r xs plan (book :: List.nil) ho
    (repeat (first | refine zs rfl ?_ | refine zg rfl rfl rfl ?_ | refine zd ?_ | refine JK.fin ?_ | refine JK.ret ?_))
    (refine JK.frzL [1] [2,3,14,15,17] rfl (by (first | exact trivial | (try dsimp only [allP, inK, idxC, loC, lohiC, fullC, underG, List.append, List.nil_append, List.cons_append, Ty.den, Ty.dflt, Int.toNat_natCast, List.length_cons, List.length_nil] at *); first | omega | ((repeat' (first | exact trivial | assumption | refine And.intro ?_ ?_ | exact fun h => h | (intro hpk; first | exact hpk | simp only [wantB, hpk, Bool.not_false, Bool.not_true]))) <;> omega) | fail)) ?_)
    (repeat (first | refine zs rfl ?_ | refine zg rfl rfl rfl ?_ | refine zd ?_ | refine JK.fin ?_ | refine JK.ret ?_ | refine zc rfl (hcall) rfl rfl ?_ | refine ze rfl (hcall) rfl ?_ | refine zk rfl rfl (fun _ => hcall) rfl rfl ?_))
    refine JK.cond rfl (fun hc => ?_) (fun hc => ?_)
    · (repeat (first | refine zs rfl ?_ | refine zg rfl rfl rfl ?_ | refine zd ?_ | refine JK.fin ?_ | refine JK.ret ?_))
      refine ⟨.inl rfl, _, _, rfl, trivial, ?_⟩
      rw [benchS, if_neg ho]
    · (simp only [↓bif_or, ↓bif_and, ↓Bool.or_eq_true, ↓Bool.or_eq_false_iff, ↓Bool.and_eq_true, ↓Bool.and_eq_false_iff, ↓Bool.not_eq_true', ↓Bool.not_eq_false', ↓decide_eq_true_eq, ↓decide_eq_false_iff_not, ↓beq_iff_eq, ↓bne_iff_ne, ↓bne_eq_false_iff_eq, ↓ne_eq, ↓beq_eq_false_iff_ne, ↓Bool.not_eq_true] at hc; try simp only [Ty.dflt, Int.toNat_natCast] at hc)
      exact absurd hc ho

abbrev vT3 (a : List Int) (b c : Int) : AV := .tup (.acons (vL a) (.acons (vI b) (.acons (vI c) .anil)))
def bestS (r : Int) (xs : List Int) : List Int × Int × Int := if dayErr r xs = 0 then (planS r xs, ((playS r xs (planS r xs)).countP (fun x => !x.2.1) : Nat), 0) else ([], 0, dayErr r xs)

theorem openE_nil (r : Int) (xs : List Int) : openE r xs [] = dayErr r xs := by
  rw [openE]
  by_cases h : dayErr r xs = 0
  · rw [if_neg (by simpa using h), if_pos (by simp), h]
  · rw [if_pos h]

theorem planF_len (r : Int) (xs : List Int) : ∀ n i m, (planF r xs n i m).length = n
  | 0, _, _ => rfl
  | n + 1, i, m => by
    rw [planF]
    split <;> simp [planF_len r xs n]
theorem planS_len (r : Int) (xs : List Int) : (planS r xs).length = xs.length := planF_len r xs _ _ _

theorem fn28 (r : Int) (xs : List Int) : Ox.Fn Go.Proofs.Try.prog 28 (.acons (vD r xs) .anil) (· = vT3 (bestS r xs).1 (bestS r xs).2.1 (bestS r xs).2.2) := by
  refine Ox.Fn.intro xok Go.Proofs.Try.func28 rfl Go.Proofs.Try.call28 (Nat.le_of_ble_eq_true rfl) (fun E M0 up => ?_)
  refine JK.start ?_
  have hon := openE_nil r xs
  by_cases ho : dayErr r xs = 0
  · obtain ⟨hr, hl, hx⟩ := dayErr_zero.1 ho
    have hpl := planS_len r xs
    rw [bestS, if_pos ho]
    (repeat (first | refine zs rfl ?_ | refine zg rfl rfl rfl ?_ | refine zd ?_ | refine JK.fin ?_ | refine JK.ret ?_ | refine zc rfl (fn46ok r xs List.nil (hon.trans ho)) rfl rfl ?_ | refine ze rfl (fn46ok r xs List.nil (hon.trans ho)) rfl ?_ | refine zk rfl rfl (fun _ => fn46ok r xs List.nil (hon.trans ho)) rfl rfl ?_))
    refine JK.cond rfl (fun hc => absurd hc (by decide)) (fun _ => ?_)
    (repeat (first | refine zs rfl ?_ | refine zg rfl rfl rfl ?_ | refine zd ?_ | refine JK.fin ?_ | refine JK.ret ?_ | refine zc rfl (fn54 r xs (lasts xs xs.length) (nexts xs xs.length) hr.1 hx (by omega)) rfl rfl ?_ | refine ze rfl (fn54 r xs (lasts xs xs.length) (nexts xs xs.length) hr.1 hx (by omega)) rfl ?_ | refine zk rfl rfl (fun _ => fn54 r xs (lasts xs xs.length) (nexts xs xs.length) hr.1 hx (by omega)) rfl rfl ?_))
    have hf55 := fn55 r xs (lasts xs xs.length) (nexts xs xs.length) (planS r xs) hx (by omega) hpl
    (repeat (first | refine zs rfl ?_ | refine zg rfl rfl rfl ?_ | refine zd ?_ | refine JK.fin ?_ | refine JK.ret ?_ | refine zc rfl (hf55) rfl rfl ?_ | refine ze rfl (hf55) rfl ?_ | refine zk rfl rfl (fun _ => hf55) rfl rfl ?_ | refine zc rfl (fn51 _) rfl rfl ?_ | refine ze rfl (fn51 _) rfl ?_ | refine zk rfl rfl (fun _ => fn51 _) rfl rfl ?_))
    refine zs rfl ?_ (by show (planS r xs).length = (List.replicate (Int.toNat ((planS r xs).length : Int)) _).length; simp)
    (repeat (first | refine zs rfl ?_ | refine zg rfl rfl rfl ?_ | refine zd ?_ | refine JK.fin ?_ | refine JK.ret ?_ | refine zc rfl (hf55) rfl rfl ?_ | refine ze rfl (hf55) rfl ?_ | refine zk rfl rfl (fun _ => hf55) rfl rfl ?_ | refine zc rfl (fn51 _) rfl rfl ?_ | refine ze rfl (fn51 _) rfl ?_ | refine zk rfl rfl (fun _ => fn51 _) rfl rfl ?_))
    refine ⟨.inl rfl, _, _, rfl, trivial, ?_⟩
    rfl
  · have her := fn46er r xs List.nil (by rw [hon]; exact ho)
    (repeat (first | refine zs rfl ?_ | refine zg rfl rfl rfl ?_ | refine zd ?_ | refine JK.fin ?_ | refine JK.ret ?_ | refine zc rfl (her) rfl rfl ?_ | refine ze rfl (her) rfl ?_ | refine zk rfl rfl (fun _ => her) rfl rfl ?_))
    refine JK.cond rfl (fun hc => ?_) (fun hc => ?_)
    · (repeat (first | refine zs rfl ?_ | refine zg rfl rfl rfl ?_ | refine zd ?_ | refine JK.fin ?_ | refine JK.ret ?_))
      refine ⟨.inl rfl, _, _, rfl, trivial, ?_⟩
      rw [bestS, if_neg ho, hon]
    · (simp only [↓bif_or, ↓bif_and, ↓Bool.or_eq_true, ↓Bool.or_eq_false_iff, ↓Bool.and_eq_true, ↓Bool.and_eq_false_iff, ↓Bool.not_eq_true', ↓Bool.not_eq_false', ↓decide_eq_true_eq, ↓decide_eq_false_iff_not, ↓beq_iff_eq, ↓bne_iff_ne, ↓bne_eq_false_iff_eq, ↓ne_eq, ↓beq_eq_false_iff_ne, ↓Bool.not_eq_true] at hc; try simp only [Ty.dflt, Int.toNat_natCast] at hc)
      exact absurd (hon.symm.trans hc) ho
/-- Whether moments come one after another, from 'next' on. -/
def incrF (n : Int) : List Int → Int → Bool
  | [], _ => true
  | t :: r, next => decide (next ≤ t ∧ t ≤ n - 1) && incrF n r (t + 1)
def cntF (la ts : List Int) (i : Nat) : Nat := (List.range i).countP fun i => decide (0 ≤ la.getD i 0) && ts.any fun t => decide (la.getD i 0 < t ∧ t < (i : Int))
theorem cntF_le (la ts : List Int) (i : Nat) : cntF la ts i ≤ i := by
  have := List.countP_le_length (p := fun i => decide (0 ≤ la.getD i 0) && ts.any fun t => decide (la.getD i 0 < t ∧ t < (i : Int))) (l := List.range i)
  simp only [List.length_range] at this
  exact this
theorem cntF_zero (la ts : List Int) : cntF la ts 0 = 0 := rfl
theorem cntF_yes {la ts : List Int} {i : Nat} (h1 : 0 ≤ la.getD i 0) (h2 : (ts.any fun t => decide (la.getD i 0 < t ∧ t < (i : Int))) = true) : cntF la ts (i + 1) = cntF la ts i + 1 := by
  rw [cntF, List.range_succ, List.countP_append, List.countP_cons, List.countP_nil, if_pos (by rw [h2, decide_eq_true h1]; rfl)]; rfl
theorem cntF_no {la ts : List Int} {i : Nat} (h : ¬ (0 ≤ la.getD i 0 ∧ (ts.any fun t => decide (la.getD i 0 < t ∧ t < (i : Int))) = true)) : cntF la ts (i + 1) = cntF la ts i := by
  rw [cntF, List.range_succ, List.countP_append, List.countP_cons, List.countP_nil, if_neg (by simpa using h)]; rfl
def momV (r : Int) (xs la ts : List Int) : Int :=
  ((la.countP (decide <| · < 0) : Nat) : Int) - (r - 1) * ts.length + (cntF la ts xs.length : Nat)
def momS (r : Int) (xs ts : List Int) : Int × Int :=
  if dayErr r xs ≠ 0 then (0, dayErr r xs) else if incrF xs.length ts 0 = true then (momV r xs (lasts xs xs.length) ts, 0) else (0, 3)

theorem incrF_len {n : Int} : ∀ {ts : List Int} {next : Int}, 0 ≤ next → incrF n ts next = true → next ≤ n → (ts.length : Int) ≤ n - next
  | [], next, h0, h, hn => by simp; omega
  | t :: r, next, h0, h, hn => by
    simp only [incrF, Bool.and_eq_true, decide_eq_true_eq] at h
    have := incrF_len (by omega) h.2 (by omega)
    simp only [List.length_cons]; omega

set_option maxHeartbeats 1000000 in
theorem fn32 (r : Int) (xs ts : List Int) : Ox.Fn Go.Proofs.Try.prog 32 (.acons (vD r xs) (.acons (vL ts) .anil)) (· = vT2 (momS r xs ts).1 (momS r xs ts).2) := by
  refine Ox.Fn.intro xok Go.Proofs.Try.func32 rfl Go.Proofs.Try.call32 (Nat.le_of_ble_eq_true rfl) (fun E M0 up => ?_)
  refine JK.start ?_
  refine JK.lenOf 1 rfl fun hlen2 => ?_
  replace hlen2 : ts.length ≤ 9223372036854775807 := hlen2.1
  have hon := openE_nil r xs
  by_cases ho : dayErr r xs = 0
  · obtain ⟨hr, hl, hx⟩ := dayErr_zero.1 ho
    rw [momS, if_neg (by simpa using ho)]
    (repeat (first | refine zs rfl ?_ | refine zg rfl rfl rfl ?_ | refine zd ?_ | refine JK.fin ?_ | refine JK.ret ?_ | refine zc rfl (fn46ok r xs List.nil (hon.trans ho)) rfl rfl ?_ | refine ze rfl (fn46ok r xs List.nil (hon.trans ho)) rfl ?_ | refine zk rfl rfl (fun _ => fn46ok r xs List.nil (hon.trans ho)) rfl rfl ?_))
    refine JK.cond rfl (fun hc => absurd hc (by decide)) (fun _ => ?_)
    have hll := lasts_length xs xs.length
    (repeat (first | refine zs rfl ?_ | refine zg rfl rfl rfl ?_ | refine zd ?_ | refine JK.fin ?_ | refine JK.ret ?_))
    generalize hla : lasts xs xs.length = la at hll
    generalize hne : nexts xs xs.length = ne
    refine JK.loop (σ := Nat × Int) (fun q => ⟨[(1, vL ts), (2, .lf (.optr 0 [])), (6, .lf (.optr 1 [])), (8, vI q.2), (21, vL ts), (22, vI ts.length), (23, vI (q.1 : Int))], [(0, .cell dayT (vD r xs)), (1, .cell (.ptr binT) (vB0 r xs la ne))], 2⟩)
      (fun q => q.1 ≤ ts.length ∧ 0 ≤ q.2 ∧ q.2 ≤ xs.length ∧ incrF xs.length ts 0 = incrF xs.length (ts.drop q.1) q.2) (fun q => ts.length - q.1) (0, 0) ⟨by simp, by simp, by simp, rfl⟩ (by subst hla hne; (exact JW.Auto rfl)) fun q hq => ?_
    obtain ⟨i, nx⟩ := q
    obtain ⟨hi, hn0, hnl, hinv⟩ := hq
    dsimp only at hi hn0 hnl hinv
    (repeat (first | refine zs rfl ?_ | refine zg rfl rfl rfl ?_ | refine zd ?_ | refine JK.fin ?_ | refine JK.ret ?_))
    refine JK.cond rfl (fun hc => ?_) (fun hc => ?_)
    · (simp only [↓bif_or, ↓bif_and, ↓Bool.or_eq_true, ↓Bool.or_eq_false_iff, ↓Bool.and_eq_true, ↓Bool.and_eq_false_iff, ↓Bool.not_eq_true', ↓Bool.not_eq_false', ↓decide_eq_true_eq, ↓decide_eq_false_iff_not, ↓beq_iff_eq, ↓bne_iff_ne, ↓bne_eq_false_iff_eq, ↓ne_eq, ↓beq_eq_false_iff_ne, ↓Bool.not_eq_true] at hc; try simp only [Ty.dflt, Int.toNat_natCast] at hc)
      have hi' : i < ts.length := by omega
      have hg := getD_nat ts hi' 0
      rw [List.drop_eq_getElem_cons hi', incrF, ← hg] at hinv
      (repeat (first | refine zs rfl ?_ | refine zg rfl rfl rfl ?_ | refine zd ?_ | refine JK.fin ?_ | refine JK.ret ?_ | refine zc rfl (fn49s nx (xs.length - 1) (ts.getD i 0)) rfl rfl ?_ | refine ze rfl (fn49s nx (xs.length - 1) (ts.getD i 0)) rfl ?_ | refine zk rfl rfl (fun _ => fn49s nx (xs.length - 1) (ts.getD i 0)) rfl rfl ?_))
      refine JK.cond rfl (fun hd => ?_) (fun hd => ?_)
      · (simp only [↓bif_or, ↓bif_and, ↓Bool.or_eq_true, ↓Bool.or_eq_false_iff, ↓Bool.and_eq_true, ↓Bool.and_eq_false_iff, ↓Bool.not_eq_true', ↓Bool.not_eq_false', ↓decide_eq_true_eq, ↓decide_eq_false_iff_not, ↓beq_iff_eq, ↓bne_iff_ne, ↓bne_eq_false_iff_eq, ↓ne_eq, ↓beq_eq_false_iff_ne, ↓Bool.not_eq_true] at hd; try simp only [Ty.dflt, Int.toNat_natCast] at hd)
        rw [decide_eq_false hd, Bool.false_and] at hinv
        (repeat (first | refine zs rfl ?_ | refine zg rfl rfl rfl ?_ | refine zd ?_ | refine JK.fin ?_ | refine JK.ret ?_))
        refine ⟨.inl rfl, _, _, rfl, trivial, ?_⟩
        rw [if_neg (by rw [hinv]; simp)]
      · (simp only [↓bif_or, ↓bif_and, ↓Bool.or_eq_true, ↓Bool.or_eq_false_iff, ↓Bool.and_eq_true, ↓Bool.and_eq_false_iff, ↓Bool.not_eq_true', ↓Bool.not_eq_false', ↓decide_eq_true_eq, ↓decide_eq_false_iff_not, ↓beq_iff_eq, ↓bne_iff_ne, ↓bne_eq_false_iff_eq, ↓ne_eq, ↓beq_eq_false_iff_ne, ↓Bool.not_eq_true] at hd; try simp only [Ty.dflt, Int.toNat_natCast] at hd)
        rw [decide_eq_true hd, Bool.true_and] at hinv
        (repeat (first | refine zs rfl ?_ | refine zg rfl rfl rfl ?_ | refine zd ?_ | refine JK.fin ?_ | refine JK.ret ?_))
        exact ⟨(i + 1, ts.getD i 0 + 1), by (exact JW.Auto rfl), ⟨by omega, by dsimp only; omega, by dsimp only; omega, hinv⟩, by dsimp only; omega⟩
    · (simp only [↓bif_or, ↓bif_and, ↓Bool.or_eq_true, ↓Bool.or_eq_false_iff, ↓Bool.and_eq_true, ↓Bool.and_eq_false_iff, ↓Bool.not_eq_true', ↓Bool.not_eq_false', ↓decide_eq_true_eq, ↓decide_eq_false_iff_not, ↓beq_iff_eq, ↓bne_iff_ne, ↓bne_eq_false_iff_eq, ↓ne_eq, ↓beq_eq_false_iff_ne, ↓Bool.not_eq_true] at hc; try simp only [Ty.dflt, Int.toNat_natCast] at hc)
      obtain rfl : i = ts.length := by omega
      rw [List.drop_length] at hinv
      replace hinv : incrF xs.length ts 0 = true := hinv
      rw [if_pos hinv]
      have htl := incrF_len (Int.le_refl 0) hinv (by omega)
      have hmul : 0 ≤ (r - 1) * (ts.length : Int) ∧ (r - 1) * (ts.length : Int) ≤ 72 := by
        have h4 : r = 1 ∨ r = 2 ∨ r = 3 ∨ r = 4 := by omega
        rcases h4 with rfl | rfl | rfl | rfl <;> omega
      have hcl := List.countP_le_length (p := (decide <| · < (0 : Int))) (l := la)
      (repeat (first | refine zs rfl ?_ | refine zg rfl rfl rfl ?_ | refine zd ?_ | refine JK.fin ?_ | refine JK.ret ?_ | refine zc rfl (fn58 r xs la ne) rfl rfl ?_ | refine ze rfl (fn58 r xs la ne) rfl ?_ | refine zk rfl rfl (fun _ => fn58 r xs la ne) rfl rfl ?_))
      generalize hbase : ((la.countP (decide <| · < 0) : Nat) : Int) - (r - 1) * ts.length = base
      have hbb : -72 ≤ base ∧ base ≤ 24 := by omega
      refine JK.loop (fun i : Nat => ⟨[(1, vL ts), (2, .lf (.optr 0 [])), (6, .lf (.optr 1 [])), (11, vI (base + (cntF la ts i : Nat))), (50, vI xs.length), (51, vI (i : Int))], [(0, .cell dayT (vD r xs)), (1, .cell (.ptr binT) (vB0 r xs la ne))], 2⟩)
        (fun i => i ≤ xs.length) (fun i => xs.length - i) 0 (by simp) (by subst hbase; (refine JW.auto rfl ?_ ?_ ?_ ?_ rfl <;> (repeat' (first | exact trivial | exact rfl | refine And.intro ?_ ?_ | exact Nat.le_of_ble_eq_true rfl | refine HO.bdF ?_ | refine HO.bdP ?_ | (refine congrArg (fun z : Int => some (AV.val (.int .i64) z)) ?_; push_cast; omega) | (refine congrArg (fun z : Int => some (AV.val (.int .i64) z)) ?_; rw [cntF_zero]; simp))))) fun i hi => ?_
      have hcr := cntF_le la ts i
      (repeat (first | refine zs rfl ?_ | refine zg rfl rfl rfl ?_ | refine zd ?_ | refine JK.fin ?_ | refine JK.ret ?_))
      refine JK.cond rfl (fun hc2 => ?_) (fun hc2 => ?_)
      · (simp only [↓bif_or, ↓bif_and, ↓Bool.or_eq_true, ↓Bool.or_eq_false_iff, ↓Bool.and_eq_true, ↓Bool.and_eq_false_iff, ↓Bool.not_eq_true', ↓Bool.not_eq_false', ↓decide_eq_true_eq, ↓decide_eq_false_iff_not, ↓beq_iff_eq, ↓bne_iff_ne, ↓bne_eq_false_iff_eq, ↓ne_eq, ↓beq_eq_false_iff_ne, ↓Bool.not_eq_true] at hc2; try simp only [Ty.dflt, Int.toNat_natCast] at hc2)
        have hi' : i < la.length := by omega
        (repeat (first | refine zs rfl ?_ | refine zg rfl rfl rfl ?_ | refine zd ?_ | refine JK.fin ?_ | refine JK.ret ?_ | refine zc rfl (fn59 ts (fun t => decide (la.getD i 0 < t ∧ t < (i : Int))) (fun t _ => fn60 r xs la ne t i hi')) rfl rfl ?_ | refine ze rfl (fn59 ts (fun t => decide (la.getD i 0 < t ∧ t < (i : Int))) (fun t _ => fn60 r xs la ne t i hi')) rfl ?_ | refine zk rfl rfl (fun _ => fn59 ts (fun t => decide (la.getD i 0 < t ∧ t < (i : Int))) (fun t _ => fn60 r xs la ne t i hi')) rfl rfl ?_))
        refine JK.cond rfl (fun hd => ?_) (fun hd => ?_)
        · (simp only [↓bif_or, ↓bif_and, ↓Bool.or_eq_true, ↓Bool.or_eq_false_iff, ↓Bool.and_eq_true, ↓Bool.and_eq_false_iff, ↓Bool.not_eq_true', ↓Bool.not_eq_false', ↓decide_eq_true_eq, ↓decide_eq_false_iff_not, ↓beq_iff_eq, ↓bne_iff_ne, ↓bne_eq_false_iff_eq, ↓ne_eq, ↓beq_eq_false_iff_ne, ↓Bool.not_eq_true] at hd; try simp only [Ty.dflt, Int.toNat_natCast] at hd)
          have hany := (idxB_nonneg (p := fun t => decide (la.getD i 0 < t ∧ t < (i : Int))) (xs := ts) (i := 0)).1 hd.2
          (repeat (first | refine zs rfl ?_ | refine zg rfl rfl rfl ?_ | refine zd ?_ | refine JK.fin ?_ | refine JK.ret ?_))
          exact ⟨i + 1, by (refine JW.auto rfl ?_ ?_ ?_ ?_ rfl <;> (repeat' (first | exact trivial | exact rfl | refine And.intro ?_ ?_ | exact Nat.le_of_ble_eq_true rfl | refine HO.bdF ?_ | refine HO.bdP ?_ | (refine congrArg (fun z : Int => some (AV.val (.int .i64) z)) ?_; push_cast; omega) | (refine congrArg (fun z : Int => some (AV.val (.int .i64) z)) ?_; rw [cntF_yes hd.1 hany]; push_cast; omega)))), by omega, by omega⟩
        · (simp only [↓bif_or, ↓bif_and, ↓Bool.or_eq_true, ↓Bool.or_eq_false_iff, ↓Bool.and_eq_true, ↓Bool.and_eq_false_iff, ↓Bool.not_eq_true', ↓Bool.not_eq_false', ↓decide_eq_true_eq, ↓decide_eq_false_iff_not, ↓beq_iff_eq, ↓bne_iff_ne, ↓bne_eq_false_iff_eq, ↓ne_eq, ↓beq_eq_false_iff_ne, ↓Bool.not_eq_true] at hd; try simp only [Ty.dflt, Int.toNat_natCast] at hd)
          have hn := cntF_no (la := la) (ts := ts) (i := i) fun h => hd.elim (fun e => e h.1) (fun e => e ((idxB_nonneg (p := fun t => decide (la.getD i 0 < t ∧ t < (i : Int))) (xs := ts) (i := 0)).2 h.2))
          (repeat (first | refine zs rfl ?_ | refine zg rfl rfl rfl ?_ | refine zd ?_ | refine JK.fin ?_ | refine JK.ret ?_))
          exact ⟨i + 1, by (refine JW.auto rfl ?_ ?_ ?_ ?_ rfl <;> (repeat' (first | exact trivial | exact rfl | refine And.intro ?_ ?_ | exact Nat.le_of_ble_eq_true rfl | refine HO.bdF ?_ | refine HO.bdP ?_ | (refine congrArg (fun z : Int => some (AV.val (.int .i64) z)) ?_; push_cast; omega) | (refine congrArg (fun z : Int => some (AV.val (.int .i64) z)) ?_; rw [hn]; push_cast; omega)))), by omega, by omega⟩
      · (simp only [↓bif_or, ↓bif_and, ↓Bool.or_eq_true, ↓Bool.or_eq_false_iff, ↓Bool.and_eq_true, ↓Bool.and_eq_false_iff, ↓Bool.not_eq_true', ↓Bool.not_eq_false', ↓decide_eq_true_eq, ↓decide_eq_false_iff_not, ↓beq_iff_eq, ↓bne_iff_ne, ↓bne_eq_false_iff_eq, ↓ne_eq, ↓beq_eq_false_iff_ne, ↓Bool.not_eq_true] at hc2; try simp only [Ty.dflt, Int.toNat_natCast] at hc2)
        (repeat (first | refine zs rfl ?_ | refine zg rfl rfl rfl ?_ | refine zd ?_ | refine JK.fin ?_ | refine JK.ret ?_))
        obtain rfl : i = xs.length := by omega
        refine ⟨.inl rfl, _, _, rfl, trivial, ?_⟩
        rw [momV, hbase]
  · have her := fn46er r xs List.nil (by rw [hon]; exact ho)
    (repeat (first | refine zs rfl ?_ | refine zg rfl rfl rfl ?_ | refine zd ?_ | refine JK.fin ?_ | refine JK.ret ?_ | refine zc rfl (her) rfl rfl ?_ | refine ze rfl (her) rfl ?_ | refine zk rfl rfl (fun _ => her) rfl rfl ?_))
    refine JK.cond rfl (fun hc => ?_) (fun hc => ?_)
    · (repeat (first | refine zs rfl ?_ | refine zg rfl rfl rfl ?_ | refine zd ?_ | refine JK.fin ?_ | refine JK.ret ?_))
      refine ⟨.inl rfl, _, _, rfl, trivial, ?_⟩
      rw [momS, if_pos ho, hon]
    · (simp only [↓bif_or, ↓bif_and, ↓Bool.or_eq_true, ↓Bool.or_eq_false_iff, ↓Bool.and_eq_true, ↓Bool.and_eq_false_iff, ↓Bool.not_eq_true', ↓Bool.not_eq_false', ↓decide_eq_true_eq, ↓decide_eq_false_iff_not, ↓beq_iff_eq, ↓bne_iff_ne, ↓bne_eq_false_iff_eq, ↓ne_eq, ↓beq_eq_false_iff_ne, ↓Bool.not_eq_true] at hc; try simp only [Ty.dflt, Int.toNat_natCast] at hc)
      exact absurd (hon.symm.trans hc) ho
end Go.Proofs.Ytbmgijgnbilnoaa

namespace Go.Proofs.Ytbmgijgnbilnoaa
open Go Go.RowKit Ox
attribute [local irreducible] JC JL JK JW

abbrev stepD := Int × Int × Unit
abbrev stepT : Ty := .cons (.int .i64) (.cons (.int .i64) .nil)
abbrev vSs (l : List stepD) : AV := .val (.slice stepT) l
abbrev step0 : stepD := (0, 0, ())

theorem fn71 (x : stepD) : Ox.Fn Go.Proofs.Try.prog 71 (.acons (.val stepT x) .anil) (· = vI x.1) := by
  refine Ox.Fn.intro xok Go.Proofs.Try.func71 rfl Go.Proofs.Try.call71 (Nat.le_of_ble_eq_true rfl) (fun E M0 up => ?_)
  refine JK.start ?_
  (repeat (first | refine zs rfl ?_ | refine zg rfl rfl rfl ?_ | refine zd ?_ | refine JK.fin ?_ | refine JK.ret ?_))
  refine ⟨.inl rfl, _, _, rfl, trivial, ?_⟩
  rfl

/-- The place of the greatest one, the first of several. -/
def grF (l : List stepD) : Nat → Nat → Nat → Nat
  | 0, _, b => b
  | n + 1, i, b => if (l.getD i step0).1 > (l.getD b step0).1 then grF l n (i + 1) i else grF l n (i + 1) b
def grS (l : List stepD) : Nat := grF l l.length 0 0

theorem grF_lt (l : List stepD) : ∀ n i b, i + n ≤ l.length → b < l.length → grF l n i b < l.length
  | 0, _, _, _, hb => hb
  | n + 1, i, b, h, hb => by
    rw [grF]
    split
    · exact grF_lt l n (i + 1) i (by omega) (by omega)
    · exact grF_lt l n (i + 1) b (by omega) hb
theorem grS_lt {l : List stepD} (h : 0 < l.length) : grS l < l.length := grF_lt l _ 0 0 (by omega) h

theorem fn72 (l : List stepD) : Ox.Fn Go.Proofs.Try.prog 72 (.acons (vSs l) (.acons (.fn 71 .anil .anil) .anil)) (· = vI (grS l)) := by
  refine Ox.Fn.intro xok Go.Proofs.Try.func72 rfl Go.Proofs.Try.call72 (Nat.le_of_ble_eq_true rfl) (fun E M0 up => ?_)
  refine JK.start ?_
  refine JK.lenOf 0 rfl fun hlen => ?_
  replace hlen : l.length ≤ 9223372036854775807 := hlen.1
  (repeat (first | refine zs rfl ?_ | refine zg rfl rfl rfl ?_ | refine zd ?_ | refine JK.fin ?_ | refine JK.ret ?_))
  refine JK.loop (σ := Nat × Nat) (fun q => ⟨[(0, vSs l), (1, .fn 71 .anil .anil), (5, vI (q.2 : Int)), (8, vSs l), (9, vI l.length), (10, vI (q.1 : Int))], [], 0⟩)
    (fun q => q.1 ≤ l.length ∧ (q.2 < l.length ∨ q.1 = 0 ∧ q.2 = 0) ∧ grF l (l.length - q.1) q.1 q.2 = grS l) (fun q => l.length - q.1) (0, 0) ⟨by simp, by simp, rfl⟩ (by (exact JW.Auto rfl)) fun q hq => ?_
  obtain ⟨i, b⟩ := q
  obtain ⟨hi, hb, hinv⟩ := hq
  dsimp only at hi hb hinv
  (repeat (first | refine zs rfl ?_ | refine zg rfl rfl rfl ?_ | refine zd ?_ | refine JK.fin ?_ | refine JK.ret ?_))
  refine JK.cond rfl (fun hc => ?_) (fun hc => ?_)
  · (simp only [↓bif_or, ↓bif_and, ↓Bool.or_eq_true, ↓Bool.or_eq_false_iff, ↓Bool.and_eq_true, ↓Bool.and_eq_false_iff, ↓Bool.not_eq_true', ↓Bool.not_eq_false', ↓decide_eq_true_eq, ↓decide_eq_false_iff_not, ↓beq_iff_eq, ↓bne_iff_ne, ↓bne_eq_false_iff_eq, ↓ne_eq, ↓beq_eq_false_iff_ne, ↓Bool.not_eq_true] at hc; try simp only [Ty.dflt, Int.toNat_natCast] at hc)
    have hi' : i < l.length := by omega
    have hb' : b < l.length := by omega
    rw [show l.length - i = (l.length - (i + 1)) + 1 by omega, grF] at hinv
    (repeat (first | refine zs rfl ?_ | refine zg rfl rfl rfl ?_ | refine zd ?_ | refine JK.fin ?_ | refine JK.ret ?_ | refine zc rfl (fn71 (l.getD i step0)) rfl rfl ?_ | refine ze rfl (fn71 (l.getD i step0)) rfl ?_ | refine zk rfl rfl (fun _ => fn71 (l.getD i step0)) rfl rfl ?_ | refine zc rfl (fn71 (l.getD b step0)) rfl rfl ?_ | refine ze rfl (fn71 (l.getD b step0)) rfl ?_ | refine zk rfl rfl (fun _ => fn71 (l.getD b step0)) rfl rfl ?_))
    refine JK.cond rfl (fun hd => ?_) (fun hd => ?_)
    · (simp only [↓bif_or, ↓bif_and, ↓Bool.or_eq_true, ↓Bool.or_eq_false_iff, ↓Bool.and_eq_true, ↓Bool.and_eq_false_iff, ↓Bool.not_eq_true', ↓Bool.not_eq_false', ↓decide_eq_true_eq, ↓decide_eq_false_iff_not, ↓beq_iff_eq, ↓bne_iff_ne, ↓bne_eq_false_iff_eq, ↓ne_eq, ↓beq_eq_false_iff_ne, ↓Bool.not_eq_true] at hd; try simp only [Ty.dflt, Int.toNat_natCast] at hd)
      rw [if_pos hd] at hinv
      (repeat (first | refine zs rfl ?_ | refine zg rfl rfl rfl ?_ | refine zd ?_ | refine JK.fin ?_ | refine JK.ret ?_))
      exact ⟨(i + 1, i), by (exact JW.Auto rfl), ⟨by omega, .inl hi', hinv⟩, by dsimp only; omega⟩
    · (simp only [↓bif_or, ↓bif_and, ↓Bool.or_eq_true, ↓Bool.or_eq_false_iff, ↓Bool.and_eq_true, ↓Bool.and_eq_false_iff, ↓Bool.not_eq_true', ↓Bool.not_eq_false', ↓decide_eq_true_eq, ↓decide_eq_false_iff_not, ↓beq_iff_eq, ↓bne_iff_ne, ↓bne_eq_false_iff_eq, ↓ne_eq, ↓beq_eq_false_iff_ne, ↓Bool.not_eq_true] at hd; try simp only [Ty.dflt, Int.toNat_natCast] at hd)
      rw [if_neg hd] at hinv
      (repeat (first | refine zs rfl ?_ | refine zg rfl rfl rfl ?_ | refine zd ?_ | refine JK.fin ?_ | refine JK.ret ?_))
      exact ⟨(i + 1, b), by (exact JW.Auto rfl), ⟨by omega, .inl hb', hinv⟩, by dsimp only; omega⟩
  · (simp only [↓bif_or, ↓bif_and, ↓Bool.or_eq_true, ↓Bool.or_eq_false_iff, ↓Bool.and_eq_true, ↓Bool.and_eq_false_iff, ↓Bool.not_eq_true', ↓Bool.not_eq_false', ↓decide_eq_true_eq, ↓decide_eq_false_iff_not, ↓beq_iff_eq, ↓bne_iff_ne, ↓bne_eq_false_iff_eq, ↓ne_eq, ↓beq_eq_false_iff_ne, ↓Bool.not_eq_true] at hc; try simp only [Ty.dflt, Int.toNat_natCast] at hc)
    (repeat (first | refine zs rfl ?_ | refine zg rfl rfl rfl ?_ | refine zd ?_ | refine JK.fin ?_ | refine JK.ret ?_))
    obtain rfl : i = l.length := by omega
    refine ⟨.inl rfl, _, _, rfl, trivial, ?_⟩
    rw [Nat.sub_self, grF] at hinv
    rw [hinv]
end Go.Proofs.Ytbmgijgnbilnoaa

namespace Go.Proofs.Ytbmgijgnbilnoaa
open Go Go.RowKit Ox
attribute [local irreducible] JC JL JW

def partsB (la : List Int) (t : Int) (i : Nat) : Bool := decide (la.getD i 0 < t ∧ t < i)
/-- How many books a moment parts that the one before it does not. -/
def cntM (la : List Int) (t : Nat) (s : Nat) : Nat → Nat
  | 0 => 0
  | i + 1 => if 0 ≤ la.getD i 0 ∧ partsB la t i = true ∧ (s = 0 ∨ partsB la ((s : Int) - 1) i = false) then cntM la t s i + 1 else cntM la t s i
def allF (r : Int) (la : List Int) (t : Nat) : List stepD → Nat → List stepD
  | [], _ => []
  | x :: rest, s => (x.1 - (r - 1) + cntM la t s la.length, (s : Int), ()) :: allF r la t rest (s + 1)
def stepsF (r : Int) (la : List Int) : Nat → List stepD
  | 0 => [(0, -1, ())]
  | t + 1 => stepsF r la t ++ [(allF r la t (stepsF r la t) 0).getD (grS (allF r la t (stepsF r la t) 0)) step0]
def backF (st : List stepD) : Nat → Int → List Int
  | 0, _ => []
  | n + 1, s => if s > 0 then (s - 1) :: backF st n (st.getD s.toNat step0).2.1 else []
def momentsS (r : Int) (la : List Int) : List Int := (backF (stepsF r la la.length) (grS (stepsF r la la.length) + 1) (grS (stepsF r la la.length))).reverse

theorem cntM_le (la : List Int) (t s : Nat) : ∀ i, cntM la t s i ≤ i
  | 0 => Nat.le_refl _
  | i + 1 => by have := cntM_le la t s i; rw [cntM]; split <;> omega
theorem allF_len (r : Int) (la : List Int) (t : Nat) : ∀ l s, (allF r la t l s).length = l.length
  | [], _ => rfl
  | x :: l, s => by simp [allF, allF_len r la t l (s + 1)]
theorem stepsF_len (r : Int) (la : List Int) : ∀ t, (stepsF r la t).length = t + 1
  | 0 => rfl
  | t + 1 => by simp [stepsF, stepsF_len r la t]
theorem allF_mem {r : Int} {la : List Int} {t : Nat} : ∀ {l : List stepD} {s : Nat} {y : stepD}, y ∈ allF r la t l s → ∃ x ∈ l, ∃ c : Nat, c ≤ la.length ∧ y.1 = x.1 - (r - 1) + c ∧ (s : Int) ≤ y.2.1 ∧ y.2.1 < s + l.length
  | [], _, _, h => by cases h
  | x :: l, s, y, h => by
    rw [allF] at h
    rcases List.mem_cons.1 h with rfl | h
    · exact ⟨x, List.mem_cons_self, _, cntM_le la t s la.length, rfl, by simp, by simp; omega⟩
    · obtain ⟨x', h1, c, h2, h3, h4, h5⟩ := allF_mem h
      exact ⟨x', List.mem_cons_of_mem _ h1, c, h2, h3, by omega, by simp only [List.length_cons]; omega⟩
theorem getD_mem {α : Type} {l : List α} {i : Nat} (h : i < l.length) (d : α) : l.getD i d ∈ l := by
  rw [List.getD_eq_getElem?_getD, List.getElem?_eq_getElem h]; exact List.getElem_mem h
theorem stepsF_bd {r : Int} {la : List Int} (hr : 1 ≤ r ∧ r ≤ 4) (hl : la.length ≤ 24) : ∀ {t : Nat} {i : Nat}, i ≤ t → -3 * (t : Int) ≤ ((stepsF r la t).getD i step0).1 ∧ ((stepsF r la t).getD i step0).1 ≤ 24 * t ∧ -1 ≤ ((stepsF r la t).getD i step0).2.1 ∧ ((stepsF r la t).getD i step0).2.1 < i
  | 0, i, h => by
    obtain rfl : i = 0 := by omega
    simp [stepsF]
  | t + 1, i, h => by
    have hlen := stepsF_len r la t
    rw [stepsF]
    by_cases hi : i ≤ t
    · have e : (stepsF r la t ++ [(allF r la t (stepsF r la t) 0).getD (grS (allF r la t (stepsF r la t) 0)) step0]).getD i step0 = (stepsF r la t).getD i step0 := by
        rw [List.getD_eq_getElem?_getD, List.getElem?_append_left (by omega), ← List.getD_eq_getElem?_getD]
      rw [e]
      have := stepsF_bd hr hl hi
      omega
    · have hi' : i = t + 1 := by omega
      have e : (stepsF r la t ++ [(allF r la t (stepsF r la t) 0).getD (grS (allF r la t (stepsF r la t) 0)) step0]).getD i step0 = (allF r la t (stepsF r la t) 0).getD (grS (allF r la t (stepsF r la t) 0)) step0 := by
        rw [List.getD_eq_getElem?_getD, List.getElem?_append_right (by omega), hlen, hi']; simp
      rw [e]
      have hal := allF_len r la t (stepsF r la t) 0
      obtain ⟨x, h1, c, h2, h3, h4, h5⟩ := allF_mem (getD_mem (grS_lt (l := allF r la t (stepsF r la t) 0) (by omega)) step0)
      obtain ⟨j, hj, rfl⟩ := List.mem_iff_getElem.1 h1
      have := stepsF_bd hr hl (t := t) (i := j) (by omega)
      rw [show (stepsF r la t).getD j step0 = (stepsF r la t)[j] by rw [List.getD_eq_getElem?_getD, List.getElem?_eq_getElem hj]; rfl] at this
      omega

/-- Between the swaps of slices.Reverse. -/
def revI (l : List Int) (i : Nat) (cur : List Int) : Prop := cur.length = l.length ∧ 2 * i ≤ l.length + 1 ∧ ∀ k, k < l.length → cur.getD k 0 = if k < i ∨ l.length ≤ k + i then l.getD (l.length - 1 - k) 0 else l.getD k 0
theorem revI_zero (l : List Int) : revI l 0 l := ⟨rfl, by omega, fun k hk => by rw [if_neg (by omega)]⟩
theorem getD_set (l : List Int) (i : Nat) (v : Int) (k : Nat) (hi : i < l.length) : (l.set i v).getD k 0 = if k = i then v else l.getD k 0 := by
  rw [List.getD_eq_getElem?_getD, List.getD_eq_getElem?_getD, List.getElem?_set]
  by_cases h : k = i
  · subst h; simp [hi]
  · rw [if_neg (fun e => h e.symm), if_neg h]
theorem revI_step {l cur : List Int} {i : Nat} (h : revI l i cur) (hc : (i : Int) < (l.length : Int) - 1 - i) : revI l (i + 1) ((cur.set i (cur.getD ((l.length : Int) - 1 - i).toNat 0)).set ((l.length : Int) - 1 - i).toNat (cur.getD i 0)) := by
  obtain ⟨h1, h2, h3⟩ := h
  rw [show ((l.length : Int) - 1 - i).toNat = l.length - 1 - i by omega]
  refine ⟨by simp [h1], by omega, fun k hk => ?_⟩
  rw [getD_set _ _ _ _ (by rw [List.length_set]; omega), getD_set _ _ _ _ (by omega)]
  by_cases e1 : k = l.length - 1 - i
  · rw [if_pos e1, if_pos (by omega), h3 i (by omega), if_neg (by omega), e1]; congr 1; omega
  · rw [if_neg e1]
    by_cases e2 : k = i
    · rw [if_pos e2, if_pos (by omega), h3 _ (by omega), if_neg (by omega), e2]
    · rw [if_neg e2, h3 k hk]
      by_cases e3 : k < i ∨ l.length ≤ k + i
      · rw [if_pos e3, if_pos (by omega)]
      · rw [if_neg e3, if_neg (by omega)]
theorem revI_done {l cur : List Int} {i : Nat} (h : revI l i cur) (hc : (l.length : Int) - 1 - i ≤ i) : cur = l.reverse := by
  obtain ⟨h1, h2, h3⟩ := h
  refine List.ext_getElem (by simp [h1]) fun k k1 k2 => ?_
  have := h3 k (by omega)
  rw [List.getD_eq_getElem?_getD, List.getElem?_eq_getElem k1] at this
  rw [List.getElem_reverse]
  have hk : k < l.length := by omega
  have g1 : l.getD (l.length - 1 - k) 0 = l[l.length - 1 - k] := by rw [List.getD_eq_getElem?_getD, List.getElem?_eq_getElem (by omega)]; rfl
  rw [← g1]
  refine this.trans ?_
  by_cases e : k < i ∨ l.length ≤ k + i
  · rw [if_pos e]
  · rw [if_neg e]; congr 1; omega

set_option maxHeartbeats 2000000 in
theorem fn62 (r : Int) (xs la ne : List Int) (hr : 1 ≤ r ∧ r ≤ 4) (hl : xs.length ≤ 24) (hla : la.length = xs.length) : Ox.Fn Go.Proofs.Try.prog 62 (.acons (vB0 r xs la ne) .anil) (· = vL (momentsS r la)) := by
  refine Ox.Fn.intro xok Go.Proofs.Try.func62 rfl Go.Proofs.Try.call62 (Nat.le_of_ble_eq_true rfl) (fun E M0 up => ?_)
  (repeat (first   | refine JL.Q1 (xok rfl rfl rfl rfl) rfl rfl ?_   | refine JL.G1 (xok rfl rfl rfl rfl) rfl rfl rfl ?_   | refine JL.g1 (xok rfl rfl rfl rfl) rfl rfl rfl (fun hgd => And.intro hgd (fun hpk => Bool.and_eq_true_iff.2 ⟨hgd, by rw [hpk]; rfl⟩)) ?_   | refine JL.G2 (xok rfl rfl rfl rfl) rfl rfl rfl ?_   | refine JL.M1 (xok rfl rfl rfl rfl) rfl rfl ?_   | refine JL.M0 (xok rfl rfl rfl rfl) rfl ?_   | refine JL.Q0 (xok rfl rfl rfl rfl) rfl ?_   | refine JL.nilF ?_   | refine JL.nil ?_   | refine JC.scope ?_   | refine QX.tn ?_   | refine JC.seq ?_   | refine JC.region ?_   | refine JC.Draw (xok rfl rfl rfl rfl) ?_   | refine JC.block ?_   | refine JC.skip ?_   | refine JC.label ?_   | refine JC.exit ?_   | refine JC.ret ?_   | refine QX.te ?_ | refine QX.tr ?_ | refine QX.bn ?_ | refine QX.be ?_ | refine QX.bx rfl ?_ | refine QX.br ?_ | refine QX.sn ?_ | refine QX.se ?_ | refine QX.sr ?_ | refine QX.ee ?_ | refine QX.eo rfl ?_ | refine QX.er ?_ | refine QX.en ?_))
  refine JC.loop (fun t : Nat => ⟨[(0, vB0 r xs la ne), (3, .fn 71 .anil .anil), (4, .fn 61 (.acons (vB0 r xs la ne) .anil) .anil), (5, .lf (.osl 0)), (22, vL xs), (23, vI xs.length), (24, vI (t : Int))], [(0, .sl 94 stepT (stepsF r la t))], 1⟩)
    (fun t => t ≤ xs.length) (fun t => xs.length - t) 0 (by simp) (by (exact JW.Auto rfl)) fun t ht => ?_
  have hsl := stepsF_len r la t
  have hbd := fun {i : Nat} => stepsF_bd hr (hla ▸ hl : la.length ≤ 24) (r := r) (la := la) (t := t) (i := i)
  (repeat (first   | refine JL.Q1 (xok rfl rfl rfl rfl) rfl rfl ?_   | refine JL.G1 (xok rfl rfl rfl rfl) rfl rfl rfl ?_   | refine JL.g1 (xok rfl rfl rfl rfl) rfl rfl rfl (fun hgd => And.intro hgd (fun hpk => Bool.and_eq_true_iff.2 ⟨hgd, by rw [hpk]; rfl⟩)) ?_   | refine JL.G2 (xok rfl rfl rfl rfl) rfl rfl rfl ?_   | refine JL.M1 (xok rfl rfl rfl rfl) rfl rfl ?_   | refine JL.M0 (xok rfl rfl rfl rfl) rfl ?_   | refine JL.Q0 (xok rfl rfl rfl rfl) rfl ?_   | refine JL.nilF ?_   | refine JL.nil ?_   | refine JC.scope ?_   | refine QX.tn ?_   | refine JC.seq ?_   | refine JC.region ?_   | refine JC.Draw (xok rfl rfl rfl rfl) ?_   | refine JC.block ?_   | refine JC.skip ?_   | refine JC.label ?_   | refine JC.exit ?_   | refine JC.ret ?_   | refine QX.te ?_ | refine QX.tr ?_ | refine QX.bn ?_ | refine QX.be ?_ | refine QX.bx rfl ?_ | refine QX.br ?_ | refine QX.sn ?_ | refine QX.se ?_ | refine QX.sr ?_ | refine QX.ee ?_ | refine QX.eo rfl ?_ | refine QX.er ?_ | refine QX.en ?_))
  refine JC.cond rfl (fun hc => ?_) (fun hc => ?_)
  · (simp only [↓bif_or, ↓bif_and, ↓Bool.or_eq_true, ↓Bool.or_eq_false_iff, ↓Bool.and_eq_true, ↓Bool.and_eq_false_iff, ↓Bool.not_eq_true', ↓Bool.not_eq_false', ↓decide_eq_true_eq, ↓decide_eq_false_iff_not, ↓beq_iff_eq, ↓bne_iff_ne, ↓bne_eq_false_iff_eq, ↓ne_eq, ↓beq_eq_false_iff_ne, ↓Bool.not_eq_true] at hc; try simp only [Ty.dflt, Int.toNat_natCast] at hc)
    have ht' : t < xs.length := by omega
    generalize hst : stepsF r la t = st at hsl hbd
    (repeat (first   | refine JL.Q1 (xok rfl rfl rfl rfl) rfl rfl ?_   | refine JL.G1 (xok rfl rfl rfl rfl) rfl rfl rfl ?_   | refine JL.g1 (xok rfl rfl rfl rfl) rfl rfl rfl (fun hgd => And.intro hgd (fun hpk => Bool.and_eq_true_iff.2 ⟨hgd, by rw [hpk]; rfl⟩)) ?_   | refine JL.G2 (xok rfl rfl rfl rfl) rfl rfl rfl ?_   | refine JL.M1 (xok rfl rfl rfl rfl) rfl rfl ?_   | refine JL.M0 (xok rfl rfl rfl rfl) rfl ?_   | refine JL.Q0 (xok rfl rfl rfl rfl) rfl ?_   | refine JL.nilF ?_   | refine JL.nil ?_   | refine JC.scope ?_   | refine QX.tn ?_   | refine JC.seq ?_   | refine JC.region ?_   | refine JC.Draw (xok rfl rfl rfl rfl) ?_   | refine JC.block ?_   | refine JC.skip ?_   | refine JC.label ?_   | refine JC.exit ?_   | refine JC.ret ?_   | refine QX.te ?_ | refine QX.tr ?_ | refine QX.bn ?_ | refine QX.be ?_ | refine QX.bx rfl ?_ | refine QX.br ?_ | refine QX.sn ?_ | refine QX.se ?_ | refine QX.sr ?_ | refine QX.ee ?_ | refine QX.eo rfl ?_ | refine QX.er ?_ | refine QX.en ?_))
    refine JC.ghost 7 94 stepT rfl ?_
    refine JC.loop (σ := Nat × List stepD) (fun q => ⟨[(0, vB0 r xs la ne), (3, .fn 71 .anil .anil), (4, .fn 61 (.acons (vB0 r xs la ne) .anil) .anil), (5, .lf (.osl 0)), (6, vI (t : Int)), (7, .lf (.osl 1)), (22, vL xs), (23, vI xs.length), (24, vI (t : Int)), (27, .lf (.osl 0)), (28, vI st.length), (29, vI (q.1 : Int))], [(0, .sl 94 stepT st), (1, .sl 94 stepT q.2)], 2⟩)
      (fun q => q.1 ≤ st.length ∧ q.2.length = q.1 ∧ q.2 ++ allF r la t (st.drop q.1) q.1 = allF r la t st 0) (fun q => st.length - q.1) (0, []) ⟨by simp, rfl, rfl⟩ (by (exact JW.Auto rfl)) fun q hq => ?_
    obtain ⟨s, outs⟩ := q
    obtain ⟨hs, hol, hinv⟩ := hq
    dsimp only at hs hol hinv
    (repeat (first   | refine JL.Q1 (xok rfl rfl rfl rfl) rfl rfl ?_   | refine JL.G1 (xok rfl rfl rfl rfl) rfl rfl rfl ?_   | refine JL.g1 (xok rfl rfl rfl rfl) rfl rfl rfl (fun hgd => And.intro hgd (fun hpk => Bool.and_eq_true_iff.2 ⟨hgd, by rw [hpk]; rfl⟩)) ?_   | refine JL.G2 (xok rfl rfl rfl rfl) rfl rfl rfl ?_   | refine JL.M1 (xok rfl rfl rfl rfl) rfl rfl ?_   | refine JL.M0 (xok rfl rfl rfl rfl) rfl ?_   | refine JL.Q0 (xok rfl rfl rfl rfl) rfl ?_   | refine JL.nilF ?_   | refine JL.nil ?_   | refine JC.scope ?_   | refine QX.tn ?_   | refine JC.seq ?_   | refine JC.region ?_   | refine JC.Draw (xok rfl rfl rfl rfl) ?_   | refine JC.block ?_   | refine JC.skip ?_   | refine JC.label ?_   | refine JC.exit ?_   | refine JC.ret ?_   | refine QX.te ?_ | refine QX.tr ?_ | refine QX.bn ?_ | refine QX.be ?_ | refine QX.bx rfl ?_ | refine QX.br ?_ | refine QX.sn ?_ | refine QX.se ?_ | refine QX.sr ?_ | refine QX.ee ?_ | refine QX.eo rfl ?_ | refine QX.er ?_ | refine QX.en ?_))
    refine JC.cond rfl (fun hc2 => ?_) (fun hc2 => ?_)
    · (simp only [↓bif_or, ↓bif_and, ↓Bool.or_eq_true, ↓Bool.or_eq_false_iff, ↓Bool.and_eq_true, ↓Bool.and_eq_false_iff, ↓Bool.not_eq_true', ↓Bool.not_eq_false', ↓decide_eq_true_eq, ↓decide_eq_false_iff_not, ↓beq_iff_eq, ↓bne_iff_ne, ↓bne_eq_false_iff_eq, ↓ne_eq, ↓beq_eq_false_iff_ne, ↓Bool.not_eq_true] at hc2; try simp only [Ty.dflt, Int.toNat_natCast] at hc2)
      have hs' : s < st.length := by omega
      have hg : st.getD s step0 = st[s] := by rw [List.getD_eq_getElem?_getD, List.getElem?_eq_getElem hs']; rfl
      rw [List.drop_eq_getElem_cons hs', allF, ← hg, hla] at hinv
      have hb1 : -3 * (t : Int) ≤ (st.getD s ((0, 0, ()) : stepD)).1 ∧ (st.getD s ((0, 0, ()) : stepD)).1 ≤ 24 * t ∧ -1 ≤ (st.getD s ((0, 0, ()) : stepD)).2.1 ∧ (st.getD s ((0, 0, ()) : stepD)).2.1 < s := hbd (i := s) (by omega)
      change outs ++ ((st.getD s ((0, 0, ()) : stepD)).1 - (r - 1) + ((cntM la t s xs.length : Nat) : Int), (s : Int), ()) :: _ = _ at hinv
      (repeat (first   | refine JL.Q1 (xok rfl rfl rfl rfl) rfl rfl ?_   | refine JL.G1 (xok rfl rfl rfl rfl) rfl rfl rfl ?_   | refine JL.g1 (xok rfl rfl rfl rfl) rfl rfl rfl (fun hgd => And.intro hgd (fun hpk => Bool.and_eq_true_iff.2 ⟨hgd, by rw [hpk]; rfl⟩)) ?_   | refine JL.G2 (xok rfl rfl rfl rfl) rfl rfl rfl ?_   | refine JL.M1 (xok rfl rfl rfl rfl) rfl rfl ?_   | refine JL.M0 (xok rfl rfl rfl rfl) rfl ?_   | refine JL.Q0 (xok rfl rfl rfl rfl) rfl ?_   | refine JL.nilF ?_   | refine JL.nil ?_   | refine JC.scope ?_   | refine QX.tn ?_   | refine JC.seq ?_   | refine JC.region ?_   | refine JC.Draw (xok rfl rfl rfl rfl) ?_   | refine JC.block ?_   | refine JC.skip ?_   | refine JC.label ?_   | refine JC.exit ?_   | refine JC.ret ?_   | refine QX.te ?_ | refine QX.tr ?_ | refine QX.bn ?_ | refine QX.be ?_ | refine QX.bx rfl ?_ | refine QX.br ?_ | refine QX.sn ?_ | refine QX.se ?_ | refine QX.sr ?_ | refine QX.ee ?_ | refine QX.eo rfl ?_ | refine QX.er ?_ | refine QX.en ?_))
      generalize hxw : (st.getD s ((0, 0, ()) : stepD)).1 = xw at hb1 hinv ⊢
      refine JC.loop (fun i : Nat => ⟨[(0, vB0 r xs la ne), (3, .fn 71 .anil .anil), (4, .fn 61 (.acons (vB0 r xs la ne) .anil) .anil), (5, .lf (.osl 0)), (6, vI (t : Int)), (7, .lf (.osl 1)), (8, vI (s : Int)), (10, vI (xw - (r - 1) + (cntM la t s i : Nat))), (22, vL xs), (23, vI xs.length), (24, vI (t : Int)), (27, .lf (.osl 0)), (28, vI st.length), (29, vI (s : Int)), (48, vI xs.length), (49, vI (i : Int))], [(0, .sl 94 stepT st), (1, .sl 94 stepT outs)], 2⟩)
        (fun i => i ≤ xs.length) (fun i => xs.length - i) 0 (by simp) (by (refine JW.auto rfl ?_ ?_ ?_ ?_ rfl <;> (repeat' (first | exact trivial | exact rfl | refine And.intro ?_ ?_ | exact Nat.le_of_ble_eq_true rfl | refine HO.bdF ?_ | refine HO.bdP ?_ | (refine congrArg (fun z : Int => some (AV.val (.int .i64) z)) ?_; push_cast; omega) | (refine congrArg (fun z : Int => some (AV.val (.int .i64) z)) ?_; rw [cntM, ← hxw]; simp; rfl))))) fun i hi => ?_
      have hcm := cntM_le la t s i
      (repeat (first   | refine JL.Q1 (xok rfl rfl rfl rfl) rfl rfl ?_   | refine JL.G1 (xok rfl rfl rfl rfl) rfl rfl rfl ?_   | refine JL.g1 (xok rfl rfl rfl rfl) rfl rfl rfl (fun hgd => And.intro hgd (fun hpk => Bool.and_eq_true_iff.2 ⟨hgd, by rw [hpk]; rfl⟩)) ?_   | refine JL.G2 (xok rfl rfl rfl rfl) rfl rfl rfl ?_   | refine JL.M1 (xok rfl rfl rfl rfl) rfl rfl ?_   | refine JL.M0 (xok rfl rfl rfl rfl) rfl ?_   | refine JL.Q0 (xok rfl rfl rfl rfl) rfl ?_   | refine JL.nilF ?_   | refine JL.nil ?_   | refine JC.scope ?_   | refine QX.tn ?_   | refine JC.seq ?_   | refine JC.region ?_   | refine JC.Draw (xok rfl rfl rfl rfl) ?_   | refine JC.block ?_   | refine JC.skip ?_   | refine JC.label ?_   | refine JC.exit ?_   | refine JC.ret ?_   | refine QX.te ?_ | refine QX.tr ?_ | refine QX.bn ?_ | refine QX.be ?_ | refine QX.bx rfl ?_ | refine QX.br ?_ | refine QX.sn ?_ | refine QX.se ?_ | refine QX.sr ?_ | refine QX.ee ?_ | refine QX.eo rfl ?_ | refine QX.er ?_ | refine QX.en ?_))
      refine JC.cond rfl (fun hc3 => ?_) (fun hc3 => ?_)
      · (simp only [↓bif_or, ↓bif_and, ↓Bool.or_eq_true, ↓Bool.or_eq_false_iff, ↓Bool.and_eq_true, ↓Bool.and_eq_false_iff, ↓Bool.not_eq_true', ↓Bool.not_eq_false', ↓decide_eq_true_eq, ↓decide_eq_false_iff_not, ↓beq_iff_eq, ↓bne_iff_ne, ↓bne_eq_false_iff_eq, ↓ne_eq, ↓beq_eq_false_iff_ne, ↓Bool.not_eq_true] at hc3; try simp only [Ty.dflt, Int.toNat_natCast] at hc3)
        have hi' : i < la.length := by omega
        (repeat (first   | refine JL.Q1 (xok rfl rfl rfl rfl) rfl rfl ?_   | refine JL.G1 (xok rfl rfl rfl rfl) rfl rfl rfl ?_   | refine JL.g1 (xok rfl rfl rfl rfl) rfl rfl rfl (fun hgd => And.intro hgd (fun hpk => Bool.and_eq_true_iff.2 ⟨hgd, by rw [hpk]; rfl⟩)) ?_   | refine JL.G2 (xok rfl rfl rfl rfl) rfl rfl rfl ?_   | refine JL.M1 (xok rfl rfl rfl rfl) rfl rfl ?_   | refine JL.M0 (xok rfl rfl rfl rfl) rfl ?_   | refine JL.Q0 (xok rfl rfl rfl rfl) rfl ?_   | refine JL.nilF ?_   | refine JL.nil ?_   | refine JC.scope ?_   | refine QX.tn ?_   | refine JC.seq ?_   | refine JC.region ?_   | refine JC.Draw (xok rfl rfl rfl rfl) ?_   | refine JC.block ?_   | refine JC.skip ?_   | refine JC.label ?_   | refine JC.exit ?_   | refine JC.ret ?_   | refine QX.te ?_ | refine QX.tr ?_ | refine QX.bn ?_ | refine QX.be ?_ | refine QX.bx rfl ?_ | refine QX.br ?_ | refine QX.sn ?_ | refine QX.se ?_ | refine QX.sr ?_ | refine QX.ee ?_ | refine QX.eo rfl ?_ | refine QX.er ?_ | refine QX.en ?_ | refine JL.S1 rfl (fn61 r xs la ne t i hi') rfl trivial rfl ?_ | refine JL.T1 rfl (fn61 r xs la ne t i hi') rfl rfl ?_ | refine JL.C1 rfl (fn61 r xs la ne t i hi') rfl (fun r hr => ?_); subst hr | refine JL.S1g rfl rfl (fun hgd => fn61 r xs la ne t i hi') rfl trivial rfl ?_ | refine JL.S1 rfl (fn61 r xs la ne (s - 1) i hi') rfl trivial rfl ?_ | refine JL.T1 rfl (fn61 r xs la ne (s - 1) i hi') rfl rfl ?_ | refine JL.C1 rfl (fn61 r xs la ne (s - 1) i hi') rfl (fun r hr => ?_); subst hr | refine JL.S1g rfl rfl (fun hgd => fn61 r xs la ne (s - 1) i hi') rfl trivial rfl ?_))
        (repeat (first   | refine JL.Q1 (xok rfl rfl rfl rfl) rfl rfl ?_   | refine JL.G1 (xok rfl rfl rfl rfl) rfl rfl rfl ?_   | refine JL.g1 (xok rfl rfl rfl rfl) rfl rfl rfl (fun hgd => And.intro hgd (fun hpk => Bool.and_eq_true_iff.2 ⟨hgd, by rw [hpk]; rfl⟩)) ?_   | refine JL.G2 (xok rfl rfl rfl rfl) rfl rfl rfl ?_   | refine JL.M1 (xok rfl rfl rfl rfl) rfl rfl ?_   | refine JL.M0 (xok rfl rfl rfl rfl) rfl ?_   | refine JL.Q0 (xok rfl rfl rfl rfl) rfl ?_   | refine JL.nilF ?_   | refine JL.nil ?_   | refine JC.scope ?_   | refine QX.tn ?_   | refine JC.seq ?_   | refine JC.region ?_   | refine JC.Draw (xok rfl rfl rfl rfl) ?_   | refine JC.block ?_   | refine JC.skip ?_   | refine JC.label ?_   | refine JC.exit ?_   | refine JC.ret ?_   | refine QX.te ?_ | refine QX.tr ?_ | refine QX.bn ?_ | refine QX.be ?_ | refine QX.bx rfl ?_ | refine QX.br ?_ | refine QX.sn ?_ | refine QX.se ?_ | refine QX.sr ?_ | refine QX.ee ?_ | refine QX.eo rfl ?_ | refine QX.er ?_ | refine QX.en ?_))
        refine JC.cond rfl (fun hc4 => ?_) (fun hc4 => ?_)
        · (simp only [↓bif_or, ↓bif_and, ↓Bool.or_eq_true, ↓Bool.or_eq_false_iff, ↓Bool.and_eq_true, ↓Bool.and_eq_false_iff, ↓Bool.not_eq_true', ↓Bool.not_eq_false', ↓decide_eq_true_eq, ↓decide_eq_false_iff_not, ↓beq_iff_eq, ↓bne_iff_ne, ↓bne_eq_false_iff_eq, ↓ne_eq, ↓beq_eq_false_iff_ne, ↓Bool.not_eq_true] at hc4; try simp only [Ty.dflt, Int.toNat_natCast] at hc4)
          have hq : 0 ≤ la.getD i 0 ∧ partsB la t i = true ∧ (s = 0 ∨ partsB la ((s : Int) - 1) i = false) := by
            simp only [partsB, decide_eq_true_eq, decide_eq_false_iff_not]
            omega
          (repeat (first   | refine JL.Q1 (xok rfl rfl rfl rfl) rfl rfl ?_   | refine JL.G1 (xok rfl rfl rfl rfl) rfl rfl rfl ?_   | refine JL.g1 (xok rfl rfl rfl rfl) rfl rfl rfl (fun hgd => And.intro hgd (fun hpk => Bool.and_eq_true_iff.2 ⟨hgd, by rw [hpk]; rfl⟩)) ?_   | refine JL.G2 (xok rfl rfl rfl rfl) rfl rfl rfl ?_   | refine JL.M1 (xok rfl rfl rfl rfl) rfl rfl ?_   | refine JL.M0 (xok rfl rfl rfl rfl) rfl ?_   | refine JL.Q0 (xok rfl rfl rfl rfl) rfl ?_   | refine JL.nilF ?_   | refine JL.nil ?_   | refine JC.scope ?_   | refine QX.tn ?_   | refine JC.seq ?_   | refine JC.region ?_   | refine JC.Draw (xok rfl rfl rfl rfl) ?_   | refine JC.block ?_   | refine JC.skip ?_   | refine JC.label ?_   | refine JC.exit ?_   | refine JC.ret ?_   | refine QX.te ?_ | refine QX.tr ?_ | refine QX.bn ?_ | refine QX.be ?_ | refine QX.bx rfl ?_ | refine QX.br ?_ | refine QX.sn ?_ | refine QX.se ?_ | refine QX.sr ?_ | refine QX.ee ?_ | refine QX.eo rfl ?_ | refine QX.er ?_ | refine QX.en ?_))
          exact ⟨i + 1, by (refine JW.auto rfl ?_ ?_ ?_ ?_ rfl <;> (repeat' (first | exact trivial | exact rfl | refine And.intro ?_ ?_ | exact Nat.le_of_ble_eq_true rfl | refine HO.bdF ?_ | refine HO.bdP ?_ | (refine congrArg (fun z : Int => some (AV.val (.int .i64) z)) ?_; push_cast; omega) | (refine congrArg (fun z : Int => some (AV.val (.int .i64) z)) ?_; rw [cntM, if_pos hq]; push_cast; omega)))), by omega, by omega⟩
        · (simp only [↓bif_or, ↓bif_and, ↓Bool.or_eq_true, ↓Bool.or_eq_false_iff, ↓Bool.and_eq_true, ↓Bool.and_eq_false_iff, ↓Bool.not_eq_true', ↓Bool.not_eq_false', ↓decide_eq_true_eq, ↓decide_eq_false_iff_not, ↓beq_iff_eq, ↓bne_iff_ne, ↓bne_eq_false_iff_eq, ↓ne_eq, ↓beq_eq_false_iff_ne, ↓Bool.not_eq_true] at hc4; try simp only [Ty.dflt, Int.toNat_natCast] at hc4)
          have hq : ¬(0 ≤ la.getD i 0 ∧ partsB la t i = true ∧ (s = 0 ∨ partsB la ((s : Int) - 1) i = false)) := by
            simp only [partsB, decide_eq_true_eq, decide_eq_false_iff_not]
            omega
          (repeat (first   | refine JL.Q1 (xok rfl rfl rfl rfl) rfl rfl ?_   | refine JL.G1 (xok rfl rfl rfl rfl) rfl rfl rfl ?_   | refine JL.g1 (xok rfl rfl rfl rfl) rfl rfl rfl (fun hgd => And.intro hgd (fun hpk => Bool.and_eq_true_iff.2 ⟨hgd, by rw [hpk]; rfl⟩)) ?_   | refine JL.G2 (xok rfl rfl rfl rfl) rfl rfl rfl ?_   | refine JL.M1 (xok rfl rfl rfl rfl) rfl rfl ?_   | refine JL.M0 (xok rfl rfl rfl rfl) rfl ?_   | refine JL.Q0 (xok rfl rfl rfl rfl) rfl ?_   | refine JL.nilF ?_   | refine JL.nil ?_   | refine JC.scope ?_   | refine QX.tn ?_   | refine JC.seq ?_   | refine JC.region ?_   | refine JC.Draw (xok rfl rfl rfl rfl) ?_   | refine JC.block ?_   | refine JC.skip ?_   | refine JC.label ?_   | refine JC.exit ?_   | refine JC.ret ?_   | refine QX.te ?_ | refine QX.tr ?_ | refine QX.bn ?_ | refine QX.be ?_ | refine QX.bx rfl ?_ | refine QX.br ?_ | refine QX.sn ?_ | refine QX.se ?_ | refine QX.sr ?_ | refine QX.ee ?_ | refine QX.eo rfl ?_ | refine QX.er ?_ | refine QX.en ?_))
          exact ⟨i + 1, by (refine JW.auto rfl ?_ ?_ ?_ ?_ rfl <;> (repeat' (first | exact trivial | exact rfl | refine And.intro ?_ ?_ | exact Nat.le_of_ble_eq_true rfl | refine HO.bdF ?_ | refine HO.bdP ?_ | (refine congrArg (fun z : Int => some (AV.val (.int .i64) z)) ?_; push_cast; omega) | (refine congrArg (fun z : Int => some (AV.val (.int .i64) z)) ?_; rw [cntM, if_neg hq])))), by omega, by omega⟩
      · (simp only [↓bif_or, ↓bif_and, ↓Bool.or_eq_true, ↓Bool.or_eq_false_iff, ↓Bool.and_eq_true, ↓Bool.and_eq_false_iff, ↓Bool.not_eq_true', ↓Bool.not_eq_false', ↓decide_eq_true_eq, ↓decide_eq_false_iff_not, ↓beq_iff_eq, ↓bne_iff_ne, ↓bne_eq_false_iff_eq, ↓ne_eq, ↓beq_eq_false_iff_ne, ↓Bool.not_eq_true] at hc3; try simp only [Ty.dflt, Int.toNat_natCast] at hc3)
        obtain rfl : i = xs.length := by omega
        (repeat (first   | refine JL.Q1 (xok rfl rfl rfl rfl) rfl rfl ?_   | refine JL.G1 (xok rfl rfl rfl rfl) rfl rfl rfl ?_   | refine JL.g1 (xok rfl rfl rfl rfl) rfl rfl rfl (fun hgd => And.intro hgd (fun hpk => Bool.and_eq_true_iff.2 ⟨hgd, by rw [hpk]; rfl⟩)) ?_   | refine JL.G2 (xok rfl rfl rfl rfl) rfl rfl rfl ?_   | refine JL.M1 (xok rfl rfl rfl rfl) rfl rfl ?_   | refine JL.M0 (xok rfl rfl rfl rfl) rfl ?_   | refine JL.Q0 (xok rfl rfl rfl rfl) rfl ?_   | refine JL.nilF ?_   | refine JL.nil ?_   | refine JC.scope ?_   | refine QX.tn ?_   | refine JC.seq ?_   | refine JC.region ?_   | refine JC.Draw (xok rfl rfl rfl rfl) ?_   | refine JC.block ?_   | refine JC.skip ?_   | refine JC.label ?_   | refine JC.exit ?_   | refine JC.ret ?_   | refine QX.te ?_ | refine QX.tr ?_ | refine QX.bn ?_ | refine QX.be ?_ | refine QX.bx rfl ?_ | refine QX.br ?_ | refine QX.sn ?_ | refine QX.se ?_ | refine QX.sr ?_ | refine QX.ee ?_ | refine QX.eo rfl ?_ | refine QX.er ?_ | refine QX.en ?_))
        exact ⟨(s + 1, outs ++ [(xw - (r - 1) + ((cntM la t s xs.length : Nat) : Int), (s : Int), ())]), by (exact JW.Auto rfl), ⟨by omega, by simp [hol], by rw [← hinv]; simp⟩, by dsimp only; omega⟩
    · (simp only [↓bif_or, ↓bif_and, ↓Bool.or_eq_true, ↓Bool.or_eq_false_iff, ↓Bool.and_eq_true, ↓Bool.and_eq_false_iff, ↓Bool.not_eq_true', ↓Bool.not_eq_false', ↓decide_eq_true_eq, ↓decide_eq_false_iff_not, ↓beq_iff_eq, ↓bne_iff_ne, ↓bne_eq_false_iff_eq, ↓ne_eq, ↓beq_eq_false_iff_ne, ↓Bool.not_eq_true] at hc2; try simp only [Ty.dflt, Int.toNat_natCast] at hc2)
      have hse : s = st.length := by omega
      rw [hse, List.drop_length, allF, List.append_nil] at hinv
      have hgl := grS_lt (l := outs) (by omega)
      (repeat (first   | refine JL.Q1 (xok rfl rfl rfl rfl) rfl rfl ?_   | refine JL.G1 (xok rfl rfl rfl rfl) rfl rfl rfl ?_   | refine JL.g1 (xok rfl rfl rfl rfl) rfl rfl rfl (fun hgd => And.intro hgd (fun hpk => Bool.and_eq_true_iff.2 ⟨hgd, by rw [hpk]; rfl⟩)) ?_   | refine JL.G2 (xok rfl rfl rfl rfl) rfl rfl rfl ?_   | refine JL.M1 (xok rfl rfl rfl rfl) rfl rfl ?_   | refine JL.M0 (xok rfl rfl rfl rfl) rfl ?_   | refine JL.Q0 (xok rfl rfl rfl rfl) rfl ?_   | refine JL.nilF ?_   | refine JL.nil ?_   | refine JC.scope ?_   | refine QX.tn ?_   | refine JC.seq ?_   | refine JC.region ?_   | refine JC.Draw (xok rfl rfl rfl rfl) ?_   | refine JC.block ?_   | refine JC.skip ?_   | refine JC.label ?_   | refine JC.exit ?_   | refine JC.ret ?_   | refine QX.te ?_ | refine QX.tr ?_ | refine QX.bn ?_ | refine QX.be ?_ | refine QX.bx rfl ?_ | refine QX.br ?_ | refine QX.sn ?_ | refine QX.se ?_ | refine QX.sr ?_ | refine QX.ee ?_ | refine QX.eo rfl ?_ | refine QX.er ?_ | refine QX.en ?_ | refine JL.S1 rfl (fn72 outs) rfl trivial rfl ?_ | refine JL.T1 rfl (fn72 outs) rfl rfl ?_ | refine JL.C1 rfl (fn72 outs) rfl (fun r hr => ?_); subst hr | refine JL.S1g rfl rfl (fun hgd => fn72 outs) rfl trivial rfl ?_))
      exact ⟨t + 1, by (refine JW.auto rfl ?_ ?_ ?_ ?_ rfl <;> (repeat' (first | exact trivial | exact rfl | refine And.intro ?_ ?_ | exact Nat.le_of_ble_eq_true rfl | refine HO.bdF ?_ | refine HO.bdP ?_ | (refine congrArg (fun z : Int => some (AV.val (.int .i64) z)) ?_; push_cast; omega) | (refine congrArg (fun z : List stepD => some (HO.sl 94 stepT z)) ?_; show _ ++ _ = stepsF r la (t + 1); rw [stepsF, hst, ← hinv]; rfl)))), by omega, by omega⟩
  · (simp only [↓bif_or, ↓bif_and, ↓Bool.or_eq_true, ↓Bool.or_eq_false_iff, ↓Bool.and_eq_true, ↓Bool.and_eq_false_iff, ↓Bool.not_eq_true', ↓Bool.not_eq_false', ↓decide_eq_true_eq, ↓decide_eq_false_iff_not, ↓beq_iff_eq, ↓bne_iff_ne, ↓bne_eq_false_iff_eq, ↓ne_eq, ↓beq_eq_false_iff_ne, ↓Bool.not_eq_true] at hc; try simp only [Ty.dflt, Int.toNat_natCast] at hc)
    obtain rfl : t = xs.length := by omega
    generalize hst : stepsF r la xs.length = st at hsl hbd
    have hgl := grS_lt (l := st) (by omega)
    (repeat (first   | refine JL.Q1 (xok rfl rfl rfl rfl) rfl rfl ?_   | refine JL.G1 (xok rfl rfl rfl rfl) rfl rfl rfl ?_   | refine JL.g1 (xok rfl rfl rfl rfl) rfl rfl rfl (fun hgd => And.intro hgd (fun hpk => Bool.and_eq_true_iff.2 ⟨hgd, by rw [hpk]; rfl⟩)) ?_   | refine JL.G2 (xok rfl rfl rfl rfl) rfl rfl rfl ?_   | refine JL.M1 (xok rfl rfl rfl rfl) rfl rfl ?_   | refine JL.M0 (xok rfl rfl rfl rfl) rfl ?_   | refine JL.Q0 (xok rfl rfl rfl rfl) rfl ?_   | refine JL.nilF ?_   | refine JL.nil ?_   | refine JC.scope ?_   | refine QX.tn ?_   | refine JC.seq ?_   | refine JC.region ?_   | refine JC.Draw (xok rfl rfl rfl rfl) ?_   | refine JC.block ?_   | refine JC.skip ?_   | refine JC.label ?_   | refine JC.exit ?_   | refine JC.ret ?_   | refine QX.te ?_ | refine QX.tr ?_ | refine QX.bn ?_ | refine QX.be ?_ | refine QX.bx rfl ?_ | refine QX.br ?_ | refine QX.sn ?_ | refine QX.se ?_ | refine QX.sr ?_ | refine QX.ee ?_ | refine QX.eo rfl ?_ | refine QX.er ?_ | refine QX.en ?_ | refine JL.S1 rfl (fn72 st) rfl trivial rfl ?_ | refine JL.T1 rfl (fn72 st) rfl rfl ?_ | refine JL.C1 rfl (fn72 st) rfl (fun r hr => ?_); subst hr | refine JL.S1g rfl rfl (fun hgd => fn72 st) rfl trivial rfl ?_))
    refine JC.ghost 12 3 (.int .i64) rfl ?_
    refine JC.loop (σ := Int × List Int) (fun q => ⟨[(5, .lf (.osl 0)), (12, .lf (.osl 1)), (13, vI q.1)], [(0, .sl 94 stepT st), (1, .sl 3 (.int .i64) q.2)], 2⟩)
      (fun q => -1 ≤ q.1 ∧ q.1 < st.length ∧ q.2.length + q.1.toNat ≤ st.length ∧ ∃ n : Nat, q.1 < n ∧ q.2 ++ backF st n q.1 = backF st (grS st + 1) (grS st)) (fun q => q.1.toNat) (((grS st : Nat) : Int), []) ⟨by omega, by dsimp only; omega, by simp; omega, grS st + 1, by dsimp only; omega, rfl⟩ (by (exact JW.Auto rfl)) fun q hq => ?_
    obtain ⟨s, out⟩ := q
    obtain ⟨h1, h2, h3, n, h4, h5⟩ := hq
    dsimp only at h1 h2 h3 h4 h5
    (repeat (first   | refine JL.Q1 (xok rfl rfl rfl rfl) rfl rfl ?_   | refine JL.G1 (xok rfl rfl rfl rfl) rfl rfl rfl ?_   | refine JL.g1 (xok rfl rfl rfl rfl) rfl rfl rfl (fun hgd => And.intro hgd (fun hpk => Bool.and_eq_true_iff.2 ⟨hgd, by rw [hpk]; rfl⟩)) ?_   | refine JL.G2 (xok rfl rfl rfl rfl) rfl rfl rfl ?_   | refine JL.M1 (xok rfl rfl rfl rfl) rfl rfl ?_   | refine JL.M0 (xok rfl rfl rfl rfl) rfl ?_   | refine JL.Q0 (xok rfl rfl rfl rfl) rfl ?_   | refine JL.nilF ?_   | refine JL.nil ?_   | refine JC.scope ?_   | refine QX.tn ?_   | refine JC.seq ?_   | refine JC.region ?_   | refine JC.Draw (xok rfl rfl rfl rfl) ?_   | refine JC.block ?_   | refine JC.skip ?_   | refine JC.label ?_   | refine JC.exit ?_   | refine JC.ret ?_   | refine QX.te ?_ | refine QX.tr ?_ | refine QX.bn ?_ | refine QX.be ?_ | refine QX.bx rfl ?_ | refine QX.br ?_ | refine QX.sn ?_ | refine QX.se ?_ | refine QX.sr ?_ | refine QX.ee ?_ | refine QX.eo rfl ?_ | refine QX.er ?_ | refine QX.en ?_))
    refine JC.cond rfl (fun hc2 => ?_) (fun hc2 => ?_)
    · (simp only [↓bif_or, ↓bif_and, ↓Bool.or_eq_true, ↓Bool.or_eq_false_iff, ↓Bool.and_eq_true, ↓Bool.and_eq_false_iff, ↓Bool.not_eq_true', ↓Bool.not_eq_false', ↓decide_eq_true_eq, ↓decide_eq_false_iff_not, ↓beq_iff_eq, ↓bne_iff_ne, ↓bne_eq_false_iff_eq, ↓ne_eq, ↓beq_eq_false_iff_ne, ↓Bool.not_eq_true] at hc2; try simp only [Ty.dflt, Int.toNat_natCast] at hc2)
      have hb1 : -3 * ((xs.length : Nat) : Int) ≤ (st.getD s.toNat ((0, 0, ()) : stepD)).1 ∧ (st.getD s.toNat ((0, 0, ()) : stepD)).1 ≤ 24 * xs.length ∧ -1 ≤ (st.getD s.toNat ((0, 0, ()) : stepD)).2.1 ∧ (st.getD s.toNat ((0, 0, ()) : stepD)).2.1 < s.toNat := hbd (i := s.toNat) (by omega)
      obtain ⟨m, rfl⟩ : ∃ m, n = m + 1 := ⟨n - 1, by omega⟩
      rw [backF, if_pos hc2] at h5
      (repeat (first   | refine JL.Q1 (xok rfl rfl rfl rfl) rfl rfl ?_   | refine JL.G1 (xok rfl rfl rfl rfl) rfl rfl rfl ?_   | refine JL.g1 (xok rfl rfl rfl rfl) rfl rfl rfl (fun hgd => And.intro hgd (fun hpk => Bool.and_eq_true_iff.2 ⟨hgd, by rw [hpk]; rfl⟩)) ?_   | refine JL.G2 (xok rfl rfl rfl rfl) rfl rfl rfl ?_   | refine JL.M1 (xok rfl rfl rfl rfl) rfl rfl ?_   | refine JL.M0 (xok rfl rfl rfl rfl) rfl ?_   | refine JL.Q0 (xok rfl rfl rfl rfl) rfl ?_   | refine JL.nilF ?_   | refine JL.nil ?_   | refine JC.scope ?_   | refine QX.tn ?_   | refine JC.seq ?_   | refine JC.region ?_   | refine JC.Draw (xok rfl rfl rfl rfl) ?_   | refine JC.block ?_   | refine JC.skip ?_   | refine JC.label ?_   | refine JC.exit ?_   | refine JC.ret ?_   | refine QX.te ?_ | refine QX.tr ?_ | refine QX.bn ?_ | refine QX.be ?_ | refine QX.bx rfl ?_ | refine QX.br ?_ | refine QX.sn ?_ | refine QX.se ?_ | refine QX.sr ?_ | refine QX.ee ?_ | refine QX.eo rfl ?_ | refine QX.er ?_ | refine QX.en ?_))
      exact ⟨((st.getD s.toNat ((0, 0, ()) : stepD)).2.1, out ++ [s - 1]), by (refine JW.auto rfl ?_ ?_ ?_ ?_ rfl <;> (repeat' (first | exact trivial | exact rfl | refine And.intro ?_ ?_ | exact Nat.le_of_ble_eq_true rfl | refine HO.bdF ?_ | refine HO.bdP ?_ | (refine congrArg (fun z : Int => some (AV.val (.int .i64) z)) ?_; push_cast; omega) | (refine congrArg (fun z : List Int => some (HO.sl 3 (.int .i64) z)) ?_; show _ ++ [s - 1] = out ++ [s - 1]; simp)))), ⟨by dsimp only; omega, by dsimp only; omega, by simp only [List.length_append, List.length_cons, List.length_nil]; omega, m, by dsimp only; omega, by rw [← h5]; simp⟩, by dsimp only; omega⟩
    · (simp only [↓bif_or, ↓bif_and, ↓Bool.or_eq_true, ↓Bool.or_eq_false_iff, ↓Bool.and_eq_true, ↓Bool.and_eq_false_iff, ↓Bool.not_eq_true', ↓Bool.not_eq_false', ↓decide_eq_true_eq, ↓decide_eq_false_iff_not, ↓beq_iff_eq, ↓bne_iff_ne, ↓bne_eq_false_iff_eq, ↓ne_eq, ↓beq_eq_false_iff_ne, ↓Bool.not_eq_true] at hc2; try simp only [Ty.dflt, Int.toNat_natCast] at hc2)
      have hout : out = backF st (grS st + 1) (grS st) := by
        rw [← h5]
        cases n with
        | zero => simp [backF]
        | succ n => rw [backF, if_neg hc2, List.append_nil]
      (repeat (first   | refine JL.Q1 (xok rfl rfl rfl rfl) rfl rfl ?_   | refine JL.G1 (xok rfl rfl rfl rfl) rfl rfl rfl ?_   | refine JL.g1 (xok rfl rfl rfl rfl) rfl rfl rfl (fun hgd => And.intro hgd (fun hpk => Bool.and_eq_true_iff.2 ⟨hgd, by rw [hpk]; rfl⟩)) ?_   | refine JL.G2 (xok rfl rfl rfl rfl) rfl rfl rfl ?_   | refine JL.M1 (xok rfl rfl rfl rfl) rfl rfl ?_   | refine JL.M0 (xok rfl rfl rfl rfl) rfl ?_   | refine JL.Q0 (xok rfl rfl rfl rfl) rfl ?_   | refine JL.nilF ?_   | refine JL.nil ?_   | refine JC.scope ?_   | refine QX.tn ?_   | refine JC.seq ?_   | refine JC.region ?_   | refine JC.Draw (xok rfl rfl rfl rfl) ?_   | refine JC.block ?_   | refine JC.skip ?_   | refine JC.label ?_   | refine JC.exit ?_   | refine JC.ret ?_   | refine QX.te ?_ | refine QX.tr ?_ | refine QX.bn ?_ | refine QX.be ?_ | refine QX.bx rfl ?_ | refine QX.br ?_ | refine QX.sn ?_ | refine QX.se ?_ | refine QX.sr ?_ | refine QX.ee ?_ | refine QX.eo rfl ?_ | refine QX.er ?_ | refine QX.en ?_))
      refine JL.inl [12] rfl rfl rfl rfl (by (first | exact trivial | (try dsimp only [allP, inK, idxC, loC, lohiC, fullC, underG, List.append, List.nil_append, List.cons_append, Ty.den, Ty.dflt, Int.toNat_natCast, List.length_cons, List.length_nil] at *); first | omega | ((repeat' (first | exact trivial | assumption | refine And.intro ?_ ?_ | exact fun h => h | (intro hpk; first | exact hpk | simp only [wantB, hpk, Bool.not_false, Bool.not_true]))) <;> omega) | fail)) rfl rfl Go.Proofs.Try.call73 (Nat.le_of_ble_eq_true rfl) (ltB_lt rfl) (fun M0 up => ?_)
      (conv => arg 2; whnf)
      (conv => arg 4; whnf)
      (repeat (first   | refine JL.Q1 (xok rfl rfl rfl rfl) rfl rfl ?_   | refine JL.G1 (xok rfl rfl rfl rfl) rfl rfl rfl ?_   | refine JL.g1 (xok rfl rfl rfl rfl) rfl rfl rfl (fun hgd => And.intro hgd (fun hpk => Bool.and_eq_true_iff.2 ⟨hgd, by rw [hpk]; rfl⟩)) ?_   | refine JL.G2 (xok rfl rfl rfl rfl) rfl rfl rfl ?_   | refine JL.M1 (xok rfl rfl rfl rfl) rfl rfl ?_   | refine JL.M0 (xok rfl rfl rfl rfl) rfl ?_   | refine JL.Q0 (xok rfl rfl rfl rfl) rfl ?_   | refine JL.nilF ?_   | refine JL.nil ?_   | refine JC.scope ?_   | refine QX.tn ?_   | refine JC.seq ?_   | refine JC.region ?_   | refine JC.Draw (xok rfl rfl rfl rfl) ?_   | refine JC.block ?_   | refine JC.skip ?_   | refine JC.label ?_   | refine JC.exit ?_   | refine JC.ret ?_   | refine QX.te ?_ | refine QX.tr ?_ | refine QX.bn ?_ | refine QX.be ?_ | refine QX.bx rfl ?_ | refine QX.br ?_ | refine QX.sn ?_ | refine QX.se ?_ | refine QX.sr ?_ | refine QX.ee ?_ | refine QX.eo rfl ?_ | refine QX.er ?_ | refine QX.en ?_))
      refine JC.loop (σ := Nat × List Int) (fun q => ⟨[(0, .lf (.osl 1)), (2, vI (q.1 : Int)), (3, vI ((out.length : Int) - 1 - q.1))], [(2, .fr 0 [(12, .lf (.osl 1))]), (0, .sl 94 stepT st), (1, .sl 3 (.int .i64) q.2)], 3⟩)
        (fun q => revI out q.1 q.2) (fun q => out.length - q.1) (0, out) (revI_zero out) (by (exact JW.Auto rfl)) fun q hq => ?_
      obtain ⟨i, cur⟩ := q
      dsimp only at hq
      have hcl := hq.1
      have hrv := hq.2.1
      (repeat (first   | refine JL.Q1 (xok rfl rfl rfl rfl) rfl rfl ?_   | refine JL.G1 (xok rfl rfl rfl rfl) rfl rfl rfl ?_   | refine JL.g1 (xok rfl rfl rfl rfl) rfl rfl rfl (fun hgd => And.intro hgd (fun hpk => Bool.and_eq_true_iff.2 ⟨hgd, by rw [hpk]; rfl⟩)) ?_   | refine JL.G2 (xok rfl rfl rfl rfl) rfl rfl rfl ?_   | refine JL.M1 (xok rfl rfl rfl rfl) rfl rfl ?_   | refine JL.M0 (xok rfl rfl rfl rfl) rfl ?_   | refine JL.Q0 (xok rfl rfl rfl rfl) rfl ?_   | refine JL.nilF ?_   | refine JL.nil ?_   | refine JC.scope ?_   | refine QX.tn ?_   | refine JC.seq ?_   | refine JC.region ?_   | refine JC.Draw (xok rfl rfl rfl rfl) ?_   | refine JC.block ?_   | refine JC.skip ?_   | refine JC.label ?_   | refine JC.exit ?_   | refine JC.ret ?_   | refine QX.te ?_ | refine QX.tr ?_ | refine QX.bn ?_ | refine QX.be ?_ | refine QX.bx rfl ?_ | refine QX.br ?_ | refine QX.sn ?_ | refine QX.se ?_ | refine QX.sr ?_ | refine QX.ee ?_ | refine QX.eo rfl ?_ | refine QX.er ?_ | refine QX.en ?_))
      refine JC.cond rfl (fun hc3 => ?_) (fun hc3 => ?_)
      · (simp only [↓bif_or, ↓bif_and, ↓Bool.or_eq_true, ↓Bool.or_eq_false_iff, ↓Bool.and_eq_true, ↓Bool.and_eq_false_iff, ↓Bool.not_eq_true', ↓Bool.not_eq_false', ↓decide_eq_true_eq, ↓decide_eq_false_iff_not, ↓beq_iff_eq, ↓bne_iff_ne, ↓bne_eq_false_iff_eq, ↓ne_eq, ↓beq_eq_false_iff_ne, ↓Bool.not_eq_true] at hc3; try simp only [Ty.dflt, Int.toNat_natCast] at hc3)
        have hsl1 : (cur.set i (cur.getD ((out.length : Int) - 1 - i).toNat 0)).length = out.length := by rw [List.length_set, hcl]
        (repeat (first   | refine JL.Q1 (xok rfl rfl rfl rfl) rfl rfl ?_   | refine JL.G1 (xok rfl rfl rfl rfl) rfl rfl rfl ?_   | refine JL.g1 (xok rfl rfl rfl rfl) rfl rfl rfl (fun hgd => And.intro hgd (fun hpk => Bool.and_eq_true_iff.2 ⟨hgd, by rw [hpk]; rfl⟩)) ?_   | refine JL.G2 (xok rfl rfl rfl rfl) rfl rfl rfl ?_   | refine JL.M1 (xok rfl rfl rfl rfl) rfl rfl ?_   | refine JL.M0 (xok rfl rfl rfl rfl) rfl ?_   | refine JL.Q0 (xok rfl rfl rfl rfl) rfl ?_   | refine JL.nilF ?_   | refine JL.nil ?_   | refine JC.scope ?_   | refine QX.tn ?_   | refine JC.seq ?_   | refine JC.region ?_      | refine JC.block ?_   | refine JC.skip ?_   | refine JC.label ?_   | refine JC.exit ?_   | refine JC.ret ?_   | refine QX.te ?_ | refine QX.tr ?_ | refine QX.bn ?_ | refine QX.be ?_ | refine QX.bx rfl ?_ | refine QX.br ?_ | refine QX.sn ?_ | refine QX.se ?_ | refine QX.sr ?_ | refine QX.ee ?_ | refine QX.eo rfl ?_ | refine QX.er ?_ | refine QX.en ?_))
        refine JC.drawE (xok rfl rfl rfl rfl) (Go.Proofs.Try.f73.body.getD .skip) ⟨[(0, .lf (.osl 1)), (2, vI (i : Int)), (3, vI ((out.length : Int) - 1 - i))], [(2, .fr 0 [(12, .lf (.osl 1))]), (0, .sl 94 stepT st), (1, .sl 3 (.int .i64) ((cur.set i (cur.getD ((out.length : Int) - 1 - i).toNat 0)).set ((out.length : Int) - 1 - i).toNat (cur.getD i 0)))], 3⟩ rfl 16 rfl ?_ (fun _ => rfl) ?_
        · (refine JF.First 0 (xok rfl rfl rfl rfl) rfl rfl ?_; refine JF.First 1 (xok rfl rfl rfl rfl) rfl rfl ?_; refine JF.First 2 (xok rfl rfl rfl rfl) rfl rfl ?_; refine JF.First 3 (xok rfl rfl rfl rfl) rfl rfl ?_; refine JF.First 4 (xok rfl rfl rfl rfl) rfl rfl ?_; refine JF.First 5 (xok rfl rfl rfl rfl) rfl rfl ?_; refine JF.First 6 (xok rfl rfl rfl rfl) rfl rfl ?_; refine JF.First 8 (xok rfl rfl rfl rfl) rfl rfl ?_; refine JF.First 9 (xok rfl rfl rfl rfl) rfl rfl ?_; refine JF.First 10 (xok rfl rfl rfl rfl) rfl rfl ?_; refine JF.Float 7 (xok rfl rfl rfl rfl) rfl rfl ?_; refine JF.Float 11 (xok rfl rfl rfl rfl) rfl rfl ?_; refine JF.Float 12 (xok rfl rfl rfl rfl) rfl rfl ?_; refine JF.Branch 13 [] (xok rfl rfl rfl rfl) ?_ ?_; (focus (repeat (first | exact StF.nil | refine StF.One rfl rfl rfl ?_))); refine BrF.one rfl rfl ?_ BrF.nil; (· (first | refine JL.Q1 (xok rfl rfl rfl rfl) rfl rfl ?_ | refine JL.G1 (xok rfl rfl rfl rfl) rfl rfl rfl ?_ | refine JL.M1 (xok rfl rfl rfl rfl) rfl rfl ?_ | refine JL.M0 (xok rfl rfl rfl rfl) rfl ?_ | refine JL.Q0 (xok rfl rfl rfl rfl) rfl ?_); refine JL.finN ?_; refine JF.First 14 (xok rfl rfl rfl rfl) rfl rfl ?_; refine JF.Branch 15 [] (xok rfl rfl rfl rfl) ?_ ?_; (focus (repeat (first | exact StF.nil | refine StF.One rfl rfl rfl ?_))); refine BrF.one rfl rfl ?_ BrF.nil; (· (first | refine JL.Q1 (xok rfl rfl rfl rfl) rfl rfl ?_ | refine JL.G1 (xok rfl rfl rfl rfl) rfl rfl rfl ?_ | refine JL.M1 (xok rfl rfl rfl rfl) rfl rfl ?_ | refine JL.M0 (xok rfl rfl rfl rfl) rfl ?_ | refine JL.Q0 (xok rfl rfl rfl rfl) rfl ?_); refine JL.finN ?_; refine JF.Done (xok rfl rfl rfl rfl) ?_ ?_; (focus (repeat (first | exact StF.nil | refine StF.One rfl rfl rfl ?_))); ((exact JW.Auto rfl)))))
        (repeat (first   | refine JL.Q1 (xok rfl rfl rfl rfl) rfl rfl ?_   | refine JL.G1 (xok rfl rfl rfl rfl) rfl rfl rfl ?_   | refine JL.g1 (xok rfl rfl rfl rfl) rfl rfl rfl (fun hgd => And.intro hgd (fun hpk => Bool.and_eq_true_iff.2 ⟨hgd, by rw [hpk]; rfl⟩)) ?_   | refine JL.G2 (xok rfl rfl rfl rfl) rfl rfl rfl ?_   | refine JL.M1 (xok rfl rfl rfl rfl) rfl rfl ?_   | refine JL.M0 (xok rfl rfl rfl rfl) rfl ?_   | refine JL.Q0 (xok rfl rfl rfl rfl) rfl ?_   | refine JL.nilF ?_   | refine JL.nil ?_   | refine JC.scope ?_   | refine QX.tn ?_   | refine JC.seq ?_   | refine JC.region ?_   | refine JC.Draw (xok rfl rfl rfl rfl) ?_   | refine JC.block ?_   | refine JC.skip ?_   | refine JC.label ?_   | refine JC.exit ?_   | refine JC.ret ?_   | refine QX.te ?_ | refine QX.tr ?_ | refine QX.bn ?_ | refine QX.be ?_ | refine QX.bx rfl ?_ | refine QX.br ?_ | refine QX.sn ?_ | refine QX.se ?_ | refine QX.sr ?_ | refine QX.ee ?_ | refine QX.eo rfl ?_ | refine QX.er ?_ | refine QX.en ?_))
        exact ⟨(i + 1, _), by (exact JW.Auto rfl), revI_step hq hc3, by dsimp only; omega⟩
      · (simp only [↓bif_or, ↓bif_and, ↓Bool.or_eq_true, ↓Bool.or_eq_false_iff, ↓Bool.and_eq_true, ↓Bool.and_eq_false_iff, ↓Bool.not_eq_true', ↓Bool.not_eq_false', ↓decide_eq_true_eq, ↓decide_eq_false_iff_not, ↓beq_iff_eq, ↓bne_iff_ne, ↓bne_eq_false_iff_eq, ↓ne_eq, ↓beq_eq_false_iff_ne, ↓Bool.not_eq_true] at hc3; try simp only [Ty.dflt, Int.toNat_natCast] at hc3)
        have hrev := revI_done hq (by omega)
        subst hrev
        (repeat (first   | refine JL.Q1 (xok rfl rfl rfl rfl) rfl rfl ?_   | refine JL.G1 (xok rfl rfl rfl rfl) rfl rfl rfl ?_   | refine JL.g1 (xok rfl rfl rfl rfl) rfl rfl rfl (fun hgd => And.intro hgd (fun hpk => Bool.and_eq_true_iff.2 ⟨hgd, by rw [hpk]; rfl⟩)) ?_   | refine JL.G2 (xok rfl rfl rfl rfl) rfl rfl rfl ?_   | refine JL.M1 (xok rfl rfl rfl rfl) rfl rfl ?_   | refine JL.M0 (xok rfl rfl rfl rfl) rfl ?_   | refine JL.Q0 (xok rfl rfl rfl rfl) rfl ?_   | refine JL.nilF ?_   | refine JL.nil ?_   | refine JC.scope ?_   | refine QX.tn ?_   | refine JC.seq ?_   | refine JC.region ?_   | refine JC.Draw (xok rfl rfl rfl rfl) ?_   | refine JC.block ?_   | refine JC.skip ?_   | refine JC.label ?_   | refine JC.exit ?_   | refine JC.ret ?_   | refine QX.te ?_ | refine QX.tr ?_ | refine QX.bn ?_ | refine QX.be ?_ | refine QX.bx rfl ?_ | refine QX.br ?_ | refine QX.sn ?_ | refine QX.se ?_ | refine QX.sr ?_ | refine QX.ee ?_ | refine QX.eo rfl ?_ | refine QX.er ?_ | refine QX.en ?_))
        refine inlQ.nor rfl rfl rfl rfl ?_
        (conv => arg 6; whnf)
        (repeat (first   | refine JL.Q1 (xok rfl rfl rfl rfl) rfl rfl ?_   | refine JL.G1 (xok rfl rfl rfl rfl) rfl rfl rfl ?_   | refine JL.g1 (xok rfl rfl rfl rfl) rfl rfl rfl (fun hgd => And.intro hgd (fun hpk => Bool.and_eq_true_iff.2 ⟨hgd, by rw [hpk]; rfl⟩)) ?_   | refine JL.G2 (xok rfl rfl rfl rfl) rfl rfl rfl ?_   | refine JL.M1 (xok rfl rfl rfl rfl) rfl rfl ?_   | refine JL.M0 (xok rfl rfl rfl rfl) rfl ?_   | refine JL.Q0 (xok rfl rfl rfl rfl) rfl ?_   | refine JL.nilF ?_   | refine JL.nil ?_   | refine JC.scope ?_   | refine QX.tn ?_   | refine JC.seq ?_   | refine JC.region ?_   | refine JC.Draw (xok rfl rfl rfl rfl) ?_   | refine JC.block ?_   | refine JC.skip ?_   | refine JC.label ?_   | refine JC.exit ?_   | refine JC.ret ?_   | refine QX.te ?_ | refine QX.tr ?_ | refine QX.bn ?_ | refine QX.be ?_ | refine QX.bx rfl ?_ | refine QX.br ?_ | refine QX.sn ?_ | refine QX.se ?_ | refine QX.sr ?_ | refine QX.ee ?_ | refine QX.eo rfl ?_ | refine QX.er ?_ | refine QX.en ?_))
        refine ⟨.inl rfl, _, _, rfl, trivial, ?_⟩
        show vL out.reverse = _
        rw [hout]
        simp only [momentsS, hla, hst]
end Go.Proofs.Ytbmgijgnbilnoaa

namespace Go.Proofs.Ytbmgijgnbilnoaa
open Go Go.RowKit Ox
attribute [local irreducible] JC JL JK JW

def momentsD (r : Int) (xs : List Int) : List Int := if dayErr r xs = 0 then momentsS r (lasts xs xs.length) else []
theorem fn34 (r : Int) (xs : List Int) : Ox.Fn Go.Proofs.Try.prog 34 (.acons (vD r xs) .anil) (· = .tup (.acons (vL (momentsD r xs)) (.acons (vI (dayErr r xs)) .anil))) := by
  refine Ox.Fn.intro xok Go.Proofs.Try.func34 rfl Go.Proofs.Try.call34 (Nat.le_of_ble_eq_true rfl) (fun E M0 up => ?_)
  refine JK.start ?_
  have hon := openE_nil r xs
  by_cases ho : dayErr r xs = 0
  · obtain ⟨hr, hl, hx⟩ := dayErr_zero.1 ho
    rw [momentsD, if_pos ho]
    (repeat (first | refine zs rfl ?_ | refine zg rfl rfl rfl ?_ | refine zd ?_ | refine JK.fin ?_ | refine JK.ret ?_ | refine zc rfl (fn46ok r xs List.nil (hon.trans ho)) rfl rfl ?_ | refine ze rfl (fn46ok r xs List.nil (hon.trans ho)) rfl ?_ | refine zk rfl rfl (fun _ => fn46ok r xs List.nil (hon.trans ho)) rfl rfl ?_))
    refine JK.cond rfl (fun hc => absurd hc (by decide)) (fun _ => ?_)
    (repeat (first | refine zs rfl ?_ | refine zg rfl rfl rfl ?_ | refine zd ?_ | refine JK.fin ?_ | refine JK.ret ?_ | refine zc rfl (fn62 r xs (lasts xs xs.length) (nexts xs xs.length) hr hl.2 (lasts_length xs xs.length)) rfl rfl ?_ | refine ze rfl (fn62 r xs (lasts xs xs.length) (nexts xs xs.length) hr hl.2 (lasts_length xs xs.length)) rfl ?_ | refine zk rfl rfl (fun _ => fn62 r xs (lasts xs xs.length) (nexts xs xs.length) hr hl.2 (lasts_length xs xs.length)) rfl rfl ?_))
    refine ⟨.inl rfl, _, _, rfl, trivial, ?_⟩
    rw [ho]
  · have her := fn46er r xs List.nil (by rw [hon]; exact ho)
    (repeat (first | refine zs rfl ?_ | refine zg rfl rfl rfl ?_ | refine zd ?_ | refine JK.fin ?_ | refine JK.ret ?_ | refine zc rfl (her) rfl rfl ?_ | refine ze rfl (her) rfl ?_ | refine zk rfl rfl (fun _ => her) rfl rfl ?_))
    refine JK.cond rfl (fun hc => ?_) (fun hc => ?_)
    · (repeat (first | refine zs rfl ?_ | refine zg rfl rfl rfl ?_ | refine zd ?_ | refine JK.fin ?_ | refine JK.ret ?_))
      refine ⟨.inl rfl, _, _, rfl, trivial, ?_⟩
      rw [momentsD, if_neg ho, hon]
    · (simp only [↓bif_or, ↓bif_and, ↓Bool.or_eq_true, ↓Bool.or_eq_false_iff, ↓Bool.and_eq_true, ↓Bool.and_eq_false_iff, ↓Bool.not_eq_true', ↓Bool.not_eq_false', ↓decide_eq_true_eq, ↓decide_eq_false_iff_not, ↓beq_iff_eq, ↓bne_iff_ne, ↓bne_eq_false_iff_eq, ↓ne_eq, ↓beq_eq_false_iff_ne, ↓Bool.not_eq_true] at hc; try simp only [Ty.dflt, Int.toNat_natCast] at hc)
      exact absurd (hon.symm.trans hc) ho

def curveV (xs : List Int) (m : Nat) : Int := ((playS (m + 1) xs (planS (m + 1) xs)).countP (fun x => !x.2.1) : Nat)
def curveS (r : Int) (xs : List Int) : List Int := if dayErr r xs = 0 then (List.range 4).map (curveV xs) else []
theorem fn29 (r : Int) (xs : List Int) : Ox.Fn Go.Proofs.Try.prog 29 (.acons (vD r xs) .anil) (· = .tup (.acons (vL (curveS r xs)) (.acons (vI (dayErr r xs)) .anil))) := by
  refine Ox.Fn.intro xok Go.Proofs.Try.func29 rfl Go.Proofs.Try.call29 (Nat.le_of_ble_eq_true rfl) (fun E M0 up => ?_)
  refine JK.start ?_
  (repeat (first | refine zs rfl ?_ | refine zg rfl rfl rfl ?_ | refine zd ?_ | refine JK.fin ?_ | refine JK.ret ?_ | refine zc rfl (fn19 r xs) rfl rfl ?_ | refine ze rfl (fn19 r xs) rfl ?_ | refine zk rfl rfl (fun _ => fn19 r xs) rfl rfl ?_))
  refine JK.cond rfl (fun hc => ?_) (fun hc => ?_)
  · (simp only [↓bif_or, ↓bif_and, ↓Bool.or_eq_true, ↓Bool.or_eq_false_iff, ↓Bool.and_eq_true, ↓Bool.and_eq_false_iff, ↓Bool.not_eq_true', ↓Bool.not_eq_false', ↓decide_eq_true_eq, ↓decide_eq_false_iff_not, ↓beq_iff_eq, ↓bne_iff_ne, ↓bne_eq_false_iff_eq, ↓ne_eq, ↓beq_eq_false_iff_ne, ↓Bool.not_eq_true] at hc; try simp only [Ty.dflt, Int.toNat_natCast] at hc)
    (repeat (first | refine zs rfl ?_ | refine zg rfl rfl rfl ?_ | refine zd ?_ | refine JK.fin ?_ | refine JK.ret ?_))
    refine ⟨.inl rfl, _, _, rfl, trivial, ?_⟩
    rw [curveS, if_neg hc]
  · (simp only [↓bif_or, ↓bif_and, ↓Bool.or_eq_true, ↓Bool.or_eq_false_iff, ↓Bool.and_eq_true, ↓Bool.and_eq_false_iff, ↓Bool.not_eq_true', ↓Bool.not_eq_false', ↓decide_eq_true_eq, ↓decide_eq_false_iff_not, ↓beq_iff_eq, ↓bne_iff_ne, ↓bne_eq_false_iff_eq, ↓ne_eq, ↓beq_eq_false_iff_ne, ↓Bool.not_eq_true] at hc; try simp only [Ty.dflt, Int.toNat_natCast] at hc)
    obtain ⟨hr, hl, hx⟩ := dayErr_zero.1 hc
    (repeat (first | refine zs rfl ?_ | refine zg rfl rfl rfl ?_ | refine zd ?_ | refine JK.fin ?_ | refine JK.ret ?_))
    refine JK.ghost 5 3 (.int .i64) rfl ?_
    refine JK.loop (fun m : Nat => ⟨[(1, .lf (.optr 0 [])), (5, .lf (.osl 1)), (13, vI (m : Int))], [(0, .cell dayT (vD r xs)), (1, .sl 3 (.int .i64) ((List.range m).map (curveV xs)))], 2⟩)
      (fun m => m ≤ 4) (fun m => 4 - m) 0 (by simp) (by (exact JW.Auto rfl)) fun m hm => ?_
    have hlm : ((List.range m).map (curveV xs)).length = m := by simp
    (repeat (first | refine zs rfl ?_ | refine zg rfl rfl rfl ?_ | refine zd ?_ | refine JK.fin ?_ | refine JK.ret ?_))
    refine JK.cond rfl (fun hd => ?_) (fun hd => ?_)
    · (simp only [↓bif_or, ↓bif_and, ↓Bool.or_eq_true, ↓Bool.or_eq_false_iff, ↓Bool.and_eq_true, ↓Bool.and_eq_false_iff, ↓Bool.not_eq_true', ↓Bool.not_eq_false', ↓decide_eq_true_eq, ↓decide_eq_false_iff_not, ↓beq_iff_eq, ↓bne_iff_ne, ↓bne_eq_false_iff_eq, ↓ne_eq, ↓beq_eq_false_iff_ne, ↓Bool.not_eq_true] at hd; try simp only [Ty.dflt, Int.toNat_natCast] at hd)
      (repeat (first | refine zs rfl ?_ | refine zg rfl rfl rfl ?_ | refine JK.fin ?_ | refine JK.ret ?_ | refine zc rfl (fn56 ((m : Int) + 1) xs hx hl.2) rfl rfl ?_ | refine ze rfl (fn56 ((m : Int) + 1) xs hx hl.2) rfl ?_ | refine zk rfl rfl (fun _ => fn56 ((m : Int) + 1) xs hx hl.2) rfl rfl ?_))
      have h54 := fn54 ((m : Int) + 1) xs (lasts xs xs.length) (nexts xs xs.length) (by omega) hx (by omega)
      have h55 := fn55 ((m : Int) + 1) xs (lasts xs xs.length) (nexts xs xs.length) (planS ((m : Int) + 1) xs) hx (by omega) (planS_len _ xs)
      refine JK.drawB (xok rfl rfl rfl rfl) (Go.Proofs.Try.f29.body.getD .skip) ⟨[(1, .lf (.optr 0 [])), (5, .lf (.osl 1)), (13, vI (m : Int))], [(0, .cell dayT (vD r xs)), (1, .sl 3 (.int .i64) ((List.range (m + 1)).map (curveV xs)))], 2⟩ rfl 12 rfl ?_ ?_
      · (refine JF.First 0 (xok rfl rfl rfl rfl) rfl rfl ?_; refine JF.First 1 (xok rfl rfl rfl rfl) rfl rfl ?_; refine JF.First 2 (xok rfl rfl rfl rfl) rfl rfl ?_; refine JF.First 3 (xok rfl rfl rfl rfl) rfl rfl ?_; refine JF.First 4 (xok rfl rfl rfl rfl) rfl rfl ?_; refine JF.First 5 (xok rfl rfl rfl rfl) rfl rfl ?_; refine JF.Branch 6 [] (xok rfl rfl rfl rfl) ?_ ?_; (focus (repeat (first | exact StF.nil | refine StF.One rfl rfl rfl ?_))); refine BrF.one rfl rfl ?_ BrF.nil; (· (first | refine JL.Q1 (xok rfl rfl rfl rfl) rfl rfl ?_ | refine JL.G1 (xok rfl rfl rfl rfl) rfl rfl rfl ?_ | refine JL.M1 (xok rfl rfl rfl rfl) rfl rfl ?_ | refine JL.M0 (xok rfl rfl rfl rfl) rfl ?_ | refine JL.Q0 (xok rfl rfl rfl rfl) rfl ?_ | refine JL.S1 rfl (h54) rfl trivial rfl ?_ | refine JL.T1 rfl (h54) rfl rfl ?_ | refine JL.C1 rfl (h54) rfl (fun r hr => ?_); subst hr | refine JL.S1g rfl rfl (fun hgd => h54) rfl trivial rfl ?_ | refine JL.S1 rfl (h55) rfl trivial rfl ?_ | refine JL.T1 rfl (h55) rfl rfl ?_ | refine JL.C1 rfl (h55) rfl (fun r hr => ?_); subst hr | refine JL.S1g rfl rfl (fun hgd => h55) rfl trivial rfl ?_ | refine JL.S1 rfl (fn51 (playS ((m : Int) + 1) xs (planS ((m : Int) + 1) xs))) rfl trivial rfl ?_ | refine JL.T1 rfl (fn51 (playS ((m : Int) + 1) xs (planS ((m : Int) + 1) xs))) rfl rfl ?_ | refine JL.C1 rfl (fn51 (playS ((m : Int) + 1) xs (planS ((m : Int) + 1) xs))) rfl (fun r hr => ?_); subst hr | refine JL.S1g rfl rfl (fun hgd => fn51 (playS ((m : Int) + 1) xs (planS ((m : Int) + 1) xs))) rfl trivial rfl ?_); refine JL.finN ?_; refine JF.Branch 7 [] (xok rfl rfl rfl rfl) ?_ ?_; (focus (repeat (first | exact StF.nil | refine StF.One rfl rfl rfl ?_))); refine BrF.one rfl rfl ?_ BrF.nil; (· (first | refine JL.Q1 (xok rfl rfl rfl rfl) rfl rfl ?_ | refine JL.G1 (xok rfl rfl rfl rfl) rfl rfl rfl ?_ | refine JL.M1 (xok rfl rfl rfl rfl) rfl rfl ?_ | refine JL.M0 (xok rfl rfl rfl rfl) rfl ?_ | refine JL.Q0 (xok rfl rfl rfl rfl) rfl ?_ | refine JL.S1 rfl (h54) rfl trivial rfl ?_ | refine JL.T1 rfl (h54) rfl rfl ?_ | refine JL.C1 rfl (h54) rfl (fun r hr => ?_); subst hr | refine JL.S1g rfl rfl (fun hgd => h54) rfl trivial rfl ?_ | refine JL.S1 rfl (h55) rfl trivial rfl ?_ | refine JL.T1 rfl (h55) rfl rfl ?_ | refine JL.C1 rfl (h55) rfl (fun r hr => ?_); subst hr | refine JL.S1g rfl rfl (fun hgd => h55) rfl trivial rfl ?_ | refine JL.S1 rfl (fn51 (playS ((m : Int) + 1) xs (planS ((m : Int) + 1) xs))) rfl trivial rfl ?_ | refine JL.T1 rfl (fn51 (playS ((m : Int) + 1) xs (planS ((m : Int) + 1) xs))) rfl rfl ?_ | refine JL.C1 rfl (fn51 (playS ((m : Int) + 1) xs (planS ((m : Int) + 1) xs))) rfl (fun r hr => ?_); subst hr | refine JL.S1g rfl rfl (fun hgd => fn51 (playS ((m : Int) + 1) xs (planS ((m : Int) + 1) xs))) rfl trivial rfl ?_); refine JL.finN ?_; refine JF.Branch 8 [] (xok rfl rfl rfl rfl) ?_ ?_; (focus (repeat (first | exact StF.nil | refine StF.One rfl rfl rfl ?_))); refine BrF.one rfl rfl ?_ BrF.nil; (· (first | refine JL.Q1 (xok rfl rfl rfl rfl) rfl rfl ?_ | refine JL.G1 (xok rfl rfl rfl rfl) rfl rfl rfl ?_ | refine JL.M1 (xok rfl rfl rfl rfl) rfl rfl ?_ | refine JL.M0 (xok rfl rfl rfl rfl) rfl ?_ | refine JL.Q0 (xok rfl rfl rfl rfl) rfl ?_ | refine JL.S1 rfl (h54) rfl trivial rfl ?_ | refine JL.T1 rfl (h54) rfl rfl ?_ | refine JL.C1 rfl (h54) rfl (fun r hr => ?_); subst hr | refine JL.S1g rfl rfl (fun hgd => h54) rfl trivial rfl ?_ | refine JL.S1 rfl (h55) rfl trivial rfl ?_ | refine JL.T1 rfl (h55) rfl rfl ?_ | refine JL.C1 rfl (h55) rfl (fun r hr => ?_); subst hr | refine JL.S1g rfl rfl (fun hgd => h55) rfl trivial rfl ?_ | refine JL.S1 rfl (fn51 (playS ((m : Int) + 1) xs (planS ((m : Int) + 1) xs))) rfl trivial rfl ?_ | refine JL.T1 rfl (fn51 (playS ((m : Int) + 1) xs (planS ((m : Int) + 1) xs))) rfl rfl ?_ | refine JL.C1 rfl (fn51 (playS ((m : Int) + 1) xs (planS ((m : Int) + 1) xs))) rfl (fun r hr => ?_); subst hr | refine JL.S1g rfl rfl (fun hgd => fn51 (playS ((m : Int) + 1) xs (planS ((m : Int) + 1) xs))) rfl trivial rfl ?_); refine JL.finN ?_; refine JF.Branch 9 [] (xok rfl rfl rfl rfl) ?_ ?_; (focus (repeat (first | exact StF.nil | refine StF.One rfl rfl rfl ?_))); refine BrF.one rfl rfl ?_ BrF.nil; (· (first | refine JL.Q1 (xok rfl rfl rfl rfl) rfl rfl ?_ | refine JL.G1 (xok rfl rfl rfl rfl) rfl rfl rfl ?_ | refine JL.M1 (xok rfl rfl rfl rfl) rfl rfl ?_ | refine JL.M0 (xok rfl rfl rfl rfl) rfl ?_ | refine JL.Q0 (xok rfl rfl rfl rfl) rfl ?_ | refine JL.S1 rfl (h54) rfl trivial rfl ?_ | refine JL.T1 rfl (h54) rfl rfl ?_ | refine JL.C1 rfl (h54) rfl (fun r hr => ?_); subst hr | refine JL.S1g rfl rfl (fun hgd => h54) rfl trivial rfl ?_ | refine JL.S1 rfl (h55) rfl trivial rfl ?_ | refine JL.T1 rfl (h55) rfl rfl ?_ | refine JL.C1 rfl (h55) rfl (fun r hr => ?_); subst hr | refine JL.S1g rfl rfl (fun hgd => h55) rfl trivial rfl ?_ | refine JL.S1 rfl (fn51 (playS ((m : Int) + 1) xs (planS ((m : Int) + 1) xs))) rfl trivial rfl ?_ | refine JL.T1 rfl (fn51 (playS ((m : Int) + 1) xs (planS ((m : Int) + 1) xs))) rfl rfl ?_ | refine JL.C1 rfl (fn51 (playS ((m : Int) + 1) xs (planS ((m : Int) + 1) xs))) rfl (fun r hr => ?_); subst hr | refine JL.S1g rfl rfl (fun hgd => fn51 (playS ((m : Int) + 1) xs (planS ((m : Int) + 1) xs))) rfl trivial rfl ?_); refine JL.finN ?_; refine JF.Branch 10 [] (xok rfl rfl rfl rfl) ?_ ?_; (focus (repeat (first | exact StF.nil | refine StF.One rfl rfl rfl ?_))); refine BrF.one rfl rfl ?_ BrF.nil; (· (first | refine JL.Q1 (xok rfl rfl rfl rfl) rfl rfl ?_ | refine JL.G1 (xok rfl rfl rfl rfl) rfl rfl rfl ?_ | refine JL.M1 (xok rfl rfl rfl rfl) rfl rfl ?_ | refine JL.M0 (xok rfl rfl rfl rfl) rfl ?_ | refine JL.Q0 (xok rfl rfl rfl rfl) rfl ?_ | refine JL.S1 rfl (h54) rfl trivial rfl ?_ | refine JL.T1 rfl (h54) rfl rfl ?_ | refine JL.C1 rfl (h54) rfl (fun r hr => ?_); subst hr | refine JL.S1g rfl rfl (fun hgd => h54) rfl trivial rfl ?_ | refine JL.S1 rfl (h55) rfl trivial rfl ?_ | refine JL.T1 rfl (h55) rfl rfl ?_ | refine JL.C1 rfl (h55) rfl (fun r hr => ?_); subst hr | refine JL.S1g rfl rfl (fun hgd => h55) rfl trivial rfl ?_ | refine JL.S1 rfl (fn51 (playS ((m : Int) + 1) xs (planS ((m : Int) + 1) xs))) rfl trivial rfl ?_ | refine JL.T1 rfl (fn51 (playS ((m : Int) + 1) xs (planS ((m : Int) + 1) xs))) rfl rfl ?_ | refine JL.C1 rfl (fn51 (playS ((m : Int) + 1) xs (planS ((m : Int) + 1) xs))) rfl (fun r hr => ?_); subst hr | refine JL.S1g rfl rfl (fun hgd => fn51 (playS ((m : Int) + 1) xs (planS ((m : Int) + 1) xs))) rfl trivial rfl ?_); refine JL.finN ?_; refine JF.First 11 (xok rfl rfl rfl rfl) rfl rfl ?_; refine JF.Done (xok rfl rfl rfl rfl) ?_ ?_; (focus (repeat (first | exact StF.nil | refine StF.One rfl rfl rfl ?_))); ((refine JW.auto rfl ?_ ?_ ?_ ?_ rfl <;> (repeat' (first | exact trivial | exact rfl | refine And.intro ?_ ?_ | exact Nat.le_of_ble_eq_true rfl | refine HO.bdF ?_ | refine HO.bdP ?_ | (refine congrArg (fun z : Int => some (AV.val (.int .i64) z)) ?_; push_cast; omega) | (refine congrArg (fun z : List Int => some (HO.sl 3 (.int .i64) z)) ?_; show List.take m ((List.range m).map (curveV xs)) ++ [curveV xs m] = (List.range (m + 1)).map (curveV xs); rw [List.take_of_length_le (by simp), List.range_succ]; simp)))))))))))
      · (repeat (first | refine zs rfl ?_ | refine zg rfl rfl rfl ?_ | refine zd ?_ | refine JK.fin ?_ | refine JK.ret ?_))
        exact ⟨m + 1, by (exact JW.Auto rfl), by omega, by omega⟩
    · (simp only [↓bif_or, ↓bif_and, ↓Bool.or_eq_true, ↓Bool.or_eq_false_iff, ↓Bool.and_eq_true, ↓Bool.and_eq_false_iff, ↓Bool.not_eq_true', ↓Bool.not_eq_false', ↓decide_eq_true_eq, ↓decide_eq_false_iff_not, ↓beq_iff_eq, ↓bne_iff_ne, ↓bne_eq_false_iff_eq, ↓ne_eq, ↓beq_eq_false_iff_ne, ↓Bool.not_eq_true] at hd; try simp only [Ty.dflt, Int.toNat_natCast] at hd)
      obtain rfl : m = 4 := by omega
      (repeat (first | refine zs rfl ?_ | refine zg rfl rfl rfl ?_ | refine zd ?_ | refine JK.fin ?_ | refine JK.ret ?_))
      refine ⟨.inl rfl, _, _, rfl, trivial, ?_⟩
      rw [hc, curveS, if_pos hc]

theorem fn17 (r : Int) (xs : List Int) (n : Int) : Ox.Fn Go.Proofs.Try.prog 17 (.acons (vD r xs) (.acons (vI n) .anil)) (· = vT2 (beforeS r xs n).1 (beforeS r xs n).2) := by
  refine Ox.Fn.intro xok Go.Proofs.Try.func17 rfl Go.Proofs.Try.call17 (Nat.le_of_ble_eq_true rfl) (fun E M0 up => ?_)
  refine JK.start ?_
  by_cases ho : openE r xs [n] = 0
  · have hcall := fn46ok r xs (n :: List.nil) ho
    obtain ⟨hv, hbk⟩ := openE_valid ho
    have hb := hbk n (by simp)
    have hll := lasts_length xs xs.length
    have hlt : n.toNat < xs.length := by omega
    have hlg : (lasts xs xs.length).getD n.toNat 0 = lastB xs (xs.getD n.toNat 0) n.toNat := by
      rw [lasts, List.getD_eq_getElem?_getD, List.getElem?_eq_getElem (by simpa using hlt)]
      simp
    (repeat (first | refine zs rfl ?_ | refine zg rfl rfl rfl ?_ | refine zd ?_ | refine JK.fin ?_ | refine JK.ret ?_))
    (refine JK.frzL [1] [1,2,9,11] rfl (by (first | exact trivial | (try dsimp only [allP, inK, idxC, loC, lohiC, fullC, underG, List.append, List.nil_append, List.cons_append, Ty.den, Ty.dflt, Int.toNat_natCast, List.length_cons, List.length_nil] at *); first | omega | ((repeat' (first | exact trivial | assumption | refine And.intro ?_ ?_ | exact fun h => h | (intro hpk; first | exact hpk | simp only [wantB, hpk, Bool.not_false, Bool.not_true]))) <;> omega) | fail)) ?_)
    (repeat (first | refine zs rfl ?_ | refine zg rfl rfl rfl ?_ | refine zd ?_ | refine JK.fin ?_ | refine JK.ret ?_ | refine zc rfl (hcall) rfl rfl ?_ | refine ze rfl (hcall) rfl ?_ | refine zk rfl rfl (fun _ => hcall) rfl rfl ?_))
    refine JK.cond rfl (fun hc => absurd hc (by decide)) (fun _ => ?_)
    (repeat (first | refine zs rfl ?_ | refine zg rfl rfl rfl ?_ | refine zd ?_ | refine JK.fin ?_ | refine JK.ret ?_))
    refine JK.cond rfl (fun hc => ?_) (fun hc => ?_)
    · (simp only [↓bif_or, ↓bif_and, ↓Bool.or_eq_true, ↓Bool.or_eq_false_iff, ↓Bool.and_eq_true, ↓Bool.and_eq_false_iff, ↓Bool.not_eq_true', ↓Bool.not_eq_false', ↓decide_eq_true_eq, ↓decide_eq_false_iff_not, ↓beq_iff_eq, ↓bne_iff_ne, ↓bne_eq_false_iff_eq, ↓ne_eq, ↓beq_eq_false_iff_ne, ↓Bool.not_eq_true] at hc; try simp only [Ty.dflt, Int.toNat_natCast] at hc)
      (repeat (first | refine zs rfl ?_ | refine zg rfl rfl rfl ?_ | refine zd ?_ | refine JK.fin ?_ | refine JK.ret ?_))
      refine ⟨.inl rfl, _, _, rfl, trivial, ?_⟩
      rw [beforeS, if_neg (by omega), if_pos (by omega), ← hlg, if_pos hc]
    · (simp only [↓bif_or, ↓bif_and, ↓Bool.or_eq_true, ↓Bool.or_eq_false_iff, ↓Bool.and_eq_true, ↓Bool.and_eq_false_iff, ↓Bool.not_eq_true', ↓Bool.not_eq_false', ↓decide_eq_true_eq, ↓decide_eq_false_iff_not, ↓beq_iff_eq, ↓bne_iff_ne, ↓bne_eq_false_iff_eq, ↓ne_eq, ↓beq_eq_false_iff_ne, ↓Bool.not_eq_true] at hc; try simp only [Ty.dflt, Int.toNat_natCast] at hc)
      (repeat (first | refine zs rfl ?_ | refine zg rfl rfl rfl ?_ | refine zd ?_ | refine JK.fin ?_ | refine JK.ret ?_))
      refine ⟨.inl rfl, _, _, rfl, trivial, ?_⟩
      rw [beforeS, if_neg (by omega), if_pos (by omega), ← hlg, if_neg hc]
      rfl
  · have hcall := fn46er r xs (n :: List.nil) ho
    (repeat (first | refine zs rfl ?_ | refine zg rfl rfl rfl ?_ | refine zd ?_ | refine JK.fin ?_ | refine JK.ret ?_))
    (refine JK.frzL [1] [1,2,9,11] rfl (by (first | exact trivial | (try dsimp only [allP, inK, idxC, loC, lohiC, fullC, underG, List.append, List.nil_append, List.cons_append, Ty.den, Ty.dflt, Int.toNat_natCast, List.length_cons, List.length_nil] at *); first | omega | ((repeat' (first | exact trivial | assumption | refine And.intro ?_ ?_ | exact fun h => h | (intro hpk; first | exact hpk | simp only [wantB, hpk, Bool.not_false, Bool.not_true]))) <;> omega) | fail)) ?_)
    (repeat (first | refine zs rfl ?_ | refine zg rfl rfl rfl ?_ | refine zd ?_ | refine JK.fin ?_ | refine JK.ret ?_ | refine zc rfl (hcall) rfl rfl ?_ | refine ze rfl (hcall) rfl ?_ | refine zk rfl rfl (fun _ => hcall) rfl rfl ?_))
    refine JK.cond rfl (fun hc => ?_) (fun hc => ?_)
    · (repeat (first | refine zs rfl ?_ | refine zg rfl rfl rfl ?_ | refine zd ?_ | refine JK.fin ?_ | refine JK.ret ?_))
      refine ⟨.inl rfl, _, _, rfl, trivial, ?_⟩
      have : beforeS r xs n = (0, openE r xs [n]) := by
        unfold beforeS
        unfold openE at ho ⊢
        by_cases h1 : dayErr r xs = 0
        · rw [if_neg (by simpa using h1)] at ho
          rw [if_neg (by simpa using h1)]
          by_cases h2 : 0 ≤ n ∧ n ≤ (xs.length : Int) - 1
          · rw [if_pos (by simpa using h2)] at ho; exact absurd rfl ho
          · rw [if_neg (by omega)]
            simp only [h1]
            rw [if_neg (show ¬ ∀ x ∈ [n], 0 ≤ x ∧ x ≤ (xs.length : Int) - 1 from fun h => h2 (h n (by simp)))]
            simp [h1]
        · rw [if_pos h1]
          simp [h1]
      rw [this]
    · (simp only [↓bif_or, ↓bif_and, ↓Bool.or_eq_true, ↓Bool.or_eq_false_iff, ↓Bool.and_eq_true, ↓Bool.and_eq_false_iff, ↓Bool.not_eq_true', ↓Bool.not_eq_false', ↓decide_eq_true_eq, ↓decide_eq_false_iff_not, ↓beq_iff_eq, ↓bne_iff_ne, ↓bne_eq_false_iff_eq, ↓ne_eq, ↓beq_eq_false_iff_ne, ↓Bool.not_eq_true] at hc; try simp only [Ty.dflt, Int.toNat_natCast] at hc)
      exact absurd hc ho
end Go.Proofs.Ytbmgijgnbilnoaa

namespace Go.Proofs.Ytbmgijgnbilnoaa
open Go Go.RowKit Ox
attribute [local irreducible] JC JL JK JW

abbrev cntS (r : Int) (xs : List Int) (book : Int) : Int := countS r xs (nexts xs xs.length) book
def countD (r : Int) (xs : List Int) : Int := if dayErr r xs = 0 then cntS r xs (-1) else 0
theorem fn63v (r : Int) (xs : List Int) (book : Int) (ho : dayErr r xs = 0) : Ox.Fn Go.Proofs.Try.prog 63 (.acons (.val (.ptr binT) (some (vDay r xs))) (.acons (vI book) .anil)) (· = vI (cntS r xs book)) := by
  obtain ⟨hr, hl, hx⟩ := dayErr_zero.1 ho
  exact fn63 r xs _ _ book hr hx hl.2 (nexts_length xs xs.length) (planS_len r xs)

theorem fn38 (r : Int) (xs : List Int) : Ox.Fn Go.Proofs.Try.prog 38 (.acons (vD r xs) .anil) (· = .tup (.acons (vI (countD r xs)) (.acons (vI (dayErr r xs)) .anil))) := by
  refine Ox.Fn.intro xok Go.Proofs.Try.func38 rfl Go.Proofs.Try.call38 (Nat.le_of_ble_eq_true rfl) (fun E M0 up => ?_)
  refine JK.start ?_
  have hon := openE_nil r xs
  by_cases ho : dayErr r xs = 0
  · rw [countD, if_pos ho]
    (repeat (first | refine zs rfl ?_ | refine zg rfl rfl rfl ?_ | refine zd ?_ | refine JK.fin ?_ | refine JK.ret ?_ | refine zc rfl (fn46ok r xs List.nil (hon.trans ho)) rfl rfl ?_ | refine ze rfl (fn46ok r xs List.nil (hon.trans ho)) rfl ?_ | refine zk rfl rfl (fun _ => fn46ok r xs List.nil (hon.trans ho)) rfl rfl ?_))
    refine JK.cond rfl (fun hc => absurd hc (by decide)) (fun _ => ?_)
    (repeat (first | refine zs rfl ?_ | refine zg rfl rfl rfl ?_ | refine zd ?_ | refine JK.fin ?_ | refine JK.ret ?_ | refine zc rfl (fn63v r xs (-1) ho) rfl rfl ?_ | refine ze rfl (fn63v r xs (-1) ho) rfl ?_ | refine zk rfl rfl (fun _ => fn63v r xs (-1) ho) rfl rfl ?_))
    refine ⟨.inl rfl, _, _, rfl, trivial, ?_⟩
    rw [ho]
  · have her := fn46er r xs List.nil (by rw [hon]; exact ho)
    (repeat (first | refine zs rfl ?_ | refine zg rfl rfl rfl ?_ | refine zd ?_ | refine JK.fin ?_ | refine JK.ret ?_ | refine zc rfl (her) rfl rfl ?_ | refine ze rfl (her) rfl ?_ | refine zk rfl rfl (fun _ => her) rfl rfl ?_))
    refine JK.cond rfl (fun hc => ?_) (fun hc => ?_)
    · (repeat (first | refine zs rfl ?_ | refine zg rfl rfl rfl ?_ | refine zd ?_ | refine JK.fin ?_ | refine JK.ret ?_))
      refine ⟨.inl rfl, _, _, rfl, trivial, ?_⟩
      rw [countD, if_neg ho, hon]
    · (simp only [↓bif_or, ↓bif_and, ↓Bool.or_eq_true, ↓Bool.or_eq_false_iff, ↓Bool.and_eq_true, ↓Bool.and_eq_false_iff, ↓Bool.not_eq_true', ↓Bool.not_eq_false', ↓decide_eq_true_eq, ↓decide_eq_false_iff_not, ↓beq_iff_eq, ↓bne_iff_ne, ↓bne_eq_false_iff_eq, ↓ne_eq, ↓beq_eq_false_iff_ne, ↓Bool.not_eq_true] at hc; try simp only [Ty.dflt, Int.toNat_natCast] at hc)
      exact absurd (hon.symm.trans hc) ho

def kindS (r : Int) (xs : List Int) (n : Int) : Int × Int :=
  if openE r xs [n] ≠ 0 then (0, openE r xs [n]) else if cntS r xs n = 0 then (2, 0) else if cntS r xs n = cntS r xs (-1) then (0, 0) else (1, 0)
theorem fn36 (r : Int) (xs : List Int) (n : Int) : Ox.Fn Go.Proofs.Try.prog 36 (.acons (vD r xs) (.acons (vI n) .anil)) (· = vT2 (kindS r xs n).1 (kindS r xs n).2) := by
  refine Ox.Fn.intro xok Go.Proofs.Try.func36 rfl Go.Proofs.Try.call36 (Nat.le_of_ble_eq_true rfl) (fun E M0 up => ?_)
  refine JK.start ?_
  by_cases ho : openE r xs [n] = 0
  · have hcall := fn46ok r xs (n :: List.nil) ho
    obtain ⟨hv, hbk⟩ := openE_valid ho
    (repeat (first | refine zs rfl ?_ | refine zg rfl rfl rfl ?_ | refine zd ?_ | refine JK.fin ?_ | refine JK.ret ?_))
    (refine JK.frzL [1] [1,2,11,13] rfl (by (first | exact trivial | (try dsimp only [allP, inK, idxC, loC, lohiC, fullC, underG, List.append, List.nil_append, List.cons_append, Ty.den, Ty.dflt, Int.toNat_natCast, List.length_cons, List.length_nil] at *); first | omega | ((repeat' (first | exact trivial | assumption | refine And.intro ?_ ?_ | exact fun h => h | (intro hpk; first | exact hpk | simp only [wantB, hpk, Bool.not_false, Bool.not_true]))) <;> omega) | fail)) ?_)
    (repeat (first | refine zs rfl ?_ | refine zg rfl rfl rfl ?_ | refine zd ?_ | refine JK.fin ?_ | refine JK.ret ?_ | refine zc rfl (hcall) rfl rfl ?_ | refine ze rfl (hcall) rfl ?_ | refine zk rfl rfl (fun _ => hcall) rfl rfl ?_))
    refine JK.cond rfl (fun hc => absurd hc (by decide)) (fun _ => ?_)
    (repeat (first | refine zs rfl ?_ | refine zg rfl rfl rfl ?_ | refine zd ?_ | refine JK.fin ?_ | refine JK.ret ?_ | refine zc rfl (fn63v r xs (-1) hv) rfl rfl ?_ | refine ze rfl (fn63v r xs (-1) hv) rfl ?_ | refine zk rfl rfl (fun _ => fn63v r xs (-1) hv) rfl rfl ?_ | refine zc rfl (fn63v r xs n hv) rfl rfl ?_ | refine ze rfl (fn63v r xs n hv) rfl ?_ | refine zk rfl rfl (fun _ => fn63v r xs n hv) rfl rfl ?_))
    refine JK.cond rfl (fun hc => ?_) (fun hc => ?_)
    · (simp only [↓bif_or, ↓bif_and, ↓Bool.or_eq_true, ↓Bool.or_eq_false_iff, ↓Bool.and_eq_true, ↓Bool.and_eq_false_iff, ↓Bool.not_eq_true', ↓Bool.not_eq_false', ↓decide_eq_true_eq, ↓decide_eq_false_iff_not, ↓beq_iff_eq, ↓bne_iff_ne, ↓bne_eq_false_iff_eq, ↓ne_eq, ↓beq_eq_false_iff_ne, ↓Bool.not_eq_true] at hc; try simp only [Ty.dflt, Int.toNat_natCast] at hc)
      (repeat (first | refine zs rfl ?_ | refine zg rfl rfl rfl ?_ | refine zd ?_ | refine JK.fin ?_ | refine JK.ret ?_))
      refine ⟨.inl rfl, _, _, rfl, trivial, ?_⟩
      rw [kindS, if_neg (by simpa using ho), if_pos hc]
    · (simp only [↓bif_or, ↓bif_and, ↓Bool.or_eq_true, ↓Bool.or_eq_false_iff, ↓Bool.and_eq_true, ↓Bool.and_eq_false_iff, ↓Bool.not_eq_true', ↓Bool.not_eq_false', ↓decide_eq_true_eq, ↓decide_eq_false_iff_not, ↓beq_iff_eq, ↓bne_iff_ne, ↓bne_eq_false_iff_eq, ↓ne_eq, ↓beq_eq_false_iff_ne, ↓Bool.not_eq_true] at hc; try simp only [Ty.dflt, Int.toNat_natCast] at hc)
      (repeat (first | refine zs rfl ?_ | refine zg rfl rfl rfl ?_ | refine zd ?_ | refine JK.fin ?_ | refine JK.ret ?_))
      refine JK.cond rfl (fun hd => ?_) (fun hd => ?_)
      · (simp only [↓bif_or, ↓bif_and, ↓Bool.or_eq_true, ↓Bool.or_eq_false_iff, ↓Bool.and_eq_true, ↓Bool.and_eq_false_iff, ↓Bool.not_eq_true', ↓Bool.not_eq_false', ↓decide_eq_true_eq, ↓decide_eq_false_iff_not, ↓beq_iff_eq, ↓bne_iff_ne, ↓bne_eq_false_iff_eq, ↓ne_eq, ↓beq_eq_false_iff_ne, ↓Bool.not_eq_true] at hd; try simp only [Ty.dflt, Int.toNat_natCast] at hd)
        (repeat (first | refine zs rfl ?_ | refine zg rfl rfl rfl ?_ | refine zd ?_ | refine JK.fin ?_ | refine JK.ret ?_))
        refine ⟨.inl rfl, _, _, rfl, trivial, ?_⟩
        rw [kindS, if_neg (by simpa using ho), if_neg hc, if_pos hd]
      · (simp only [↓bif_or, ↓bif_and, ↓Bool.or_eq_true, ↓Bool.or_eq_false_iff, ↓Bool.and_eq_true, ↓Bool.and_eq_false_iff, ↓Bool.not_eq_true', ↓Bool.not_eq_false', ↓decide_eq_true_eq, ↓decide_eq_false_iff_not, ↓beq_iff_eq, ↓bne_iff_ne, ↓bne_eq_false_iff_eq, ↓ne_eq, ↓beq_eq_false_iff_ne, ↓Bool.not_eq_true] at hd; try simp only [Ty.dflt, Int.toNat_natCast] at hd)
        (repeat (first | refine zs rfl ?_ | refine zg rfl rfl rfl ?_ | refine zd ?_ | refine JK.fin ?_ | refine JK.ret ?_))
        refine ⟨.inl rfl, _, _, rfl, trivial, ?_⟩
        rw [kindS, if_neg (by simpa using ho), if_neg hc, if_neg hd]
  · have hcall := fn46er r xs (n :: List.nil) ho
    (repeat (first | refine zs rfl ?_ | refine zg rfl rfl rfl ?_ | refine zd ?_ | refine JK.fin ?_ | refine JK.ret ?_))
    (refine JK.frzL [1] [1,2,11,13] rfl (by (first | exact trivial | (try dsimp only [allP, inK, idxC, loC, lohiC, fullC, underG, List.append, List.nil_append, List.cons_append, Ty.den, Ty.dflt, Int.toNat_natCast, List.length_cons, List.length_nil] at *); first | omega | ((repeat' (first | exact trivial | assumption | refine And.intro ?_ ?_ | exact fun h => h | (intro hpk; first | exact hpk | simp only [wantB, hpk, Bool.not_false, Bool.not_true]))) <;> omega) | fail)) ?_)
    (repeat (first | refine zs rfl ?_ | refine zg rfl rfl rfl ?_ | refine zd ?_ | refine JK.fin ?_ | refine JK.ret ?_ | refine zc rfl (hcall) rfl rfl ?_ | refine ze rfl (hcall) rfl ?_ | refine zk rfl rfl (fun _ => hcall) rfl rfl ?_))
    refine JK.cond rfl (fun hc => ?_) (fun hc => ?_)
    · (repeat (first | refine zs rfl ?_ | refine zg rfl rfl rfl ?_ | refine zd ?_ | refine JK.fin ?_ | refine JK.ret ?_))
      refine ⟨.inl rfl, _, _, rfl, trivial, ?_⟩
      rw [kindS, if_pos ho]
    · (simp only [↓bif_or, ↓bif_and, ↓Bool.or_eq_true, ↓Bool.or_eq_false_iff, ↓Bool.and_eq_true, ↓Bool.and_eq_false_iff, ↓Bool.not_eq_true', ↓Bool.not_eq_false', ↓decide_eq_true_eq, ↓decide_eq_false_iff_not, ↓beq_iff_eq, ↓bne_iff_ne, ↓bne_eq_false_iff_eq, ↓ne_eq, ↓beq_eq_false_iff_ne, ↓Bool.not_eq_true] at hc; try simp only [Ty.dflt, Int.toNat_natCast] at hc)
      exact absurd hc ho
end Go.Proofs.Ytbmgijgnbilnoaa

namespace Go.Proofs.Ytbmgijgnbilnoaa
open Go Go.RowKit Ox
attribute [local irreducible] JC JL JK JW

abbrev vLL (l : List (List Int)) : AV := .val (.slice (.slice (.int .i64))) l

/-- The bench behind a book. -/
def nextR (bench : List Int) (k b : Int) : Nat → List Int
  | 0 => []
  | n + 1 => if (n : Int) = k ∨ ((n : Int) ∈ bench ∧ (n : Int) ≠ b) then nextR bench k b n ++ [(n : Int)] else nextR bench k b n
/-- A plan's number for a book is right. -/
def okR (r k b : Int) (bench : List Int) : Prop := ((k ∈ bench ∨ (bench.length : Int) ≠ r) → b = -1) ∧ (¬(k ∈ bench ∨ (bench.length : Int) ≠ r) → b ∈ bench)
instance (r k b : Int) (bench : List Int) : Decidable (okR r k b bench) := by unfold okR; infer_instance
/-- The benches of a plan, and the books that are kept. -/
def playedF (r : Int) : List (Int × Int) → Nat → List Int → Option (List (List Int) × List Int)
  | [], _, _ => some ([], [])
  | (k, b) :: l, i, bench =>
    if okR r k b bench then
      match playedF r l (i + 1) (nextR bench k b 8) with
      | some (bs, ks) => some (nextR bench k b 8 :: bs, if k ∈ bench then (i : Int) :: ks else ks)
      | none => none
    else none
def playedR (r : Int) (xs plan : List Int) : Option (List (List Int) × List Int) := playedF r (xs.zip plan) 0 []
def playedV (o : Option (List (List Int) × List Int)) : AV := match o with | some (bs, ks) => .tup (.acons (vLL bs) (.acons (vL ks) (.acons (vB true) .anil))) | none => .tup (.acons (vLL []) (.acons (vL []) (.acons (vB false) .anil)))
def pre2 (bs : List (List Int)) (ks : List Int) : Option (List (List Int) × List Int) → Option (List (List Int) × List Int)
  | some (a, b) => some (bs ++ a, ks ++ b)
  | none => none

theorem nextR_len (bench : List Int) (k b : Int) : ∀ n, (nextR bench k b n).length ≤ n
  | 0 => by simp [nextR]
  | n + 1 => by have := nextR_len bench k b n; rw [nextR]; split <;> simp <;> omega

theorem pick3 {k x b : Int} {l : List Int} : ((bif k == x then true else bif decide (k ∈ l) then k != b else false) = true) ↔ (k = x ∨ (k ∈ l ∧ k ≠ b)) := by
  by_cases h1 : k = x <;> by_cases h2 : k ∈ l <;> by_cases h3 : k = b <;> simp [h1, h2, h3]
set_option maxHeartbeats 2000000 in
theorem fn53 (r : Int) (xs plan : List Int) (hp : plan.length = xs.length) (hl : xs.length ≤ 1000) : Ox.Fn Go.Proofs.Try.prog 53 (.acons (vD r xs) (.acons (vL plan) .anil)) (· = playedV (playedR r xs plan)) := by
  refine Ox.Fn.intro xok Go.Proofs.Try.func53 rfl Go.Proofs.Try.call53 (Nat.le_of_ble_eq_true rfl) (fun E M0 up => ?_)
  refine JK.start ?_
  refine JK.lenOf 0 rfl fun hlen => ?_
  replace hlen : xs.length ≤ 9223372036854775807 := hlen.2.1.1
  (repeat (first | refine zs rfl ?_ | refine zg rfl rfl rfl ?_ | refine zd ?_ | refine JK.fin ?_ | refine JK.ret ?_))
  refine JK.ghost 7 22 (.slice (.int .i64)) rfl ?_
  refine JK.ghost 8 3 (.int .i64) rfl ?_
  refine JK.ghost 9 3 (.int .i64) rfl ?_
  (refine JK.frz [3] [1,2,7,8,9,10] rfl (by (first | exact trivial | (try dsimp only [allP, inK, idxC, loC, lohiC, fullC, underG, List.append, List.nil_append, List.cons_append, Ty.den, Ty.dflt, Int.toNat_natCast, List.length_cons, List.length_nil] at *); first | omega | ((repeat' (first | exact trivial | assumption | refine And.intro ?_ ?_ | exact fun h => h | (intro hpk; first | exact hpk | simp only [wantB, hpk, Bool.not_false, Bool.not_true]))) <;> omega) | fail)) ?_)
  refine JK.loop (σ := Nat × List Int × List (List Int) × List Int) (fun q => ⟨[(1, vL plan), (2, .lf (.optr 0 [])), (7, .lf (.osl 1)), (8, .lf (.osl 2)), (9, vL q.2.1), (10, vI (q.1 : Int))], [(0, .cell dayT (vD r xs)), (1, .sl 22 (.slice (.int .i64)) q.2.2.1), (2, .sl 3 (.int .i64) q.2.2.2)], 3⟩)
    (fun q => q.1 ≤ xs.length ∧ q.2.2.1.length = q.1 ∧ q.2.2.2.length ≤ q.1 ∧ pre2 q.2.2.1 q.2.2.2 (playedF r ((xs.zip plan).drop q.1) q.1 q.2.1) = playedR r xs plan) (fun q => xs.length - q.1)
    (0, [], [], []) ⟨by simp, rfl, by simp, by rw [List.drop_zero, playedR]; dsimp only; cases playedF r (xs.zip plan) 0 [] <;> rfl⟩ (by (exact JW.Auto rfl)) fun q hq => ?_
  obtain ⟨i, bench, bs, ks⟩ := q
  obtain ⟨hi, hbl, hkl, hinv⟩ := hq
  dsimp only at hi hbl hkl hinv
  (repeat (first | refine zs rfl ?_ | refine zg rfl rfl rfl ?_ | refine zd ?_ | refine JK.fin ?_ | refine JK.ret ?_))
  refine JK.cond rfl (fun hc => ?_) (fun hc => ?_)
  · (simp only [↓bif_or, ↓bif_and, ↓Bool.or_eq_true, ↓Bool.or_eq_false_iff, ↓Bool.and_eq_true, ↓Bool.and_eq_false_iff, ↓Bool.not_eq_true', ↓Bool.not_eq_false', ↓decide_eq_true_eq, ↓decide_eq_false_iff_not, ↓beq_iff_eq, ↓bne_iff_ne, ↓bne_eq_false_iff_eq, ↓ne_eq, ↓beq_eq_false_iff_ne, ↓Bool.not_eq_true] at hc; try simp only [Ty.dflt, Int.toNat_natCast] at hc)
    have hi' : i < xs.length := by omega
    have hj' : i < plan.length := by omega
    have hz : (xs.zip plan).drop i = ((xs.getD i 0), (plan.getD i 0)) :: (xs.zip plan).drop (i + 1) := by
      rw [List.drop_eq_getElem_cons (by simp; omega), List.getElem_zip, getD_nat xs hi', getD_nat plan hj']
    rw [hz, playedF] at hinv
    have c43 := fn43 bench (xs.getD i 0)
    have d43 := fn43 bench (plan.getD i 0)
    have hnl := nextR_len bench (xs.getD i 0) (plan.getD i 0) 8
    (repeat (first | refine zu rfl ?_ | refine zg rfl rfl rfl ?_ | refine zd ?_ | refine JK.fin ?_ | refine JK.ret ?_ | refine zc rfl (c43) rfl rfl ?_ | refine ze rfl (c43) rfl ?_ | refine zk rfl rfl (fun _ => c43) rfl rfl ?_))
    refine JK.cut (σ := Unit) (fun _ => ⟨[(1, vL plan), (2, .lf (.optr 0 [])), (7, .lf (.osl 1)), (8, .lf (.osl 2)), (9, vL bench), (10, vI (i : Int)), (11, vI (xs.getD i 0)), (12, vB (decide ((xs.getD i 0) ∈ bench)))], [(0, .cell dayT (vD r xs)), (1, .sl 22 (.slice (.int .i64)) bs), (2, .sl 3 (.int .i64) ks)], 3⟩)
      (fun _ => okR r (xs.getD i 0) (plan.getD i 0) bench) ?_ (fun _ hok => ?_)
    · (repeat (first | refine zs rfl ?_ | refine zg rfl rfl rfl ?_ | refine zd ?_ | refine JK.fin ?_ | refine JK.ret ?_))
      refine JK.cond rfl (fun ha => ?_) (fun ha => ?_)
      · (simp only [↓bif_or, ↓bif_and, ↓Bool.or_eq_true, ↓Bool.or_eq_false_iff, ↓Bool.and_eq_true, ↓Bool.and_eq_false_iff, ↓Bool.not_eq_true', ↓Bool.not_eq_false', ↓decide_eq_true_eq, ↓decide_eq_false_iff_not, ↓beq_iff_eq, ↓bne_iff_ne, ↓bne_eq_false_iff_eq, ↓ne_eq, ↓beq_eq_false_iff_ne, ↓Bool.not_eq_true] at ha; try simp only [Ty.dflt, Int.toNat_natCast] at ha)
        have ha' : (xs.getD i 0) ∈ bench ∨ (bench.length : Int) ≠ r := ha
        (repeat (first | refine zs rfl ?_ | refine zg rfl rfl rfl ?_ | refine zd ?_ | refine JK.fin ?_ | refine JK.ret ?_))
        refine JK.cond rfl (fun hb => ?_) (fun hb => ?_)
        · (simp only [↓bif_or, ↓bif_and, ↓Bool.or_eq_true, ↓Bool.or_eq_false_iff, ↓Bool.and_eq_true, ↓Bool.and_eq_false_iff, ↓Bool.not_eq_true', ↓Bool.not_eq_false', ↓decide_eq_true_eq, ↓decide_eq_false_iff_not, ↓beq_iff_eq, ↓bne_iff_ne, ↓bne_eq_false_iff_eq, ↓ne_eq, ↓beq_eq_false_iff_ne, ↓Bool.not_eq_true] at hb; try simp only [Ty.dflt, Int.toNat_natCast] at hb)
          rw [if_neg (fun h : okR r (xs.getD i 0) (plan.getD i 0) bench => hb (h.1 ha'))] at hinv
          (repeat (first | refine zs rfl ?_ | refine zg rfl rfl rfl ?_ | refine zd ?_ | refine JK.fin ?_ | refine JK.ret ?_))
          refine ⟨.inl rfl, _, _, rfl, trivial, ?_⟩
          rw [← hinv]; rfl
        · (simp only [↓bif_or, ↓bif_and, ↓Bool.or_eq_true, ↓Bool.or_eq_false_iff, ↓Bool.and_eq_true, ↓Bool.and_eq_false_iff, ↓Bool.not_eq_true', ↓Bool.not_eq_false', ↓decide_eq_true_eq, ↓decide_eq_false_iff_not, ↓beq_iff_eq, ↓bne_iff_ne, ↓bne_eq_false_iff_eq, ↓ne_eq, ↓beq_eq_false_iff_ne, ↓Bool.not_eq_true] at hb; try simp only [Ty.dflt, Int.toNat_natCast] at hb)
          have hb' : (plan.getD i 0) = -1 := by omega
          (repeat (first | refine zs rfl ?_ | refine zg rfl rfl rfl ?_ | refine zd ?_ | refine JK.fin ?_ | refine JK.ret ?_))
          exact ⟨(), by (exact JW.Auto rfl), fun _ => hb', fun h => absurd ha' h⟩
      · (simp only [↓bif_or, ↓bif_and, ↓Bool.or_eq_true, ↓Bool.or_eq_false_iff, ↓Bool.and_eq_true, ↓Bool.and_eq_false_iff, ↓Bool.not_eq_true', ↓Bool.not_eq_false', ↓decide_eq_true_eq, ↓decide_eq_false_iff_not, ↓beq_iff_eq, ↓bne_iff_ne, ↓bne_eq_false_iff_eq, ↓ne_eq, ↓beq_eq_false_iff_ne, ↓Bool.not_eq_true] at ha; try simp only [Ty.dflt, Int.toNat_natCast] at ha)
        have ha' : ¬((xs.getD i 0) ∈ bench ∨ (bench.length : Int) ≠ r) := by simpa using ha
        (repeat (first | refine zs rfl ?_ | refine zg rfl rfl rfl ?_ | refine zd ?_ | refine JK.fin ?_ | refine JK.ret ?_ | refine zc rfl (d43) rfl rfl ?_ | refine ze rfl (d43) rfl ?_ | refine zk rfl rfl (fun _ => d43) rfl rfl ?_))
        refine JK.cond rfl (fun hb => ?_) (fun hb => ?_)
        · (simp only [↓bif_or, ↓bif_and, ↓Bool.or_eq_true, ↓Bool.or_eq_false_iff, ↓Bool.and_eq_true, ↓Bool.and_eq_false_iff, ↓Bool.not_eq_true', ↓Bool.not_eq_false', ↓decide_eq_true_eq, ↓decide_eq_false_iff_not, ↓beq_iff_eq, ↓bne_iff_ne, ↓bne_eq_false_iff_eq, ↓ne_eq, ↓beq_eq_false_iff_ne, ↓Bool.not_eq_true] at hb; try simp only [Ty.dflt, Int.toNat_natCast] at hb)
          rw [if_neg (fun h : okR r (xs.getD i 0) (plan.getD i 0) bench => hb (h.2 ha'))] at hinv
          (repeat (first | refine zs rfl ?_ | refine zg rfl rfl rfl ?_ | refine zd ?_ | refine JK.fin ?_ | refine JK.ret ?_))
          refine ⟨.inl rfl, _, _, rfl, trivial, ?_⟩
          rw [← hinv]; rfl
        · (simp only [↓bif_or, ↓bif_and, ↓Bool.or_eq_true, ↓Bool.or_eq_false_iff, ↓Bool.and_eq_true, ↓Bool.and_eq_false_iff, ↓Bool.not_eq_true', ↓Bool.not_eq_false', ↓decide_eq_true_eq, ↓decide_eq_false_iff_not, ↓beq_iff_eq, ↓bne_iff_ne, ↓bne_eq_false_iff_eq, ↓ne_eq, ↓beq_eq_false_iff_ne, ↓Bool.not_eq_true] at hb; try simp only [Ty.dflt, Int.toNat_natCast] at hb)
          (repeat (first | refine zs rfl ?_ | refine zg rfl rfl rfl ?_ | refine zd ?_ | refine JK.fin ?_ | refine JK.ret ?_))
          exact ⟨(), by (exact JW.Auto rfl), fun h => absurd h ha', fun _ => hb⟩
    · rw [if_pos hok] at hinv
      (repeat (first | refine zs rfl ?_ | refine zg rfl rfl rfl ?_ | refine zd ?_ | refine JK.fin ?_ | refine JK.ret ?_))
      refine JK.ghost 14 3 (.int .i64) rfl ?_
      refine JK.loop (fun k : Nat => ⟨[(1, vL plan), (2, .lf (.optr 0 [])), (7, .lf (.osl 1)), (8, .lf (.osl 2)), (9, vL bench), (10, vI (i : Int)), (11, vI (xs.getD i 0)), (12, vB (decide ((xs.getD i 0) ∈ bench))), (14, .lf (.osl 3)), (15, vI (k : Int))], [(0, .cell dayT (vD r xs)), (1, .sl 22 (.slice (.int .i64)) bs), (2, .sl 3 (.int .i64) ks), (3, .sl 3 (.int .i64) (nextR bench (xs.getD i 0) (plan.getD i 0) k))], 4⟩)
        (fun k => k ≤ 8) (fun k => 8 - k) 0 (by simp) (by (exact JW.Auto rfl)) fun k hk => ?_
      have hkl2 := nextR_len bench (xs.getD i 0) (plan.getD i 0) k
      have e43 := fn43 bench (k : Int)
      (repeat (first | refine zs rfl ?_ | refine zg rfl rfl rfl ?_ | refine zd ?_ | refine JK.fin ?_ | refine JK.ret ?_))
      refine JK.cond rfl (fun hd => ?_) (fun hd => ?_)
      · (simp only [↓bif_or, ↓bif_and, ↓Bool.or_eq_true, ↓Bool.or_eq_false_iff, ↓Bool.and_eq_true, ↓Bool.and_eq_false_iff, ↓Bool.not_eq_true', ↓Bool.not_eq_false', ↓decide_eq_true_eq, ↓decide_eq_false_iff_not, ↓beq_iff_eq, ↓bne_iff_ne, ↓bne_eq_false_iff_eq, ↓ne_eq, ↓beq_eq_false_iff_ne, ↓Bool.not_eq_true] at hd; try simp only [Ty.dflt, Int.toNat_natCast] at hd)
        (repeat (first | refine zs rfl ?_ | refine zg rfl rfl rfl ?_ | refine zd ?_ | refine JK.fin ?_ | refine JK.ret ?_ | refine zc rfl (e43) rfl rfl ?_ | refine ze rfl (e43) rfl ?_ | refine zk rfl rfl (fun _ => e43) rfl rfl ?_))
        refine JK.cond rfl (fun he => ?_) (fun he => ?_)
        · have he' : (k : Int) = (xs.getD i 0) ∨ ((k : Int) ∈ bench ∧ (k : Int) ≠ (plan.getD i 0)) := pick3.1 he
          (repeat (first | refine zs rfl ?_ | refine zg rfl rfl rfl ?_ | refine zd ?_ | refine JK.fin ?_ | refine JK.ret ?_))
          have hn : nextR bench (xs.getD i 0) (plan.getD i 0) (k + 1) = nextR bench (xs.getD i 0) (plan.getD i 0) k ++ [(k : Int)] := by rw [nextR, if_pos he']
          exact ⟨k + 1, by (refine JW.auto rfl ?_ ?_ ?_ ?_ rfl <;> (repeat' (first | exact trivial | exact rfl | refine And.intro ?_ ?_ | exact Nat.le_of_ble_eq_true rfl | refine HO.bdF ?_ | refine HO.bdP ?_ | (refine congrArg (fun z : Int => some (AV.val (.int .i64) z)) ?_; push_cast; omega) | exact congrArg (fun z : List Int => some (HO.sl 3 (.int .i64) z)) hn.symm))), by omega, by omega⟩
        · have he' : ¬((k : Int) = (xs.getD i 0) ∨ ((k : Int) ∈ bench ∧ (k : Int) ≠ (plan.getD i 0))) := fun h => Bool.noConfusion (he.symm.trans (pick3.2 h))
          (repeat (first | refine zs rfl ?_ | refine zg rfl rfl rfl ?_ | refine zd ?_ | refine JK.fin ?_ | refine JK.ret ?_))
          exact ⟨k + 1, by (refine JW.auto rfl ?_ ?_ ?_ ?_ rfl <;> (repeat' (first | exact trivial | exact rfl | refine And.intro ?_ ?_ | exact Nat.le_of_ble_eq_true rfl | refine HO.bdF ?_ | refine HO.bdP ?_ | (refine congrArg (fun z : Int => some (AV.val (.int .i64) z)) ?_; push_cast; omega) | (refine congrArg (fun z : List Int => some (HO.sl 3 (.int .i64) z)) ?_; rw [nextR, if_neg he'])))), by omega, by omega⟩
      · (simp only [↓bif_or, ↓bif_and, ↓Bool.or_eq_true, ↓Bool.or_eq_false_iff, ↓Bool.and_eq_true, ↓Bool.and_eq_false_iff, ↓Bool.not_eq_true', ↓Bool.not_eq_false', ↓decide_eq_true_eq, ↓decide_eq_false_iff_not, ↓beq_iff_eq, ↓bne_iff_ne, ↓bne_eq_false_iff_eq, ↓ne_eq, ↓beq_eq_false_iff_ne, ↓Bool.not_eq_true] at hd; try simp only [Ty.dflt, Int.toNat_natCast] at hd)
        obtain rfl : k = 8 := by omega
        (repeat (first | refine zs rfl ?_ | refine zg rfl rfl rfl ?_ | refine zd ?_ | refine JK.fin ?_ | refine JK.ret ?_))
        (refine JK.frz [3] [1,2,7,8,9,10,12,14,77] rfl (by (first | exact trivial | (try dsimp only [allP, inK, idxC, loC, lohiC, fullC, underG, List.append, List.nil_append, List.cons_append, Ty.den, Ty.dflt, Int.toNat_natCast, List.length_cons, List.length_nil] at *); first | omega | ((repeat' (first | exact trivial | assumption | refine And.intro ?_ ?_ | exact fun h => h | (intro hpk; first | exact hpk | simp only [wantB, hpk, Bool.not_false, Bool.not_true]))) <;> omega) | fail)) ?_)
        refine JK.cond rfl (fun he => ?_) (fun he => ?_)
        · (simp only [↓bif_or, ↓bif_and, ↓Bool.or_eq_true, ↓Bool.or_eq_false_iff, ↓Bool.and_eq_true, ↓Bool.and_eq_false_iff, ↓Bool.not_eq_true', ↓Bool.not_eq_false', ↓decide_eq_true_eq, ↓decide_eq_false_iff_not, ↓beq_iff_eq, ↓bne_iff_ne, ↓bne_eq_false_iff_eq, ↓ne_eq, ↓beq_eq_false_iff_ne, ↓Bool.not_eq_true] at he; try simp only [Ty.dflt, Int.toNat_natCast] at he)
          (repeat (first | refine zs rfl ?_ | refine zg rfl rfl rfl ?_ | refine zd ?_ | refine JK.fin ?_ | refine JK.ret ?_))
          refine ⟨(i + 1, nextR bench (xs.getD i 0) (plan.getD i 0) 8, bs ++ [nextR bench (xs.getD i 0) (plan.getD i 0) 8], ks ++ [(i : Int)]), by (exact JW.Auto rfl), ⟨by omega, by simp [hbl], by simp; omega, ?_⟩, by dsimp only; omega⟩
          rw [← hinv]
          dsimp only
          cases playedF r ((xs.zip plan).drop (i + 1)) (i + 1) (nextR bench (xs.getD i 0) (plan.getD i 0) 8) with
          | none => rfl
          | some q => simp only [pre2]; rw [if_pos he]; simp
        · (simp only [↓bif_or, ↓bif_and, ↓Bool.or_eq_true, ↓Bool.or_eq_false_iff, ↓Bool.and_eq_true, ↓Bool.and_eq_false_iff, ↓Bool.not_eq_true', ↓Bool.not_eq_false', ↓decide_eq_true_eq, ↓decide_eq_false_iff_not, ↓beq_iff_eq, ↓bne_iff_ne, ↓bne_eq_false_iff_eq, ↓ne_eq, ↓beq_eq_false_iff_ne, ↓Bool.not_eq_true] at he; try simp only [Ty.dflt, Int.toNat_natCast] at he)
          (repeat (first | refine zs rfl ?_ | refine zg rfl rfl rfl ?_ | refine zd ?_ | refine JK.fin ?_ | refine JK.ret ?_))
          refine ⟨(i + 1, nextR bench (xs.getD i 0) (plan.getD i 0) 8, bs ++ [nextR bench (xs.getD i 0) (plan.getD i 0) 8], ks), by (exact JW.Auto rfl), ⟨by omega, by simp [hbl], by simp; omega, ?_⟩, by dsimp only; omega⟩
          rw [← hinv]
          dsimp only
          cases playedF r ((xs.zip plan).drop (i + 1)) (i + 1) (nextR bench (xs.getD i 0) (plan.getD i 0) 8) with
          | none => rfl
          | some q => simp only [pre2]; rw [if_neg he]; simp
  · (simp only [↓bif_or, ↓bif_and, ↓Bool.or_eq_true, ↓Bool.or_eq_false_iff, ↓Bool.and_eq_true, ↓Bool.and_eq_false_iff, ↓Bool.not_eq_true', ↓Bool.not_eq_false', ↓decide_eq_true_eq, ↓decide_eq_false_iff_not, ↓beq_iff_eq, ↓bne_iff_ne, ↓bne_eq_false_iff_eq, ↓ne_eq, ↓beq_eq_false_iff_ne, ↓Bool.not_eq_true] at hc; try simp only [Ty.dflt, Int.toNat_natCast] at hc)
    obtain rfl : i = xs.length := by omega
    (repeat (first | refine zs rfl ?_ | refine zg rfl rfl rfl ?_ | refine zd ?_ | refine JK.fin ?_ | refine JK.ret ?_))
    refine ⟨.inl rfl, _, _, rfl, trivial, ?_⟩
    rw [List.drop_of_length_le (by simp; omega), playedF] at hinv
    rw [← hinv]
    simp [pre2, playedV]
end Go.Proofs.Ytbmgijgnbilnoaa

namespace Go.Proofs.Ytbmgijgnbilnoaa
open Go Go.RowKit Ox
attribute [local irreducible] JC JL JK JW

def plannedE (r : Int) (xs plan : List Int) : Int :=
  if dayErr r xs ≠ 0 then dayErr r xs else if plan.length ≠ xs.length then 15 else match playedR r xs plan with | some _ => 0 | none => 16

theorem playedV_some {r : Int} {xs plan : List Int} {q : List (List Int) × List Int} (h : playedR r xs plan = some q) : playedV (playedR r xs plan) = .tup (.acons (vLL q.1) (.acons (vL q.2) (.acons (vB true) .anil))) := by rw [h]; rfl
theorem playedV_none {r : Int} {xs plan : List Int} (h : playedR r xs plan = none) : playedV (playedR r xs plan) = .tup (.acons (vLL []) (.acons (vL []) (.acons (vB false) .anil))) := by rw [h]; rfl

theorem fn53s {r : Int} {xs plan : List Int} {q : List (List Int) × List Int} (h : playedR r xs plan = some q) (hp : plan.length = xs.length) (hl : xs.length ≤ 1000) : Ox.Fn Go.Proofs.Try.prog 53 (.acons (vD r xs) (.acons (vL plan) .anil)) (· = .tup (.acons (vLL q.1) (.acons (vL q.2) (.acons (vB true) .anil)))) := by
  have := fn53 r xs plan hp hl
  rwa [playedV_some h] at this
theorem fn53n {r : Int} {xs plan : List Int} (h : playedR r xs plan = none) (hp : plan.length = xs.length) (hl : xs.length ≤ 1000) : Ox.Fn Go.Proofs.Try.prog 53 (.acons (vD r xs) (.acons (vL plan) .anil)) (· = .tup (.acons (vLL []) (.acons (vL []) (.acons (vB false) .anil)))) := by
  have := fn53 r xs plan hp hl
  rwa [playedV_none h] at this

theorem fn52 (r : Int) (xs plan : List Int) : Ox.Fn Go.Proofs.Try.prog 52 (.acons (vD r xs) (.acons (vL plan) .anil)) (· = vI (plannedE r xs plan)) := by
  refine Ox.Fn.intro xok Go.Proofs.Try.func52 rfl Go.Proofs.Try.call52 (Nat.le_of_ble_eq_true rfl) (fun E M0 up => ?_)
  refine JK.start ?_
  refine JK.lenOf 0 rfl fun hlen => ?_
  replace hlen : xs.length ≤ 9223372036854775807 := hlen.2.1.1
  refine JK.lenOf 1 rfl fun hlen2 => ?_
  replace hlen2 : plan.length ≤ 9223372036854775807 := hlen2.1
  have h20 := fn20 r xs
  (repeat (first | refine zs rfl ?_ | refine zg rfl rfl rfl ?_ | refine zd ?_ | refine JK.fin ?_ | refine JK.ret ?_ | refine zc rfl (h20) rfl rfl ?_ | refine ze rfl (h20) rfl ?_ | refine zk rfl rfl (fun _ => h20) rfl rfl ?_))
  refine JK.cond rfl (fun hc => ?_) (fun hc => ?_)
  · (simp only [↓bif_or, ↓bif_and, ↓Bool.or_eq_true, ↓Bool.or_eq_false_iff, ↓Bool.and_eq_true, ↓Bool.and_eq_false_iff, ↓Bool.not_eq_true', ↓Bool.not_eq_false', ↓decide_eq_true_eq, ↓decide_eq_false_iff_not, ↓beq_iff_eq, ↓bne_iff_ne, ↓bne_eq_false_iff_eq, ↓ne_eq, ↓beq_eq_false_iff_ne, ↓Bool.not_eq_true] at hc; try simp only [Ty.dflt, Int.toNat_natCast] at hc)
    (repeat (first | refine zs rfl ?_ | refine zg rfl rfl rfl ?_ | refine zd ?_ | refine JK.fin ?_ | refine JK.ret ?_ | refine zc rfl (h20) rfl rfl ?_ | refine ze rfl (h20) rfl ?_ | refine zk rfl rfl (fun _ => h20) rfl rfl ?_))
    refine ⟨.inl rfl, _, _, rfl, trivial, ?_⟩
    rw [plannedE, if_pos hc]
  · (simp only [↓bif_or, ↓bif_and, ↓Bool.or_eq_true, ↓Bool.or_eq_false_iff, ↓Bool.and_eq_true, ↓Bool.and_eq_false_iff, ↓Bool.not_eq_true', ↓Bool.not_eq_false', ↓decide_eq_true_eq, ↓decide_eq_false_iff_not, ↓beq_iff_eq, ↓bne_iff_ne, ↓bne_eq_false_iff_eq, ↓ne_eq, ↓beq_eq_false_iff_ne, ↓Bool.not_eq_true] at hc; try simp only [Ty.dflt, Int.toNat_natCast] at hc)
    have hv := dayErr_zero.1 (by simpa using hc)
    (repeat (first | refine zs rfl ?_ | refine zg rfl rfl rfl ?_ | refine zd ?_ | refine JK.fin ?_ | refine JK.ret ?_))
    refine JK.cond rfl (fun hd => ?_) (fun hd => ?_)
    · (simp only [↓bif_or, ↓bif_and, ↓Bool.or_eq_true, ↓Bool.or_eq_false_iff, ↓Bool.and_eq_true, ↓Bool.and_eq_false_iff, ↓Bool.not_eq_true', ↓Bool.not_eq_false', ↓decide_eq_true_eq, ↓decide_eq_false_iff_not, ↓beq_iff_eq, ↓bne_iff_ne, ↓bne_eq_false_iff_eq, ↓ne_eq, ↓beq_eq_false_iff_ne, ↓Bool.not_eq_true] at hd; try simp only [Ty.dflt, Int.toNat_natCast] at hd)
      (repeat (first | refine zs rfl ?_ | refine zg rfl rfl rfl ?_ | refine zd ?_ | refine JK.fin ?_ | refine JK.ret ?_))
      refine ⟨.inl rfl, _, _, rfl, trivial, ?_⟩
      rw [plannedE, if_neg (by simpa using hc), if_pos (by omega)]
    · (simp only [↓bif_or, ↓bif_and, ↓Bool.or_eq_true, ↓Bool.or_eq_false_iff, ↓Bool.and_eq_true, ↓Bool.and_eq_false_iff, ↓Bool.not_eq_true', ↓Bool.not_eq_false', ↓decide_eq_true_eq, ↓decide_eq_false_iff_not, ↓beq_iff_eq, ↓bne_iff_ne, ↓bne_eq_false_iff_eq, ↓ne_eq, ↓beq_eq_false_iff_ne, ↓Bool.not_eq_true] at hd; try simp only [Ty.dflt, Int.toNat_natCast] at hd)
      have hpl : plan.length = xs.length := by omega
      cases hq : playedR r xs plan with
      | some q =>
        (repeat (first | refine zs rfl ?_ | refine zg rfl rfl rfl ?_ | refine zd ?_ | refine JK.fin ?_ | refine JK.ret ?_ | refine zc rfl (fn53s hq hpl (by omega)) rfl rfl ?_ | refine ze rfl (fn53s hq hpl (by omega)) rfl ?_ | refine zk rfl rfl (fun _ => fn53s hq hpl (by omega)) rfl rfl ?_))
        refine JK.cond rfl (fun he => absurd he (by decide)) (fun he => ?_)
        (repeat (first | refine zs rfl ?_ | refine zg rfl rfl rfl ?_ | refine zd ?_ | refine JK.fin ?_ | refine JK.ret ?_))
        refine ⟨.inl rfl, _, _, rfl, trivial, ?_⟩
        rw [plannedE, if_neg (by simpa using hc), if_neg (by omega), hq]
      | none =>
        (repeat (first | refine zs rfl ?_ | refine zg rfl rfl rfl ?_ | refine zd ?_ | refine JK.fin ?_ | refine JK.ret ?_ | refine zc rfl (fn53n hq hpl (by omega)) rfl rfl ?_ | refine ze rfl (fn53n hq hpl (by omega)) rfl ?_ | refine zk rfl rfl (fun _ => fn53n hq hpl (by omega)) rfl rfl ?_))
        refine JK.cond rfl (fun he => ?_) (fun he => absurd he (by decide))
        (repeat (first | refine zs rfl ?_ | refine zg rfl rfl rfl ?_ | refine zd ?_ | refine JK.fin ?_ | refine JK.ret ?_))
        refine ⟨.inl rfl, _, _, rfl, trivial, ?_⟩
        rw [plannedE, if_neg (by simpa using hc), if_neg (by omega), hq]

theorem planned_zero {r : Int} {xs plan : List Int} (h : plannedE r xs plan = 0) : dayErr r xs = 0 ∧ plan.length = xs.length ∧ ∃ q, playedR r xs plan = some q := by
  unfold plannedE at h
  by_cases h0 : dayErr r xs = 0
  · rw [if_neg (by simpa using h0)] at h
    by_cases h1 : plan.length = xs.length
    · rw [if_neg (by simpa using h1)] at h
      cases hq : playedR r xs plan with
      | some q => exact ⟨h0, h1, q, rfl⟩
      | none => rw [hq] at h; cases h
    · rw [if_pos h1] at h; cases h
  · rw [if_pos h0] at h; exact absurd h h0

def keptR (r : Int) (xs plan : List Int) : List Int := match playedR r xs plan with | some q => q.2 | none => []
def benchR (r : Int) (xs plan : List Int) : List (List Int) := match playedR r xs plan with | some q => q.1 | none => []
def fetchesR (r : Int) (xs plan : List Int) : Int := if plannedE r xs plan = 0 then (xs.length : Int) - (keptR r xs plan).length else 0
def keptRS (r : Int) (xs plan : List Int) : List Int := if plannedE r xs plan = 0 then keptR r xs plan else []

theorem playedF_kept {r : Int} : ∀ {l : List (Int × Int)} {i : Nat} {bench : List Int} {q : List (List Int) × List Int}, playedF r l i bench = some q → q.1.length = l.length ∧ q.2.length ≤ l.length
  | [], i, bench, q, h => by rw [playedF] at h; injection h with h; subst h; simp
  | (k, b) :: l, i, bench, q, h => by
    rw [playedF] at h
    split at h
    · split at h
      · rename_i bs ks hq
        have := playedF_kept hq
        injection h with h; subst h
        dsimp only at this ⊢
        refine ⟨by simp [this.1], ?_⟩
        split <;> simp <;> omega
      · cases h
    · cases h

theorem fn22 (r : Int) (xs plan : List Int) : Ox.Fn Go.Proofs.Try.prog 22 (.acons (vD r xs) (.acons (vL plan) .anil)) (· = vT2 (fetchesR r xs plan) (plannedE r xs plan)) := by
  refine Ox.Fn.intro xok Go.Proofs.Try.func22 rfl Go.Proofs.Try.call22 (Nat.le_of_ble_eq_true rfl) (fun E M0 up => ?_)
  refine JK.start ?_
  have h52 := fn52 r xs plan
  (repeat (first | refine zs rfl ?_ | refine zg rfl rfl rfl ?_ | refine zd ?_ | refine JK.fin ?_ | refine JK.ret ?_ | refine zc rfl (h52) rfl rfl ?_ | refine ze rfl (h52) rfl ?_ | refine zk rfl rfl (fun _ => h52) rfl rfl ?_))
  refine JK.cond rfl (fun hc => ?_) (fun hc => ?_)
  · (simp only [↓bif_or, ↓bif_and, ↓Bool.or_eq_true, ↓Bool.or_eq_false_iff, ↓Bool.and_eq_true, ↓Bool.and_eq_false_iff, ↓Bool.not_eq_true', ↓Bool.not_eq_false', ↓decide_eq_true_eq, ↓decide_eq_false_iff_not, ↓beq_iff_eq, ↓bne_iff_ne, ↓bne_eq_false_iff_eq, ↓ne_eq, ↓beq_eq_false_iff_ne, ↓Bool.not_eq_true] at hc; try simp only [Ty.dflt, Int.toNat_natCast] at hc)
    (repeat (first | refine zs rfl ?_ | refine zg rfl rfl rfl ?_ | refine zd ?_ | refine JK.fin ?_ | refine JK.ret ?_ | refine zc rfl (h52) rfl rfl ?_ | refine ze rfl (h52) rfl ?_ | refine zk rfl rfl (fun _ => h52) rfl rfl ?_))
    refine ⟨.inl rfl, _, _, rfl, trivial, ?_⟩
    rw [fetchesR, if_neg hc]
  · (simp only [↓bif_or, ↓bif_and, ↓Bool.or_eq_true, ↓Bool.or_eq_false_iff, ↓Bool.and_eq_true, ↓Bool.and_eq_false_iff, ↓Bool.not_eq_true', ↓Bool.not_eq_false', ↓decide_eq_true_eq, ↓decide_eq_false_iff_not, ↓beq_iff_eq, ↓bne_iff_ne, ↓bne_eq_false_iff_eq, ↓ne_eq, ↓beq_eq_false_iff_ne, ↓Bool.not_eq_true] at hc; try simp only [Ty.dflt, Int.toNat_natCast] at hc)
    have hc : plannedE r xs plan = 0 := by simpa using hc
    obtain ⟨h0, hpl, q, hq⟩ := planned_zero hc
    have hv := dayErr_zero.1 h0
    have hk := playedF_kept (show playedF r (xs.zip plan) 0 [] = some q from hq)
    rw [List.length_zip] at hk
    (repeat (first | refine zs rfl ?_ | refine zg rfl rfl rfl ?_ | refine zd ?_ | refine JK.fin ?_ | refine JK.ret ?_ | refine zc rfl (fn53s hq hpl (by omega)) rfl rfl ?_ | refine ze rfl (fn53s hq hpl (by omega)) rfl ?_ | refine zk rfl rfl (fun _ => fn53s hq hpl (by omega)) rfl rfl ?_))
    refine ⟨.inl rfl, _, _, rfl, trivial, ?_⟩
    rw [fetchesR, if_pos hc, keptR, hq, hc]

theorem fn24 (r : Int) (xs plan : List Int) : Ox.Fn Go.Proofs.Try.prog 24 (.acons (vD r xs) (.acons (vL plan) .anil)) (· = .tup (.acons (vL (keptRS r xs plan)) (.acons (vI (plannedE r xs plan)) .anil))) := by
  refine Ox.Fn.intro xok Go.Proofs.Try.func24 rfl Go.Proofs.Try.call24 (Nat.le_of_ble_eq_true rfl) (fun E M0 up => ?_)
  refine JK.start ?_
  have h52 := fn52 r xs plan
  (repeat (first | refine zs rfl ?_ | refine zg rfl rfl rfl ?_ | refine zd ?_ | refine JK.fin ?_ | refine JK.ret ?_ | refine zc rfl (h52) rfl rfl ?_ | refine ze rfl (h52) rfl ?_ | refine zk rfl rfl (fun _ => h52) rfl rfl ?_))
  refine JK.cond rfl (fun hc => ?_) (fun hc => ?_)
  · (simp only [↓bif_or, ↓bif_and, ↓Bool.or_eq_true, ↓Bool.or_eq_false_iff, ↓Bool.and_eq_true, ↓Bool.and_eq_false_iff, ↓Bool.not_eq_true', ↓Bool.not_eq_false', ↓decide_eq_true_eq, ↓decide_eq_false_iff_not, ↓beq_iff_eq, ↓bne_iff_ne, ↓bne_eq_false_iff_eq, ↓ne_eq, ↓beq_eq_false_iff_ne, ↓Bool.not_eq_true] at hc; try simp only [Ty.dflt, Int.toNat_natCast] at hc)
    (repeat (first | refine zs rfl ?_ | refine zg rfl rfl rfl ?_ | refine zd ?_ | refine JK.fin ?_ | refine JK.ret ?_ | refine zc rfl (h52) rfl rfl ?_ | refine ze rfl (h52) rfl ?_ | refine zk rfl rfl (fun _ => h52) rfl rfl ?_))
    refine ⟨.inl rfl, _, _, rfl, trivial, ?_⟩
    rw [keptRS, if_neg hc]
  · (simp only [↓bif_or, ↓bif_and, ↓Bool.or_eq_true, ↓Bool.or_eq_false_iff, ↓Bool.and_eq_true, ↓Bool.and_eq_false_iff, ↓Bool.not_eq_true', ↓Bool.not_eq_false', ↓decide_eq_true_eq, ↓decide_eq_false_iff_not, ↓beq_iff_eq, ↓bne_iff_ne, ↓bne_eq_false_iff_eq, ↓ne_eq, ↓beq_eq_false_iff_ne, ↓Bool.not_eq_true] at hc; try simp only [Ty.dflt, Int.toNat_natCast] at hc)
    have hc : plannedE r xs plan = 0 := by simpa using hc
    obtain ⟨h0, hpl, q, hq⟩ := planned_zero hc
    have hv := dayErr_zero.1 h0
    (repeat (first | refine zs rfl ?_ | refine zg rfl rfl rfl ?_ | refine zd ?_ | refine JK.fin ?_ | refine JK.ret ?_ | refine zc rfl (fn53s hq hpl (by omega)) rfl rfl ?_ | refine ze rfl (fn53s hq hpl (by omega)) rfl ?_ | refine zk rfl rfl (fun _ => fn53s hq hpl (by omega)) rfl rfl ?_))
    refine ⟨.inl rfl, _, _, rfl, trivial, ?_⟩
    rw [keptRS, if_pos hc, keptR, hq, hc]

def benchRE (r : Int) (xs plan : List Int) (n : Int) : Int := if dayErr r xs ≠ 0 then dayErr r xs else if ¬(0 ≤ n ∧ n < xs.length) then 2 else plannedE r xs plan
def benchRS (r : Int) (xs plan : List Int) (n : Int) : List Int := if benchRE r xs plan n = 0 then (benchR r xs plan).getD n.toNat [] else []
theorem fn26 (r : Int) (xs plan : List Int) (n : Int) : Ox.Fn Go.Proofs.Try.prog 26 (.acons (vD r xs) (.acons (vL plan) (.acons (vI n) .anil))) (· = .tup (.acons (vL (benchRS r xs plan n)) (.acons (vI (benchRE r xs plan n)) .anil))) := by
  refine Ox.Fn.intro xok Go.Proofs.Try.func26 rfl Go.Proofs.Try.call26 (Nat.le_of_ble_eq_true rfl) (fun E M0 up => ?_)
  refine JK.start ?_
  have h20 := fn20 r xs
  have h52 := fn52 r xs plan
  (repeat (first | refine zs rfl ?_ | refine zg rfl rfl rfl ?_ | refine zd ?_ | refine JK.fin ?_ | refine JK.ret ?_ | refine zc rfl (h20) rfl rfl ?_ | refine ze rfl (h20) rfl ?_ | refine zk rfl rfl (fun _ => h20) rfl rfl ?_))
  refine JK.cond rfl (fun hc => ?_) (fun hc => ?_)
  · (simp only [↓bif_or, ↓bif_and, ↓Bool.or_eq_true, ↓Bool.or_eq_false_iff, ↓Bool.and_eq_true, ↓Bool.and_eq_false_iff, ↓Bool.not_eq_true', ↓Bool.not_eq_false', ↓decide_eq_true_eq, ↓decide_eq_false_iff_not, ↓beq_iff_eq, ↓bne_iff_ne, ↓bne_eq_false_iff_eq, ↓ne_eq, ↓beq_eq_false_iff_ne, ↓Bool.not_eq_true] at hc; try simp only [Ty.dflt, Int.toNat_natCast] at hc)
    (repeat (first | refine zs rfl ?_ | refine zg rfl rfl rfl ?_ | refine zd ?_ | refine JK.fin ?_ | refine JK.ret ?_ | refine zc rfl (h20) rfl rfl ?_ | refine ze rfl (h20) rfl ?_ | refine zk rfl rfl (fun _ => h20) rfl rfl ?_))
    refine ⟨.inl rfl, _, _, rfl, trivial, ?_⟩
    rw [benchRS, benchRE, if_pos hc, if_neg hc]
  · (simp only [↓bif_or, ↓bif_and, ↓Bool.or_eq_true, ↓Bool.or_eq_false_iff, ↓Bool.and_eq_true, ↓Bool.and_eq_false_iff, ↓Bool.not_eq_true', ↓Bool.not_eq_false', ↓decide_eq_true_eq, ↓decide_eq_false_iff_not, ↓beq_iff_eq, ↓bne_iff_ne, ↓bne_eq_false_iff_eq, ↓ne_eq, ↓beq_eq_false_iff_ne, ↓Bool.not_eq_true] at hc; try simp only [Ty.dflt, Int.toNat_natCast] at hc)
    have hc : dayErr r xs = 0 := by simpa using hc
    (repeat (first | refine zs rfl ?_ | refine zg rfl rfl rfl ?_ | refine zd ?_ | refine JK.fin ?_ | refine JK.ret ?_ | refine zc rfl (fn47 r xs n) rfl rfl ?_ | refine ze rfl (fn47 r xs n) rfl ?_ | refine zk rfl rfl (fun _ => fn47 r xs n) rfl rfl ?_))
    refine JK.cond rfl (fun hd => ?_) (fun hd => ?_)
    · (simp only [↓bif_or, ↓bif_and, ↓Bool.or_eq_true, ↓Bool.or_eq_false_iff, ↓Bool.and_eq_true, ↓Bool.and_eq_false_iff, ↓Bool.not_eq_true', ↓Bool.not_eq_false', ↓decide_eq_true_eq, ↓decide_eq_false_iff_not, ↓beq_iff_eq, ↓bne_iff_ne, ↓bne_eq_false_iff_eq, ↓ne_eq, ↓beq_eq_false_iff_ne, ↓Bool.not_eq_true] at hd; try simp only [Ty.dflt, Int.toNat_natCast] at hd)
      (repeat (first | refine zs rfl ?_ | refine zg rfl rfl rfl ?_ | refine zd ?_ | refine JK.fin ?_ | refine JK.ret ?_))
      refine ⟨.inl rfl, _, _, rfl, trivial, ?_⟩
      have e : benchRE r xs plan n = 2 := by rw [benchRE, if_neg (by rw [hc]; decide), if_pos hd]
      rw [benchRS, e]; rfl
    · (simp only [↓bif_or, ↓bif_and, ↓Bool.or_eq_true, ↓Bool.or_eq_false_iff, ↓Bool.and_eq_true, ↓Bool.and_eq_false_iff, ↓Bool.not_eq_true', ↓Bool.not_eq_false', ↓decide_eq_true_eq, ↓decide_eq_false_iff_not, ↓beq_iff_eq, ↓bne_iff_ne, ↓bne_eq_false_iff_eq, ↓ne_eq, ↓beq_eq_false_iff_ne, ↓Bool.not_eq_true] at hd; try simp only [Ty.dflt, Int.toNat_natCast] at hd)
      have hd' : ¬¬(0 ≤ n ∧ n < (xs.length : Int)) := fun h => h hd
      (repeat (first | refine zs rfl ?_ | refine zg rfl rfl rfl ?_ | refine zd ?_ | refine JK.fin ?_ | refine JK.ret ?_ | refine zc rfl (h52) rfl rfl ?_ | refine ze rfl (h52) rfl ?_ | refine zk rfl rfl (fun _ => h52) rfl rfl ?_))
      refine JK.cond rfl (fun he => ?_) (fun he => ?_)
      · (simp only [↓bif_or, ↓bif_and, ↓Bool.or_eq_true, ↓Bool.or_eq_false_iff, ↓Bool.and_eq_true, ↓Bool.and_eq_false_iff, ↓Bool.not_eq_true', ↓Bool.not_eq_false', ↓decide_eq_true_eq, ↓decide_eq_false_iff_not, ↓beq_iff_eq, ↓bne_iff_ne, ↓bne_eq_false_iff_eq, ↓ne_eq, ↓beq_eq_false_iff_ne, ↓Bool.not_eq_true] at he; try simp only [Ty.dflt, Int.toNat_natCast] at he)
        (repeat (first | refine zs rfl ?_ | refine zg rfl rfl rfl ?_ | refine zd ?_ | refine JK.fin ?_ | refine JK.ret ?_ | refine zc rfl (h52) rfl rfl ?_ | refine ze rfl (h52) rfl ?_ | refine zk rfl rfl (fun _ => h52) rfl rfl ?_))
        refine ⟨.inl rfl, _, _, rfl, trivial, ?_⟩
        have e : benchRE r xs plan n = plannedE r xs plan := by rw [benchRE, if_neg (by rw [hc]; decide), if_neg hd']
        rw [benchRS, e, if_neg he]
      · (simp only [↓bif_or, ↓bif_and, ↓Bool.or_eq_true, ↓Bool.or_eq_false_iff, ↓Bool.and_eq_true, ↓Bool.and_eq_false_iff, ↓Bool.not_eq_true', ↓Bool.not_eq_false', ↓decide_eq_true_eq, ↓decide_eq_false_iff_not, ↓beq_iff_eq, ↓bne_iff_ne, ↓bne_eq_false_iff_eq, ↓ne_eq, ↓beq_eq_false_iff_ne, ↓Bool.not_eq_true] at he; try simp only [Ty.dflt, Int.toNat_natCast] at he)
        have he : plannedE r xs plan = 0 := by simpa using he
        obtain ⟨h0, hpl, q, hq⟩ := planned_zero he
        have hv := dayErr_zero.1 h0
        have hk := playedF_kept (show playedF r (xs.zip plan) 0 [] = some q from hq)
        rw [List.length_zip] at hk
        have hk1 : q.1.length = xs.length := by omega
        (repeat (first | refine zs rfl ?_ | refine zg rfl rfl rfl ?_ | refine zd ?_ | refine JK.fin ?_ | refine JK.ret ?_ | refine zc rfl (fn53s hq hpl (by omega)) rfl rfl ?_ | refine ze rfl (fn53s hq hpl (by omega)) rfl ?_ | refine zk rfl rfl (fun _ => fn53s hq hpl (by omega)) rfl rfl ?_))
        refine ⟨.inl rfl, _, _, rfl, trivial, ?_⟩
        have e : benchRE r xs plan n = 0 := by rw [benchRE, if_neg (by rw [hc]; decide), if_neg hd', he]
        rw [benchRS, e, if_pos rfl, benchR, hq]
        rfl
end Go.Proofs.Ytbmgijgnbilnoaa

namespace Go.Proofs.Ytbmgijgnbilnoaa
open Go Go.RowKit Ox
attribute [local irreducible] JC JL JK JW

/-- How many of the first books are new, or parted by a moment. -/
def cntR (xs ts : List Int) (i : Nat) : Nat := (List.range i).countP fun i => decide (lastB xs (xs.getD i 0) i < 0) || ts.any fun t => decide (lastB xs (xs.getD i 0) i < t ∧ t < (i : Int))
theorem cntR_le (xs ts : List Int) (i : Nat) : cntR xs ts i ≤ i := by
  have := List.countP_le_length (p := fun i : Nat => decide (lastB xs (xs.getD i 0) i < 0) || ts.any fun t => decide (lastB xs (xs.getD i 0) i < t ∧ t < (i : Int))) (l := List.range i)
  simpa [cntR] using this
theorem cntR_succ (xs ts : List Int) (i : Nat) : cntR xs ts (i + 1) = cntR xs ts i + if (decide (lastB xs (xs.getD i 0) i < 0) || ts.any fun t => decide (lastB xs (xs.getD i 0) i < t ∧ t < (i : Int))) = true then 1 else 0 := by
  simp only [cntR, List.range_succ, List.countP_append, List.countP_singleton]

theorem lasts_getD {xs : List Int} {i : Nat} (h : i < xs.length) : (lasts xs xs.length).getD i 0 = lastB xs (xs.getD i 0) i := by
  rw [lasts, List.getD_eq_getElem?_getD, List.getElem?_eq_getElem (by simpa using h)]
  simp
theorem cntR_momV (xs ts : List Int) : ((cntR xs ts xs.length : Nat) : Int) = ((lasts xs xs.length).countP (decide <| · < 0) : Nat) + (cntF (lasts xs xs.length) ts xs.length : Nat) := by
  have key : ∀ n, n ≤ xs.length → cntR xs ts n = (lasts xs n).countP (decide <| · < 0) + cntF (lasts xs xs.length) ts n := by
    intro n
    induction n with
    | zero => intro _; rfl
    | succ n ih =>
      intro hn
      have hg := lasts_getD (show n < xs.length by omega)
      rw [cntR_succ, ih (by omega), lasts_succ, List.countP_append, List.countP_singleton]
      by_cases h1 : lastB xs (xs.getD n 0) n < 0
      · have h2 := cntF_no (la := lasts xs xs.length) (ts := ts) (i := n) fun h => by rw [hg] at h; omega
        rw [h2, if_pos (by rw [decide_eq_true h1]; rfl), if_pos (by simpa using h1)]; omega
      · by_cases h3 : (ts.any fun t => decide (lastB xs (xs.getD n 0) n < t ∧ t < (n : Int))) = true
        · have h2 := cntF_yes (la := lasts xs xs.length) (ts := ts) (i := n) (by rw [hg]; omega) (by rw [hg]; exact h3)
          rw [h2, if_pos (by rw [h3, Bool.or_true]), if_neg (by simpa using h1)]; omega
        · have h2 := cntF_no (la := lasts xs xs.length) (ts := ts) (i := n) fun h => by rw [hg] at h; exact h3 h.2
          rw [h2, if_neg (by rw [decide_eq_false h1, Bool.false_or]; exact h3), if_neg (by simpa using h1)]
          omega
  have := key _ (Nat.le_refl _)
  omega

theorem momGuard {t n i p : Int} : ((bif !decide (0 ≤ t ∧ t < n) then true else bif decide (0 < i) then decide (t ≤ p) else false) = false) ↔ ((0 ≤ t ∧ t < n) ∧ (0 < i → p < t)) := by
  by_cases h1 : 0 ≤ t ∧ t < n <;> by_cases h2 : 0 < i <;> by_cases h3 : t ≤ p <;> simp [h1, h2, h3] <;> omega
theorem momPick {ts : List Int} {k : Nat} (hk : k < ts.length) {lv i : Int} {b : Bool} : (bif (b || (ts.take k).any fun t => decide (lv < t ∧ t < i)) then true else bif decide (lv < ts.getD k 0) then decide (ts.getD k 0 < i) else false) = (b || (ts.take (k + 1)).any fun t => decide (lv < t ∧ t < i)) := by
  rw [List.take_succ, List.getElem?_eq_getElem hk, List.any_append, getD_nat ts hk]
  cases b <;> cases ((ts.take k).any fun t => decide (lv < t ∧ t < i)) <;> by_cases h1 : lv < ts[k] <;> by_cases h2 : ts[k] < i <;> simp [h1, h2]
set_option maxHeartbeats 2000000 in
theorem fn33 (r : Int) (xs ts : List Int) (htl : ts.length ≤ 1000) : Ox.Fn Go.Proofs.Try.prog 33 (.acons (vD r xs) (.acons (vL ts) .anil)) (· = vT2 (momS r xs ts).1 (momS r xs ts).2) := by
  refine Ox.Fn.intro xok Go.Proofs.Try.func33 rfl Go.Proofs.Try.call33 (Nat.le_of_ble_eq_true rfl) (fun E M0 up => ?_)
  refine JK.start ?_
  have h20 := fn20 r xs
  (repeat (first | refine zs rfl ?_ | refine zg rfl rfl rfl ?_ | refine zd ?_ | refine JK.fin ?_ | refine JK.ret ?_ | refine zc rfl (h20) rfl rfl ?_ | refine ze rfl (h20) rfl ?_ | refine zk rfl rfl (fun _ => h20) rfl rfl ?_))
  refine JK.cond rfl (fun hc => ?_) (fun hc => ?_)
  · (simp only [↓bif_or, ↓bif_and, ↓Bool.or_eq_true, ↓Bool.or_eq_false_iff, ↓Bool.and_eq_true, ↓Bool.and_eq_false_iff, ↓Bool.not_eq_true', ↓Bool.not_eq_false', ↓decide_eq_true_eq, ↓decide_eq_false_iff_not, ↓beq_iff_eq, ↓bne_iff_ne, ↓bne_eq_false_iff_eq, ↓ne_eq, ↓beq_eq_false_iff_ne, ↓Bool.not_eq_true] at hc; try simp only [Ty.dflt, Int.toNat_natCast] at hc)
    (repeat (first | refine zs rfl ?_ | refine zg rfl rfl rfl ?_ | refine zd ?_ | refine JK.fin ?_ | refine JK.ret ?_ | refine zc rfl (h20) rfl rfl ?_ | refine ze rfl (h20) rfl ?_ | refine zk rfl rfl (fun _ => h20) rfl rfl ?_))
    refine ⟨.inl rfl, _, _, rfl, trivial, ?_⟩
    rw [momS, if_pos hc]
  · (simp only [↓bif_or, ↓bif_and, ↓Bool.or_eq_true, ↓Bool.or_eq_false_iff, ↓Bool.and_eq_true, ↓Bool.and_eq_false_iff, ↓Bool.not_eq_true', ↓Bool.not_eq_false', ↓decide_eq_true_eq, ↓decide_eq_false_iff_not, ↓beq_iff_eq, ↓bne_iff_ne, ↓bne_eq_false_iff_eq, ↓ne_eq, ↓beq_eq_false_iff_ne, ↓Bool.not_eq_true] at hc; try simp only [Ty.dflt, Int.toNat_natCast] at hc)
    have ho : dayErr r xs = 0 := by simpa using hc
    obtain ⟨hr, hl, hx⟩ := dayErr_zero.1 ho
    rw [momS, if_neg (by simpa using ho)]
    (repeat (first | refine zs rfl ?_ | refine zg rfl rfl rfl ?_ | refine zd ?_ | refine JK.fin ?_ | refine JK.ret ?_))
    refine JK.loop (fun i : Nat => ⟨[(1, vL ts), (2, .lf (.optr 0 [])), (6, vI (i : Int))], [(0, .cell dayT (vD r xs))], 1⟩)
      (fun i => i ≤ ts.length ∧ (0 < i → 0 ≤ ts.getD (i - 1) 0) ∧ incrF xs.length ts 0 = incrF xs.length (ts.drop i) (if i = 0 then 0 else ts.getD (i - 1) 0 + 1)) (fun i => ts.length - i) 0 ⟨by simp, by simp, rfl⟩ (by (exact JW.Auto rfl)) fun i hq => ?_
    obtain ⟨hi, hpr, hinv⟩ := hq
    (repeat (first | refine zs rfl ?_ | refine zg rfl rfl rfl ?_ | refine zd ?_ | refine JK.fin ?_ | refine JK.ret ?_))
    refine JK.cond rfl (fun hc => ?_) (fun hc => ?_)
    · (simp only [↓bif_or, ↓bif_and, ↓Bool.or_eq_true, ↓Bool.or_eq_false_iff, ↓Bool.and_eq_true, ↓Bool.and_eq_false_iff, ↓Bool.not_eq_true', ↓Bool.not_eq_false', ↓decide_eq_true_eq, ↓decide_eq_false_iff_not, ↓beq_iff_eq, ↓bne_iff_ne, ↓bne_eq_false_iff_eq, ↓ne_eq, ↓beq_eq_false_iff_ne, ↓Bool.not_eq_true] at hc; try simp only [Ty.dflt, Int.toNat_natCast] at hc)
      have hi' : i < ts.length := by omega
      have hg := getD_nat ts hi' 0
      rw [List.drop_eq_getElem_cons hi', incrF, ← hg] at hinv
      (repeat (first | refine zs rfl ?_ | refine zg rfl rfl rfl ?_ | refine zd ?_ | refine JK.fin ?_ | refine JK.ret ?_ | refine zc rfl (fn47 r xs (ts.getD i 0)) rfl rfl ?_ | refine ze rfl (fn47 r xs (ts.getD i 0)) rfl ?_ | refine zk rfl rfl (fun _ => fn47 r xs (ts.getD i 0)) rfl rfl ?_))
      refine JK.cond rfl (fun hd => ?_) (fun hd => ?_)
      · have hd' : ¬((if i = 0 then 0 else ts.getD (i - 1) 0 + 1) ≤ ts.getD i 0 ∧ ts.getD i 0 ≤ (xs.length : Int) - 1) := fun h => by
          refine Bool.noConfusion (hd.symm.trans (momGuard.2 ⟨?_, fun h0 => ?_⟩))
          · split at h <;> (show 0 ≤ ts.getD i 0 ∧ ts.getD i 0 < (xs.length : Int); omega)
          · rw [show ((i : Int) - 1).toNat = i - 1 by omega]
            show ts.getD (i - 1) 0 < ts.getD i 0
            split at h <;> omega
        rw [decide_eq_false hd', Bool.false_and] at hinv
        (repeat (first | refine zs rfl ?_ | refine zg rfl rfl rfl ?_ | refine zd ?_ | refine JK.fin ?_ | refine JK.ret ?_))
        refine ⟨.inl rfl, _, _, rfl, trivial, ?_⟩
        rw [if_neg (by rw [hinv]; simp)]
      · have h3 := momGuard.1 hd
        have hd' : ((if i = 0 then 0 else ts.getD (i - 1) 0 + 1) ≤ ts.getD i 0 ∧ ts.getD i 0 ≤ (xs.length : Int) - 1) := by
          refine ⟨?_, by omega⟩
          have h5 := h3.2
          split
          · omega
          · have h6 := h5 (by omega)
            rw [show ((i : Int) - 1).toNat = i - 1 by omega] at h6
            have h7 : ts.getD (i - 1) 0 < ts.getD i 0 := h6
            omega
        rw [decide_eq_true hd', Bool.true_and] at hinv
        (repeat (first | refine zs rfl ?_ | refine zg rfl rfl rfl ?_ | refine zd ?_ | refine JK.fin ?_ | refine JK.ret ?_))
        refine ⟨i + 1, by (exact JW.Auto rfl), ⟨by omega, fun _ => by show 0 ≤ ts.getD i 0; omega, ?_⟩, by omega⟩
        rw [hinv, if_neg (by omega)]; rfl
    · (simp only [↓bif_or, ↓bif_and, ↓Bool.or_eq_true, ↓Bool.or_eq_false_iff, ↓Bool.and_eq_true, ↓Bool.and_eq_false_iff, ↓Bool.not_eq_true', ↓Bool.not_eq_false', ↓decide_eq_true_eq, ↓decide_eq_false_iff_not, ↓beq_iff_eq, ↓bne_iff_ne, ↓bne_eq_false_iff_eq, ↓ne_eq, ↓beq_eq_false_iff_ne, ↓Bool.not_eq_true] at hc; try simp only [Ty.dflt, Int.toNat_natCast] at hc)
      obtain rfl : i = ts.length := by omega
      rw [List.drop_length] at hinv
      replace hinv : incrF xs.length ts 0 = true := hinv
      rw [if_pos hinv]
      have hmul : -3000 ≤ (0 - (r - 1)) * (ts.length : Int) ∧ (0 - (r - 1)) * (ts.length : Int) ≤ 0 ∧ (0 - (r - 1)) * (ts.length : Int) = - ((r - 1) * ts.length) := by
        have h4 : r = 1 ∨ r = 2 ∨ r = 3 ∨ r = 4 := by omega
        rcases h4 with rfl | rfl | rfl | rfl <;> omega
      (repeat (first | refine zs rfl ?_ | refine zg rfl rfl rfl ?_ | refine zd ?_ | refine JK.fin ?_ | refine JK.ret ?_))
      generalize hbase : (0 - (r - 1)) * (ts.length : Int) = base at hmul
      refine JK.loop (fun i : Nat => ⟨[(1, vL ts), (2, .lf (.optr 0 [])), (7, vI (base + (cntR xs ts i : Nat))), (8, vI (i : Int))], [(0, .cell dayT (vD r xs))], 1⟩)
        (fun i => i ≤ xs.length) (fun i => xs.length - i) 0 (by simp) (by subst hbase; (refine JW.auto rfl ?_ ?_ ?_ ?_ rfl <;> (repeat' (first | exact trivial | exact rfl | refine And.intro ?_ ?_ | exact Nat.le_of_ble_eq_true rfl | refine HO.bdF ?_ | refine HO.bdP ?_ | (refine congrArg (fun z : Int => some (AV.val (.int .i64) z)) ?_; push_cast; omega) | (refine congrArg (fun z : Int => some (AV.val (.int .i64) z)) ?_; show _ = _ + ((0 : Nat) : Int); simp))))) fun i hi => ?_
      have hcr := cntR_le xs ts i
      (repeat (first | refine zs rfl ?_ | refine zg rfl rfl rfl ?_ | refine zd ?_ | refine JK.fin ?_ | refine JK.ret ?_))
      refine JK.cond rfl (fun hc2 => ?_) (fun hc2 => ?_)
      · (simp only [↓bif_or, ↓bif_and, ↓Bool.or_eq_true, ↓Bool.or_eq_false_iff, ↓Bool.and_eq_true, ↓Bool.and_eq_false_iff, ↓Bool.not_eq_true', ↓Bool.not_eq_false', ↓decide_eq_true_eq, ↓decide_eq_false_iff_not, ↓beq_iff_eq, ↓bne_iff_ne, ↓bne_eq_false_iff_eq, ↓ne_eq, ↓beq_eq_false_iff_ne, ↓Bool.not_eq_true] at hc2; try simp only [Ty.dflt, Int.toNat_natCast] at hc2)
        have hi' : i < xs.length := by omega
        (repeat (first | refine zs rfl ?_ | refine zg rfl rfl rfl ?_ | refine zd ?_ | refine JK.fin ?_ | refine JK.ret ?_ | refine zc rfl (fn48 r xs i hi') rfl rfl ?_ | refine ze rfl (fn48 r xs i hi') rfl ?_ | refine zk rfl rfl (fun _ => fn48 r xs i hi') rfl rfl ?_))
        generalize hlv : lastB xs (xs.getD i 0) i = lv
        refine JK.loop (fun k : Nat => ⟨[(1, vL ts), (2, .lf (.optr 0 [])), (7, vI (base + (cntR xs ts i : Nat))), (8, vI (i : Int)), (9, vI lv), (10, vB (decide (lv < 0) || (ts.take k).any fun t => decide (lv < t ∧ t < (i : Int)))), (11, vI (k : Int))], [(0, .cell dayT (vD r xs))], 1⟩)
          (fun k => k ≤ ts.length) (fun k => ts.length - k) 0 (by simp) (by subst hlv; (refine JW.auto rfl ?_ ?_ ?_ ?_ rfl <;> (repeat' (first | exact trivial | exact rfl | refine And.intro ?_ ?_ | exact Nat.le_of_ble_eq_true rfl | refine HO.bdF ?_ | refine HO.bdP ?_ | (refine congrArg (fun z : Int => some (AV.val (.int .i64) z)) ?_; push_cast; omega) | (refine congrArg (fun z : Bool => some (AV.val .bool z)) ?_; simp))))) fun k hk => ?_
        (repeat (first | refine zs rfl ?_ | refine zg rfl rfl rfl ?_ | refine zd ?_ | refine JK.fin ?_ | refine JK.ret ?_))
        refine JK.cond rfl (fun hc3 => ?_) (fun hc3 => ?_)
        · (simp only [↓bif_or, ↓bif_and, ↓Bool.or_eq_true, ↓Bool.or_eq_false_iff, ↓Bool.and_eq_true, ↓Bool.and_eq_false_iff, ↓Bool.not_eq_true', ↓Bool.not_eq_false', ↓decide_eq_true_eq, ↓decide_eq_false_iff_not, ↓beq_iff_eq, ↓bne_iff_ne, ↓bne_eq_false_iff_eq, ↓ne_eq, ↓beq_eq_false_iff_ne, ↓Bool.not_eq_true] at hc3; try simp only [Ty.dflt, Int.toNat_natCast] at hc3)
          have hk' : k < ts.length := by omega
          have hgk := getD_nat ts hk' 0
          (repeat (first | refine zs rfl ?_ | refine zg rfl rfl rfl ?_ | refine zd ?_ | refine JK.fin ?_ | refine JK.ret ?_))
          refine ⟨k + 1, by (refine JW.auto rfl ?_ ?_ ?_ ?_ rfl <;> (repeat' (first | exact trivial | exact rfl | refine And.intro ?_ ?_ | exact Nat.le_of_ble_eq_true rfl | refine HO.bdF ?_ | refine HO.bdP ?_ | (refine congrArg (fun z : Int => some (AV.val (.int .i64) z)) ?_; push_cast; omega) | (refine congrArg (fun z : Bool => some (AV.val .bool z)) ?_; exact momPick hk')))), by omega, by omega⟩
        · (simp only [↓bif_or, ↓bif_and, ↓Bool.or_eq_true, ↓Bool.or_eq_false_iff, ↓Bool.and_eq_true, ↓Bool.and_eq_false_iff, ↓Bool.not_eq_true', ↓Bool.not_eq_false', ↓decide_eq_true_eq, ↓decide_eq_false_iff_not, ↓beq_iff_eq, ↓bne_iff_ne, ↓bne_eq_false_iff_eq, ↓ne_eq, ↓beq_eq_false_iff_ne, ↓Bool.not_eq_true] at hc3; try simp only [Ty.dflt, Int.toNat_natCast] at hc3)
          obtain rfl : k = ts.length := by omega
          have hsu := cntR_succ xs ts i
          rw [hlv] at hsu
          (repeat (first | refine zs rfl ?_ | refine zg rfl rfl rfl ?_ | refine zd ?_ | refine JK.fin ?_ | refine JK.ret ?_))
          refine JK.cond rfl (fun hc4 => ?_) (fun hc4 => ?_)
          · replace hc4 : (decide (lv < 0) || (ts.take ts.length).any fun t => decide (lv < t ∧ t < (i : Int))) = true := hc4
            rw [List.take_length] at hc4
            rw [if_pos hc4] at hsu
            (repeat (first | refine zs rfl ?_ | refine zg rfl rfl rfl ?_ | refine zd ?_ | refine JK.fin ?_ | refine JK.ret ?_))
            exact ⟨i + 1, by (refine JW.auto rfl ?_ ?_ ?_ ?_ rfl <;> (repeat' (first | exact trivial | exact rfl | refine And.intro ?_ ?_ | exact Nat.le_of_ble_eq_true rfl | refine HO.bdF ?_ | refine HO.bdP ?_ | (refine congrArg (fun z : Int => some (AV.val (.int .i64) z)) ?_; push_cast; omega) | (refine congrArg (fun z : Int => some (AV.val (.int .i64) z)) ?_; rw [hsu]; push_cast; omega)))), by omega, by omega⟩
          · replace hc4 : (decide (lv < 0) || (ts.take ts.length).any fun t => decide (lv < t ∧ t < (i : Int))) = false := hc4
            rw [List.take_length] at hc4
            rw [if_neg (by rw [hc4]; decide)] at hsu
            (repeat (first | refine zs rfl ?_ | refine zg rfl rfl rfl ?_ | refine zd ?_ | refine JK.fin ?_ | refine JK.ret ?_))
            exact ⟨i + 1, by (refine JW.auto rfl ?_ ?_ ?_ ?_ rfl <;> (repeat' (first | exact trivial | exact rfl | refine And.intro ?_ ?_ | exact Nat.le_of_ble_eq_true rfl | refine HO.bdF ?_ | refine HO.bdP ?_ | (refine congrArg (fun z : Int => some (AV.val (.int .i64) z)) ?_; push_cast; omega) | (refine congrArg (fun z : Int => some (AV.val (.int .i64) z)) ?_; rw [hsu]; push_cast; omega)))), by omega, by omega⟩
      · (simp only [↓bif_or, ↓bif_and, ↓Bool.or_eq_true, ↓Bool.or_eq_false_iff, ↓Bool.and_eq_true, ↓Bool.and_eq_false_iff, ↓Bool.not_eq_true', ↓Bool.not_eq_false', ↓decide_eq_true_eq, ↓decide_eq_false_iff_not, ↓beq_iff_eq, ↓bne_iff_ne, ↓bne_eq_false_iff_eq, ↓ne_eq, ↓beq_eq_false_iff_ne, ↓Bool.not_eq_true] at hc2; try simp only [Ty.dflt, Int.toNat_natCast] at hc2)
        (repeat (first | refine zs rfl ?_ | refine zg rfl rfl rfl ?_ | refine zd ?_ | refine JK.fin ?_ | refine JK.ret ?_))
        obtain rfl : i = xs.length := by omega
        refine ⟨.inl rfl, _, _, rfl, trivial, ?_⟩
        have hm := cntR_momV xs ts
        have e : momV r xs (lasts xs xs.length) ts = base + ((cntR xs ts xs.length : Nat) : Int) := by rw [hm, momV]; omega
        rw [e]
end Go.Proofs.Ytbmgijgnbilnoaa

namespace Go.Proofs.Ytbmgijgnbilnoaa
open Go Go.RowKit Ox
attribute [local irreducible] JC JL JK JW

theorem fn65 (r : Int) (xs : List Int) : Ox.Fn Go.Proofs.Try.prog 65 (.acons (vI r) (.acons (vL xs) .anil)) (· = vD r xs) := by
  refine Ox.Fn.intro xok Go.Proofs.Try.func65 rfl Go.Proofs.Try.call65 (Nat.le_of_ble_eq_true rfl) (fun E M0 up => ?_)
  refine JK.start ?_
  (repeat (first | refine zs rfl ?_ | refine zg rfl rfl rfl ?_ | refine zd ?_ | refine JK.fin ?_ | refine JK.ret ?_))
  refine ⟨.inl rfl, _, _, rfl, trivial, ?_⟩
  rfl

theorem fn45 : Ox.Fn Go.Proofs.Try.prog 45 .anil (· = .tup (.acons (vD 2 [0, 1, 2, 0, 1, 2, 0]) (.acons (vL [-1, -1, 1, -1, 0, -1, 1]) .anil))) := by
  refine Ox.Fn.intro xok Go.Proofs.Try.func45 rfl Go.Proofs.Try.call45 (Nat.le_of_ble_eq_true rfl) (fun E M0 up => ?_)
  refine JK.start ?_
  (repeat (first | refine zs rfl ?_ | refine zg rfl rfl rfl ?_ | refine zd ?_ | refine JK.fin ?_ | refine JK.ret ?_))
  (refine JK.frzL [1] [0,1,2] rfl (by (first | exact trivial | (try dsimp only [allP, inK, idxC, loC, lohiC, fullC, underG, List.append, List.nil_append, List.cons_append, Ty.den, Ty.dflt, Int.toNat_natCast, List.length_cons, List.length_nil] at *); first | omega | ((repeat' (first | exact trivial | assumption | refine And.intro ?_ ?_ | exact fun h => h | (intro hpk; first | exact hpk | simp only [wantB, hpk, Bool.not_false, Bool.not_true]))) <;> omega) | fail)) ?_)
  have c := fn65 2 [0, 1, 2, 0, 1, 2, 0]
  (repeat (first | refine zs rfl ?_ | refine zg rfl rfl rfl ?_ | refine zd ?_ | refine JK.fin ?_ | refine JK.ret ?_ | refine zc rfl (c) rfl rfl ?_ | refine ze rfl (c) rfl ?_ | refine zk rfl rfl (fun _ => c) rfl rfl ?_))
  refine ⟨.inl rfl, _, _, rfl, trivial, ?_⟩
  rfl

theorem fn15 (r : Int) (xs : List Int) : Ox.Fn Go.Proofs.Try.prog 15 (.acons (vD r xs) .anil) (· = vB (decide (xs.length > 30))) := by
  refine Ox.Fn.intro xok Go.Proofs.Try.func15 rfl Go.Proofs.Try.call15 (Nat.le_of_ble_eq_true rfl) (fun E M0 up => ?_)
  refine JK.start ?_
  refine JK.lenOf 0 rfl fun hlen => ?_
  replace hlen : xs.length ≤ 9223372036854775807 := hlen.2.1.1
  (repeat (first | refine zs rfl ?_ | refine zg rfl rfl rfl ?_ | refine zd ?_ | refine JK.fin ?_ | refine JK.ret ?_))
  refine ⟨.inl rfl, _, _, rfl, trivial, ?_⟩
  simp; omega

set_option maxHeartbeats 4000000 in
theorem fn16 : Ox.Fn Go.Proofs.Try.prog 16 .anil (· = vB true) := by
  refine Ox.Fn.intro xok Go.Proofs.Try.func16 rfl Go.Proofs.Try.call16 (Nat.le_of_ble_eq_true rfl) (fun E M0 up => ?_)
  refine JK.start ?_
  have c17a : Ox.Fn Go.Proofs.Try.prog 17 (.acons (vD 2 [0, 1, 2, 0, 1, 2, 0]) (.acons (vI 3) .anil)) (· = vT2 0 0) := by
    have := fn17 2 [0, 1, 2, 0, 1, 2, 0] 3
    rwa [show beforeS 2 [0, 1, 2, 0, 1, 2, 0] 3 = (0, 0) by decide +kernel] at this
  have c17b : Ox.Fn Go.Proofs.Try.prog 17 (.acons (vD 2 [0, 1, 2, 0, 1, 2, 0]) (.acons (vI 2) .anil)) (· = vT2 0 5) := by
    have := fn17 2 [0, 1, 2, 0, 1, 2, 0] 2
    rwa [show beforeS 2 [0, 1, 2, 0, 1, 2, 0] 2 = (0, 5) by decide +kernel] at this
  have c21 : Ox.Fn Go.Proofs.Try.prog 21 (.acons (vD 2 [0, 1, 2, 0, 1, 2, 0]) (.acons (vL [-1, -1, 1, -1, 0, -1, 1]) .anil)) (· = vT2 5 0) := by
    have := fn21 2 [0, 1, 2, 0, 1, 2, 0] [-1, -1, 1, -1, 0, -1, 1]
    rwa [show fetS 2 [0, 1, 2, 0, 1, 2, 0] [-1, -1, 1, -1, 0, -1, 1] = (5, 0) by decide +kernel] at this
  have c23 : Ox.Fn Go.Proofs.Try.prog 23 (.acons (vD 2 [0, 1, 2, 0, 1, 2, 0]) (.acons (vL [-1, -1, 1, -1, 0, -1, 1]) .anil)) (· = .tup (.acons (vL [3, 5]) (.acons (vI 0) .anil))) := by
    have := fn23 2 [0, 1, 2, 0, 1, 2, 0] [-1, -1, 1, -1, 0, -1, 1]
    rwa [show keptS 2 [0, 1, 2, 0, 1, 2, 0] [-1, -1, 1, -1, 0, -1, 1] = [3, 5] by decide +kernel, show playedE 2 [0, 1, 2, 0, 1, 2, 0] [-1, -1, 1, -1, 0, -1, 1] [] = 0 by decide +kernel] at this
  have c25 : Ox.Fn Go.Proofs.Try.prog 25 (.acons (vD 2 [0, 1, 2, 0, 1, 2, 0]) (.acons (vL [-1, -1, 1, -1, 0, -1, 1]) (.acons (vI 4) .anil))) (· = .tup (.acons (vL [1, 2]) (.acons (vI 0) .anil))) := by
    have := fn25 2 [0, 1, 2, 0, 1, 2, 0] [-1, -1, 1, -1, 0, -1, 1] 4
    rwa [show benchS 2 [0, 1, 2, 0, 1, 2, 0] [-1, -1, 1, -1, 0, -1, 1] 4 = [1, 2] by decide +kernel, show playedE 2 [0, 1, 2, 0, 1, 2, 0] [-1, -1, 1, -1, 0, -1, 1] [4] = 0 by decide +kernel] at this
  have c28 : Ox.Fn Go.Proofs.Try.prog 28 (.acons (vD 2 [0, 1, 2, 0, 1, 2, 0]) .anil) (· = vT3 [-1, -1, 1, -1, 0, -1, 1] 5 0) := by
    have := fn28 2 [0, 1, 2, 0, 1, 2, 0]
    rwa [show bestS 2 [0, 1, 2, 0, 1, 2, 0] = ([-1, -1, 1, -1, 0, -1, 1], 5, 0) by decide +kernel] at this
  have c29 : Ox.Fn Go.Proofs.Try.prog 29 (.acons (vD 2 [0, 1, 2, 0, 1, 2, 0]) .anil) (· = .tup (.acons (vL [7, 5, 3, 3]) (.acons (vI 0) .anil))) := by
    have := fn29 2 [0, 1, 2, 0, 1, 2, 0]
    rwa [show curveS 2 [0, 1, 2, 0, 1, 2, 0] = [7, 5, 3, 3] by decide +kernel, show dayErr 2 [0, 1, 2, 0, 1, 2, 0] = 0 by decide +kernel] at this
  have c32 : Ox.Fn Go.Proofs.Try.prog 32 (.acons (vD 2 [0, 1, 2, 0, 1, 2, 0]) (.acons (vL [2, 4]) .anil)) (· = vT2 5 0) := by
    have := fn32 2 [0, 1, 2, 0, 1, 2, 0] [2, 4]
    rwa [show momS 2 [0, 1, 2, 0, 1, 2, 0] [2, 4] = (5, 0) by decide +kernel] at this
  have c34 : Ox.Fn Go.Proofs.Try.prog 34 (.acons (vD 2 [0, 1, 2, 0, 1, 2, 0]) .anil) (· = .tup (.acons (vL [2, 4]) (.acons (vI 0) .anil))) := by
    have := fn34 2 [0, 1, 2, 0, 1, 2, 0]
    rwa [show momentsD 2 [0, 1, 2, 0, 1, 2, 0] = [2, 4] by decide +kernel, show dayErr 2 [0, 1, 2, 0, 1, 2, 0] = 0 by decide +kernel] at this
  have c36a : Ox.Fn Go.Proofs.Try.prog 36 (.acons (vD 2 [0, 1, 2, 0, 1, 2, 0]) (.acons (vI 0) .anil)) (· = vT2 2 0) := by
    have := fn36 2 [0, 1, 2, 0, 1, 2, 0] 0
    rwa [show kindS 2 [0, 1, 2, 0, 1, 2, 0] 0 = (2, 0) by decide +kernel] at this
  have c36b : Ox.Fn Go.Proofs.Try.prog 36 (.acons (vD 2 [0, 1, 2, 0, 1, 2, 0]) (.acons (vI 3) .anil)) (· = vT2 1 0) := by
    have := fn36 2 [0, 1, 2, 0, 1, 2, 0] 3
    rwa [show kindS 2 [0, 1, 2, 0, 1, 2, 0] 3 = (1, 0) by decide +kernel] at this
  have c38 : Ox.Fn Go.Proofs.Try.prog 38 (.acons (vD 2 [0, 1, 2, 0, 1, 2, 0]) .anil) (· = vT2 3 0) := by
    have := fn38 2 [0, 1, 2, 0, 1, 2, 0]
    rwa [show countD 2 [0, 1, 2, 0, 1, 2, 0] = 3 by decide +kernel, show dayErr 2 [0, 1, 2, 0, 1, 2, 0] = 0 by decide +kernel] at this
  have c33 : Ox.Fn Go.Proofs.Try.prog 33 (.acons (vD 2 [0, 1, 2, 0, 1, 2, 0]) (.acons (vL [2, 4]) .anil)) (· = vT2 5 0) := by
    have := fn33 2 [0, 1, 2, 0, 1, 2, 0] [2, 4] (by decide)
    rwa [show momS 2 [0, 1, 2, 0, 1, 2, 0] [2, 4] = (5, 0) by decide +kernel] at this
  have c22 : Ox.Fn Go.Proofs.Try.prog 22 (.acons (vD 2 [0, 1, 2, 0, 1, 2, 0]) (.acons (vL [-1, -1, 1, -1, 0, -1, 1]) .anil)) (· = vT2 5 0) := by
    have := fn22 2 [0, 1, 2, 0, 1, 2, 0] [-1, -1, 1, -1, 0, -1, 1]
    rwa [show fetchesR 2 [0, 1, 2, 0, 1, 2, 0] [-1, -1, 1, -1, 0, -1, 1] = 5 by decide +kernel, show plannedE 2 [0, 1, 2, 0, 1, 2, 0] [-1, -1, 1, -1, 0, -1, 1] = 0 by decide +kernel] at this
  (repeat (first | refine zs rfl ?_ | refine zg rfl rfl rfl ?_ | refine zd ?_ | refine JK.fin ?_ | refine JK.ret ?_ | refine zc rfl (fn45) rfl rfl ?_ | refine ze rfl (fn45) rfl ?_ | refine zk rfl rfl (fun _ => fn45) rfl rfl ?_ | refine zc rfl (c17a) rfl rfl ?_ | refine ze rfl (c17a) rfl ?_ | refine zk rfl rfl (fun _ => c17a) rfl rfl ?_ | refine zc rfl (c17b) rfl rfl ?_ | refine ze rfl (c17b) rfl ?_ | refine zk rfl rfl (fun _ => c17b) rfl rfl ?_ | refine zc rfl (c21) rfl rfl ?_ | refine ze rfl (c21) rfl ?_ | refine zk rfl rfl (fun _ => c21) rfl rfl ?_ | refine zc rfl (c23) rfl rfl ?_ | refine ze rfl (c23) rfl ?_ | refine zk rfl rfl (fun _ => c23) rfl rfl ?_ | refine zc rfl (c25) rfl rfl ?_ | refine ze rfl (c25) rfl ?_ | refine zk rfl rfl (fun _ => c25) rfl rfl ?_ | refine zc rfl (c28) rfl rfl ?_ | refine ze rfl (c28) rfl ?_ | refine zk rfl rfl (fun _ => c28) rfl rfl ?_ | refine zc rfl (c29) rfl rfl ?_ | refine ze rfl (c29) rfl ?_ | refine zk rfl rfl (fun _ => c29) rfl rfl ?_ | refine zc rfl (c32) rfl rfl ?_ | refine ze rfl (c32) rfl ?_ | refine zk rfl rfl (fun _ => c32) rfl rfl ?_ | refine zc rfl (c34) rfl rfl ?_ | refine ze rfl (c34) rfl ?_ | refine zk rfl rfl (fun _ => c34) rfl rfl ?_ | refine zc rfl (c36a) rfl rfl ?_ | refine ze rfl (c36a) rfl ?_ | refine zk rfl rfl (fun _ => c36a) rfl rfl ?_ | refine zc rfl (c36b) rfl rfl ?_ | refine ze rfl (c36b) rfl ?_ | refine zk rfl rfl (fun _ => c36b) rfl rfl ?_ | refine zc rfl (c38) rfl rfl ?_ | refine ze rfl (c38) rfl ?_ | refine zk rfl rfl (fun _ => c38) rfl rfl ?_))

  refine JK.cond rfl (fun h => absurd h (by decide)) (fun _ => ?_)
  have c27a := fn27 [3, 5] [3, 5]
  have c27b := fn27 [1, 2] [1, 2]
  have c27c := fn27 [7, 5, 3, 3] [7, 5, 3, 3]
  (repeat (first | refine zt rfl rfl ?_ | refine zs rfl ?_ | refine zg rfl rfl rfl ?_ | refine zd ?_ | refine JK.fin ?_ | refine JK.ret ?_ | refine zc rfl (c33) rfl rfl ?_ | refine ze rfl (c33) rfl ?_ | refine zk rfl rfl (fun _ => c33) rfl rfl ?_ | refine zc rfl (c22) rfl rfl ?_ | refine ze rfl (c22) rfl ?_ | refine zk rfl rfl (fun _ => c22) rfl rfl ?_ | refine zc rfl (c27a) rfl rfl ?_ | refine ze rfl (c27a) rfl ?_ | refine zk rfl rfl (fun _ => c27a) rfl rfl ?_ | refine zc rfl (c27b) rfl rfl ?_ | refine ze rfl (c27b) rfl ?_ | refine zk rfl rfl (fun _ => c27b) rfl rfl ?_ | refine zc rfl (c27c) rfl rfl ?_ | refine ze rfl (c27c) rfl ?_ | refine zk rfl rfl (fun _ => c27c) rfl rfl ?_))
  refine ⟨.inl rfl, _, _, rfl, trivial, ?_⟩
  rfl
end Go.Proofs.Ytbmgijgnbilnoaa
