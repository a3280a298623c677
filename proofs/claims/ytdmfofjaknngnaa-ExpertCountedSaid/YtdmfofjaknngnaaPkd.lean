/- Texts of the proof, part 4 of 6.
  CheckCase, CheckTruth and what they stand on.
  Cases and truths: the checks of the program and of the reference.
  All truths, by the reference.
  Kinds, ties, what is told and what to ask, by the reference.
  What to ask, how far sayings are, and chains, by the reference.
  Chains and contradictions: the checks of the reference and of the program.
  Chains and contradictions: the checks of the program.
  Contradictions: the check of the program.
  The desk: what follows, clashes, what can hold together.
  Clashes.
  Sayings and steps: what a range over them does. -/
import Derived.Test.YtdmfofjaknngnaaPkc
set_option linter.all false
set_option maxHeartbeats 2000000
namespace Go.Proofs.Ytdmfofjaknngnaa
open Go Go.RowKit Ox Ox.Two
attribute [local irreducible] JC JL JK JW

theorem fn95 {f : FuncId} {t1 : Ty} {x1 : t1.den} (xs : List evD) (p : evD → Bool) (h : ∀ x ∈ xs, Ox.Fn Go.Proofs.Try.prog f (.acons (vE x) (.acons (.val t1 x1) .anil)) (· = vB (p x))) :
    Ox.Fn Go.Proofs.Try.prog 95 (.acons (vEs xs) (.acons (.fn f .anil (.acons (.val t1 x1) .anil)) .anil)) (· = vI (idxB p xs 0)) := by
  refine Ox.Fn.intro xok Go.Proofs.Try.func95 rfl Go.Proofs.Try.call95 (Nat.le_of_ble_eq_true rfl) (fun E M0 up => ?_)
  refine JK.start ?_
  refine JK.lenOf 0 rfl fun hlen => ?_
  replace hlen : xs.length ≤ 9223372036854775807 := hlen.1
  (repeat (first | refine zs rfl ?_ | refine zg rfl rfl rfl ?_ | refine zd ?_ | refine JK.fin ?_ | refine JK.ret ?_))
  refine JK.loop (fun i : Nat => ⟨[(0, vEs xs), (1, .fn f .anil (.acons (.val t1 x1) .anil)), (7, vI xs.length), (8, vI (i : Int))], [], 0⟩) (fun i => i ≤ xs.length ∧ idxB p xs 0 = idxB p (xs.drop i) i) (fun i => xs.length - i) 0 (by simp) (by (exact JW.Auto (by conv => lhs; reduce))) fun i ⟨hi, hn⟩ => ?_
  (repeat (first | refine zs rfl ?_ | refine zg rfl rfl rfl ?_ | refine zd ?_ | refine JK.fin ?_ | refine JK.ret ?_))
  refine JK.cond rfl (fun hc => ?_) (fun hc => ?_)
  · (simp only [↓bif_or, ↓bif_and, ↓Bool.or_eq_true, ↓Bool.or_eq_false_iff, ↓Bool.and_eq_true, ↓Bool.and_eq_false_iff, ↓Bool.not_eq_true', ↓Bool.not_eq_false', ↓decide_eq_true_eq, ↓decide_eq_false_iff_not, ↓beq_iff_eq, ↓bne_iff_ne, ↓bne_eq_false_iff_eq, ↓ne_eq, ↓beq_eq_false_iff_ne, ↓Bool.not_eq_true] at hc; try simp only [Ty.dflt, Int.toNat_natCast] at hc)
    have hi' : i < xs.length := by omega
    have hx := h (xs.getD i (0, 0, ())) (by rw [getD_nat xs hi']; exact List.getElem_mem hi')
    (repeat (first | refine zs rfl ?_ | refine zg rfl rfl rfl ?_ | refine zd ?_ | refine JK.fin ?_ | refine JK.ret ?_ | refine zc rfl (hx) rfl rfl ?_ | refine ze rfl (hx) rfl ?_ | refine zk rfl rfl (fun _ => hx) rfl rfl ?_))
    refine JK.cond rfl (fun hd => ?_) (fun hd => ?_)
    · (repeat (first | refine zs rfl ?_ | refine zg rfl rfl rfl ?_ | refine zd ?_ | refine JK.fin ?_ | refine JK.ret ?_))
      refine ⟨.inl rfl, _, _, rfl, trivial, ?_⟩
      rw [getD_nat xs hi'] at hd
      rw [hn, List.drop_eq_getElem_cons hi', idxB, if_pos hd]
    · (repeat (first | refine zs rfl ?_ | refine zg rfl rfl rfl ?_ | refine zd ?_ | refine JK.fin ?_ | refine JK.ret ?_))
      rw [getD_nat xs hi'] at hd
      refine ⟨i + 1, by (exact JW.Auto (by conv => lhs; reduce)), ⟨by omega, ?_⟩, by omega⟩
      rw [hn, List.drop_eq_getElem_cons hi', idxB, if_neg (by rw [hd]; simp)]
  · (simp only [↓bif_or, ↓bif_and, ↓Bool.or_eq_true, ↓Bool.or_eq_false_iff, ↓Bool.and_eq_true, ↓Bool.and_eq_false_iff, ↓Bool.not_eq_true', ↓Bool.not_eq_false', ↓decide_eq_true_eq, ↓decide_eq_false_iff_not, ↓beq_iff_eq, ↓bne_iff_ne, ↓bne_eq_false_iff_eq, ↓ne_eq, ↓beq_eq_false_iff_ne, ↓Bool.not_eq_true] at hc; try simp only [Ty.dflt, Int.toNat_natCast] at hc)
    (repeat (first | refine zs rfl ?_ | refine zg rfl rfl rfl ?_ | refine zd ?_ | refine JK.fin ?_ | refine JK.ret ?_))
    refine ⟨.inl rfl, _, _, rfl, trivial, ?_⟩
    obtain rfl : i = xs.length := by omega
    rw [hn, List.drop_length]; rfl

theorem fn79 {f : FuncId} {t1 : Ty} {x1 : t1.den} (xs : List evD) (p : evD → Bool) (h : ∀ x ∈ xs, Ox.Fn Go.Proofs.Try.prog f (.acons (vE x) (.acons (.val t1 x1) .anil)) (· = vB (p x))) :
    Ox.Fn Go.Proofs.Try.prog 79 (.acons (vEs xs) (.acons (.fn f .anil (.acons (.val t1 x1) .anil)) .anil)) (· = vB (xs.any p)) := by
  refine Ox.Fn.intro xok Go.Proofs.Try.func79 rfl Go.Proofs.Try.call79 (Nat.le_of_ble_eq_true rfl) (fun E M0 up => ?_)
  refine JK.start ?_
  (repeat (first | refine zs rfl ?_ | refine zg rfl rfl rfl ?_ | refine zd ?_ | refine JK.fin ?_ | refine JK.ret ?_ | refine zc rfl (fn95 xs p h) rfl rfl ?_ | refine ze rfl (fn95 xs p h) rfl ?_ | refine zk rfl rfl (fun _ => fn95 xs p h) rfl rfl ?_))
  refine ⟨.inl rfl, _, _, rfl, trivial, ?_⟩
  refine congrArg vB ?_
  rw [Bool.eq_iff_iff, ← idxB_nonneg (p := p) (i := 0)]
  simp

theorem fn95p {f : FuncId} {tr : List Int} (xs : List evD) (p : evD → Bool) (h : ∀ x ∈ xs, Ox.Fn Go.Proofs.Try.prog f (.acons (vE x) (.acons (.pfn (.fn 78 .anil (.acons (.val (.ptr (.slice (.int .i64))) (some tr)) .anil))) .anil)) (· = vB (p x))) :
    Ox.Fn Go.Proofs.Try.prog 95 (.acons (vEs xs) (.acons (.fn f .anil (.acons (.pfn (.fn 78 .anil (.acons (.val (.ptr (.slice (.int .i64))) (some tr)) .anil))) .anil)) .anil)) (· = vI (idxB p xs 0)) := by
  refine Ox.Fn.intro xok Go.Proofs.Try.func95 rfl Go.Proofs.Try.call95 (Nat.le_of_ble_eq_true rfl) (fun E M0 up => ?_)
  refine JK.start ?_
  refine JK.lenOf 0 rfl fun hlen => ?_
  replace hlen : xs.length ≤ 9223372036854775807 := hlen.1
  (repeat (first | refine zs rfl ?_ | refine zg rfl rfl rfl ?_ | refine zd ?_ | refine JK.fin ?_ | refine JK.ret ?_))
  refine JK.loop (fun i : Nat => ⟨[(0, vEs xs), (1, .fn f .anil (.acons (.pfn (.fn 78 .anil (.acons (.val (.ptr (.slice (.int .i64))) (some tr)) .anil))) .anil)), (7, vI xs.length), (8, vI (i : Int))], [], 0⟩) (fun i => i ≤ xs.length ∧ idxB p xs 0 = idxB p (xs.drop i) i) (fun i => xs.length - i) 0 (by simp) (by (exact JW.Auto (by conv => lhs; reduce))) fun i ⟨hi, hn⟩ => ?_
  (repeat (first | refine zs rfl ?_ | refine zg rfl rfl rfl ?_ | refine zd ?_ | refine JK.fin ?_ | refine JK.ret ?_))
  refine JK.cond rfl (fun hc => ?_) (fun hc => ?_)
  · (simp only [↓bif_or, ↓bif_and, ↓Bool.or_eq_true, ↓Bool.or_eq_false_iff, ↓Bool.and_eq_true, ↓Bool.and_eq_false_iff, ↓Bool.not_eq_true', ↓Bool.not_eq_false', ↓decide_eq_true_eq, ↓decide_eq_false_iff_not, ↓beq_iff_eq, ↓bne_iff_ne, ↓bne_eq_false_iff_eq, ↓ne_eq, ↓beq_eq_false_iff_ne, ↓Bool.not_eq_true] at hc; try simp only [Ty.dflt, Int.toNat_natCast] at hc)
    have hi' : i < xs.length := by omega
    have hx := h (xs.getD i (0, 0, ())) (by rw [getD_nat xs hi']; exact List.getElem_mem hi')
    (repeat (first | refine zs rfl ?_ | refine zg rfl rfl rfl ?_ | refine zd ?_ | refine JK.fin ?_ | refine JK.ret ?_ | refine zc rfl (hx) rfl rfl ?_ | refine ze rfl (hx) rfl ?_ | refine zk rfl rfl (fun _ => hx) rfl rfl ?_))
    refine JK.cond rfl (fun hd => ?_) (fun hd => ?_)
    · (repeat (first | refine zs rfl ?_ | refine zg rfl rfl rfl ?_ | refine zd ?_ | refine JK.fin ?_ | refine JK.ret ?_))
      refine ⟨.inl rfl, _, _, rfl, trivial, ?_⟩
      rw [getD_nat xs hi'] at hd
      rw [hn, List.drop_eq_getElem_cons hi', idxB, if_pos hd]
    · (repeat (first | refine zs rfl ?_ | refine zg rfl rfl rfl ?_ | refine zd ?_ | refine JK.fin ?_ | refine JK.ret ?_))
      rw [getD_nat xs hi'] at hd
      refine ⟨i + 1, by (exact JW.Auto (by conv => lhs; reduce)), ⟨by omega, ?_⟩, by omega⟩
      rw [hn, List.drop_eq_getElem_cons hi', idxB, if_neg (by rw [hd]; simp)]
  · (simp only [↓bif_or, ↓bif_and, ↓Bool.or_eq_true, ↓Bool.or_eq_false_iff, ↓Bool.and_eq_true, ↓Bool.and_eq_false_iff, ↓Bool.not_eq_true', ↓Bool.not_eq_false', ↓decide_eq_true_eq, ↓decide_eq_false_iff_not, ↓beq_iff_eq, ↓bne_iff_ne, ↓bne_eq_false_iff_eq, ↓ne_eq, ↓beq_eq_false_iff_ne, ↓Bool.not_eq_true] at hc; try simp only [Ty.dflt, Int.toNat_natCast] at hc)
    (repeat (first | refine zs rfl ?_ | refine zg rfl rfl rfl ?_ | refine zd ?_ | refine JK.fin ?_ | refine JK.ret ?_))
    refine ⟨.inl rfl, _, _, rfl, trivial, ?_⟩
    obtain rfl : i = xs.length := by omega
    rw [hn, List.drop_length]; rfl

theorem fn79p {f : FuncId} {tr : List Int} (xs : List evD) (p : evD → Bool) (h : ∀ x ∈ xs, Ox.Fn Go.Proofs.Try.prog f (.acons (vE x) (.acons (.pfn (.fn 78 .anil (.acons (.val (.ptr (.slice (.int .i64))) (some tr)) .anil))) .anil)) (· = vB (p x))) :
    Ox.Fn Go.Proofs.Try.prog 79 (.acons (vEs xs) (.acons (.fn f .anil (.acons (.pfn (.fn 78 .anil (.acons (.val (.ptr (.slice (.int .i64))) (some tr)) .anil))) .anil)) .anil)) (· = vB (xs.any p)) := by
  refine Ox.Fn.intro xok Go.Proofs.Try.func79 rfl Go.Proofs.Try.call79 (Nat.le_of_ble_eq_true rfl) (fun E M0 up => ?_)
  refine JK.start ?_
  (repeat (first | refine zs rfl ?_ | refine zg rfl rfl rfl ?_ | refine zd ?_ | refine JK.fin ?_ | refine JK.ret ?_ | refine zc rfl (fn95p xs p h) rfl rfl ?_ | refine ze rfl (fn95p xs p h) rfl ?_ | refine zk rfl rfl (fun _ => fn95p xs p h) rfl rfl ?_))
  refine ⟨.inl rfl, _, _, rfl, trivial, ?_⟩
  refine congrArg vB ?_
  rw [Bool.eq_iff_iff, ← idxB_nonneg (p := p) (i := 0)]
  simp

theorem fn84 {f : FuncId} {t1 : Ty} {x1 : t1.den} (xs : List stD) (p : stD → Bool) (h : ∀ x ∈ xs, Ox.Fn Go.Proofs.Try.prog f (.acons (vS x) (.acons (.val t1 x1) .anil)) (· = vB (p x))) :
    Ox.Fn Go.Proofs.Try.prog 84 (.acons (vSs xs) (.acons (.fn f .anil (.acons (.val t1 x1) .anil)) .anil)) (· = vI (idxB p xs 0)) := by
  refine Ox.Fn.intro xok Go.Proofs.Try.func84 rfl Go.Proofs.Try.call84 (Nat.le_of_ble_eq_true rfl) (fun E M0 up => ?_)
  refine JK.start ?_
  refine JK.lenOf 0 rfl fun hlen => ?_
  replace hlen : xs.length ≤ 9223372036854775807 := hlen.1
  (repeat (first | refine zs rfl ?_ | refine zg rfl rfl rfl ?_ | refine zd ?_ | refine JK.fin ?_ | refine JK.ret ?_))
  refine JK.loop (fun i : Nat => ⟨[(0, vSs xs), (1, .fn f .anil (.acons (.val t1 x1) .anil)), (7, vI xs.length), (8, vI (i : Int))], [], 0⟩) (fun i => i ≤ xs.length ∧ idxB p xs 0 = idxB p (xs.drop i) i) (fun i => xs.length - i) 0 (by simp) (by (exact JW.Auto (by conv => lhs; reduce))) fun i ⟨hi, hn⟩ => ?_
  (repeat (first | refine zs rfl ?_ | refine zg rfl rfl rfl ?_ | refine zd ?_ | refine JK.fin ?_ | refine JK.ret ?_))
  refine JK.cond rfl (fun hc => ?_) (fun hc => ?_)
  · (simp only [↓bif_or, ↓bif_and, ↓Bool.or_eq_true, ↓Bool.or_eq_false_iff, ↓Bool.and_eq_true, ↓Bool.and_eq_false_iff, ↓Bool.not_eq_true', ↓Bool.not_eq_false', ↓decide_eq_true_eq, ↓decide_eq_false_iff_not, ↓beq_iff_eq, ↓bne_iff_ne, ↓bne_eq_false_iff_eq, ↓ne_eq, ↓beq_eq_false_iff_ne, ↓Bool.not_eq_true] at hc; try simp only [Ty.dflt, Int.toNat_natCast] at hc)
    have hi' : i < xs.length := by omega
    have hx := h (xs.getD i (0, 0, 0, ())) (by rw [getD_nat xs hi']; exact List.getElem_mem hi')
    (repeat (first | refine zs rfl ?_ | refine zg rfl rfl rfl ?_ | refine zd ?_ | refine JK.fin ?_ | refine JK.ret ?_ | refine zc rfl (hx) rfl rfl ?_ | refine ze rfl (hx) rfl ?_ | refine zk rfl rfl (fun _ => hx) rfl rfl ?_))
    refine JK.cond rfl (fun hd => ?_) (fun hd => ?_)
    · (repeat (first | refine zs rfl ?_ | refine zg rfl rfl rfl ?_ | refine zd ?_ | refine JK.fin ?_ | refine JK.ret ?_))
      refine ⟨.inl rfl, _, _, rfl, trivial, ?_⟩
      rw [getD_nat xs hi'] at hd
      rw [hn, List.drop_eq_getElem_cons hi', idxB, if_pos hd]
    · (repeat (first | refine zs rfl ?_ | refine zg rfl rfl rfl ?_ | refine zd ?_ | refine JK.fin ?_ | refine JK.ret ?_))
      rw [getD_nat xs hi'] at hd
      refine ⟨i + 1, by (exact JW.Auto (by conv => lhs; reduce)), ⟨by omega, ?_⟩, by omega⟩
      rw [hn, List.drop_eq_getElem_cons hi', idxB, if_neg (by rw [hd]; simp)]
  · (simp only [↓bif_or, ↓bif_and, ↓Bool.or_eq_true, ↓Bool.or_eq_false_iff, ↓Bool.and_eq_true, ↓Bool.and_eq_false_iff, ↓Bool.not_eq_true', ↓Bool.not_eq_false', ↓decide_eq_true_eq, ↓decide_eq_false_iff_not, ↓beq_iff_eq, ↓bne_iff_ne, ↓bne_eq_false_iff_eq, ↓ne_eq, ↓beq_eq_false_iff_ne, ↓Bool.not_eq_true] at hc; try simp only [Ty.dflt, Int.toNat_natCast] at hc)
    (repeat (first | refine zs rfl ?_ | refine zg rfl rfl rfl ?_ | refine zd ?_ | refine JK.fin ?_ | refine JK.ret ?_))
    refine ⟨.inl rfl, _, _, rfl, trivial, ?_⟩
    obtain rfl : i = xs.length := by omega
    rw [hn, List.drop_length]; rfl

theorem fn54 {f : FuncId} {t1 : Ty} {x1 : t1.den} (xs : List stD) (p : stD → Bool) (h : ∀ x ∈ xs, Ox.Fn Go.Proofs.Try.prog f (.acons (vS x) (.acons (.val t1 x1) .anil)) (· = vB (p x))) :
    Ox.Fn Go.Proofs.Try.prog 54 (.acons (vSs xs) (.acons (.fn f .anil (.acons (.val t1 x1) .anil)) .anil)) (· = vB (xs.any p)) := by
  refine Ox.Fn.intro xok Go.Proofs.Try.func54 rfl Go.Proofs.Try.call54 (Nat.le_of_ble_eq_true rfl) (fun E M0 up => ?_)
  refine JK.start ?_
  (repeat (first | refine zs rfl ?_ | refine zg rfl rfl rfl ?_ | refine zd ?_ | refine JK.fin ?_ | refine JK.ret ?_ | refine zc rfl (fn84 xs p h) rfl rfl ?_ | refine ze rfl (fn84 xs p h) rfl ?_ | refine zk rfl rfl (fun _ => fn84 xs p h) rfl rfl ?_))
  refine ⟨.inl rfl, _, _, rfl, trivial, ?_⟩
  refine congrArg vB ?_
  rw [Bool.eq_iff_iff, ← idxB_nonneg (p := p) (i := 0)]
  simp


theorem fn97 (xs : List Int) (b : Int) : Ox.Fn Go.Proofs.Try.prog 97 (.acons (vL xs) (.acons (vI b) .anil)) (· = vI (idxB (fun x => decide (b = x)) xs 0)) := by
  refine Ox.Fn.intro xok Go.Proofs.Try.func97 rfl Go.Proofs.Try.call97 (Nat.le_of_ble_eq_true rfl) (fun E M0 up => ?_)
  refine JK.start ?_
  refine JK.lenOf 0 rfl fun hlen => ?_
  replace hlen : xs.length ≤ 9223372036854775807 := hlen.1
  (repeat (first | refine zs rfl ?_ | refine zg rfl rfl rfl ?_ | refine zd ?_ | refine JK.fin ?_ | refine JK.ret ?_))
  refine JK.loop (fun i : Nat => ⟨[(0, vL xs), (1, vI b), (7, vI xs.length), (8, vI (i : Int))], [], 0⟩) (fun i => i ≤ xs.length ∧ idxB (fun x => decide (b = x)) xs 0 = idxB (fun x => decide (b = x)) (xs.drop i) i) (fun i => xs.length - i) 0 (by simp) (by (exact JW.Auto (by conv => lhs; reduce))) fun i ⟨hi, hn⟩ => ?_
  (repeat (first | refine zs rfl ?_ | refine zg rfl rfl rfl ?_ | refine zd ?_ | refine JK.fin ?_ | refine JK.ret ?_))
  refine JK.cond rfl (fun hc => ?_) (fun hc => ?_)
  · (simp only [↓bif_or, ↓bif_and, ↓Bool.or_eq_true, ↓Bool.or_eq_false_iff, ↓Bool.and_eq_true, ↓Bool.and_eq_false_iff, ↓Bool.not_eq_true', ↓Bool.not_eq_false', ↓decide_eq_true_eq, ↓decide_eq_false_iff_not, ↓beq_iff_eq, ↓bne_iff_ne, ↓bne_eq_false_iff_eq, ↓ne_eq, ↓beq_eq_false_iff_ne, ↓Bool.not_eq_true] at hc; try simp only [Ty.dflt, Int.toNat_natCast] at hc)
    have hi' : i < xs.length := by omega
    (repeat (first | refine zs rfl ?_ | refine zg rfl rfl rfl ?_ | refine zd ?_ | refine JK.fin ?_ | refine JK.ret ?_))
    refine JK.cond rfl (fun hd => ?_) (fun hd => ?_)
    · (simp only [↓bif_or, ↓bif_and, ↓Bool.or_eq_true, ↓Bool.or_eq_false_iff, ↓Bool.and_eq_true, ↓Bool.and_eq_false_iff, ↓Bool.not_eq_true', ↓Bool.not_eq_false', ↓decide_eq_true_eq, ↓decide_eq_false_iff_not, ↓beq_iff_eq, ↓bne_iff_ne, ↓bne_eq_false_iff_eq, ↓ne_eq, ↓beq_eq_false_iff_ne, ↓Bool.not_eq_true] at hd; try simp only [Ty.dflt, Int.toNat_natCast] at hd)
      (repeat (first | refine zs rfl ?_ | refine zg rfl rfl rfl ?_ | refine zd ?_ | refine JK.fin ?_ | refine JK.ret ?_))
      refine ⟨.inl rfl, _, _, rfl, trivial, ?_⟩
      rw [getD_nat xs hi'] at hd
      rw [hn, List.drop_eq_getElem_cons hi', idxB, if_pos (by simp [hd])]
    · (simp only [↓bif_or, ↓bif_and, ↓Bool.or_eq_true, ↓Bool.or_eq_false_iff, ↓Bool.and_eq_true, ↓Bool.and_eq_false_iff, ↓Bool.not_eq_true', ↓Bool.not_eq_false', ↓decide_eq_true_eq, ↓decide_eq_false_iff_not, ↓beq_iff_eq, ↓bne_iff_ne, ↓bne_eq_false_iff_eq, ↓ne_eq, ↓beq_eq_false_iff_ne, ↓Bool.not_eq_true] at hd; try simp only [Ty.dflt, Int.toNat_natCast] at hd)
      (repeat (first | refine zs rfl ?_ | refine zg rfl rfl rfl ?_ | refine zd ?_ | refine JK.fin ?_ | refine JK.ret ?_))
      rw [getD_nat xs hi'] at hd
      refine ⟨i + 1, by (exact JW.Auto (by conv => lhs; reduce)), ⟨by omega, ?_⟩, by omega⟩
      rw [hn, List.drop_eq_getElem_cons hi', idxB, if_neg (by simp [hd])]
  · (simp only [↓bif_or, ↓bif_and, ↓Bool.or_eq_true, ↓Bool.or_eq_false_iff, ↓Bool.and_eq_true, ↓Bool.and_eq_false_iff, ↓Bool.not_eq_true', ↓Bool.not_eq_false', ↓decide_eq_true_eq, ↓decide_eq_false_iff_not, ↓beq_iff_eq, ↓bne_iff_ne, ↓bne_eq_false_iff_eq, ↓ne_eq, ↓beq_eq_false_iff_ne, ↓Bool.not_eq_true] at hc; try simp only [Ty.dflt, Int.toNat_natCast] at hc)
    (repeat (first | refine zs rfl ?_ | refine zg rfl rfl rfl ?_ | refine zd ?_ | refine JK.fin ?_ | refine JK.ret ?_))
    refine ⟨.inl rfl, _, _, rfl, trivial, ?_⟩
    obtain rfl : i = xs.length := by omega
    rw [hn, List.drop_length]; rfl
theorem fn88 (xs : List Int) (b : Int) : Ox.Fn Go.Proofs.Try.prog 88 (.acons (vL xs) (.acons (vI b) .anil)) (· = vB (decide (b ∈ xs))) := by
  refine Ox.Fn.intro xok Go.Proofs.Try.func88 rfl Go.Proofs.Try.call88 (Nat.le_of_ble_eq_true rfl) (fun E M0 up => ?_)
  refine JK.start ?_
  (repeat (first | refine zs rfl ?_ | refine zg rfl rfl rfl ?_ | refine zd ?_ | refine JK.fin ?_ | refine JK.ret ?_ | refine zc rfl (fn97 xs b) rfl rfl ?_ | refine ze rfl (fn97 xs b) rfl ?_ | refine zk rfl rfl (fun _ => fn97 xs b) rfl rfl ?_))
  refine ⟨.inl rfl, _, _, rfl, trivial, ?_⟩
  refine congrArg vB ?_
  rw [Bool.eq_iff_iff]
  simp only [ge_iff_le, decide_eq_true_eq, idxB_nonneg, List.any_eq_true]
  constructor
  · rintro ⟨x, hx, h⟩; rw [h]; exact hx
  · intro h; exact ⟨b, h, rfl⟩
theorem sayB_iff {n s : Int} : sayB n s = true ↔ (1 ≤ s ∧ s ≤ n) ∨ (-n ≤ s ∧ s ≤ -1) := by rw [sayB, decide_eq_true_eq]
theorem fn60 (n : Int) (xs : List Int) (h : -9223372036854775808 < n ∧ n ≤ 9223372036854775807) : Ox.Fn Go.Proofs.Try.prog 60 (.acons (vI n) (.acons (vL xs) .anil)) (· = vB (xs.all (sayB n))) := by
  refine Ox.Fn.intro xok Go.Proofs.Try.func60 rfl Go.Proofs.Try.call60 (Nat.le_of_ble_eq_true rfl) (fun E M0 up => ?_)
  refine JK.start ?_
  (repeat (first | refine zs rfl ?_ | refine zg rfl rfl rfl ?_ | refine zd ?_ | refine JK.fin ?_ | refine JK.ret ?_ | refine zc rfl (fn56 _ _ _) rfl rfl ?_ | refine ze rfl (fn56 _ _ _) rfl ?_ | refine zk rfl rfl (fun _ => fn56 _ _ _) rfl rfl ?_ | refine zc rfl (fn88 _ _) rfl rfl ?_ | refine ze rfl (fn88 _ _) rfl ?_ | refine zk rfl rfl (fun _ => fn88 _ _) rfl rfl ?_))
  refine ⟨.inl rfl, _, _, rfl, trivial, ?_⟩
  refine congrArg vB ?_
  rw [Bool.eq_iff_iff]
  simp only [Bool.cond_false_right, Bool.and_eq_true, Bool.not_eq_true', decide_eq_true_eq, decide_eq_false_iff_not, List.all_eq_true, sayB_iff]
  constructor
  · intro h x hx
    have := h.1 x hx
    have : x ≠ 0 := fun e => h.2 (e ▸ hx)
    omega
  · intro h
    refine ⟨fun x hx => ?_, fun h0 => ?_⟩
    · have := h x hx; omega
    · have := h 0 h0; omega
/-- The error of a case. -/
def caseErr (n : Int) (ev : List evD) : Int := if n < 1 ∨ n > 12 then 2 else if ev.length > 40 then 6 else if ev.all (fun x => sayB n x.1 && sayB n x.2.1) then 0 else 3
abbrev pC (n : Int) (ev : List evD) : AV := .val (.ptr caT) (some (n, ev, ()))
theorem fn83 (n : Int) (ev : List evD) (x : evD) (h : 1 ≤ n ∧ n ≤ 12) : Ox.Fn Go.Proofs.Try.prog 83 (.acons (vE x) (.acons (pC n ev) .anil)) (· = vB (!(sayB n x.1 && sayB n x.2.1))) := by
  refine Ox.Fn.intro xok Go.Proofs.Try.func83 rfl Go.Proofs.Try.call83 (Nat.le_of_ble_eq_true rfl) (fun E M0 up => ?_)
  refine JK.start ?_
  (repeat (first | refine zs rfl ?_ | refine zg rfl rfl rfl ?_ | refine zd ?_ | refine JK.fin ?_ | refine JK.ret ?_ | refine zc rfl (fn60 _ _ ⟨by omega, by omega⟩) rfl rfl ?_ | refine ze rfl (fn60 _ _ ⟨by omega, by omega⟩) rfl ?_ | refine zk rfl rfl (fun _ => fn60 _ _ ⟨by omega, by omega⟩) rfl rfl ?_))
  refine ⟨.inl rfl, _, _, rfl, trivial, ?_⟩
  simp
theorem fn53 (n : Int) (ev : List evD) : Ox.Fn Go.Proofs.Try.prog 53 (.acons (vC n ev) .anil) (· = vI (caseErr n ev)) := by
  refine Ox.Fn.intro xok Go.Proofs.Try.func53 rfl Go.Proofs.Try.call53 (Nat.le_of_ble_eq_true rfl) (fun E M0 up => ?_)
  refine JK.start ?_
  refine JK.lenOf 0 rfl fun hlen => ?_
  replace hlen : ev.length ≤ 9223372036854775807 := hlen.2.1.1
  (repeat (first | refine zs rfl ?_ | refine zg rfl rfl rfl ?_ | refine zd ?_ | refine JK.fin ?_ | refine JK.ret ?_ | refine zc rfl (fn56 _ _ _) rfl rfl ?_ | refine ze rfl (fn56 _ _ _) rfl ?_ | refine zk rfl rfl (fun _ => fn56 _ _ _) rfl rfl ?_))
  refine JK.cond rfl (fun hc => ?_) (fun hc => ?_)
  · (simp only [↓bif_or, ↓bif_and, ↓Bool.or_eq_true, ↓Bool.or_eq_false_iff, ↓Bool.and_eq_true, ↓Bool.and_eq_false_iff, ↓Bool.not_eq_true', ↓Bool.not_eq_false', ↓decide_eq_true_eq, ↓decide_eq_false_iff_not, ↓beq_iff_eq, ↓bne_iff_ne, ↓bne_eq_false_iff_eq, ↓ne_eq, ↓beq_eq_false_iff_ne, ↓Bool.not_eq_true] at hc; try simp only [Ty.dflt, Int.toNat_natCast] at hc)
    have hr : n < 1 ∨ n > 12 := by
      by_cases h : n < 1 ∨ n > 12
      · exact h
      · exact absurd (fun x hx => by simp at hx; subst hx; (try dsimp only); omega) hc
    (repeat (first | refine zs rfl ?_ | refine zg rfl rfl rfl ?_ | refine zd ?_ | refine JK.fin ?_ | refine JK.ret ?_))
    refine ⟨.inl rfl, _, _, rfl, trivial, ?_⟩
    rw [caseErr, if_pos hr]
  · (simp only [↓bif_or, ↓bif_and, ↓Bool.or_eq_true, ↓Bool.or_eq_false_iff, ↓Bool.and_eq_true, ↓Bool.and_eq_false_iff, ↓Bool.not_eq_true', ↓Bool.not_eq_false', ↓decide_eq_true_eq, ↓decide_eq_false_iff_not, ↓beq_iff_eq, ↓bne_iff_ne, ↓bne_eq_false_iff_eq, ↓ne_eq, ↓beq_eq_false_iff_ne, ↓Bool.not_eq_true] at hc; try simp only [Ty.dflt, Int.toNat_natCast] at hc)
    have hr : ¬ (n < 1 ∨ n > 12) := by have := hc n (by simp); omega
    (repeat (first | refine zs rfl ?_ | refine zg rfl rfl rfl ?_ | refine zd ?_ | refine JK.fin ?_ | refine JK.ret ?_))
    refine JK.cond rfl (fun hc2 => ?_) (fun hc2 => ?_)
    · (simp only [↓bif_or, ↓bif_and, ↓Bool.or_eq_true, ↓Bool.or_eq_false_iff, ↓Bool.and_eq_true, ↓Bool.and_eq_false_iff, ↓Bool.not_eq_true', ↓Bool.not_eq_false', ↓decide_eq_true_eq, ↓decide_eq_false_iff_not, ↓beq_iff_eq, ↓bne_iff_ne, ↓bne_eq_false_iff_eq, ↓ne_eq, ↓beq_eq_false_iff_ne, ↓Bool.not_eq_true] at hc2; try simp only [Ty.dflt, Int.toNat_natCast] at hc2)
      (repeat (first | refine zs rfl ?_ | refine zg rfl rfl rfl ?_ | refine zd ?_ | refine JK.fin ?_ | refine JK.ret ?_))
      refine ⟨.inl rfl, _, _, rfl, trivial, ?_⟩
      rw [caseErr, if_neg hr, if_pos (by omega)]
    · (simp only [↓bif_or, ↓bif_and, ↓Bool.or_eq_true, ↓Bool.or_eq_false_iff, ↓Bool.and_eq_true, ↓Bool.and_eq_false_iff, ↓Bool.not_eq_true', ↓Bool.not_eq_false', ↓decide_eq_true_eq, ↓decide_eq_false_iff_not, ↓beq_iff_eq, ↓bne_iff_ne, ↓bne_eq_false_iff_eq, ↓ne_eq, ↓beq_eq_false_iff_ne, ↓Bool.not_eq_true] at hc2; try simp only [Ty.dflt, Int.toNat_natCast] at hc2)
      (repeat (first | refine zs rfl ?_ | refine zg rfl rfl rfl ?_ | refine zd ?_ | refine JK.fin ?_ | refine JK.ret ?_ | refine zc rfl (fn79 ev (fun x => !(sayB n x.1 && sayB n x.2.1)) (fun x _ => fn83 n ev x (by omega))) rfl rfl ?_ | refine ze rfl (fn79 ev (fun x => !(sayB n x.1 && sayB n x.2.1)) (fun x _ => fn83 n ev x (by omega))) rfl ?_ | refine zk rfl rfl (fun _ => fn79 ev (fun x => !(sayB n x.1 && sayB n x.2.1)) (fun x _ => fn83 n ev x (by omega))) rfl rfl ?_))
      have he : ev.all (fun x => sayB n x.1 && sayB n x.2.1) = !(ev.any fun x => !(sayB n x.1 && sayB n x.2.1)) := by
        rw [List.not_any_eq_all_not]; simp
      refine JK.cond rfl (fun hd => ?_) (fun hd => ?_)
      · (repeat (first | refine zs rfl ?_ | refine zg rfl rfl rfl ?_ | refine zd ?_ | refine JK.fin ?_ | refine JK.ret ?_))
        refine ⟨.inl rfl, _, _, rfl, trivial, ?_⟩
        rw [caseErr, if_neg hr, if_neg (by omega), he, hd]; rfl
      · (repeat (first | refine zs rfl ?_ | refine zg rfl rfl rfl ?_ | refine zd ?_ | refine JK.fin ?_ | refine JK.ret ?_))
        refine ⟨.inl rfl, _, _, rfl, trivial, ?_⟩
        rw [caseErr, if_neg hr, if_neg (by omega), he, hd]; rfl
end Go.Proofs.Ytdmfofjaknngnaa

namespace Go.Proofs.Ytdmfofjaknngnaa
open Go Go.RowKit Ox Ox.Two
attribute [local irreducible] JC JL JK JW

theorem sayB_isSay {n : Nat} {s : Int} : sayB (n : Int) s = true ↔ isSay n s := sayB_iff
theorem say_toNat {n s : Int} (h : 0 ≤ n) : sayB n s = true ↔ isSay n.toNat s := by
  rw [← sayB_isSay, show ((n.toNat : Nat) : Int) = n by omega]
theorem case_ok {n : Int} {ev : List evD} (h : caseErr n ev = 0) : 1 ≤ n ∧ n ≤ 12 ∧ ev.length ≤ 40 ∧ valid n.toNat ev := by
  unfold caseErr at h
  by_cases h1 : n < 1 ∨ n > 12
  · rw [if_pos h1] at h; cases h
  · rw [if_neg h1] at h
    by_cases h2 : ev.length > 40
    · rw [if_pos h2] at h; cases h
    · rw [if_neg h2] at h
      by_cases h3 : (ev.all fun x => sayB n x.1 && sayB n x.2.1) = true
      · refine ⟨by omega, by omega, by omega, fun x hx => ?_⟩
        have := List.all_eq_true.1 h3 x hx
        rw [Bool.and_eq_true, say_toNat (by omega), say_toNat (by omega)] at this
        exact this
      · rw [if_neg h3] at h; cases h
theorem ok_case {n : Nat} {ev : List evD} (h1 : 1 ≤ n) (h2 : n ≤ 12) (h3 : ev.length ≤ 40) (h4 : valid n ev) : caseErr n ev = 0 := by
  rw [caseErr, if_neg (by omega), if_neg (by omega), if_pos]
  rw [List.all_eq_true]
  intro x hx
  have := h4 x hx
  rw [Bool.and_eq_true, sayB_isSay, sayB_isSay]; exact this
theorem all_take {α : Type} {p : α → Bool} {xs : List α} {i : Nat} (hi : i < xs.length) (h : (xs.take i).all p = true) (h2 : p xs[i] = true) : (xs.take (i + 1)).all p = true := by
  rw [List.take_succ, List.all_append, h, List.getElem?_eq_getElem hi]; simp [h2]
theorem all_not {α : Type} {p : α → Bool} {xs : List α} {i : Nat} (hi : i < xs.length) (h2 : p xs[i] = false) : xs.all p = false := by
  rw [List.all_eq_false]; exact ⟨xs[i], List.getElem_mem hi, by rw [h2]; simp⟩

theorem fn57 (n : Int) (ev : List evD) : Ox.Fn Go.Proofs.Try.prog 57 (.acons (vC n ev) .anil) (· = vI (caseErr n ev)) := by
  refine Ox.Fn.intro xok Go.Proofs.Try.func57 rfl Go.Proofs.Try.call57 (Nat.le_of_ble_eq_true rfl) (fun E M0 up => ?_)
  refine JK.start ?_
  refine JK.lenOf 0 rfl fun hlen => ?_
  replace hlen : ev.length ≤ 9223372036854775807 := hlen.2.1.1
  (repeat (first | refine zs rfl ?_ | refine zg rfl rfl rfl ?_ | refine zd ?_ | refine JK.fin ?_ | refine JK.ret ?_ | refine zlf fun101 rfl rfl rfl ?_ | refine zdf fun101 rfl rfl ?_ | refine zdg fun101 rfl rfl rfl ?_))
  refine JK.cond rfl (fun hc => ?_) (fun hc => ?_)
  · (simp only [↓bif_or, ↓bif_and, ↓Bool.or_eq_true, ↓Bool.or_eq_false_iff, ↓Bool.and_eq_true, ↓Bool.and_eq_false_iff, ↓Bool.not_eq_true', ↓Bool.not_eq_false', ↓decide_eq_true_eq, ↓decide_eq_false_iff_not, ↓beq_iff_eq, ↓bne_iff_ne, ↓bne_eq_false_iff_eq, ↓ne_eq, ↓beq_eq_false_iff_ne, ↓Bool.not_eq_true] at hc; try simp only [Ty.dflt, Int.toNat_natCast] at hc)
    (repeat (first | refine zs rfl ?_ | refine zg rfl rfl rfl ?_ | refine zd ?_ | refine JK.fin ?_ | refine JK.ret ?_ | refine zlf fun101 rfl rfl rfl ?_ | refine zdf fun101 rfl rfl ?_ | refine zdg fun101 rfl rfl rfl ?_))
    refine ⟨.inl rfl, _, _, rfl, trivial, ?_⟩
    rw [caseErr, if_pos (by omega)]
  · (simp only [↓bif_or, ↓bif_and, ↓Bool.or_eq_true, ↓Bool.or_eq_false_iff, ↓Bool.and_eq_true, ↓Bool.and_eq_false_iff, ↓Bool.not_eq_true', ↓Bool.not_eq_false', ↓decide_eq_true_eq, ↓decide_eq_false_iff_not, ↓beq_iff_eq, ↓bne_iff_ne, ↓bne_eq_false_iff_eq, ↓ne_eq, ↓beq_eq_false_iff_ne, ↓Bool.not_eq_true] at hc; try simp only [Ty.dflt, Int.toNat_natCast] at hc)
    have hr : ¬ (n < 1 ∨ n > 12) := by omega
    (repeat (first | refine zs rfl ?_ | refine zg rfl rfl rfl ?_ | refine zd ?_ | refine JK.fin ?_ | refine JK.ret ?_ | refine zlf fun101 rfl rfl rfl ?_ | refine zdf fun101 rfl rfl ?_ | refine zdg fun101 rfl rfl rfl ?_))
    refine JK.cond rfl (fun hc2 => ?_) (fun hc2 => ?_)
    · (simp only [↓bif_or, ↓bif_and, ↓Bool.or_eq_true, ↓Bool.or_eq_false_iff, ↓Bool.and_eq_true, ↓Bool.and_eq_false_iff, ↓Bool.not_eq_true', ↓Bool.not_eq_false', ↓decide_eq_true_eq, ↓decide_eq_false_iff_not, ↓beq_iff_eq, ↓bne_iff_ne, ↓bne_eq_false_iff_eq, ↓ne_eq, ↓beq_eq_false_iff_ne, ↓Bool.not_eq_true] at hc2; try simp only [Ty.dflt, Int.toNat_natCast] at hc2)
      (repeat (first | refine zs rfl ?_ | refine zg rfl rfl rfl ?_ | refine zd ?_ | refine JK.fin ?_ | refine JK.ret ?_ | refine zlf fun101 rfl rfl rfl ?_ | refine zdf fun101 rfl rfl ?_ | refine zdg fun101 rfl rfl rfl ?_))
      refine ⟨.inl rfl, _, _, rfl, trivial, ?_⟩
      rw [caseErr, if_neg hr, if_pos (by omega)]
    · (simp only [↓bif_or, ↓bif_and, ↓Bool.or_eq_true, ↓Bool.or_eq_false_iff, ↓Bool.and_eq_true, ↓Bool.and_eq_false_iff, ↓Bool.not_eq_true', ↓Bool.not_eq_false', ↓decide_eq_true_eq, ↓decide_eq_false_iff_not, ↓beq_iff_eq, ↓bne_iff_ne, ↓bne_eq_false_iff_eq, ↓ne_eq, ↓beq_eq_false_iff_ne, ↓Bool.not_eq_true] at hc2; try simp only [Ty.dflt, Int.toNat_natCast] at hc2)
      (repeat (first | refine zs rfl ?_ | refine zg rfl rfl rfl ?_ | refine zd ?_ | refine JK.fin ?_ | refine JK.ret ?_ | refine zlf fun101 rfl rfl rfl ?_ | refine zdf fun101 rfl rfl ?_ | refine zdg fun101 rfl rfl rfl ?_))
      refine JK.loop (fun i : Nat => ⟨[(1, .lf (.optr 0 [])), (3, vI (i : Int))], [(0, .cell caT (vC n ev))], 1⟩) (fun i => i ≤ ev.length ∧ (ev.take i).all (fun x => sayB n x.1 && sayB n x.2.1) = true) (fun i => ev.length - i) 0 (by simp) (by (exact JW.Auto (by conv => lhs; reduce))) fun i ⟨hi, hn⟩ => ?_
      (repeat (first | refine zs rfl ?_ | refine zg rfl rfl rfl ?_ | refine zd ?_ | refine JK.fin ?_ | refine JK.ret ?_ | refine zlf fun101 rfl rfl rfl ?_ | refine zdf fun101 rfl rfl ?_ | refine zdg fun101 rfl rfl rfl ?_))
      refine JK.cond rfl (fun hd => ?_) (fun hd => ?_)
      · (simp only [↓bif_or, ↓bif_and, ↓Bool.or_eq_true, ↓Bool.or_eq_false_iff, ↓Bool.and_eq_true, ↓Bool.and_eq_false_iff, ↓Bool.not_eq_true', ↓Bool.not_eq_false', ↓decide_eq_true_eq, ↓decide_eq_false_iff_not, ↓beq_iff_eq, ↓bne_iff_ne, ↓bne_eq_false_iff_eq, ↓ne_eq, ↓beq_eq_false_iff_ne, ↓Bool.not_eq_true] at hd; try simp only [Ty.dflt, Int.toNat_natCast] at hd)
        have hi' : i < ev.length := by omega
        (repeat (first | refine zs rfl ?_ | refine zg rfl rfl rfl ?_ | refine zd ?_ | refine JK.fin ?_ | refine JK.ret ?_ | refine zlf fun101 rfl rfl rfl ?_ | refine zdf fun101 rfl rfl ?_ | refine zdg fun101 rfl rfl rfl ?_ | refine zc rfl (fn50 n _ ⟨by omega, by omega⟩) rfl rfl ?_ | refine ze rfl (fn50 n _ ⟨by omega, by omega⟩) rfl ?_ | refine zk rfl rfl (fun _ => fn50 n _ ⟨by omega, by omega⟩) rfl rfl ?_ | refine zc rfl (fn50 n _ ⟨by omega, by omega⟩) rfl rfl ?_ | refine ze rfl (fn50 n _ ⟨by omega, by omega⟩) rfl ?_ | refine zk rfl rfl (fun _ => fn50 n _ ⟨by omega, by omega⟩) rfl rfl ?_))
        refine JK.cond rfl (fun he => ?_) (fun he => ?_)
        · (repeat (first | refine zs rfl ?_ | refine zg rfl rfl rfl ?_ | refine zd ?_ | refine JK.fin ?_ | refine JK.ret ?_ | refine zlf fun101 rfl rfl rfl ?_ | refine zdf fun101 rfl rfl ?_ | refine zdg fun101 rfl rfl rfl ?_))
          refine ⟨.inl rfl, _, _, rfl, trivial, ?_⟩
          have he' : (bif !sayB n (ev.getD i (0, 0, ())).1 then true else !sayB n (ev.getD i (0, 0, ())).2.1) = true := he
          rw [getD_nat ev hi'] at he'
          have hx : (sayB n ev[i].1 && sayB n ev[i].2.1) = false := by
            revert he'; cases sayB n ev[i].1 <;> cases sayB n ev[i].2.1 <;> simp
          rw [caseErr, if_neg hr, if_neg (by omega), all_not (p := fun x => sayB n x.1 && sayB n x.2.1) hi' hx]; rfl
        · (repeat (first | refine zs rfl ?_ | refine zg rfl rfl rfl ?_ | refine zd ?_ | refine JK.fin ?_ | refine JK.ret ?_ | refine zlf fun101 rfl rfl rfl ?_ | refine zdf fun101 rfl rfl ?_ | refine zdg fun101 rfl rfl rfl ?_))
          have he' : (bif !sayB n (ev.getD i (0, 0, ())).1 then true else !sayB n (ev.getD i (0, 0, ())).2.1) = false := he
          rw [getD_nat ev hi'] at he'
          have hx : (sayB n ev[i].1 && sayB n ev[i].2.1) = true := by
            revert he'; cases sayB n ev[i].1 <;> cases sayB n ev[i].2.1 <;> simp
          exact ⟨i + 1, by (exact JW.Auto (by conv => lhs; reduce)), ⟨by omega, all_take hi' hn hx⟩, by omega⟩
      · (simp only [↓bif_or, ↓bif_and, ↓Bool.or_eq_true, ↓Bool.or_eq_false_iff, ↓Bool.and_eq_true, ↓Bool.and_eq_false_iff, ↓Bool.not_eq_true', ↓Bool.not_eq_false', ↓decide_eq_true_eq, ↓decide_eq_false_iff_not, ↓beq_iff_eq, ↓bne_iff_ne, ↓bne_eq_false_iff_eq, ↓ne_eq, ↓beq_eq_false_iff_ne, ↓Bool.not_eq_true] at hd; try simp only [Ty.dflt, Int.toNat_natCast] at hd)
        (repeat (first | refine zs rfl ?_ | refine zg rfl rfl rfl ?_ | refine zd ?_ | refine JK.fin ?_ | refine JK.ret ?_ | refine zlf fun101 rfl rfl rfl ?_ | refine zdf fun101 rfl rfl ?_ | refine zdg fun101 rfl rfl rfl ?_))
        refine ⟨.inl rfl, _, _, rfl, trivial, ?_⟩
        obtain rfl : i = ev.length := by omega
        rw [List.take_length] at hn
        rw [caseErr, if_neg hr, if_neg (by omega), if_pos hn]
theorem fn46 (tr : List Int) (s : Int) (h : isSay tr.length s) (hl : tr.length ≤ 1000) : Ox.Fn Go.Proofs.Try.prog 46 (.acons (vL tr) (.acons (vI s) .anil)) (· = vB (holdsR tr s)) := by
  refine Ox.Fn.intro xok Go.Proofs.Try.func46 rfl Go.Proofs.Try.call46 (Nat.le_of_ble_eq_true rfl) (fun E M0 up => ?_)
  unfold isSay at h
  refine JK.start ?_
  (repeat (first | refine zs rfl ?_ | refine zg rfl rfl rfl ?_ | refine zd ?_ | refine JK.fin ?_ | refine JK.ret ?_ | refine zlf fun101 rfl rfl rfl ?_ | refine zdf fun101 rfl rfl ?_ | refine zdg fun101 rfl rfl rfl ?_))
  refine JK.cond rfl (fun hc => ?_) (fun hc => ?_)
  · (simp only [↓bif_or, ↓bif_and, ↓Bool.or_eq_true, ↓Bool.or_eq_false_iff, ↓Bool.and_eq_true, ↓Bool.and_eq_false_iff, ↓Bool.not_eq_true', ↓Bool.not_eq_false', ↓decide_eq_true_eq, ↓decide_eq_false_iff_not, ↓beq_iff_eq, ↓bne_iff_ne, ↓bne_eq_false_iff_eq, ↓ne_eq, ↓beq_eq_false_iff_ne, ↓Bool.not_eq_true] at hc; try simp only [Ty.dflt, Int.toNat_natCast] at hc)
    (repeat (first | refine zs rfl ?_ | refine zg rfl rfl rfl ?_ | refine zd ?_ | refine JK.fin ?_ | refine JK.ret ?_ | refine zlf fun101 rfl rfl rfl ?_ | refine zdf fun101 rfl rfl ?_ | refine zdg fun101 rfl rfl rfl ?_))
    refine ⟨.inl rfl, _, _, rfl, trivial, ?_⟩
    rw [holdsR, if_pos hc]; rfl
  · (simp only [↓bif_or, ↓bif_and, ↓Bool.or_eq_true, ↓Bool.or_eq_false_iff, ↓Bool.and_eq_true, ↓Bool.and_eq_false_iff, ↓Bool.not_eq_true', ↓Bool.not_eq_false', ↓decide_eq_true_eq, ↓decide_eq_false_iff_not, ↓beq_iff_eq, ↓bne_iff_ne, ↓bne_eq_false_iff_eq, ↓ne_eq, ↓beq_eq_false_iff_ne, ↓Bool.not_eq_true] at hc; try simp only [Ty.dflt, Int.toNat_natCast] at hc)
    (repeat (first | refine zs rfl ?_ | refine zg rfl rfl rfl ?_ | refine zd ?_ | refine JK.fin ?_ | refine JK.ret ?_ | refine zlf fun101 rfl rfl rfl ?_ | refine zdf fun101 rfl rfl ?_ | refine zdg fun101 rfl rfl rfl ?_))
    refine ⟨.inl rfl, _, _, rfl, trivial, ?_⟩
    rw [holdsR, if_neg hc]; rfl
theorem fn71 (tr : List Int) (x : evD) (h : isSay tr.length x.1) (h' : isSay tr.length x.2.1) (hl : tr.length ≤ 1000) : Ox.Fn Go.Proofs.Try.prog 71 (.acons (vL tr) (.acons (vE x) .anil)) (· = vB (holdsR tr x.1 || holdsR tr x.2.1)) := by
  refine Ox.Fn.intro xok Go.Proofs.Try.func71 rfl Go.Proofs.Try.call71 (Nat.le_of_ble_eq_true rfl) (fun E M0 up => ?_)
  refine JK.start ?_
  (repeat (first | refine zs rfl ?_ | refine zg rfl rfl rfl ?_ | refine zd ?_ | refine JK.fin ?_ | refine JK.ret ?_ | refine zlf fun101 rfl rfl rfl ?_ | refine zdf fun101 rfl rfl ?_ | refine zdg fun101 rfl rfl rfl ?_ | refine zc rfl (fn46 tr x.1 h hl) rfl rfl ?_ | refine ze rfl (fn46 tr x.1 h hl) rfl ?_ | refine zk rfl rfl (fun _ => fn46 tr x.1 h hl) rfl rfl ?_ | refine zc rfl (fn46 tr x.2.1 h' hl) rfl rfl ?_ | refine ze rfl (fn46 tr x.2.1 h' hl) rfl ?_ | refine zk rfl rfl (fun _ => fn46 tr x.2.1 h' hl) rfl rfl ?_))
  refine ⟨.inl rfl, _, _, rfl, trivial, ?_⟩
  refine congrArg vB ?_
  cases holdsR tr x.1 <;> rfl
theorem fn78 (tr : List Int) (s : Int) (h : isSay tr.length s) (hl : tr.length ≤ 1000) : Ox.Fn Go.Proofs.Try.prog 78 (.acons (vI s) (.acons (.val (.ptr (.slice (.int .i64))) (some tr)) .anil)) (· = vB (holdsR tr s)) := by
  refine Ox.Fn.intro xok Go.Proofs.Try.func78 rfl Go.Proofs.Try.call78 (Nat.le_of_ble_eq_true rfl) (fun E M0 up => ?_)
  unfold isSay at h
  refine JK.start ?_
  (repeat (first | refine zs rfl ?_ | refine zg rfl rfl rfl ?_ | refine zd ?_ | refine JK.fin ?_ | refine JK.ret ?_ | refine zlf fun101 rfl rfl rfl ?_ | refine zdf fun101 rfl rfl ?_ | refine zdg fun101 rfl rfl rfl ?_))
  refine JK.cond rfl (fun hc => ?_) (fun hc => ?_)
  · (simp only [↓bif_or, ↓bif_and, ↓Bool.or_eq_true, ↓Bool.or_eq_false_iff, ↓Bool.and_eq_true, ↓Bool.and_eq_false_iff, ↓Bool.not_eq_true', ↓Bool.not_eq_false', ↓decide_eq_true_eq, ↓decide_eq_false_iff_not, ↓beq_iff_eq, ↓bne_iff_ne, ↓bne_eq_false_iff_eq, ↓ne_eq, ↓beq_eq_false_iff_ne, ↓Bool.not_eq_true] at hc; try simp only [Ty.dflt, Int.toNat_natCast] at hc)
    (repeat (first | refine zs rfl ?_ | refine zg rfl rfl rfl ?_ | refine zd ?_ | refine JK.fin ?_ | refine JK.ret ?_ | refine zlf fun101 rfl rfl rfl ?_ | refine zdf fun101 rfl rfl ?_ | refine zdg fun101 rfl rfl rfl ?_))
    refine ⟨.inl rfl, _, _, rfl, trivial, ?_⟩
    rw [holdsR, if_pos hc]; rfl
  · (simp only [↓bif_or, ↓bif_and, ↓Bool.or_eq_true, ↓Bool.or_eq_false_iff, ↓Bool.and_eq_true, ↓Bool.and_eq_false_iff, ↓Bool.not_eq_true', ↓Bool.not_eq_false', ↓decide_eq_true_eq, ↓decide_eq_false_iff_not, ↓beq_iff_eq, ↓bne_iff_ne, ↓bne_eq_false_iff_eq, ↓ne_eq, ↓beq_eq_false_iff_ne, ↓Bool.not_eq_true] at hc; try simp only [Ty.dflt, Int.toNat_natCast] at hc)
    (repeat (first | refine zs rfl ?_ | refine zg rfl rfl rfl ?_ | refine zd ?_ | refine JK.fin ?_ | refine JK.ret ?_ | refine zlf fun101 rfl rfl rfl ?_ | refine zdf fun101 rfl rfl ?_ | refine zdg fun101 rfl rfl rfl ?_))
    refine ⟨.inl rfl, _, _, rfl, trivial, ?_⟩
    rw [holdsR, if_neg hc]; rfl
abbrev hldA (tr : List Int) : AV := .fn 78 .anil (.acons (.val (.ptr (.slice (.int .i64))) (some tr)) .anil)
theorem fn80 (tr : List Int) (x : evD) (h : isSay tr.length x.1) (h' : isSay tr.length x.2.1) (hl : tr.length ≤ 1000) : Ox.Fn Go.Proofs.Try.prog 80 (.acons (vE x) (.acons (.pfn (hldA tr)) .anil)) (· = vB (!holdsR tr x.1 && !holdsR tr x.2.1)) := by
  refine Ox.Fn.intro xok Go.Proofs.Try.func80 rfl Go.Proofs.Try.call80 (Nat.le_of_ble_eq_true rfl) (fun E M0 up => ?_)
  refine JK.start ?_
  (repeat (first | refine zs rfl ?_ | refine zg rfl rfl rfl ?_ | refine zd ?_ | refine JK.fin ?_ | refine JK.ret ?_ | refine zlf fun101 rfl rfl rfl ?_ | refine zdf fun101 rfl rfl ?_ | refine zdg fun101 rfl rfl rfl ?_ | refine zc rfl (fn78 tr x.1 h hl) rfl rfl ?_ | refine ze rfl (fn78 tr x.1 h hl) rfl ?_ | refine zk rfl rfl (fun _ => fn78 tr x.1 h hl) rfl rfl ?_ | refine zc rfl (fn78 tr x.2.1 h' hl) rfl rfl ?_ | refine ze rfl (fn78 tr x.2.1 h' hl) rfl ?_ | refine zk rfl rfl (fun _ => fn78 tr x.2.1 h' hl) rfl rfl ?_))
  refine ⟨.inl rfl, _, _, rfl, trivial, ?_⟩
  refine congrArg vB ?_
  cases holdsR tr x.1 <;> rfl
/-- The error of numbers that are said to be a truth. -/
def truthErr (n : Int) (ev : List evD) (tr : List Int) : Int :=
  if caseErr n ev ≠ 0 then caseErr n ev else if (tr.length : Int) ≠ n then 15 else if ¬ (tr.all fun x => decide (0 ≤ x ∧ x ≤ 1)) = true then 3 else if satB ev tr = true then 0 else 16
theorem fn41 (n : Int) (ev : List evD) (tr : List Int) : Ox.Fn Go.Proofs.Try.prog 41 (.acons (vC n ev) (.acons (vL tr) .anil)) (· = vI (truthErr n ev tr)) := by
  refine Ox.Fn.intro xok Go.Proofs.Try.func41 rfl Go.Proofs.Try.call41 (Nat.le_of_ble_eq_true rfl) (fun E M0 up => ?_)
  refine JK.start ?_
  refine JK.lenOf 1 rfl fun hlen => ?_
  replace hlen : tr.length ≤ 9223372036854775807 := hlen.1
  (repeat (first | refine zs rfl ?_ | refine zg rfl rfl rfl ?_ | refine zd ?_ | refine JK.fin ?_ | refine JK.ret ?_ | refine zlf fun101 rfl rfl rfl ?_ | refine zdf fun101 rfl rfl ?_ | refine zdg fun101 rfl rfl rfl ?_ | refine zc rfl (fn53 n ev) rfl rfl ?_ | refine ze rfl (fn53 n ev) rfl ?_ | refine zk rfl rfl (fun _ => fn53 n ev) rfl rfl ?_))
  refine JK.cond rfl (fun hc => ?_) (fun hc => ?_)
  · (simp only [↓bif_or, ↓bif_and, ↓Bool.or_eq_true, ↓Bool.or_eq_false_iff, ↓Bool.and_eq_true, ↓Bool.and_eq_false_iff, ↓Bool.not_eq_true', ↓Bool.not_eq_false', ↓decide_eq_true_eq, ↓decide_eq_false_iff_not, ↓beq_iff_eq, ↓bne_iff_ne, ↓bne_eq_false_iff_eq, ↓ne_eq, ↓beq_eq_false_iff_ne, ↓Bool.not_eq_true] at hc; try simp only [Ty.dflt, Int.toNat_natCast] at hc)
    (repeat (first | refine zs rfl ?_ | refine zg rfl rfl rfl ?_ | refine zd ?_ | refine JK.fin ?_ | refine JK.ret ?_ | refine zlf fun101 rfl rfl rfl ?_ | refine zdf fun101 rfl rfl ?_ | refine zdg fun101 rfl rfl rfl ?_))
    refine ⟨.inl rfl, _, _, rfl, trivial, ?_⟩
    rw [truthErr, if_pos hc]
  · (simp only [↓bif_or, ↓bif_and, ↓Bool.or_eq_true, ↓Bool.or_eq_false_iff, ↓Bool.and_eq_true, ↓Bool.and_eq_false_iff, ↓Bool.not_eq_true', ↓Bool.not_eq_false', ↓decide_eq_true_eq, ↓decide_eq_false_iff_not, ↓beq_iff_eq, ↓bne_iff_ne, ↓bne_eq_false_iff_eq, ↓ne_eq, ↓beq_eq_false_iff_ne, ↓Bool.not_eq_true] at hc; try simp only [Ty.dflt, Int.toNat_natCast] at hc)
    have h0 : caseErr n ev = 0 := by omega
    have hok := case_ok h0
    (repeat (first | refine zs rfl ?_ | refine zg rfl rfl rfl ?_ | refine zd ?_ | refine JK.fin ?_ | refine JK.ret ?_ | refine zlf fun101 rfl rfl rfl ?_ | refine zdf fun101 rfl rfl ?_ | refine zdg fun101 rfl rfl rfl ?_))
    refine JK.cond rfl (fun hd => ?_) (fun hd => ?_)
    · (simp only [↓bif_or, ↓bif_and, ↓Bool.or_eq_true, ↓Bool.or_eq_false_iff, ↓Bool.and_eq_true, ↓Bool.and_eq_false_iff, ↓Bool.not_eq_true', ↓Bool.not_eq_false', ↓decide_eq_true_eq, ↓decide_eq_false_iff_not, ↓beq_iff_eq, ↓bne_iff_ne, ↓bne_eq_false_iff_eq, ↓ne_eq, ↓beq_eq_false_iff_ne, ↓Bool.not_eq_true] at hd; try simp only [Ty.dflt, Int.toNat_natCast] at hd)
      (repeat (first | refine zs rfl ?_ | refine zg rfl rfl rfl ?_ | refine zd ?_ | refine JK.fin ?_ | refine JK.ret ?_ | refine zlf fun101 rfl rfl rfl ?_ | refine zdf fun101 rfl rfl ?_ | refine zdg fun101 rfl rfl rfl ?_))
      refine ⟨.inl rfl, _, _, rfl, trivial, ?_⟩
      rw [truthErr, if_neg (by omega), if_pos hd]
    · (simp only [↓bif_or, ↓bif_and, ↓Bool.or_eq_true, ↓Bool.or_eq_false_iff, ↓Bool.and_eq_true, ↓Bool.and_eq_false_iff, ↓Bool.not_eq_true', ↓Bool.not_eq_false', ↓decide_eq_true_eq, ↓decide_eq_false_iff_not, ↓beq_iff_eq, ↓bne_iff_ne, ↓bne_eq_false_iff_eq, ↓ne_eq, ↓beq_eq_false_iff_ne, ↓Bool.not_eq_true] at hd; try simp only [Ty.dflt, Int.toNat_natCast] at hd)
      have hl : tr.length = n.toNat := by omega
      (repeat (first | refine zs rfl ?_ | refine zg rfl rfl rfl ?_ | refine zd ?_ | refine JK.fin ?_ | refine JK.ret ?_ | refine zlf fun101 rfl rfl rfl ?_ | refine zdf fun101 rfl rfl ?_ | refine zdg fun101 rfl rfl rfl ?_ | refine zc rfl (fn56 _ _ _) rfl rfl ?_ | refine ze rfl (fn56 _ _ _) rfl ?_ | refine zk rfl rfl (fun _ => fn56 _ _ _) rfl rfl ?_))
      refine JK.cond rfl (fun he => ?_) (fun he => ?_)
      · (simp only [↓bif_or, ↓bif_and, ↓Bool.or_eq_true, ↓Bool.or_eq_false_iff, ↓Bool.and_eq_true, ↓Bool.and_eq_false_iff, ↓Bool.not_eq_true', ↓Bool.not_eq_false', ↓decide_eq_true_eq, ↓decide_eq_false_iff_not, ↓beq_iff_eq, ↓bne_iff_ne, ↓bne_eq_false_iff_eq, ↓ne_eq, ↓beq_eq_false_iff_ne, ↓Bool.not_eq_true] at he; try simp only [Ty.dflt, Int.toNat_natCast] at he)
        (repeat (first | refine zs rfl ?_ | refine zg rfl rfl rfl ?_ | refine zd ?_ | refine JK.fin ?_ | refine JK.ret ?_ | refine zlf fun101 rfl rfl rfl ?_ | refine zdf fun101 rfl rfl ?_ | refine zdg fun101 rfl rfl rfl ?_))
        refine ⟨.inl rfl, _, _, rfl, trivial, ?_⟩
        rw [truthErr, if_neg (by omega), if_neg (by omega), if_pos]
        simpa using he
      · (simp only [↓bif_or, ↓bif_and, ↓Bool.or_eq_true, ↓Bool.or_eq_false_iff, ↓Bool.and_eq_true, ↓Bool.and_eq_false_iff, ↓Bool.not_eq_true', ↓Bool.not_eq_false', ↓decide_eq_true_eq, ↓decide_eq_false_iff_not, ↓beq_iff_eq, ↓bne_iff_ne, ↓bne_eq_false_iff_eq, ↓ne_eq, ↓beq_eq_false_iff_ne, ↓Bool.not_eq_true] at he; try simp only [Ty.dflt, Int.toNat_natCast] at he)
        have hv : valid tr.length ev := by rw [hl]; exact hok.2.2.2
        (repeat (first | refine zs rfl ?_ | refine zg rfl rfl rfl ?_ | refine zd ?_ | refine JK.fin ?_ | refine JK.ret ?_ | refine zlf fun101 rfl rfl rfl ?_ | refine zdf fun101 rfl rfl ?_ | refine zdg fun101 rfl rfl rfl ?_ | refine zc rfl (fn79p ev (fun x => !holdsR tr x.1 && !holdsR tr x.2.1) (fun x hx => fn80 tr x (hv x hx).1 (hv x hx).2 (by omega))) rfl rfl ?_ | refine ze rfl (fn79p ev (fun x => !holdsR tr x.1 && !holdsR tr x.2.1) (fun x hx => fn80 tr x (hv x hx).1 (hv x hx).2 (by omega))) rfl ?_ | refine zk rfl rfl (fun _ => fn79p ev (fun x => !holdsR tr x.1 && !holdsR tr x.2.1) (fun x hx => fn80 tr x (hv x hx).1 (hv x hx).2 (by omega))) rfl rfl ?_))
        have hs : satB ev tr = !(ev.any fun x => !holdsR tr x.1 && !holdsR tr x.2.1) := by
          rw [satB, List.not_any_eq_all_not]; simp
        have he' : ¬ ¬ (tr.all fun x => decide (0 ≤ x ∧ x ≤ 1)) = true := by simpa using he
        refine JK.cond rfl (fun hf => ?_) (fun hf => ?_)
        · (repeat (first | refine zs rfl ?_ | refine zg rfl rfl rfl ?_ | refine zd ?_ | refine JK.fin ?_ | refine JK.ret ?_ | refine zlf fun101 rfl rfl rfl ?_ | refine zdf fun101 rfl rfl ?_ | refine zdg fun101 rfl rfl rfl ?_))
          refine ⟨.inl rfl, _, _, rfl, trivial, ?_⟩
          rw [truthErr, if_neg (by omega), if_neg (by omega), if_neg he', hs, hf]; rfl
        · (repeat (first | refine zs rfl ?_ | refine zg rfl rfl rfl ?_ | refine zd ?_ | refine JK.fin ?_ | refine JK.ret ?_ | refine zlf fun101 rfl rfl rfl ?_ | refine zdf fun101 rfl rfl ?_ | refine zdg fun101 rfl rfl rfl ?_))
          refine ⟨.inl rfl, _, _, rfl, trivial, ?_⟩
          rw [truthErr, if_neg (by omega), if_neg (by omega), if_neg he', hs, hf]; rfl
theorem fn42 (n : Int) (ev : List evD) (tr : List Int) : Ox.Fn Go.Proofs.Try.prog 42 (.acons (vC n ev) (.acons (vL tr) .anil)) (· = vI (truthErr n ev tr)) := by
  refine Ox.Fn.intro xok Go.Proofs.Try.func42 rfl Go.Proofs.Try.call42 (Nat.le_of_ble_eq_true rfl) (fun E M0 up => ?_)
  refine JK.start ?_
  refine JK.lenOf 1 rfl fun hlen => ?_
  replace hlen : tr.length ≤ 9223372036854775807 := hlen.1
  (repeat (first | refine zs rfl ?_ | refine zg rfl rfl rfl ?_ | refine zd ?_ | refine JK.fin ?_ | refine JK.ret ?_ | refine zlf fun101 rfl rfl rfl ?_ | refine zdf fun101 rfl rfl ?_ | refine zdg fun101 rfl rfl rfl ?_ | refine zc rfl (fn57 n ev) rfl rfl ?_ | refine ze rfl (fn57 n ev) rfl ?_ | refine zk rfl rfl (fun _ => fn57 n ev) rfl rfl ?_))
  refine JK.cond rfl (fun hc => ?_) (fun hc => ?_)
  · (simp only [↓bif_or, ↓bif_and, ↓Bool.or_eq_true, ↓Bool.or_eq_false_iff, ↓Bool.and_eq_true, ↓Bool.and_eq_false_iff, ↓Bool.not_eq_true', ↓Bool.not_eq_false', ↓decide_eq_true_eq, ↓decide_eq_false_iff_not, ↓beq_iff_eq, ↓bne_iff_ne, ↓bne_eq_false_iff_eq, ↓ne_eq, ↓beq_eq_false_iff_ne, ↓Bool.not_eq_true] at hc; try simp only [Ty.dflt, Int.toNat_natCast] at hc)
    (repeat (first | refine zs rfl ?_ | refine zg rfl rfl rfl ?_ | refine zd ?_ | refine JK.fin ?_ | refine JK.ret ?_ | refine zlf fun101 rfl rfl rfl ?_ | refine zdf fun101 rfl rfl ?_ | refine zdg fun101 rfl rfl rfl ?_ | refine zc rfl (fn57 n ev) rfl rfl ?_ | refine ze rfl (fn57 n ev) rfl ?_ | refine zk rfl rfl (fun _ => fn57 n ev) rfl rfl ?_))
    refine ⟨.inl rfl, _, _, rfl, trivial, ?_⟩
    rw [truthErr, if_pos hc]
  · (simp only [↓bif_or, ↓bif_and, ↓Bool.or_eq_true, ↓Bool.or_eq_false_iff, ↓Bool.and_eq_true, ↓Bool.and_eq_false_iff, ↓Bool.not_eq_true', ↓Bool.not_eq_false', ↓decide_eq_true_eq, ↓decide_eq_false_iff_not, ↓beq_iff_eq, ↓bne_iff_ne, ↓bne_eq_false_iff_eq, ↓ne_eq, ↓beq_eq_false_iff_ne, ↓Bool.not_eq_true] at hc; try simp only [Ty.dflt, Int.toNat_natCast] at hc)
    have h0 : caseErr n ev = 0 := by omega
    have hok := case_ok h0
    (repeat (first | refine zs rfl ?_ | refine zg rfl rfl rfl ?_ | refine zd ?_ | refine JK.fin ?_ | refine JK.ret ?_ | refine zlf fun101 rfl rfl rfl ?_ | refine zdf fun101 rfl rfl ?_ | refine zdg fun101 rfl rfl rfl ?_))
    refine JK.cond rfl (fun hd => ?_) (fun hd => ?_)
    · (simp only [↓bif_or, ↓bif_and, ↓Bool.or_eq_true, ↓Bool.or_eq_false_iff, ↓Bool.and_eq_true, ↓Bool.and_eq_false_iff, ↓Bool.not_eq_true', ↓Bool.not_eq_false', ↓decide_eq_true_eq, ↓decide_eq_false_iff_not, ↓beq_iff_eq, ↓bne_iff_ne, ↓bne_eq_false_iff_eq, ↓ne_eq, ↓beq_eq_false_iff_ne, ↓Bool.not_eq_true] at hd; try simp only [Ty.dflt, Int.toNat_natCast] at hd)
      (repeat (first | refine zs rfl ?_ | refine zg rfl rfl rfl ?_ | refine zd ?_ | refine JK.fin ?_ | refine JK.ret ?_ | refine zlf fun101 rfl rfl rfl ?_ | refine zdf fun101 rfl rfl ?_ | refine zdg fun101 rfl rfl rfl ?_))
      refine ⟨.inl rfl, _, _, rfl, trivial, ?_⟩
      rw [truthErr, if_neg (by omega), if_pos hd]
    · (simp only [↓bif_or, ↓bif_and, ↓Bool.or_eq_true, ↓Bool.or_eq_false_iff, ↓Bool.and_eq_true, ↓Bool.and_eq_false_iff, ↓Bool.not_eq_true', ↓Bool.not_eq_false', ↓decide_eq_true_eq, ↓decide_eq_false_iff_not, ↓beq_iff_eq, ↓bne_iff_ne, ↓bne_eq_false_iff_eq, ↓ne_eq, ↓beq_eq_false_iff_ne, ↓Bool.not_eq_true] at hd; try simp only [Ty.dflt, Int.toNat_natCast] at hd)
      have hl : tr.length = n.toNat := by omega
      have hv : valid tr.length ev := by rw [hl]; exact hok.2.2.2
      (repeat (first | refine zs rfl ?_ | refine zg rfl rfl rfl ?_ | refine zd ?_ | refine JK.fin ?_ | refine JK.ret ?_ | refine zlf fun101 rfl rfl rfl ?_ | refine zdf fun101 rfl rfl ?_ | refine zdg fun101 rfl rfl rfl ?_))
      refine JK.loop (fun i : Nat => ⟨[(1, vL tr), (2, .lf (.optr 0 [])), (5, vI (i : Int))], [(0, .cell caT (vC n ev))], 1⟩) (fun i => i ≤ tr.length ∧ (tr.take i).all (fun x => decide (0 ≤ x ∧ x ≤ 1)) = true) (fun i => tr.length - i) 0 (by simp) (by (exact JW.Auto (by conv => lhs; reduce))) fun i ⟨hi, hn⟩ => ?_
      (repeat (first | refine zs rfl ?_ | refine zg rfl rfl rfl ?_ | refine zd ?_ | refine JK.fin ?_ | refine JK.ret ?_ | refine zlf fun101 rfl rfl rfl ?_ | refine zdf fun101 rfl rfl ?_ | refine zdg fun101 rfl rfl rfl ?_))
      refine JK.cond rfl (fun he => ?_) (fun he => ?_)
      · (simp only [↓bif_or, ↓bif_and, ↓Bool.or_eq_true, ↓Bool.or_eq_false_iff, ↓Bool.and_eq_true, ↓Bool.and_eq_false_iff, ↓Bool.not_eq_true', ↓Bool.not_eq_false', ↓decide_eq_true_eq, ↓decide_eq_false_iff_not, ↓beq_iff_eq, ↓bne_iff_ne, ↓bne_eq_false_iff_eq, ↓ne_eq, ↓beq_eq_false_iff_ne, ↓Bool.not_eq_true] at he; try simp only [Ty.dflt, Int.toNat_natCast] at he)
        have hi' : i < tr.length := by omega
        (repeat (first | refine zs rfl ?_ | refine zg rfl rfl rfl ?_ | refine zd ?_ | refine JK.fin ?_ | refine JK.ret ?_ | refine zlf fun101 rfl rfl rfl ?_ | refine zdf fun101 rfl rfl ?_ | refine zdg fun101 rfl rfl rfl ?_))
        refine JK.cond rfl (fun hf => ?_) (fun hf => ?_)
        · (simp only [↓bif_or, ↓bif_and, ↓Bool.or_eq_true, ↓Bool.or_eq_false_iff, ↓Bool.and_eq_true, ↓Bool.and_eq_false_iff, ↓Bool.not_eq_true', ↓Bool.not_eq_false', ↓decide_eq_true_eq, ↓decide_eq_false_iff_not, ↓beq_iff_eq, ↓bne_iff_ne, ↓bne_eq_false_iff_eq, ↓ne_eq, ↓beq_eq_false_iff_ne, ↓Bool.not_eq_true] at hf; try simp only [Ty.dflt, Int.toNat_natCast] at hf)
          (repeat (first | refine zs rfl ?_ | refine zg rfl rfl rfl ?_ | refine zd ?_ | refine JK.fin ?_ | refine JK.ret ?_ | refine zlf fun101 rfl rfl rfl ?_ | refine zdf fun101 rfl rfl ?_ | refine zdg fun101 rfl rfl rfl ?_))
          refine ⟨.inl rfl, _, _, rfl, trivial, ?_⟩
          rw [getD_nat tr hi'] at hf
          rw [truthErr, if_neg (by omega), if_neg (by omega), if_pos]
          rw [all_not hi' (decide_eq_false (by omega))]; simp
        · (simp only [↓bif_or, ↓bif_and, ↓Bool.or_eq_true, ↓Bool.or_eq_false_iff, ↓Bool.and_eq_true, ↓Bool.and_eq_false_iff, ↓Bool.not_eq_true', ↓Bool.not_eq_false', ↓decide_eq_true_eq, ↓decide_eq_false_iff_not, ↓beq_iff_eq, ↓bne_iff_ne, ↓bne_eq_false_iff_eq, ↓ne_eq, ↓beq_eq_false_iff_ne, ↓Bool.not_eq_true] at hf; try simp only [Ty.dflt, Int.toNat_natCast] at hf)
          (repeat (first | refine zs rfl ?_ | refine zg rfl rfl rfl ?_ | refine zd ?_ | refine JK.fin ?_ | refine JK.ret ?_ | refine zlf fun101 rfl rfl rfl ?_ | refine zdf fun101 rfl rfl ?_ | refine zdg fun101 rfl rfl rfl ?_))
          rw [getD_nat tr hi'] at hf
          exact ⟨i + 1, by (exact JW.Auto (by conv => lhs; reduce)), ⟨by omega, all_take hi' hn (decide_eq_true (by omega))⟩, by omega⟩
      · (simp only [↓bif_or, ↓bif_and, ↓Bool.or_eq_true, ↓Bool.or_eq_false_iff, ↓Bool.and_eq_true, ↓Bool.and_eq_false_iff, ↓Bool.not_eq_true', ↓Bool.not_eq_false', ↓decide_eq_true_eq, ↓decide_eq_false_iff_not, ↓beq_iff_eq, ↓bne_iff_ne, ↓bne_eq_false_iff_eq, ↓ne_eq, ↓beq_eq_false_iff_ne, ↓Bool.not_eq_true] at he; try simp only [Ty.dflt, Int.toNat_natCast] at he)
        obtain rfl : i = tr.length := by omega
        rw [List.take_length] at hn
        (repeat (first | refine zs rfl ?_ | refine zg rfl rfl rfl ?_ | refine zd ?_ | refine JK.fin ?_ | refine JK.ret ?_ | refine zlf fun101 rfl rfl rfl ?_ | refine zdf fun101 rfl rfl ?_ | refine zdg fun101 rfl rfl rfl ?_))
        refine JK.loop (fun i : Nat => ⟨[(1, vL tr), (2, .lf (.optr 0 [])), (6, vI (i : Int))], [(0, .cell caT (vC n ev))], 1⟩) (fun i => i ≤ ev.length ∧ (ev.take i).all (fun x => holdsR tr x.1 || holdsR tr x.2.1) = true) (fun i => ev.length - i) 0 (by simp) (by (exact JW.Auto (by conv => lhs; reduce))) fun i ⟨hi, hm⟩ => ?_
        (repeat (first | refine zs rfl ?_ | refine zg rfl rfl rfl ?_ | refine zd ?_ | refine JK.fin ?_ | refine JK.ret ?_ | refine zlf fun101 rfl rfl rfl ?_ | refine zdf fun101 rfl rfl ?_ | refine zdg fun101 rfl rfl rfl ?_))
        refine JK.cond rfl (fun hf => ?_) (fun hf => ?_)
        · (simp only [↓bif_or, ↓bif_and, ↓Bool.or_eq_true, ↓Bool.or_eq_false_iff, ↓Bool.and_eq_true, ↓Bool.and_eq_false_iff, ↓Bool.not_eq_true', ↓Bool.not_eq_false', ↓decide_eq_true_eq, ↓decide_eq_false_iff_not, ↓beq_iff_eq, ↓bne_iff_ne, ↓bne_eq_false_iff_eq, ↓ne_eq, ↓beq_eq_false_iff_ne, ↓Bool.not_eq_true] at hf; try simp only [Ty.dflt, Int.toNat_natCast] at hf)
          have hi' : i < ev.length := by omega
          have hx := hv ev[i] (List.getElem_mem hi')
          have e : ev.getD ((i : Int)).toNat evT.dflt = ev[i] := getD_nat ev hi' _
          have h71 := fn71 tr (ev.getD ((i : Int)).toNat evT.dflt) (by rw [e]; exact hx.1) (by rw [e]; exact hx.2) (by omega)
          (repeat (first | refine zs rfl ?_ | refine zg rfl rfl rfl ?_ | refine zd ?_ | refine JK.fin ?_ | refine JK.ret ?_ | refine zlf fun101 rfl rfl rfl ?_ | refine zdf fun101 rfl rfl ?_ | refine zdg fun101 rfl rfl rfl ?_ | refine zc rfl (h71) rfl rfl ?_ | refine ze rfl (h71) rfl ?_ | refine zk rfl rfl (fun _ => h71) rfl rfl ?_))
          refine JK.cond rfl (fun hg => ?_) (fun hg => ?_)
          · (repeat (first | refine zs rfl ?_ | refine zg rfl rfl rfl ?_ | refine zd ?_ | refine JK.fin ?_ | refine JK.ret ?_ | refine zlf fun101 rfl rfl rfl ?_ | refine zdf fun101 rfl rfl ?_ | refine zdg fun101 rfl rfl rfl ?_))
            refine ⟨.inl rfl, _, _, rfl, trivial, ?_⟩
            rw [e] at hg
            rw [truthErr, if_neg (by omega), if_neg (by omega), if_neg (by simpa using hn), if_neg]
            rw [satB, all_not (p := fun x => holdsR tr x.1 || holdsR tr x.2.1) hi' (by simpa using hg)]; simp
          · (repeat (first | refine zs rfl ?_ | refine zg rfl rfl rfl ?_ | refine zd ?_ | refine JK.fin ?_ | refine JK.ret ?_ | refine zlf fun101 rfl rfl rfl ?_ | refine zdf fun101 rfl rfl ?_ | refine zdg fun101 rfl rfl rfl ?_))
            rw [e] at hg
            exact ⟨i + 1, by (exact JW.Auto (by conv => lhs; reduce)), ⟨by omega, all_take hi' hm (by revert hg; cases (holdsR tr ev[i].1 || holdsR tr ev[i].2.1) <;> simp)⟩, by omega⟩
        · (simp only [↓bif_or, ↓bif_and, ↓Bool.or_eq_true, ↓Bool.or_eq_false_iff, ↓Bool.and_eq_true, ↓Bool.and_eq_false_iff, ↓Bool.not_eq_true', ↓Bool.not_eq_false', ↓decide_eq_true_eq, ↓decide_eq_false_iff_not, ↓beq_iff_eq, ↓bne_iff_ne, ↓bne_eq_false_iff_eq, ↓ne_eq, ↓beq_eq_false_iff_ne, ↓Bool.not_eq_true] at hf; try simp only [Ty.dflt, Int.toNat_natCast] at hf)
          obtain rfl : i = ev.length := by omega
          rw [List.take_length] at hm
          (repeat (first | refine zs rfl ?_ | refine zg rfl rfl rfl ?_ | refine zd ?_ | refine JK.fin ?_ | refine JK.ret ?_ | refine zlf fun101 rfl rfl rfl ?_ | refine zdf fun101 rfl rfl ?_ | refine zdg fun101 rfl rfl rfl ?_))
          refine ⟨.inl rfl, _, _, rfl, trivial, ?_⟩
          rw [truthErr, if_neg (by omega), if_neg (by omega), if_neg (by simpa using hn), if_pos (show satB ev tr = true from hm)]
end Go.Proofs.Ytdmfofjaknngnaa

namespace Go.Proofs.Ytdmfofjaknngnaa
open Go Go.RowKit Ox Ox.Two
attribute [local irreducible] JC JL JK JW

def digit (n m k : Nat) : Int := ((m / 2 ^ (n - 1 - k) % 2 : Nat) : Int)
def bitsR (n m : Nat) : List Int := (List.range n).map (digit n m)
def outM (ev : List evD) (n m : Nat) : List (List Int) := ((List.range m).map (bitsR n)).filter (satB ev)
theorem bitsR_len (n m : Nat) : (bitsR n m).length = n := by simp [bitsR]
theorem bitsR_bin (n m : Nat) : bin (bitsR n m) := fun x hx => by
  obtain ⟨k, _, rfl⟩ := List.mem_map.1 hx
  unfold digit
  have := Nat.mod_two_eq_zero_or_one (m / 2 ^ (n - 1 - k))
  omega
theorem bitsR_set (n m k : Nat) (hk : k < n) : ((bitsR n m).take k ++ List.replicate (n - k) (0 : Int)).set k (digit n m k) = (bitsR n m).take (k + 1) ++ List.replicate (n - (k + 1)) 0 := by
  have h1 : ((bitsR n m).take k).length = k := by rw [List.length_take, bitsR_len]; omega
  rw [List.set_append_right _ _ (by omega), h1, Nat.sub_self, show n - k = (n - (k + 1)) + 1 by omega, List.replicate_succ, List.set_cons_zero, List.take_succ, List.getElem?_eq_getElem (by rw [bitsR_len]; exact hk)]
  simp [bitsR]
theorem outM_succ (ev : List evD) (n m : Nat) : outM ev n (m + 1) = outM ev n m ++ (if satB ev (bitsR n m) = true then [bitsR n m] else []) := by
  rw [outM, List.range_succ, List.map_append, List.filter_append]
  refine congrArg (outM ev n m ++ ·) ?_
  simp only [List.map_cons, List.map_nil, List.filter_cons, List.filter_nil]
theorem rowsF_bits : ∀ (f : Nat) (row : List Int), rowsF f row = (List.range (2 ^ f)).map fun m => row ++ bitsR f m
  | 0, row => by simp [rowsF, bitsR]
  | f + 1, row => by
    have hc : ∀ (c : Nat), c < 2 → ∀ m, m < 2 ^ f → bitsR (f + 1) (c * 2 ^ f + m) = (c : Int) :: bitsR f m := fun c hc m hm => by
      rw [bitsR, List.range_succ_eq_map, List.map_cons, List.map_map]
      have h0 : digit (f + 1) (c * 2 ^ f + m) 0 = c := by
        unfold digit
        rw [show f + 1 - 1 - 0 = f by omega, Nat.add_comm, Nat.add_mul_div_right _ _ (Nat.pow_pos (by omega)), Nat.div_eq_of_lt hm]
        omega
      rw [h0]
      refine congrArg ((c : Int) :: ·) ?_
      rw [bitsR]
      refine List.map_congr_left fun k hk => ?_
      have hk' : k < f := List.mem_range.1 hk
      show digit (f + 1) (c * 2 ^ f + m) (k + 1) = digit f m k
      unfold digit
      rw [show f + 1 - 1 - (k + 1) = f - 1 - k by omega, show c * 2 ^ f = c * 2 ^ (k + 1) * 2 ^ (f - 1 - k) by rw [Nat.mul_assoc, ← Nat.pow_add]; congr 2; omega,
        Nat.add_comm, Nat.add_mul_div_right _ _ (Nat.pow_pos (by omega)), Nat.pow_succ, ← Nat.mul_assoc, Nat.add_mul_mod_self_right]
    rw [rowsF, rowsF_bits f, rowsF_bits f, Nat.pow_succ, Nat.mul_two, List.range_add, List.map_append, List.map_map]
    congr 1
    · refine List.map_congr_left fun m hm => ?_
      have := hc 0 (by omega) m (List.mem_range.1 hm)
      rw [Nat.zero_mul, Nat.zero_add] at this
      rw [this]; simp
    · refine List.map_congr_left fun m hm => ?_
      have := hc 1 (by omega) m (List.mem_range.1 hm)
      rw [Nat.one_mul] at this
      simp only [Function.comp]
      rw [this]; simp
theorem outM_all (ev : List evD) (n : Nat) : outM ev n (2 ^ n) = trL ev n := by
  rw [trL, rowsF_bits, outM]; simp
theorem truthErr_row {n : Nat} {ev : List evD} (h : caseErr n ev = 0) {tr : List Int} (hl : tr.length = n) (hb : bin tr) : truthErr n ev tr = if satB ev tr = true then 0 else 16 := by
  rw [truthErr, if_neg (by omega), if_neg (by omega), if_neg]
  simp only [Decidable.not_not, List.all_eq_true, decide_eq_true_eq]
  intro x hx; rcases hb x hx with rfl | rfl <;> omega

theorem fn67 (n : Nat) (ev : List evD) (h1 : 1 ≤ n) (h2 : n ≤ 12) (h3 : ev.length ≤ 40) (hv : valid n ev) : Ox.Fn Go.Proofs.Try.prog 67 (.acons (vC n ev) .anil) (· = vLL (trL ev n)) := by
  refine Ox.Fn.intro xok Go.Proofs.Try.func67 rfl Go.Proofs.Try.call67 (Nat.le_of_ble_eq_true rfl) (fun E M0 up => ?_)
  refine JK.start ?_
  have hp : 2 ^ n ≤ 2 ^ 12 := Nat.pow_le_pow_right (by omega) h2
  have hp0 : 0 < 2 ^ n := Nat.pow_pos (by omega)
  have hpI : (2 : Int) ^ n = ((2 ^ n : Nat) : Int) := by push_cast; rfl
  have hpI2 : (2 : Int) ^ n ≤ 4096 ∧ 1 ≤ (2 : Int) ^ n := by omega
  (repeat (first | refine zs rfl ?_ | refine zg rfl rfl rfl ?_ | refine zd ?_ | refine JK.fin ?_ | refine JK.ret ?_))
  refine JK.ghost 3 35 (.slice (.int .i64)) rfl ?_
  refine JK.loop (fun m : Nat => ⟨[(1, .lf (.optr 0 [])), (3, .lf (.osl 1)), (4, vI (m : Int))], [(0, .cell caT (vC n ev)), (1, .sl 35 (.slice (.int .i64)) (outM ev n m))], 2⟩)
    (fun m => m ≤ 2 ^ n) (fun m => 2 ^ n - m) 0 (Nat.zero_le _) (by (exact JW.Auto (by conv => lhs; reduce))) fun m hm => ?_
  have hlen : (outM ev n m).length ≤ 4096 := by
    have := List.length_filter_le (satB ev) ((List.range m).map (bitsR n))
    rw [outM]; simp at this ⊢; omega
  have hnext := outM_succ ev n m
  have hall : m = 2 ^ n → outM ev n m = trL ev n := fun e => by rw [e]; exact outM_all ev n
  generalize outM ev n m = out at hlen hnext hall ⊢
  (repeat (first | refine zs rfl ?_ | refine zg rfl rfl rfl ?_ | refine zd ?_ | refine JK.fin ?_ | refine JK.ret ?_))
  refine JK.cond rfl (fun hc => ?_) (fun hc => ?_)
  · (simp only [↓bif_or, ↓bif_and, ↓Bool.or_eq_true, ↓Bool.or_eq_false_iff, ↓Bool.and_eq_true, ↓Bool.and_eq_false_iff, ↓Bool.not_eq_true', ↓Bool.not_eq_false', ↓decide_eq_true_eq, ↓decide_eq_false_iff_not, ↓beq_iff_eq, ↓bne_iff_ne, ↓bne_eq_false_iff_eq, ↓ne_eq, ↓beq_eq_false_iff_ne, ↓Bool.not_eq_true] at hc; try simp only [Ty.dflt, Int.toNat_natCast] at hc)
    have hm' : m < 2 ^ n := by omega
    (repeat (first | refine zs rfl ?_ | refine zg rfl rfl rfl ?_ | refine zd ?_ | refine JK.fin ?_ | refine JK.ret ?_))
    refine JK.loop (fun k : Nat => ⟨[(1, .lf (.optr 0 [])), (3, .lf (.osl 1)), (4, vI (m : Int)), (5, .lf (.osl 2)), (6, vI (k : Int))], [(0, .cell caT (vC n ev)), (1, .sl 35 (.slice (.int .i64)) out), (2, .sl 3 (.int .i64) ((bitsR n m).take k ++ List.replicate (n - k) 0))], 3⟩)
      (fun k => k ≤ n) (fun k => n - k) 0 (Nat.zero_le _) (by (refine JW.auto (by conv => lhs; reduce) ?_ ?_ ?_ ?_ rfl <;> (repeat' (first | exact trivial | exact rfl | refine And.intro ?_ ?_ | exact Nat.le_of_ble_eq_true rfl | refine HO.bdF ?_ | refine HO.bdP ?_ | (refine congrArg (fun z : Int => some (AV.val (.int .i64) z)) ?_; push_cast; omega) | (refine congrArg (fun z : List Int => some (HO.sl 3 (.int .i64) z)) ?_; rfl))))) fun k hk => ?_
    have hl2 : ((bitsR n m).take k ++ List.replicate (n - k) 0).length = n := by simp [bitsR]; omega
    (repeat (first | refine zs rfl ?_ | refine zg rfl rfl rfl ?_ | refine zd ?_ | refine JK.fin ?_ | refine JK.ret ?_))
    refine JK.cond rfl (fun hd => ?_) (fun hd => ?_)
    · (simp only [↓bif_or, ↓bif_and, ↓Bool.or_eq_true, ↓Bool.or_eq_false_iff, ↓Bool.and_eq_true, ↓Bool.and_eq_false_iff, ↓Bool.not_eq_true', ↓Bool.not_eq_false', ↓decide_eq_true_eq, ↓decide_eq_false_iff_not, ↓beq_iff_eq, ↓bne_iff_ne, ↓bne_eq_false_iff_eq, ↓ne_eq, ↓beq_eq_false_iff_ne, ↓Bool.not_eq_true] at hd; try simp only [Ty.dflt, Int.toNat_natCast] at hd)
      have hk' : k < n := by omega
      have hq : ((m : Int)) / 2 ^ ((n : Int) - 1 - (k : Int)).toNat = ((m / 2 ^ (n - 1 - k) : Nat) : Int) := by
        rw [show ((n : Int) - 1 - (k : Int)).toNat = n - 1 - k by omega]; push_cast; rfl
      have hq2 : m / 2 ^ (n - 1 - k) ≤ m := Nat.div_le_self _ _
      have hq3 : 0 ≤ ((m : Int)) / 2 ^ ((n : Int) - 1 - (k : Int)).toNat ∧ ((m : Int)) / 2 ^ ((n : Int) - 1 - (k : Int)).toNat ≤ 4096 := by
        rw [hq]; generalize m / 2 ^ (n - 1 - k) = q at hq2; omega
      have hdg : ((((m : Int) / 2 ^ ((n : Int) - 1 - (k : Int)).toNat).toNat &&& 1 : Nat) : Int) = digit n m k := by
        rw [hq, digit, Int.toNat_natCast, Nat.and_one_is_mod]
      have hset := bitsR_set n m k hk'
      rw [← hdg] at hset
      (repeat (first | refine zs rfl ?_ | refine zg rfl rfl rfl ?_ | refine zd ?_ | refine JK.fin ?_ | refine JK.ret ?_))
      exact ⟨k + 1, by (refine JW.auto (by conv => lhs; reduce) ?_ ?_ ?_ ?_ rfl <;> (repeat' (first | exact trivial | exact rfl | refine And.intro ?_ ?_ | exact Nat.le_of_ble_eq_true rfl | refine HO.bdF ?_ | refine HO.bdP ?_ | (refine congrArg (fun z : Int => some (AV.val (.int .i64) z)) ?_; push_cast; omega) | exact congrArg (fun z : List Int => some (HO.sl 3 (.int .i64) z)) hset))), by omega, by omega⟩
    · (simp only [↓bif_or, ↓bif_and, ↓Bool.or_eq_true, ↓Bool.or_eq_false_iff, ↓Bool.and_eq_true, ↓Bool.and_eq_false_iff, ↓Bool.not_eq_true', ↓Bool.not_eq_false', ↓decide_eq_true_eq, ↓decide_eq_false_iff_not, ↓beq_iff_eq, ↓bne_iff_ne, ↓bne_eq_false_iff_eq, ↓ne_eq, ↓beq_eq_false_iff_ne, ↓Bool.not_eq_true] at hd; try simp only [Ty.dflt, Int.toNat_natCast] at hd)
      obtain rfl : n = k := by omega
      have hrow : (bitsR n m).take n ++ List.replicate (n - n) 0 = bitsR n m := by
        rw [Nat.sub_self, List.replicate_zero, List.append_nil, List.take_of_length_le (by rw [bitsR_len]; omega)]
      rw [hrow]
      have ht := truthErr_row (ok_case h1 h2 h3 hv) (bitsR_len n m) (bitsR_bin n m)
      generalize bitsR n m = row at ht hnext ⊢
      (repeat (first | refine zs rfl ?_ | refine zg rfl rfl rfl ?_ | refine zd ?_ | refine JK.fin ?_ | refine JK.ret ?_ | refine zc rfl (fn42 _ ev _) rfl rfl ?_ | refine ze rfl (fn42 _ ev _) rfl ?_ | refine zk rfl rfl (fun _ => fn42 _ ev _) rfl rfl ?_))
      refine JK.cond rfl (fun hd => ?_) (fun hd => ?_)
      · have hs : satB ev row = true := by
          by_cases h : satB ev row = true
          · exact h
          · rw [if_neg h] at ht; rw [ht] at hd; cases hd
        rw [if_pos hs] at hnext
        (refine JK.frz [2] [1,3,4,5] rfl (by (first | exact trivial | (try dsimp only [allP, inK, idxC, loC, lohiC, fullC, underG, List.append, List.nil_append, List.cons_append, Ty.den, Ty.dflt, Int.toNat_natCast, List.length_cons, List.length_nil] at *); first | omega | ((repeat' (first | exact trivial | assumption | refine And.intro ?_ ?_ | exact fun h => h | (intro hpk; first | exact hpk | simp only [wantB, hpk, Bool.not_false, Bool.not_true]))) <;> omega) | fail)) ?_)
        (repeat (first | refine zs rfl ?_ | refine zg rfl rfl rfl ?_ | refine zd ?_ | refine JK.fin ?_ | refine JK.ret ?_))
        exact ⟨m + 1, by (refine JW.auto (by conv => lhs; reduce) ?_ ?_ ?_ ?_ rfl <;> (repeat' (first | exact trivial | exact rfl | refine And.intro ?_ ?_ | exact Nat.le_of_ble_eq_true rfl | refine HO.bdF ?_ | refine HO.bdP ?_ | (refine congrArg (fun z : Int => some (AV.val (.int .i64) z)) ?_; push_cast; omega) | exact congrArg (fun z : List (List Int) => some (HO.sl 35 (.slice (.int .i64)) z)) hnext.symm))), by omega, by omega⟩
      · have hs : ¬ satB ev row = true := by
          intro h; rw [if_pos h] at ht; rw [ht] at hd; cases hd
        rw [if_neg hs, List.append_nil] at hnext
        (repeat (first | refine zs rfl ?_ | refine zg rfl rfl rfl ?_ | refine zd ?_ | refine JK.fin ?_ | refine JK.ret ?_))
        exact ⟨m + 1, by (refine JW.auto (by conv => lhs; reduce) ?_ ?_ ?_ ?_ rfl <;> (repeat' (first | exact trivial | exact rfl | refine And.intro ?_ ?_ | exact Nat.le_of_ble_eq_true rfl | refine HO.bdF ?_ | refine HO.bdP ?_ | (refine congrArg (fun z : Int => some (AV.val (.int .i64) z)) ?_; push_cast; omega) | exact congrArg (fun z : List (List Int) => some (HO.sl 35 (.slice (.int .i64)) z)) hnext.symm))), by omega, by omega⟩
  · (simp only [↓bif_or, ↓bif_and, ↓Bool.or_eq_true, ↓Bool.or_eq_false_iff, ↓Bool.and_eq_true, ↓Bool.and_eq_false_iff, ↓Bool.not_eq_true', ↓Bool.not_eq_false', ↓decide_eq_true_eq, ↓decide_eq_false_iff_not, ↓beq_iff_eq, ↓bne_iff_ne, ↓bne_eq_false_iff_eq, ↓ne_eq, ↓beq_eq_false_iff_ne, ↓Bool.not_eq_true] at hc; try simp only [Ty.dflt, Int.toNat_natCast] at hc)
    obtain rfl : m = 2 ^ n := by omega
    (repeat (first | refine zs rfl ?_ | refine zg rfl rfl rfl ?_ | refine zd ?_ | refine JK.fin ?_ | refine JK.ret ?_))
    refine ⟨.inl rfl, _, _, rfl, trivial, ?_⟩
    rw [hall rfl]
/-- The errors of a case that has to have a truth. -/
def needErr (n : Int) (ev : List evD) : Int := if caseErr n ev ≠ 0 then caseErr n ev else if (trL ev n.toNat).length = 0 then 23 else 0
theorem trL_len (ev : List evD) {n : Nat} (h : n ≤ 12) : (trL ev n).length ≤ 4096 := by
  rw [← outM_all, outM]
  have := List.length_filter_le (satB ev) ((List.range (2 ^ n)).map (bitsR n))
  have hp : 2 ^ n ≤ 2 ^ 12 := Nat.pow_le_pow_right (by omega) h
  simp only [List.length_map, List.length_range] at this
  omega
theorem fn65 (n : Int) (ev : List evD) : Ox.Fn Go.Proofs.Try.prog 65 (.acons (vC n ev) .anil) (· = vI (needErr n ev)) := by
  refine Ox.Fn.intro xok Go.Proofs.Try.func65 rfl Go.Proofs.Try.call65 (Nat.le_of_ble_eq_true rfl) (fun E M0 up => ?_)
  refine JK.start ?_
  (repeat (first | refine zs rfl ?_ | refine zg rfl rfl rfl ?_ | refine zd ?_ | refine JK.fin ?_ | refine JK.ret ?_ | refine zc rfl (fn57 n ev) rfl rfl ?_ | refine ze rfl (fn57 n ev) rfl ?_ | refine zk rfl rfl (fun _ => fn57 n ev) rfl rfl ?_))
  refine JK.cond rfl (fun hc => ?_) (fun hc => ?_)
  · (simp only [↓bif_or, ↓bif_and, ↓Bool.or_eq_true, ↓Bool.or_eq_false_iff, ↓Bool.and_eq_true, ↓Bool.and_eq_false_iff, ↓Bool.not_eq_true', ↓Bool.not_eq_false', ↓decide_eq_true_eq, ↓decide_eq_false_iff_not, ↓beq_iff_eq, ↓bne_iff_ne, ↓bne_eq_false_iff_eq, ↓ne_eq, ↓beq_eq_false_iff_ne, ↓Bool.not_eq_true] at hc; try simp only [Ty.dflt, Int.toNat_natCast] at hc)
    (repeat (first | refine zs rfl ?_ | refine zg rfl rfl rfl ?_ | refine zd ?_ | refine JK.fin ?_ | refine JK.ret ?_ | refine zc rfl (fn57 n ev) rfl rfl ?_ | refine ze rfl (fn57 n ev) rfl ?_ | refine zk rfl rfl (fun _ => fn57 n ev) rfl rfl ?_))
    refine ⟨.inl rfl, _, _, rfl, trivial, ?_⟩
    rw [needErr, if_pos hc]
  · (simp only [↓bif_or, ↓bif_and, ↓Bool.or_eq_true, ↓Bool.or_eq_false_iff, ↓Bool.and_eq_true, ↓Bool.and_eq_false_iff, ↓Bool.not_eq_true', ↓Bool.not_eq_false', ↓decide_eq_true_eq, ↓decide_eq_false_iff_not, ↓beq_iff_eq, ↓bne_iff_ne, ↓bne_eq_false_iff_eq, ↓ne_eq, ↓beq_eq_false_iff_ne, ↓Bool.not_eq_true] at hc; try simp only [Ty.dflt, Int.toNat_natCast] at hc)
    have h0 : caseErr n ev = 0 := by omega
    have hok := case_ok h0
    obtain ⟨N, rfl⟩ : ∃ N : Nat, n = N := ⟨n.toNat, by omega⟩
    rw [Int.toNat_natCast] at hok
    have hl := trL_len ev (n := N) (by omega)
    have h67 := fn67 N ev (by omega) (by omega) hok.2.2.1 hok.2.2.2
    have he : needErr N ev = if (trL ev N).length = 0 then 23 else 0 := by rw [needErr, if_neg (by omega), Int.toNat_natCast]
    rw [he]
    generalize trL ev N = all at hl h67 ⊢
    (repeat (first | refine zs rfl ?_ | refine zg rfl rfl rfl ?_ | refine zd ?_ | refine JK.fin ?_ | refine JK.ret ?_ | refine zc rfl (h67) rfl rfl ?_ | refine ze rfl (h67) rfl ?_ | refine zk rfl rfl (fun _ => h67) rfl rfl ?_))
    refine JK.cond rfl (fun hd => ?_) (fun hd => ?_)
    · (simp only [↓bif_or, ↓bif_and, ↓Bool.or_eq_true, ↓Bool.or_eq_false_iff, ↓Bool.and_eq_true, ↓Bool.and_eq_false_iff, ↓Bool.not_eq_true', ↓Bool.not_eq_false', ↓decide_eq_true_eq, ↓decide_eq_false_iff_not, ↓beq_iff_eq, ↓bne_iff_ne, ↓bne_eq_false_iff_eq, ↓ne_eq, ↓beq_eq_false_iff_ne, ↓Bool.not_eq_true] at hd; try simp only [Ty.dflt, Int.toNat_natCast] at hd)
      (repeat (first | refine zs rfl ?_ | refine zg rfl rfl rfl ?_ | refine zd ?_ | refine JK.fin ?_ | refine JK.ret ?_))
      refine ⟨.inl rfl, _, _, rfl, trivial, ?_⟩
      rw [if_pos (by omega)]
    · (simp only [↓bif_or, ↓bif_and, ↓Bool.or_eq_true, ↓Bool.or_eq_false_iff, ↓Bool.and_eq_true, ↓Bool.and_eq_false_iff, ↓Bool.not_eq_true', ↓Bool.not_eq_false', ↓decide_eq_true_eq, ↓decide_eq_false_iff_not, ↓beq_iff_eq, ↓bne_iff_ne, ↓bne_eq_false_iff_eq, ↓ne_eq, ↓beq_eq_false_iff_ne, ↓Bool.not_eq_true] at hd; try simp only [Ty.dflt, Int.toNat_natCast] at hd)
      (repeat (first | refine zs rfl ?_ | refine zg rfl rfl rfl ?_ | refine zd ?_ | refine JK.fin ?_ | refine JK.ret ?_))
      refine ⟨.inl rfl, _, _, rfl, trivial, ?_⟩
      rw [if_neg (by omega)]
/-- In how many of some truths a saying holds. -/
def manyS (all : List (List Int)) (s : Int) : Nat := (all.filter fun t => holdsR t s).length
theorem manyS_snoc (all : List (List Int)) (t : List Int) (s : Int) : manyS (all ++ [t]) s = manyS all s + if holdsR t s = true then 1 else 0 := by
  unfold manyS
  rw [List.filter_append, List.length_append]
  by_cases h : holdsR t s = true <;> simp [h]
theorem manyS_le (all : List (List Int)) (s : Int) : manyS all s ≤ all.length := List.length_filter_le _ _
theorem fn75 (n : Nat) (all : List (List Int)) (s : Int) (hn : n ≤ 1000) (hs : isSay n s) (h : ∀ t ∈ all, t.length = n) (hl : all.length ≤ 100000) : Ox.Fn Go.Proofs.Try.prog 75 (.acons (vLL all) (.acons (vI s) .anil)) (· = vI (manyS all s)) := by
  refine Ox.Fn.intro xok Go.Proofs.Try.func75 rfl Go.Proofs.Try.call75 (Nat.le_of_ble_eq_true rfl) (fun E M0 up => ?_)
  refine JK.start ?_
  (repeat (first | refine zs rfl ?_ | refine zg rfl rfl rfl ?_ | refine zd ?_ | refine JK.fin ?_ | refine JK.ret ?_))
  refine JK.loop (fun i : Nat => ⟨[(0, vLL all), (1, vI s), (5, vI (manyS (all.take i) s)), (6, vI (i : Int))], [], 0⟩) (fun i => i ≤ all.length) (fun i => all.length - i) 0 (Nat.zero_le _) (by (exact JW.Auto (by conv => lhs; reduce))) fun i hi => ?_
  have hb := manyS_le (all.take i) s
  rw [List.length_take] at hb
  have hb2 : manyS (all.take i) s ≤ 100000 := by omega
  clear hb
  (repeat (first | refine zs rfl ?_ | refine zg rfl rfl rfl ?_ | refine zd ?_ | refine JK.fin ?_ | refine JK.ret ?_))
  refine JK.cond rfl (fun hc => ?_) (fun hc => ?_)
  · (simp only [↓bif_or, ↓bif_and, ↓Bool.or_eq_true, ↓Bool.or_eq_false_iff, ↓Bool.and_eq_true, ↓Bool.and_eq_false_iff, ↓Bool.not_eq_true', ↓Bool.not_eq_false', ↓decide_eq_true_eq, ↓decide_eq_false_iff_not, ↓beq_iff_eq, ↓bne_iff_ne, ↓bne_eq_false_iff_eq, ↓ne_eq, ↓beq_eq_false_iff_ne, ↓Bool.not_eq_true] at hc; try simp only [Ty.dflt, Int.toNat_natCast] at hc)
    have hi' : i < all.length := by omega
    have hnx : manyS (all.take (i + 1)) s = manyS (all.take i) s + if holdsR (all.getD ((i : Int)).toNat (Ty.dflt (.slice (.int .i64)))) s = true then 1 else 0 := by
      rw [show all.getD ((i : Int)).toNat (Ty.dflt (.slice (.int .i64))) = all[i] from getD_nat all hi' _, List.take_succ, List.getElem?_eq_getElem hi']; exact manyS_snoc _ _ _
    have ht : (all.getD ((i : Int)).toNat (Ty.dflt (.slice (.int .i64)))).length = n := by
      rw [show all.getD ((i : Int)).toNat (Ty.dflt (.slice (.int .i64))) = all[i] from getD_nat all hi' _]; exact h _ (List.getElem_mem hi')
    have h46 := fn46 (all.getD ((i : Int)).toNat (Ty.dflt (.slice (.int .i64)))) s (by rw [ht]; exact hs) (by omega)
    (repeat (first | refine zs rfl ?_ | refine zg rfl rfl rfl ?_ | refine zd ?_ | refine JK.fin ?_ | refine JK.ret ?_ | refine zc rfl (h46) rfl rfl ?_ | refine ze rfl (h46) rfl ?_ | refine zk rfl rfl (fun _ => h46) rfl rfl ?_))
    generalize holdsR (all.getD ((i : Int)).toNat (Ty.dflt (.slice (.int .i64)))) s = b at hnx ⊢
    refine JK.cond rfl (fun hd => ?_) (fun hd => ?_)
    · rw [if_pos hd] at hnx
      (repeat (first | refine zs rfl ?_ | refine zg rfl rfl rfl ?_ | refine zd ?_ | refine JK.fin ?_ | refine JK.ret ?_))
      refine ⟨i + 1, ?_, by omega, by omega⟩
      rw [hnx]
      (exact JW.Auto (by conv => lhs; reduce))
    · rw [if_neg (by simp [hd])] at hnx
      (repeat (first | refine zs rfl ?_ | refine zg rfl rfl rfl ?_ | refine zd ?_ | refine JK.fin ?_ | refine JK.ret ?_))
      refine ⟨i + 1, ?_, by omega, by omega⟩
      rw [hnx]
      (exact JW.Auto (by conv => lhs; reduce))
  · (simp only [↓bif_or, ↓bif_and, ↓Bool.or_eq_true, ↓Bool.or_eq_false_iff, ↓Bool.and_eq_true, ↓Bool.and_eq_false_iff, ↓Bool.not_eq_true', ↓Bool.not_eq_false', ↓decide_eq_true_eq, ↓decide_eq_false_iff_not, ↓beq_iff_eq, ↓bne_iff_ne, ↓bne_eq_false_iff_eq, ↓ne_eq, ↓beq_eq_false_iff_ne, ↓Bool.not_eq_true] at hc; try simp only [Ty.dflt, Int.toNat_natCast] at hc)
    obtain rfl : i = all.length := by omega
    (repeat (first | refine zs rfl ?_ | refine zg rfl rfl rfl ?_ | refine zd ?_ | refine JK.fin ?_ | refine JK.ret ?_))
    refine ⟨.inl rfl, _, _, rfl, trivial, ?_⟩
    rw [List.take_length]
/-- The kind of a saying, by all truths. -/
def kindS (all : List (List Int)) (s : Int) : Int := if manyS all s = 0 then 0 else if manyS all s = all.length then 2 else 1
theorem fn66 (n : Nat) (all : List (List Int)) (s : Int) (hn : n ≤ 1000) (hs : isSay n s) (h : ∀ t ∈ all, t.length = n) (hl : all.length ≤ 100000) : Ox.Fn Go.Proofs.Try.prog 66 (.acons (vLL all) (.acons (vI s) .anil)) (· = vI (kindS all s)) := by
  refine Ox.Fn.intro xok Go.Proofs.Try.func66 rfl Go.Proofs.Try.call66 (Nat.le_of_ble_eq_true rfl) (fun E M0 up => ?_)
  refine JK.start ?_
  (repeat (first | refine zs rfl ?_ | refine zg rfl rfl rfl ?_ | refine zd ?_ | refine JK.fin ?_ | refine JK.ret ?_ | refine zc rfl (fn75 n all s hn hs h hl) rfl rfl ?_ | refine ze rfl (fn75 n all s hn hs h hl) rfl ?_ | refine zk rfl rfl (fun _ => fn75 n all s hn hs h hl) rfl rfl ?_))
  refine JK.cond rfl (fun hc => ?_) (fun hc => ?_)
  · (simp only [↓bif_or, ↓bif_and, ↓Bool.or_eq_true, ↓Bool.or_eq_false_iff, ↓Bool.and_eq_true, ↓Bool.and_eq_false_iff, ↓Bool.not_eq_true', ↓Bool.not_eq_false', ↓decide_eq_true_eq, ↓decide_eq_false_iff_not, ↓beq_iff_eq, ↓bne_iff_ne, ↓bne_eq_false_iff_eq, ↓ne_eq, ↓beq_eq_false_iff_ne, ↓Bool.not_eq_true] at hc; try simp only [Ty.dflt, Int.toNat_natCast] at hc)
    (repeat (first | refine zs rfl ?_ | refine zg rfl rfl rfl ?_ | refine zd ?_ | refine JK.fin ?_ | refine JK.ret ?_))
    refine ⟨.inl rfl, _, _, rfl, trivial, ?_⟩
    rw [kindS, if_pos (by omega)]
  · (simp only [↓bif_or, ↓bif_and, ↓Bool.or_eq_true, ↓Bool.or_eq_false_iff, ↓Bool.and_eq_true, ↓Bool.and_eq_false_iff, ↓Bool.not_eq_true', ↓Bool.not_eq_false', ↓decide_eq_true_eq, ↓decide_eq_false_iff_not, ↓beq_iff_eq, ↓bne_iff_ne, ↓bne_eq_false_iff_eq, ↓ne_eq, ↓beq_eq_false_iff_ne, ↓Bool.not_eq_true] at hc; try simp only [Ty.dflt, Int.toNat_natCast] at hc)
    (repeat (first | refine zs rfl ?_ | refine zg rfl rfl rfl ?_ | refine zd ?_ | refine JK.fin ?_ | refine JK.ret ?_))
    refine JK.cond rfl (fun hd => ?_) (fun hd => ?_)
    · (simp only [↓bif_or, ↓bif_and, ↓Bool.or_eq_true, ↓Bool.or_eq_false_iff, ↓Bool.and_eq_true, ↓Bool.and_eq_false_iff, ↓Bool.not_eq_true', ↓Bool.not_eq_false', ↓decide_eq_true_eq, ↓decide_eq_false_iff_not, ↓beq_iff_eq, ↓bne_iff_ne, ↓bne_eq_false_iff_eq, ↓ne_eq, ↓beq_eq_false_iff_ne, ↓Bool.not_eq_true] at hd; try simp only [Ty.dflt, Int.toNat_natCast] at hd)
      (repeat (first | refine zs rfl ?_ | refine zg rfl rfl rfl ?_ | refine zd ?_ | refine JK.fin ?_ | refine JK.ret ?_))
      refine ⟨.inl rfl, _, _, rfl, trivial, ?_⟩
      rw [kindS, if_neg (by omega), if_pos (by omega)]
    · (simp only [↓bif_or, ↓bif_and, ↓Bool.or_eq_true, ↓Bool.or_eq_false_iff, ↓Bool.and_eq_true, ↓Bool.and_eq_false_iff, ↓Bool.not_eq_true', ↓Bool.not_eq_false', ↓decide_eq_true_eq, ↓decide_eq_false_iff_not, ↓beq_iff_eq, ↓bne_iff_ne, ↓bne_eq_false_iff_eq, ↓ne_eq, ↓beq_eq_false_iff_ne, ↓Bool.not_eq_true] at hd; try simp only [Ty.dflt, Int.toNat_natCast] at hd)
      (repeat (first | refine zs rfl ?_ | refine zg rfl rfl rfl ?_ | refine zd ?_ | refine JK.fin ?_ | refine JK.ret ?_))
      refine ⟨.inl rfl, _, _, rfl, trivial, ?_⟩
      rw [kindS, if_neg (by omega), if_neg (by omega)]
end Go.Proofs.Ytdmfofjaknngnaa

namespace Go.Proofs.Ytdmfofjaknngnaa
open Go Go.RowKit Ox Ox.Two
attribute [local irreducible] JC JL JK JW

abbrev vLI (xs : List Int) (e : Int) : AV := .tup (.acons (vL xs) (.acons (vI e) .anil))
abbrev vLLI (xs : List (List Int)) (e : Int) : AV := .tup (.acons (vLL xs) (.acons (vI e) .anil))
abbrev vT3 (a b e : Int) : AV := .tup (.acons (vI a) (.acons (vI b) (.acons (vI e) .anil)))
def tieB (all : List (List Int)) (a b : Int) : Bool := all.all fun t => holdsR t a == holdsR t b
theorem trL_len_of {ev : List evD} {n : Nat} : ∀ t ∈ trL ev n, t.length = n := fun t h => (mem_trL.1 h).1
theorem fn70 (n : Nat) (all : List (List Int)) (a b : Int) (hn : n ≤ 1000) (ha : isSay n a) (hb : isSay n b) (h : ∀ t ∈ all, t.length = n) (hl : all.length ≤ 100000) : Ox.Fn Go.Proofs.Try.prog 70 (.acons (vLL all) (.acons (vI a) (.acons (vI b) .anil))) (· = vB (tieB all a b)) := by
  refine Ox.Fn.intro xok Go.Proofs.Try.func70 rfl Go.Proofs.Try.call70 (Nat.le_of_ble_eq_true rfl) (fun E M0 up => ?_)
  refine JK.start ?_
  (repeat (first | refine zs rfl ?_ | refine zg rfl rfl rfl ?_ | refine zd ?_ | refine JK.fin ?_ | refine JK.ret ?_))
  refine JK.loop (fun i : Nat => ⟨[(0, vLL all), (1, vI a), (2, vI b), (7, vI (i : Int))], [], 0⟩) (fun i => i ≤ all.length ∧ tieB (all.take i) a b = true) (fun i => all.length - i) 0 ⟨Nat.zero_le _, rfl⟩ (by (exact JW.Auto (by conv => lhs; reduce))) fun i ⟨hi, hr⟩ => ?_
  (repeat (first | refine zs rfl ?_ | refine zg rfl rfl rfl ?_ | refine zd ?_ | refine JK.fin ?_ | refine JK.ret ?_))
  refine JK.cond rfl (fun hc => ?_) (fun hc => ?_)
  · (simp only [↓bif_or, ↓bif_and, ↓Bool.or_eq_true, ↓Bool.or_eq_false_iff, ↓Bool.and_eq_true, ↓Bool.and_eq_false_iff, ↓Bool.not_eq_true', ↓Bool.not_eq_false', ↓decide_eq_true_eq, ↓decide_eq_false_iff_not, ↓beq_iff_eq, ↓bne_iff_ne, ↓bne_eq_false_iff_eq, ↓ne_eq, ↓beq_eq_false_iff_ne, ↓Bool.not_eq_true] at hc; try simp only [Ty.dflt, Int.toNat_natCast] at hc)
    have hi' : i < all.length := by omega
    have et : all.getD ((i : Int)).toNat (Ty.dflt (.slice (.int .i64))) = all[i] := getD_nat all hi' _
    have hln : (all.getD ((i : Int)).toNat (Ty.dflt (.slice (.int .i64)))).length = n := by rw [et]; exact h _ (List.getElem_mem hi')
    have h46 := fn46 (all.getD ((i : Int)).toNat (Ty.dflt (.slice (.int .i64)))) a (by rw [hln]; exact ha) (by omega)
    have h46' := fn46 (all.getD ((i : Int)).toNat (Ty.dflt (.slice (.int .i64)))) b (by rw [hln]; exact hb) (by omega)
    (repeat (first | refine zs rfl ?_ | refine zg rfl rfl rfl ?_ | refine zd ?_ | refine JK.fin ?_ | refine JK.ret ?_ | refine zc rfl (h46) rfl rfl ?_ | refine ze rfl (h46) rfl ?_ | refine zk rfl rfl (fun _ => h46) rfl rfl ?_ | refine zc rfl (h46') rfl rfl ?_ | refine ze rfl (h46') rfl ?_ | refine zk rfl rfl (fun _ => h46') rfl rfl ?_))
    refine JK.cond rfl (fun hd => ?_) (fun hd => ?_)
    · (repeat (first | refine zs rfl ?_ | refine zg rfl rfl rfl ?_ | refine zd ?_ | refine JK.fin ?_ | refine JK.ret ?_))
      refine ⟨.inl rfl, _, _, rfl, trivial, ?_⟩
      rw [et] at hd
      rw [tieB, all_not (p := fun t => holdsR t a == holdsR t b) hi' (by simpa using hd)]
    · (repeat (first | refine zs rfl ?_ | refine zg rfl rfl rfl ?_ | refine zd ?_ | refine JK.fin ?_ | refine JK.ret ?_))
      rw [et] at hd
      exact ⟨i + 1, by (exact JW.Auto (by conv => lhs; reduce)), ⟨by omega, all_take (p := fun t => holdsR t a == holdsR t b) hi' hr (by simpa using hd)⟩, by omega⟩
  · (simp only [↓bif_or, ↓bif_and, ↓Bool.or_eq_true, ↓Bool.or_eq_false_iff, ↓Bool.and_eq_true, ↓Bool.and_eq_false_iff, ↓Bool.not_eq_true', ↓Bool.not_eq_false', ↓decide_eq_true_eq, ↓decide_eq_false_iff_not, ↓beq_iff_eq, ↓bne_iff_ne, ↓bne_eq_false_iff_eq, ↓ne_eq, ↓beq_eq_false_iff_ne, ↓Bool.not_eq_true] at hc; try simp only [Ty.dflt, Int.toNat_natCast] at hc)
    obtain rfl : i = all.length := by omega
    (repeat (first | refine zs rfl ?_ | refine zg rfl rfl rfl ?_ | refine zd ?_ | refine JK.fin ?_ | refine JK.ret ?_))
    refine ⟨.inl rfl, _, _, rfl, trivial, ?_⟩
    rw [List.take_length] at hr
    rw [hr]
def kindR (n : Int) (ev : List evD) (s : Int) : Int × Int :=
  if caseErr n ev ≠ 0 then (0, caseErr n ev) else if ¬ sayB n s = true then (0, 2) else if needErr n ev ≠ 0 then (0, needErr n ev) else (kindS (trL ev n.toNat) s, 0)
theorem fn26 (n : Int) (ev : List evD) (s : Int) : Ox.Fn Go.Proofs.Try.prog 26 (.acons (vC n ev) (.acons (vI s) .anil)) (· = vT2 (kindR n ev s).1 (kindR n ev s).2) := by
  refine Ox.Fn.intro xok Go.Proofs.Try.func26 rfl Go.Proofs.Try.call26 (Nat.le_of_ble_eq_true rfl) (fun E M0 up => ?_)
  refine JK.start ?_
  (repeat (first | refine zs rfl ?_ | refine zg rfl rfl rfl ?_ | refine zd ?_ | refine JK.fin ?_ | refine JK.ret ?_ | refine zc rfl (fn57 n ev) rfl rfl ?_ | refine ze rfl (fn57 n ev) rfl ?_ | refine zk rfl rfl (fun _ => fn57 n ev) rfl rfl ?_))
  refine JK.cond rfl (fun hc => ?_) (fun hc => ?_)
  · (simp only [↓bif_or, ↓bif_and, ↓Bool.or_eq_true, ↓Bool.or_eq_false_iff, ↓Bool.and_eq_true, ↓Bool.and_eq_false_iff, ↓Bool.not_eq_true', ↓Bool.not_eq_false', ↓decide_eq_true_eq, ↓decide_eq_false_iff_not, ↓beq_iff_eq, ↓bne_iff_ne, ↓bne_eq_false_iff_eq, ↓ne_eq, ↓beq_eq_false_iff_ne, ↓Bool.not_eq_true] at hc; try simp only [Ty.dflt, Int.toNat_natCast] at hc)
    (repeat (first | refine zs rfl ?_ | refine zg rfl rfl rfl ?_ | refine zd ?_ | refine JK.fin ?_ | refine JK.ret ?_ | refine zc rfl (fn57 n ev) rfl rfl ?_ | refine ze rfl (fn57 n ev) rfl ?_ | refine zk rfl rfl (fun _ => fn57 n ev) rfl rfl ?_))
    refine ⟨.inl rfl, _, _, rfl, trivial, ?_⟩
    rw [kindR, if_pos hc]
  · (simp only [↓bif_or, ↓bif_and, ↓Bool.or_eq_true, ↓Bool.or_eq_false_iff, ↓Bool.and_eq_true, ↓Bool.and_eq_false_iff, ↓Bool.not_eq_true', ↓Bool.not_eq_false', ↓decide_eq_true_eq, ↓decide_eq_false_iff_not, ↓beq_iff_eq, ↓bne_iff_ne, ↓bne_eq_false_iff_eq, ↓ne_eq, ↓beq_eq_false_iff_ne, ↓Bool.not_eq_true] at hc; try simp only [Ty.dflt, Int.toNat_natCast] at hc)
    have h0 : caseErr n ev = 0 := by omega
    have hok := case_ok h0
    (repeat (first | refine zs rfl ?_ | refine zg rfl rfl rfl ?_ | refine zd ?_ | refine JK.fin ?_ | refine JK.ret ?_ | refine zc rfl (fn50 n s ⟨by omega, by omega⟩) rfl rfl ?_ | refine ze rfl (fn50 n s ⟨by omega, by omega⟩) rfl ?_ | refine zk rfl rfl (fun _ => fn50 n s ⟨by omega, by omega⟩) rfl rfl ?_))
    refine JK.cond rfl (fun hd => ?_) (fun hd => ?_)
    · have hd' : ¬ sayB n s = true := by simpa using hd
      (repeat (first | refine zs rfl ?_ | refine zg rfl rfl rfl ?_ | refine zd ?_ | refine JK.fin ?_ | refine JK.ret ?_))
      refine ⟨.inl rfl, _, _, rfl, trivial, ?_⟩
      rw [kindR, if_neg (by omega), if_pos hd']
    · have hd' : sayB n s = true := by simpa using hd
      (repeat (first | refine zs rfl ?_ | refine zg rfl rfl rfl ?_ | refine zd ?_ | refine JK.fin ?_ | refine JK.ret ?_ | refine zc rfl (fn65 n ev) rfl rfl ?_ | refine ze rfl (fn65 n ev) rfl ?_ | refine zk rfl rfl (fun _ => fn65 n ev) rfl rfl ?_))
      refine JK.cond rfl (fun he => ?_) (fun he => ?_)
      · (simp only [↓bif_or, ↓bif_and, ↓Bool.or_eq_true, ↓Bool.or_eq_false_iff, ↓Bool.and_eq_true, ↓Bool.and_eq_false_iff, ↓Bool.not_eq_true', ↓Bool.not_eq_false', ↓decide_eq_true_eq, ↓decide_eq_false_iff_not, ↓beq_iff_eq, ↓bne_iff_ne, ↓bne_eq_false_iff_eq, ↓ne_eq, ↓beq_eq_false_iff_ne, ↓Bool.not_eq_true] at he; try simp only [Ty.dflt, Int.toNat_natCast] at he)
        (repeat (first | refine zs rfl ?_ | refine zg rfl rfl rfl ?_ | refine zd ?_ | refine JK.fin ?_ | refine JK.ret ?_ | refine zc rfl (fn65 n ev) rfl rfl ?_ | refine ze rfl (fn65 n ev) rfl ?_ | refine zk rfl rfl (fun _ => fn65 n ev) rfl rfl ?_))
        refine ⟨.inl rfl, _, _, rfl, trivial, ?_⟩
        rw [kindR, if_neg (by omega), if_neg (by simp [hd']), if_pos he]
      · (simp only [↓bif_or, ↓bif_and, ↓Bool.or_eq_true, ↓Bool.or_eq_false_iff, ↓Bool.and_eq_true, ↓Bool.and_eq_false_iff, ↓Bool.not_eq_true', ↓Bool.not_eq_false', ↓decide_eq_true_eq, ↓decide_eq_false_iff_not, ↓beq_iff_eq, ↓bne_iff_ne, ↓bne_eq_false_iff_eq, ↓ne_eq, ↓beq_eq_false_iff_ne, ↓Bool.not_eq_true] at he; try simp only [Ty.dflt, Int.toNat_natCast] at he)
        obtain ⟨N, rfl⟩ : ∃ N : Nat, n = N := ⟨n.toNat, by omega⟩
        rw [Int.toNat_natCast] at hok
        have hl := trL_len ev (n := N) (by omega)
        have h67 := fn67 N ev (by omega) (by omega) hok.2.2.1 hok.2.2.2
        have hk : kindR N ev s = (kindS (trL ev N) s, 0) := by rw [kindR, if_neg (by omega), if_neg (by simp [hd']), if_neg (by omega), Int.toNat_natCast]
        rw [hk]
        have h66 := fn66 N (trL ev N) s (by omega) (sayB_isSay.1 hd') trL_len_of (by omega)
        generalize trL ev N = all at hl h67 h66 ⊢
        (repeat (first | refine zs rfl ?_ | refine zg rfl rfl rfl ?_ | refine zd ?_ | refine JK.fin ?_ | refine JK.ret ?_ | refine zc rfl (h67) rfl rfl ?_ | refine ze rfl (h67) rfl ?_ | refine zk rfl rfl (fun _ => h67) rfl rfl ?_ | refine zc rfl (h66) rfl rfl ?_ | refine ze rfl (h66) rfl ?_ | refine zk rfl rfl (fun _ => h66) rfl rfl ?_))
        refine ⟨.inl rfl, _, _, rfl, trivial, ?_⟩
        rfl
def sayKs (m : Nat) : List Int := (List.range m).map fun k : Nat => sayN (k : Int)
theorem sayKs_succ (m : Nat) : sayKs (m + 1) = sayKs m ++ [sayN (m : Int)] := by unfold sayKs; rw [List.range_succ]; simp
theorem sayN_say {n k : Nat} (h : k < 2 * n) : isSay n (sayN k) := by unfold sayN isSay; split <;> omega
def sureF (all : List (List Int)) (m : Nat) : List Int := (sayKs m).filter fun s => decide (kindS all s = 2)
theorem sureF_succ (all : List (List Int)) (m : Nat) : sureF all (m + 1) = sureF all m ++ if kindS all (sayN m) = 2 then [sayN m] else [] := by
  unfold sureF; rw [sayKs_succ, List.filter_append]; simp only [List.filter_cons, List.filter_nil, decide_eq_true_eq]
theorem sayKs_len (m : Nat) : (sayKs m).length = m := by simp [sayKs]
theorem fn28 (n : Int) (ev : List evD) : Ox.Fn Go.Proofs.Try.prog 28 (.acons (vC n ev) .anil) (· = vLI (if needErr n ev ≠ 0 then [] else sureF (trL ev n.toNat) (2 * n.toNat)) (needErr n ev)) := by
  refine Ox.Fn.intro xok Go.Proofs.Try.func28 rfl Go.Proofs.Try.call28 (Nat.le_of_ble_eq_true rfl) (fun E M0 up => ?_)
  refine JK.start ?_
  (repeat (first | refine zs rfl ?_ | refine zg rfl rfl rfl ?_ | refine zd ?_ | refine JK.fin ?_ | refine JK.ret ?_ | refine zc rfl (fn65 n ev) rfl rfl ?_ | refine ze rfl (fn65 n ev) rfl ?_ | refine zk rfl rfl (fun _ => fn65 n ev) rfl rfl ?_))
  refine JK.cond rfl (fun hc => ?_) (fun hc => ?_)
  · (simp only [↓bif_or, ↓bif_and, ↓Bool.or_eq_true, ↓Bool.or_eq_false_iff, ↓Bool.and_eq_true, ↓Bool.and_eq_false_iff, ↓Bool.not_eq_true', ↓Bool.not_eq_false', ↓decide_eq_true_eq, ↓decide_eq_false_iff_not, ↓beq_iff_eq, ↓bne_iff_ne, ↓bne_eq_false_iff_eq, ↓ne_eq, ↓beq_eq_false_iff_ne, ↓Bool.not_eq_true] at hc; try simp only [Ty.dflt, Int.toNat_natCast] at hc)
    (repeat (first | refine zs rfl ?_ | refine zg rfl rfl rfl ?_ | refine zd ?_ | refine JK.fin ?_ | refine JK.ret ?_ | refine zc rfl (fn65 n ev) rfl rfl ?_ | refine ze rfl (fn65 n ev) rfl ?_ | refine zk rfl rfl (fun _ => fn65 n ev) rfl rfl ?_))
    refine ⟨.inl rfl, _, _, rfl, trivial, ?_⟩
    rw [if_pos hc]
  · (simp only [↓bif_or, ↓bif_and, ↓Bool.or_eq_true, ↓Bool.or_eq_false_iff, ↓Bool.and_eq_true, ↓Bool.and_eq_false_iff, ↓Bool.not_eq_true', ↓Bool.not_eq_false', ↓decide_eq_true_eq, ↓decide_eq_false_iff_not, ↓beq_iff_eq, ↓bne_iff_ne, ↓bne_eq_false_iff_eq, ↓ne_eq, ↓beq_eq_false_iff_ne, ↓Bool.not_eq_true] at hc; try simp only [Ty.dflt, Int.toNat_natCast] at hc)
    have h0 : caseErr n ev = 0 := by by_cases h : caseErr n ev = 0; exact h; exact absurd (by rw [needErr, if_pos h] : needErr n ev = caseErr n ev) (by omega)
    have hok := case_ok h0
    have hne : needErr n ev = 0 := by omega
    obtain ⟨N, rfl⟩ : ∃ N : Nat, n = N := ⟨n.toNat, by omega⟩
    rw [Int.toNat_natCast] at hok ⊢
    rw [if_neg (by omega), hne]
    have hl := trL_len ev (n := N) (by omega)
    have h67 := fn67 N ev (by omega) (by omega) hok.2.2.1 hok.2.2.2
    have hal : ∀ t ∈ trL ev N, t.length = N := trL_len_of
    generalize trL ev N = all at hl h67 hal ⊢
    (repeat (first | refine zs rfl ?_ | refine zg rfl rfl rfl ?_ | refine zd ?_ | refine JK.fin ?_ | refine JK.ret ?_ | refine zc rfl (h67) rfl rfl ?_ | refine ze rfl (h67) rfl ?_ | refine zk rfl rfl (fun _ => h67) rfl rfl ?_))
    refine JK.ghost 5 3 (.int .i64) rfl ?_
    refine JK.loop (fun k : Nat => ⟨[(1, .lf (.optr 0 [])), (4, vLL all), (5, .lf (.osl 1)), (6, vI (k : Int))], [(0, .cell caT (vC N ev)), (1, .sl 3 (.int .i64) (sureF all k))], 2⟩) (fun k => k ≤ 2 * N) (fun k => 2 * N - k) 0 (Nat.zero_le _) (by (exact JW.Auto (by conv => lhs; reduce))) fun k hk => ?_
    have hsl : (sureF all k).length ≤ k := by have := List.length_filter_le (fun s => decide (kindS all s = 2)) (sayKs k); rw [sayKs_len] at this; exact this
    have hsn := sureF_succ all k
    have hend : k = 2 * N → sureF all k = sureF all (2 * N) := fun e => by rw [e]
    generalize sureF all k = out at hsl hsn hend ⊢
    (repeat (first | refine zs rfl ?_ | refine zg rfl rfl rfl ?_ | refine zd ?_ | refine JK.fin ?_ | refine JK.ret ?_))
    refine JK.cond rfl (fun hd => ?_) (fun hd => ?_)
    · (simp only [↓bif_or, ↓bif_and, ↓Bool.or_eq_true, ↓Bool.or_eq_false_iff, ↓Bool.and_eq_true, ↓Bool.and_eq_false_iff, ↓Bool.not_eq_true', ↓Bool.not_eq_false', ↓decide_eq_true_eq, ↓decide_eq_false_iff_not, ↓beq_iff_eq, ↓bne_iff_ne, ↓bne_eq_false_iff_eq, ↓ne_eq, ↓beq_eq_false_iff_ne, ↓Bool.not_eq_true] at hd; try simp only [Ty.dflt, Int.toNat_natCast] at hd)
      have hk' : k < 2 * N := by omega
      have hsy := sayN_say hk'
      have h44 := fn44 k ⟨by omega, by omega⟩
      have h66 := fn66 N all (sayN k) (by omega) hsy hal (by omega)
      generalize sayN (k : Int) = sk at hsn hsy h44 h66 ⊢
      (repeat (first | refine zs rfl ?_ | refine zg rfl rfl rfl ?_ | refine zd ?_ | refine JK.fin ?_ | refine JK.ret ?_ | refine zc rfl (h44) rfl rfl ?_ | refine ze rfl (h44) rfl ?_ | refine zk rfl rfl (fun _ => h44) rfl rfl ?_ | refine zc rfl (h66) rfl rfl ?_ | refine ze rfl (h66) rfl ?_ | refine zk rfl rfl (fun _ => h66) rfl rfl ?_))
      refine JK.cond rfl (fun he => ?_) (fun he => ?_)
      · (simp only [↓bif_or, ↓bif_and, ↓Bool.or_eq_true, ↓Bool.or_eq_false_iff, ↓Bool.and_eq_true, ↓Bool.and_eq_false_iff, ↓Bool.not_eq_true', ↓Bool.not_eq_false', ↓decide_eq_true_eq, ↓decide_eq_false_iff_not, ↓beq_iff_eq, ↓bne_iff_ne, ↓bne_eq_false_iff_eq, ↓ne_eq, ↓beq_eq_false_iff_ne, ↓Bool.not_eq_true] at he; try simp only [Ty.dflt, Int.toNat_natCast] at he)
        rw [if_pos he] at hsn
        (repeat (first | refine zs rfl ?_ | refine zg rfl rfl rfl ?_ | refine zd ?_ | refine JK.fin ?_ | refine JK.ret ?_ | refine zc rfl (h44) rfl rfl ?_ | refine ze rfl (h44) rfl ?_ | refine zk rfl rfl (fun _ => h44) rfl rfl ?_))
        exact ⟨k + 1, by (refine JW.auto (by conv => lhs; reduce) ?_ ?_ ?_ ?_ rfl <;> (repeat' (first | exact trivial | exact rfl | refine And.intro ?_ ?_ | exact Nat.le_of_ble_eq_true rfl | refine HO.bdF ?_ | refine HO.bdP ?_ | (refine congrArg (fun z : Int => some (AV.val (.int .i64) z)) ?_; push_cast; omega) | exact congrArg (fun z : List Int => some (HO.sl 3 (.int .i64) z)) hsn.symm))), by omega, by omega⟩
      · (simp only [↓bif_or, ↓bif_and, ↓Bool.or_eq_true, ↓Bool.or_eq_false_iff, ↓Bool.and_eq_true, ↓Bool.and_eq_false_iff, ↓Bool.not_eq_true', ↓Bool.not_eq_false', ↓decide_eq_true_eq, ↓decide_eq_false_iff_not, ↓beq_iff_eq, ↓bne_iff_ne, ↓bne_eq_false_iff_eq, ↓ne_eq, ↓beq_eq_false_iff_ne, ↓Bool.not_eq_true] at he; try simp only [Ty.dflt, Int.toNat_natCast] at he)
        rw [if_neg he, List.append_nil] at hsn
        (repeat (first | refine zs rfl ?_ | refine zg rfl rfl rfl ?_ | refine zd ?_ | refine JK.fin ?_ | refine JK.ret ?_))
        exact ⟨k + 1, by (refine JW.auto (by conv => lhs; reduce) ?_ ?_ ?_ ?_ rfl <;> (repeat' (first | exact trivial | exact rfl | refine And.intro ?_ ?_ | exact Nat.le_of_ble_eq_true rfl | refine HO.bdF ?_ | refine HO.bdP ?_ | (refine congrArg (fun z : Int => some (AV.val (.int .i64) z)) ?_; push_cast; omega) | exact congrArg (fun z : List Int => some (HO.sl 3 (.int .i64) z)) hsn.symm))), by omega, by omega⟩
    · (simp only [↓bif_or, ↓bif_and, ↓Bool.or_eq_true, ↓Bool.or_eq_false_iff, ↓Bool.and_eq_true, ↓Bool.and_eq_false_iff, ↓Bool.not_eq_true', ↓Bool.not_eq_false', ↓decide_eq_true_eq, ↓decide_eq_false_iff_not, ↓beq_iff_eq, ↓bne_iff_ne, ↓bne_eq_false_iff_eq, ↓ne_eq, ↓beq_eq_false_iff_ne, ↓Bool.not_eq_true] at hd; try simp only [Ty.dflt, Int.toNat_natCast] at hd)
      obtain rfl : k = 2 * N := by omega
      (repeat (first | refine zs rfl ?_ | refine zg rfl rfl rfl ?_ | refine zd ?_ | refine JK.fin ?_ | refine JK.ret ?_))
      refine ⟨.inl rfl, _, _, rfl, trivial, ?_⟩
      rw [hend rfl]
def grpF (all : List (List Int)) (k m : Nat) : List Int := (sayKs m).filter fun s => tieB all ((k : Int) + 1) s
theorem grpF_succ (all : List (List Int)) (k m : Nat) : grpF all k (m + 1) = grpF all k m ++ if tieB all ((k : Int) + 1) (sayN m) = true then [sayN m] else [] := by
  unfold grpF; rw [sayKs_succ, List.filter_append]; simp only [List.filter_cons, List.filter_nil]
theorem grpF_len (all : List (List Int)) (k m : Nat) : (grpF all k m).length ≤ m := by
  have := List.length_filter_le (fun s => tieB all ((k : Int) + 1) s) (sayKs m); rw [sayKs_len] at this; exact this
def tiedB (all : List (List Int)) (n k : Nat) : Bool := decide (1 < (grpF all k (2 * n)).length ∧ (grpF all k (2 * n)).getD 0 0 = (k : Int) + 1)
def tiedF (all : List (List Int)) (n : Nat) : Nat → List (List Int)
  | 0 => []
  | k + 1 => tiedF all n k ++ if tiedB all n k = true then [grpF all k (2 * n)] else []
theorem tiedF_len (all : List (List Int)) (n : Nat) : ∀ k, (tiedF all n k).length ≤ k
  | 0 => Nat.le_refl _
  | k + 1 => by
    rw [tiedF, List.length_append]
    have := tiedF_len all n k
    split <;> simp <;> omega
set_option maxRecDepth 8000 in
theorem fn30 (n : Int) (ev : List evD) : Ox.Fn Go.Proofs.Try.prog 30 (.acons (vC n ev) .anil) (· = vLLI (if needErr n ev ≠ 0 then [] else tiedF (trL ev n.toNat) n.toNat n.toNat) (needErr n ev)) := by
  refine Ox.Fn.intro xok Go.Proofs.Try.func30 rfl Go.Proofs.Try.call30 (Nat.le_of_ble_eq_true rfl) (fun E M0 up => ?_)
  refine JK.start ?_
  (repeat (first | refine zs rfl ?_ | refine zg rfl rfl rfl ?_ | refine zd ?_ | refine JK.fin ?_ | refine JK.ret ?_ | refine zc rfl (fn65 n ev) rfl rfl ?_ | refine ze rfl (fn65 n ev) rfl ?_ | refine zk rfl rfl (fun _ => fn65 n ev) rfl rfl ?_))
  refine JK.cond rfl (fun hc => ?_) (fun hc => ?_)
  · (simp only [↓bif_or, ↓bif_and, ↓Bool.or_eq_true, ↓Bool.or_eq_false_iff, ↓Bool.and_eq_true, ↓Bool.and_eq_false_iff, ↓Bool.not_eq_true', ↓Bool.not_eq_false', ↓decide_eq_true_eq, ↓decide_eq_false_iff_not, ↓beq_iff_eq, ↓bne_iff_ne, ↓bne_eq_false_iff_eq, ↓ne_eq, ↓beq_eq_false_iff_ne, ↓Bool.not_eq_true] at hc; try simp only [Ty.dflt, Int.toNat_natCast] at hc)
    (repeat (first | refine zs rfl ?_ | refine zg rfl rfl rfl ?_ | refine zd ?_ | refine JK.fin ?_ | refine JK.ret ?_ | refine zc rfl (fn65 n ev) rfl rfl ?_ | refine ze rfl (fn65 n ev) rfl ?_ | refine zk rfl rfl (fun _ => fn65 n ev) rfl rfl ?_))
    refine ⟨.inl rfl, _, _, rfl, trivial, ?_⟩
    rw [if_pos hc]
  · (simp only [↓bif_or, ↓bif_and, ↓Bool.or_eq_true, ↓Bool.or_eq_false_iff, ↓Bool.and_eq_true, ↓Bool.and_eq_false_iff, ↓Bool.not_eq_true', ↓Bool.not_eq_false', ↓decide_eq_true_eq, ↓decide_eq_false_iff_not, ↓beq_iff_eq, ↓bne_iff_ne, ↓bne_eq_false_iff_eq, ↓ne_eq, ↓beq_eq_false_iff_ne, ↓Bool.not_eq_true] at hc; try simp only [Ty.dflt, Int.toNat_natCast] at hc)
    have h0 : caseErr n ev = 0 := by by_cases h : caseErr n ev = 0; exact h; exact absurd (by rw [needErr, if_pos h] : needErr n ev = caseErr n ev) (by omega)
    have hok := case_ok h0
    have hne : needErr n ev = 0 := by omega
    obtain ⟨N, rfl⟩ : ∃ N : Nat, n = N := ⟨n.toNat, by omega⟩
    rw [Int.toNat_natCast] at hok ⊢
    rw [if_neg (by omega), hne]
    have hl := trL_len ev (n := N) (by omega)
    have h67 := fn67 N ev (by omega) (by omega) hok.2.2.1 hok.2.2.2
    have hal : ∀ t ∈ trL ev N, t.length = N := trL_len_of
    generalize trL ev N = all at hl h67 hal ⊢
    (repeat (first | refine zs rfl ?_ | refine zg rfl rfl rfl ?_ | refine zd ?_ | refine JK.fin ?_ | refine JK.ret ?_ | refine zc rfl (h67) rfl rfl ?_ | refine ze rfl (h67) rfl ?_ | refine zk rfl rfl (fun _ => h67) rfl rfl ?_))
    refine JK.ghost 5 35 (.slice (.int .i64)) rfl ?_
    refine JK.loop (fun k : Nat => ⟨[(1, .lf (.optr 0 [])), (4, vLL all), (5, .lf (.osl 1)), (6, vI (k : Int))], [(0, .cell caT (vC N ev)), (1, .sl 35 (.slice (.int .i64)) (tiedF all N k))], 2⟩) (fun k => k ≤ N) (fun k => N - k) 0 (Nat.zero_le _) (by (exact JW.Auto (by conv => lhs; reduce))) fun k hk => ?_
    have htl := tiedF_len all N k
    have htn : tiedF all N (k + 1) = tiedF all N k ++ if tiedB all N k = true then [grpF all k (2 * N)] else [] := rfl
    have hend : k = N → tiedF all N k = tiedF all N N := fun e => by rw [e]
    generalize tiedF all N k = out at htl htn hend ⊢
    (repeat (first | refine zs rfl ?_ | refine zg rfl rfl rfl ?_ | refine zd ?_ | refine JK.fin ?_ | refine JK.ret ?_))
    refine JK.cond rfl (fun hd => ?_) (fun hd => ?_)
    · (simp only [↓bif_or, ↓bif_and, ↓Bool.or_eq_true, ↓Bool.or_eq_false_iff, ↓Bool.and_eq_true, ↓Bool.and_eq_false_iff, ↓Bool.not_eq_true', ↓Bool.not_eq_false', ↓decide_eq_true_eq, ↓decide_eq_false_iff_not, ↓beq_iff_eq, ↓bne_iff_ne, ↓bne_eq_false_iff_eq, ↓ne_eq, ↓beq_eq_false_iff_ne, ↓Bool.not_eq_true] at hd; try simp only [Ty.dflt, Int.toNat_natCast] at hd)
      have hk' : k < N := by omega
      (repeat (first | refine zs rfl ?_ | refine zg rfl rfl rfl ?_ | refine zd ?_ | refine JK.fin ?_ | refine JK.ret ?_))
      refine JK.ghost 7 3 (.int .i64) rfl ?_
      refine JK.loop (fun m : Nat => ⟨[(1, .lf (.optr 0 [])), (4, vLL all), (5, .lf (.osl 1)), (6, vI (k : Int)), (7, .lf (.osl 2)), (8, vI (m : Int))], [(0, .cell caT (vC N ev)), (1, .sl 35 (.slice (.int .i64)) out), (2, .sl 3 (.int .i64) (grpF all k m))], 3⟩) (fun m => m ≤ 2 * N) (fun m => 2 * N - m) 0 (Nat.zero_le _) (by (exact JW.Auto (by conv => lhs; reduce))) fun m hm => ?_
      have hgl := grpF_len all k m
      have hgn := grpF_succ all k m
      have hge : m = 2 * N → grpF all k m = grpF all k (2 * N) := fun e => by rw [e]
      generalize grpF all k m = gr at hgl hgn hge ⊢
      (repeat (first | refine zs rfl ?_ | refine zg rfl rfl rfl ?_ | refine zd ?_ | refine JK.fin ?_ | refine JK.ret ?_))
      refine JK.cond rfl (fun he => ?_) (fun he => ?_)
      · (simp only [↓bif_or, ↓bif_and, ↓Bool.or_eq_true, ↓Bool.or_eq_false_iff, ↓Bool.and_eq_true, ↓Bool.and_eq_false_iff, ↓Bool.not_eq_true', ↓Bool.not_eq_false', ↓decide_eq_true_eq, ↓decide_eq_false_iff_not, ↓beq_iff_eq, ↓bne_iff_ne, ↓bne_eq_false_iff_eq, ↓ne_eq, ↓beq_eq_false_iff_ne, ↓Bool.not_eq_true] at he; try simp only [Ty.dflt, Int.toNat_natCast] at he)
        have hm' : m < 2 * N := by omega
        have hsy := sayN_say hm'
        have h44 := fn44 m ⟨by omega, by omega⟩
        have h70 := fn70 N all ((k : Int) + 1) (sayN m) (by omega) (.inl ⟨by omega, by omega⟩) hsy hal (by omega)
        generalize sayN (m : Int) = sk at hgn hsy h44 h70 ⊢
        (repeat (first | refine zs rfl ?_ | refine zg rfl rfl rfl ?_ | refine zd ?_ | refine JK.fin ?_ | refine JK.ret ?_ | refine zc rfl (h44) rfl rfl ?_ | refine ze rfl (h44) rfl ?_ | refine zk rfl rfl (fun _ => h44) rfl rfl ?_ | refine zc rfl (h70) rfl rfl ?_ | refine ze rfl (h70) rfl ?_ | refine zk rfl rfl (fun _ => h70) rfl rfl ?_))
        refine JK.cond rfl (fun hf => ?_) (fun hf => ?_)
        · rw [if_pos hf] at hgn
          (repeat (first | refine zs rfl ?_ | refine zg rfl rfl rfl ?_ | refine zd ?_ | refine JK.fin ?_ | refine JK.ret ?_ | refine zc rfl (h44) rfl rfl ?_ | refine ze rfl (h44) rfl ?_ | refine zk rfl rfl (fun _ => h44) rfl rfl ?_))
          exact ⟨m + 1, by (refine JW.auto (by conv => lhs; reduce) ?_ ?_ ?_ ?_ rfl <;> (repeat' (first | exact trivial | exact rfl | refine And.intro ?_ ?_ | exact Nat.le_of_ble_eq_true rfl | refine HO.bdF ?_ | refine HO.bdP ?_ | (refine congrArg (fun z : Int => some (AV.val (.int .i64) z)) ?_; push_cast; omega) | exact congrArg (fun z : List Int => some (HO.sl 3 (.int .i64) z)) hgn.symm))), by omega, by omega⟩
        · rw [if_neg (by rw [hf]; simp), List.append_nil] at hgn
          (repeat (first | refine zs rfl ?_ | refine zg rfl rfl rfl ?_ | refine zd ?_ | refine JK.fin ?_ | refine JK.ret ?_))
          exact ⟨m + 1, by (refine JW.auto (by conv => lhs; reduce) ?_ ?_ ?_ ?_ rfl <;> (repeat' (first | exact trivial | exact rfl | refine And.intro ?_ ?_ | exact Nat.le_of_ble_eq_true rfl | refine HO.bdF ?_ | refine HO.bdP ?_ | (refine congrArg (fun z : Int => some (AV.val (.int .i64) z)) ?_; push_cast; omega) | exact congrArg (fun z : List Int => some (HO.sl 3 (.int .i64) z)) hgn.symm))), by omega, by omega⟩
      · (simp only [↓bif_or, ↓bif_and, ↓Bool.or_eq_true, ↓Bool.or_eq_false_iff, ↓Bool.and_eq_true, ↓Bool.and_eq_false_iff, ↓Bool.not_eq_true', ↓Bool.not_eq_false', ↓decide_eq_true_eq, ↓decide_eq_false_iff_not, ↓beq_iff_eq, ↓bne_iff_ne, ↓bne_eq_false_iff_eq, ↓ne_eq, ↓beq_eq_false_iff_ne, ↓Bool.not_eq_true] at he; try simp only [Ty.dflt, Int.toNat_natCast] at he)
        obtain rfl : m = 2 * N := by omega
        have hg2 := hge rfl
        have htb : tiedB all N k = decide (1 < gr.length ∧ gr.getD 0 0 = (k : Int) + 1) := by rw [tiedB, hg2]
        rw [htb, ← hg2] at htn
        clear hg2 hge hgn htb
        have s1 : ∀ h : wantB true (decide ((gr.length : Int) > 1)) = true, (0 : Int) < gr.length := fun h => by have : (1 : Int) < gr.length := (by simpa [wantB] using h); omega
        have s2 : ∀ h : wantB true (decide ((gr.length : Int) > 1)) = true, (0 : Int).toNat < gr.length := fun h => by have := s1 h; show 0 < gr.length; omega
        have s3 : -9223372036854775808 ≤ (k : Int) + 1 ∧ (k : Int) + 1 ≤ 9223372036854775807 := by omega
        (repeat (first | refine zs rfl ?_ | refine zd ?_))
        (repeat (first | refine zg rfl rfl rfl ?_ (hc := fun _ => trivial) | refine zg rfl rfl rfl ?_ (hc := fun h => h) | refine zg rfl rfl rfl ?_ (hc := fun h => ⟨h, Int.le_refl 0, s1 h⟩) | refine zg rfl rfl rfl ?_ (hc := fun h => ⟨h, s2 h⟩) | refine zg rfl rfl rfl ?_ (hc := fun h => ⟨h, s3⟩)))
        clear s1 s2 s3
        (repeat (first | refine zs rfl ?_ | refine zg rfl rfl rfl ?_ | refine zd ?_ | refine JK.fin ?_ | refine JK.ret ?_))
        have e0 : gr.getD (Int.toNat 0) 0 = gr.getD 0 0 := rfl
        refine JK.cond rfl (fun hf => ?_) (fun hf => ?_)
        · (simp only [↓bif_or, ↓bif_and, ↓Bool.or_eq_true, ↓Bool.or_eq_false_iff, ↓Bool.and_eq_true, ↓Bool.and_eq_false_iff, ↓Bool.not_eq_true', ↓Bool.not_eq_false', ↓decide_eq_true_eq, ↓decide_eq_false_iff_not, ↓beq_iff_eq, ↓bne_iff_ne, ↓bne_eq_false_iff_eq, ↓ne_eq, ↓beq_eq_false_iff_ne, ↓Bool.not_eq_true] at hf; try simp only [Ty.dflt, Int.toNat_natCast] at hf)
          rw [if_pos (decide_eq_true (by omega))] at htn
          (refine JK.frz [2] [1,4,5,6,7] rfl (by (first | exact trivial | (try dsimp only [allP, inK, idxC, loC, lohiC, fullC, underG, List.append, List.nil_append, List.cons_append, Ty.den, Ty.dflt, Int.toNat_natCast, List.length_cons, List.length_nil] at *); first | omega | ((repeat' (first | exact trivial | assumption | refine And.intro ?_ ?_ | exact fun h => h | (intro hpk; first | exact hpk | simp only [wantB, hpk, Bool.not_false, Bool.not_true]))) <;> omega) | fail)) ?_)
          (repeat (first | refine zs rfl ?_ | refine zg rfl rfl rfl ?_ | refine zd ?_ | refine JK.fin ?_ | refine JK.ret ?_))
          exact ⟨k + 1, by (refine JW.auto (by conv => lhs; reduce) ?_ ?_ ?_ ?_ rfl <;> (repeat' (first | exact trivial | exact rfl | refine And.intro ?_ ?_ | exact Nat.le_of_ble_eq_true rfl | refine HO.bdF ?_ | refine HO.bdP ?_ | (refine congrArg (fun z : Int => some (AV.val (.int .i64) z)) ?_; push_cast; omega) | exact congrArg (fun z : List (List Int) => some (HO.sl 35 (.slice (.int .i64)) z)) htn.symm))), by omega, by omega⟩
        · (simp only [↓bif_or, ↓bif_and, ↓Bool.or_eq_true, ↓Bool.or_eq_false_iff, ↓Bool.and_eq_true, ↓Bool.and_eq_false_iff, ↓Bool.not_eq_true', ↓Bool.not_eq_false', ↓decide_eq_true_eq, ↓decide_eq_false_iff_not, ↓beq_iff_eq, ↓bne_iff_ne, ↓bne_eq_false_iff_eq, ↓ne_eq, ↓beq_eq_false_iff_ne, ↓Bool.not_eq_true] at hf; try simp only [Ty.dflt, Int.toNat_natCast] at hf)
          rw [if_neg (by rw [decide_eq_true_eq]; omega), List.append_nil] at htn
          (repeat (first | refine zs rfl ?_ | refine zg rfl rfl rfl ?_ | refine zd ?_ | refine JK.fin ?_ | refine JK.ret ?_))
          exact ⟨k + 1, by (refine JW.auto (by conv => lhs; reduce) ?_ ?_ ?_ ?_ rfl <;> (repeat' (first | exact trivial | exact rfl | refine And.intro ?_ ?_ | exact Nat.le_of_ble_eq_true rfl | refine HO.bdF ?_ | refine HO.bdP ?_ | (refine congrArg (fun z : Int => some (AV.val (.int .i64) z)) ?_; push_cast; omega) | exact congrArg (fun z : List (List Int) => some (HO.sl 35 (.slice (.int .i64)) z)) htn.symm))), by omega, by omega⟩
    · (simp only [↓bif_or, ↓bif_and, ↓Bool.or_eq_true, ↓Bool.or_eq_false_iff, ↓Bool.and_eq_true, ↓Bool.and_eq_false_iff, ↓Bool.not_eq_true', ↓Bool.not_eq_false', ↓decide_eq_true_eq, ↓decide_eq_false_iff_not, ↓beq_iff_eq, ↓bne_iff_ne, ↓bne_eq_false_iff_eq, ↓ne_eq, ↓beq_eq_false_iff_ne, ↓Bool.not_eq_true] at hd; try simp only [Ty.dflt, Int.toNat_natCast] at hd)
      obtain rfl : k = N := by omega
      (repeat (first | refine zs rfl ?_ | refine zg rfl rfl rfl ?_ | refine zd ?_ | refine JK.fin ?_ | refine JK.ret ?_))
      refine ⟨.inl rfl, _, _, rfl, trivial, ?_⟩
      rw [hend rfl]
def isIn (all : List (List Int)) (x : evD) : Nat := (all.filter fun t => holdsR t x.1 || holdsR t x.2.1).length
theorem isIn_snoc (all : List (List Int)) (t : List Int) (x : evD) : isIn (all ++ [t]) x = isIn all x + if (holdsR t x.1 || holdsR t x.2.1) = true then 1 else 0 := by
  unfold isIn
  rw [List.filter_append, List.length_append]
  by_cases h : (holdsR t x.1 || holdsR t x.2.1) = true
  · rw [if_pos h]; simp only [List.filter_cons, h, if_true, List.filter_nil]; rfl
  · rw [if_neg h]; simp only [List.filter_cons, h, List.filter_nil]; rfl
def tellsS (all : List (List Int)) (x : evD) : Int := if isIn all x = all.length then 0 else if isIn all x = 0 then 2 else 1
def tellsR (n : Int) (ev : List evD) (x : evD) : Int × Int :=
  if caseErr n ev ≠ 0 then (0, caseErr n ev) else if ¬ (sayB n x.1 && sayB n x.2.1) = true then (0, 3) else if needErr n ev ≠ 0 then (0, needErr n ev) else (tellsS (trL ev n.toNat) x, 0)
set_option maxRecDepth 8000 in
theorem fn34 (n : Int) (ev : List evD) (x : evD) : Ox.Fn Go.Proofs.Try.prog 34 (.acons (vC n ev) (.acons (vE x) .anil)) (· = vT2 (tellsR n ev x).1 (tellsR n ev x).2) := by
  refine Ox.Fn.intro xok Go.Proofs.Try.func34 rfl Go.Proofs.Try.call34 (Nat.le_of_ble_eq_true rfl) (fun E M0 up => ?_)
  refine JK.start ?_
  (repeat (first | refine zs rfl ?_ | refine zg rfl rfl rfl ?_ | refine zd ?_ | refine JK.fin ?_ | refine JK.ret ?_ | refine zc rfl (fn57 n ev) rfl rfl ?_ | refine ze rfl (fn57 n ev) rfl ?_ | refine zk rfl rfl (fun _ => fn57 n ev) rfl rfl ?_))
  refine JK.cond rfl (fun hc => ?_) (fun hc => ?_)
  · (simp only [↓bif_or, ↓bif_and, ↓Bool.or_eq_true, ↓Bool.or_eq_false_iff, ↓Bool.and_eq_true, ↓Bool.and_eq_false_iff, ↓Bool.not_eq_true', ↓Bool.not_eq_false', ↓decide_eq_true_eq, ↓decide_eq_false_iff_not, ↓beq_iff_eq, ↓bne_iff_ne, ↓bne_eq_false_iff_eq, ↓ne_eq, ↓beq_eq_false_iff_ne, ↓Bool.not_eq_true] at hc; try simp only [Ty.dflt, Int.toNat_natCast] at hc)
    (repeat (first | refine zs rfl ?_ | refine zg rfl rfl rfl ?_ | refine zd ?_ | refine JK.fin ?_ | refine JK.ret ?_ | refine zc rfl (fn57 n ev) rfl rfl ?_ | refine ze rfl (fn57 n ev) rfl ?_ | refine zk rfl rfl (fun _ => fn57 n ev) rfl rfl ?_))
    refine ⟨.inl rfl, _, _, rfl, trivial, ?_⟩
    rw [tellsR, if_pos hc]
  · (simp only [↓bif_or, ↓bif_and, ↓Bool.or_eq_true, ↓Bool.or_eq_false_iff, ↓Bool.and_eq_true, ↓Bool.and_eq_false_iff, ↓Bool.not_eq_true', ↓Bool.not_eq_false', ↓decide_eq_true_eq, ↓decide_eq_false_iff_not, ↓beq_iff_eq, ↓bne_iff_ne, ↓bne_eq_false_iff_eq, ↓ne_eq, ↓beq_eq_false_iff_ne, ↓Bool.not_eq_true] at hc; try simp only [Ty.dflt, Int.toNat_natCast] at hc)
    have h0 : caseErr n ev = 0 := by omega
    have hok := case_ok h0
    (repeat (first | refine zs rfl ?_ | refine zg rfl rfl rfl ?_ | refine zd ?_ | refine JK.fin ?_ | refine JK.ret ?_ | refine zc rfl (fn50 n x.1 ⟨by omega, by omega⟩) rfl rfl ?_ | refine ze rfl (fn50 n x.1 ⟨by omega, by omega⟩) rfl ?_ | refine zk rfl rfl (fun _ => fn50 n x.1 ⟨by omega, by omega⟩) rfl rfl ?_ | refine zc rfl (fn50 n x.2.1 ⟨by omega, by omega⟩) rfl rfl ?_ | refine ze rfl (fn50 n x.2.1 ⟨by omega, by omega⟩) rfl ?_ | refine zk rfl rfl (fun _ => fn50 n x.2.1 ⟨by omega, by omega⟩) rfl rfl ?_))
    refine JK.cond rfl (fun hd => ?_) (fun hd => ?_)
    · have hd' : ¬ (sayB n x.1 && sayB n x.2.1) = true := by revert hd; cases sayB n x.1 <;> cases sayB n x.2.1 <;> simp
      (repeat (first | refine zs rfl ?_ | refine zg rfl rfl rfl ?_ | refine zd ?_ | refine JK.fin ?_ | refine JK.ret ?_))
      refine ⟨.inl rfl, _, _, rfl, trivial, ?_⟩
      rw [tellsR, if_neg (by omega), if_pos hd']
    · have hd' : (sayB n x.1 && sayB n x.2.1) = true := by revert hd; cases sayB n x.1 <;> cases sayB n x.2.1 <;> simp
      (repeat (first | refine zs rfl ?_ | refine zg rfl rfl rfl ?_ | refine zd ?_ | refine JK.fin ?_ | refine JK.ret ?_ | refine zc rfl (fn65 n ev) rfl rfl ?_ | refine ze rfl (fn65 n ev) rfl ?_ | refine zk rfl rfl (fun _ => fn65 n ev) rfl rfl ?_))
      refine JK.cond rfl (fun he => ?_) (fun he => ?_)
      · (simp only [↓bif_or, ↓bif_and, ↓Bool.or_eq_true, ↓Bool.or_eq_false_iff, ↓Bool.and_eq_true, ↓Bool.and_eq_false_iff, ↓Bool.not_eq_true', ↓Bool.not_eq_false', ↓decide_eq_true_eq, ↓decide_eq_false_iff_not, ↓beq_iff_eq, ↓bne_iff_ne, ↓bne_eq_false_iff_eq, ↓ne_eq, ↓beq_eq_false_iff_ne, ↓Bool.not_eq_true] at he; try simp only [Ty.dflt, Int.toNat_natCast] at he)
        (repeat (first | refine zs rfl ?_ | refine zg rfl rfl rfl ?_ | refine zd ?_ | refine JK.fin ?_ | refine JK.ret ?_ | refine zc rfl (fn65 n ev) rfl rfl ?_ | refine ze rfl (fn65 n ev) rfl ?_ | refine zk rfl rfl (fun _ => fn65 n ev) rfl rfl ?_))
        refine ⟨.inl rfl, _, _, rfl, trivial, ?_⟩
        rw [tellsR, if_neg (by omega), if_neg (by simp [hd']), if_pos he]
      · (simp only [↓bif_or, ↓bif_and, ↓Bool.or_eq_true, ↓Bool.or_eq_false_iff, ↓Bool.and_eq_true, ↓Bool.and_eq_false_iff, ↓Bool.not_eq_true', ↓Bool.not_eq_false', ↓decide_eq_true_eq, ↓decide_eq_false_iff_not, ↓beq_iff_eq, ↓bne_iff_ne, ↓bne_eq_false_iff_eq, ↓ne_eq, ↓beq_eq_false_iff_ne, ↓Bool.not_eq_true] at he; try simp only [Ty.dflt, Int.toNat_natCast] at he)
        obtain ⟨N, rfl⟩ : ∃ N : Nat, n = N := ⟨n.toNat, by omega⟩
        rw [Int.toNat_natCast] at hok
        have hl := trL_len ev (n := N) (by omega)
        have h67 := fn67 N ev (by omega) (by omega) hok.2.2.1 hok.2.2.2
        have hk : tellsR N ev x = (tellsS (trL ev N) x, 0) := by rw [tellsR, if_neg (by omega), if_neg (by simp [hd']), if_neg (by omega), Int.toNat_natCast]
        rw [hk]
        have hal : ∀ t ∈ trL ev N, t.length = N := trL_len_of
        generalize trL ev N = all at hl h67 hal ⊢
        rw [Bool.and_eq_true, sayB_isSay, sayB_isSay] at hd'
        (repeat (first | refine zs rfl ?_ | refine zg rfl rfl rfl ?_ | refine zd ?_ | refine JK.fin ?_ | refine JK.ret ?_ | refine zc rfl (h67) rfl rfl ?_ | refine ze rfl (h67) rfl ?_ | refine zk rfl rfl (fun _ => h67) rfl rfl ?_))
        refine JK.loop (fun i : Nat => ⟨[(3, .lf (.optr 1 [])), (6, vLL all), (7, vI (isIn (all.take i) x)), (8, vI (i : Int))], [(1, .cell evT (vE x))], 2⟩) (fun i => i ≤ all.length) (fun i => all.length - i) 0 (Nat.zero_le _) (by (exact JW.Auto (by conv => lhs; reduce))) fun i hi => ?_
        have hb : isIn (all.take i) x ≤ 4096 := by
          have := List.length_filter_le (fun t => holdsR t x.1 || holdsR t x.2.1) (all.take i)
          rw [List.length_take] at this; unfold isIn; omega
        (repeat (first | refine zs rfl ?_ | refine zg rfl rfl rfl ?_ | refine zd ?_ | refine JK.fin ?_ | refine JK.ret ?_))
        refine JK.cond rfl (fun hf => ?_) (fun hf => ?_)
        · (simp only [↓bif_or, ↓bif_and, ↓Bool.or_eq_true, ↓Bool.or_eq_false_iff, ↓Bool.and_eq_true, ↓Bool.and_eq_false_iff, ↓Bool.not_eq_true', ↓Bool.not_eq_false', ↓decide_eq_true_eq, ↓decide_eq_false_iff_not, ↓beq_iff_eq, ↓bne_iff_ne, ↓bne_eq_false_iff_eq, ↓ne_eq, ↓beq_eq_false_iff_ne, ↓Bool.not_eq_true] at hf; try simp only [Ty.dflt, Int.toNat_natCast] at hf)
          have hi' : i < all.length := by omega
          have et : all.getD ((i : Int)).toNat (Ty.dflt (.slice (.int .i64))) = all[i] := getD_nat all hi' _
          have hln : (all.getD ((i : Int)).toNat (Ty.dflt (.slice (.int .i64)))).length = N := by rw [et]; exact hal _ (List.getElem_mem hi')
          have hnx : isIn (all.take (i + 1)) x = isIn (all.take i) x + if (holdsR (all.getD ((i : Int)).toNat (Ty.dflt (.slice (.int .i64)))) x.1 || holdsR (all.getD ((i : Int)).toNat (Ty.dflt (.slice (.int .i64)))) x.2.1) = true then 1 else 0 := by
            rw [et, List.take_succ, List.getElem?_eq_getElem hi']; exact isIn_snoc _ _ _
          have h71 := fn71 (all.getD ((i : Int)).toNat (Ty.dflt (.slice (.int .i64)))) x (by rw [hln]; exact hd'.1) (by rw [hln]; exact hd'.2) (by omega)
          generalize (holdsR (all.getD ((i : Int)).toNat (Ty.dflt (.slice (.int .i64)))) x.1 || holdsR (all.getD ((i : Int)).toNat (Ty.dflt (.slice (.int .i64)))) x.2.1) = b at hnx h71
          (repeat (first | refine zs rfl ?_ | refine zg rfl rfl rfl ?_ | refine zd ?_ | refine JK.fin ?_ | refine JK.ret ?_ | refine zc rfl (h71) rfl rfl ?_ | refine ze rfl (h71) rfl ?_ | refine zk rfl rfl (fun _ => h71) rfl rfl ?_))
          refine JK.cond rfl (fun hg => ?_) (fun hg => ?_)
          · rw [if_pos hg] at hnx
            (repeat (first | refine zs rfl ?_ | refine zg rfl rfl rfl ?_ | refine zd ?_ | refine JK.fin ?_ | refine JK.ret ?_))
            refine ⟨i + 1, ?_, by omega, by omega⟩
            rw [hnx]
            (exact JW.Auto (by conv => lhs; reduce))
          · rw [if_neg (by simp [hg])] at hnx
            (repeat (first | refine zs rfl ?_ | refine zg rfl rfl rfl ?_ | refine zd ?_ | refine JK.fin ?_ | refine JK.ret ?_))
            refine ⟨i + 1, ?_, by omega, by omega⟩
            rw [hnx]
            (exact JW.Auto (by conv => lhs; reduce))
        · (simp only [↓bif_or, ↓bif_and, ↓Bool.or_eq_true, ↓Bool.or_eq_false_iff, ↓Bool.and_eq_true, ↓Bool.and_eq_false_iff, ↓Bool.not_eq_true', ↓Bool.not_eq_false', ↓decide_eq_true_eq, ↓decide_eq_false_iff_not, ↓beq_iff_eq, ↓bne_iff_ne, ↓bne_eq_false_iff_eq, ↓ne_eq, ↓beq_eq_false_iff_ne, ↓Bool.not_eq_true] at hf; try simp only [Ty.dflt, Int.toNat_natCast] at hf)
          obtain rfl : i = all.length := by omega
          rw [List.take_length]
          (repeat (first | refine zs rfl ?_ | refine zg rfl rfl rfl ?_ | refine zd ?_ | refine JK.fin ?_ | refine JK.ret ?_))
          refine JK.cond rfl (fun hg => ?_) (fun hg => ?_)
          · (simp only [↓bif_or, ↓bif_and, ↓Bool.or_eq_true, ↓Bool.or_eq_false_iff, ↓Bool.and_eq_true, ↓Bool.and_eq_false_iff, ↓Bool.not_eq_true', ↓Bool.not_eq_false', ↓decide_eq_true_eq, ↓decide_eq_false_iff_not, ↓beq_iff_eq, ↓bne_iff_ne, ↓bne_eq_false_iff_eq, ↓ne_eq, ↓beq_eq_false_iff_ne, ↓Bool.not_eq_true] at hg; try simp only [Ty.dflt, Int.toNat_natCast] at hg)
            (repeat (first | refine zs rfl ?_ | refine zg rfl rfl rfl ?_ | refine zd ?_ | refine JK.fin ?_ | refine JK.ret ?_))
            refine ⟨.inl rfl, _, _, rfl, trivial, ?_⟩
            rw [tellsS, if_pos (by omega)]
          · (simp only [↓bif_or, ↓bif_and, ↓Bool.or_eq_true, ↓Bool.or_eq_false_iff, ↓Bool.and_eq_true, ↓Bool.and_eq_false_iff, ↓Bool.not_eq_true', ↓Bool.not_eq_false', ↓decide_eq_true_eq, ↓decide_eq_false_iff_not, ↓beq_iff_eq, ↓bne_iff_ne, ↓bne_eq_false_iff_eq, ↓ne_eq, ↓beq_eq_false_iff_ne, ↓Bool.not_eq_true] at hg; try simp only [Ty.dflt, Int.toNat_natCast] at hg)
            (repeat (first | refine zs rfl ?_ | refine zg rfl rfl rfl ?_ | refine zd ?_ | refine JK.fin ?_ | refine JK.ret ?_))
            refine JK.cond rfl (fun hh => ?_) (fun hh => ?_)
            · (simp only [↓bif_or, ↓bif_and, ↓Bool.or_eq_true, ↓Bool.or_eq_false_iff, ↓Bool.and_eq_true, ↓Bool.and_eq_false_iff, ↓Bool.not_eq_true', ↓Bool.not_eq_false', ↓decide_eq_true_eq, ↓decide_eq_false_iff_not, ↓beq_iff_eq, ↓bne_iff_ne, ↓bne_eq_false_iff_eq, ↓ne_eq, ↓beq_eq_false_iff_ne, ↓Bool.not_eq_true] at hh; try simp only [Ty.dflt, Int.toNat_natCast] at hh)
              (repeat (first | refine zs rfl ?_ | refine zg rfl rfl rfl ?_ | refine zd ?_ | refine JK.fin ?_ | refine JK.ret ?_))
              refine ⟨.inl rfl, _, _, rfl, trivial, ?_⟩
              rw [tellsS, if_neg (by omega), if_pos (by omega)]
            · (simp only [↓bif_or, ↓bif_and, ↓Bool.or_eq_true, ↓Bool.or_eq_false_iff, ↓Bool.and_eq_true, ↓Bool.and_eq_false_iff, ↓Bool.not_eq_true', ↓Bool.not_eq_false', ↓decide_eq_true_eq, ↓decide_eq_false_iff_not, ↓beq_iff_eq, ↓bne_iff_ne, ↓bne_eq_false_iff_eq, ↓ne_eq, ↓beq_eq_false_iff_ne, ↓Bool.not_eq_true] at hh; try simp only [Ty.dflt, Int.toNat_natCast] at hh)
              (repeat (first | refine zs rfl ?_ | refine zg rfl rfl rfl ?_ | refine zd ?_ | refine JK.fin ?_ | refine JK.ret ?_))
              refine ⟨.inl rfl, _, _, rfl, trivial, ?_⟩
              rw [tellsS, if_neg (by omega), if_neg (by omega)]
end Go.Proofs.Ytdmfofjaknngnaa

namespace Go.Proofs.Ytdmfofjaknngnaa
open Go Go.RowKit Ox Ox.Two
attribute [local irreducible] JC JL JK JW

def askW (all : List (List Int)) (k : Nat) : Int := Max.max (manyS all ((k : Int) + 1) : Int) ((all.length : Int) - (manyS all ((k : Int) + 1) : Int))
def askF (all : List (List Int)) : Nat → Int × Int
  | 0 => (0, (all.length : Int) + 1)
  | k + 1 => if askW all k < (askF all k).2 then ((k : Int), askW all k) else askF all k
theorem fn36 (n : Int) (ev : List evD) : Ox.Fn Go.Proofs.Try.prog 36 (.acons (vC n ev) .anil) (· = vT3 (if needErr n ev ≠ 0 then 0 else (askF (trL ev n.toNat) n.toNat).1) (if needErr n ev ≠ 0 then 0 else (askF (trL ev n.toNat) n.toNat).2) (needErr n ev)) := by
  refine Ox.Fn.intro xok Go.Proofs.Try.func36 rfl Go.Proofs.Try.call36 (Nat.le_of_ble_eq_true rfl) (fun E M0 up => ?_)
  refine JK.start ?_
  (repeat (first | refine zs rfl ?_ | refine zg rfl rfl rfl ?_ | refine zd ?_ | refine JK.fin ?_ | refine JK.ret ?_ | refine zc rfl (fn65 n ev) rfl rfl ?_ | refine ze rfl (fn65 n ev) rfl ?_ | refine zk rfl rfl (fun _ => fn65 n ev) rfl rfl ?_))
  refine JK.cond rfl (fun hc => ?_) (fun hc => ?_)
  · (simp only [↓bif_or, ↓bif_and, ↓Bool.or_eq_true, ↓Bool.or_eq_false_iff, ↓Bool.and_eq_true, ↓Bool.and_eq_false_iff, ↓Bool.not_eq_true', ↓Bool.not_eq_false', ↓decide_eq_true_eq, ↓decide_eq_false_iff_not, ↓beq_iff_eq, ↓bne_iff_ne, ↓bne_eq_false_iff_eq, ↓ne_eq, ↓beq_eq_false_iff_ne, ↓Bool.not_eq_true] at hc; try simp only [Ty.dflt, Int.toNat_natCast] at hc)
    (repeat (first | refine zs rfl ?_ | refine zg rfl rfl rfl ?_ | refine zd ?_ | refine JK.fin ?_ | refine JK.ret ?_ | refine zc rfl (fn65 n ev) rfl rfl ?_ | refine ze rfl (fn65 n ev) rfl ?_ | refine zk rfl rfl (fun _ => fn65 n ev) rfl rfl ?_))
    refine ⟨.inl rfl, _, _, rfl, trivial, ?_⟩
    rw [if_pos hc, if_pos hc]
  · (simp only [↓bif_or, ↓bif_and, ↓Bool.or_eq_true, ↓Bool.or_eq_false_iff, ↓Bool.and_eq_true, ↓Bool.and_eq_false_iff, ↓Bool.not_eq_true', ↓Bool.not_eq_false', ↓decide_eq_true_eq, ↓decide_eq_false_iff_not, ↓beq_iff_eq, ↓bne_iff_ne, ↓bne_eq_false_iff_eq, ↓ne_eq, ↓beq_eq_false_iff_ne, ↓Bool.not_eq_true] at hc; try simp only [Ty.dflt, Int.toNat_natCast] at hc)
    have h0 : caseErr n ev = 0 := by by_cases h : caseErr n ev = 0; exact h; exact absurd (by rw [needErr, if_pos h] : needErr n ev = caseErr n ev) (by omega)
    have hok := case_ok h0
    have hne : needErr n ev = 0 := by omega
    obtain ⟨N, rfl⟩ : ∃ N : Nat, n = N := ⟨n.toNat, by omega⟩
    rw [Int.toNat_natCast] at hok ⊢
    rw [if_neg (by omega), if_neg (by omega), hne]
    have hl := trL_len ev (n := N) (by omega)
    have h67 := fn67 N ev (by omega) (by omega) hok.2.2.1 hok.2.2.2
    have hal : ∀ t ∈ trL ev N, t.length = N := trL_len_of
    generalize trL ev N = all at hl h67 hal ⊢
    (repeat (first | refine zs rfl ?_ | refine zg rfl rfl rfl ?_ | refine zd ?_ | refine JK.fin ?_ | refine JK.ret ?_ | refine zc rfl (h67) rfl rfl ?_ | refine ze rfl (h67) rfl ?_ | refine zk rfl rfl (fun _ => h67) rfl rfl ?_))
    refine JK.loop (fun k : Nat => ⟨[(1, .lf (.optr 0 [])), (5, vLL all), (6, vI (askF all k).1), (7, vI (askF all k).2), (8, vI (k : Int))], [(0, .cell caT (vC N ev))], 1⟩) (fun k => k ≤ N) (fun k => N - k) 0 (Nat.zero_le _) (by (exact JW.Auto (by conv => lhs; reduce))) fun k hk => ?_
    have hend : k = N → askF all k = askF all N := fun e => by rw [e]
    have hnx : askF all (k + 1) = if askW all k < (askF all k).2 then ((k : Int), askW all k) else askF all k := rfl
    generalize askF all k = af at hend hnx ⊢
    obtain ⟨a1, a2⟩ := af
    (repeat (first | refine zs rfl ?_ | refine zg rfl rfl rfl ?_ | refine zd ?_ | refine JK.fin ?_ | refine JK.ret ?_))
    refine JK.cond rfl (fun hd => ?_) (fun hd => ?_)
    · (simp only [↓bif_or, ↓bif_and, ↓Bool.or_eq_true, ↓Bool.or_eq_false_iff, ↓Bool.and_eq_true, ↓Bool.and_eq_false_iff, ↓Bool.not_eq_true', ↓Bool.not_eq_false', ↓decide_eq_true_eq, ↓decide_eq_false_iff_not, ↓beq_iff_eq, ↓bne_iff_ne, ↓bne_eq_false_iff_eq, ↓ne_eq, ↓beq_eq_false_iff_ne, ↓Bool.not_eq_true] at hd; try simp only [Ty.dflt, Int.toNat_natCast] at hd)
      have hm1 := manyS_le all ((k : Int) + 1)
      have h75 := fn75 N all ((k : Int) + 1) (by omega) (.inl ⟨by omega, by omega⟩) hal (by omega)
      unfold askW at hnx
      generalize manyS all ((k : Int) + 1) = mm at hm1 h75 hnx ⊢
      (repeat (first | refine zs rfl ?_ | refine zg rfl rfl rfl ?_ | refine zd ?_ | refine JK.fin ?_ | refine JK.ret ?_ | refine zc rfl (h75) rfl rfl ?_ | refine ze rfl (h75) rfl ?_ | refine zk rfl rfl (fun _ => h75) rfl rfl ?_))
      refine JK.cond rfl (fun hf => ?_) (fun hf => ?_)
      · have hf' := of_decide_eq_true hf
        rw [if_pos hf'] at hnx
        (repeat (first | refine zs rfl ?_ | refine zg rfl rfl rfl ?_ | refine zd ?_ | refine JK.fin ?_ | refine JK.ret ?_))
        refine ⟨k + 1, ?_, by omega, by omega⟩
        rw [hnx]
        (exact JW.Auto (by conv => lhs; reduce))
      · have hf' := of_decide_eq_false hf
        rw [if_neg hf'] at hnx
        (repeat (first | refine zs rfl ?_ | refine zg rfl rfl rfl ?_ | refine zd ?_ | refine JK.fin ?_ | refine JK.ret ?_))
        refine ⟨k + 1, ?_, by omega, by omega⟩
        rw [hnx]
        (exact JW.Auto (by conv => lhs; reduce))
    · (simp only [↓bif_or, ↓bif_and, ↓Bool.or_eq_true, ↓Bool.or_eq_false_iff, ↓Bool.and_eq_true, ↓Bool.and_eq_false_iff, ↓Bool.not_eq_true', ↓Bool.not_eq_false', ↓decide_eq_true_eq, ↓decide_eq_false_iff_not, ↓beq_iff_eq, ↓bne_iff_ne, ↓bne_eq_false_iff_eq, ↓ne_eq, ↓beq_eq_false_iff_ne, ↓Bool.not_eq_true] at hd; try simp only [Ty.dflt, Int.toNat_natCast] at hd)
      obtain rfl : k = N := by omega
      (repeat (first | refine zs rfl ?_ | refine zg rfl rfl rfl ?_ | refine zd ?_ | refine JK.fin ?_ | refine JK.ret ?_))
      refine ⟨.inl rfl, _, _, rfl, trivial, ?_⟩
      rw [← hend rfl]
theorem farR_snoc (k : Int) (x : evD) : ∀ (l : List evD) (o : List Int), farR k (l ++ [x]) o = farX k (farR k l o) x
  | [], o => rfl
  | y :: l, o => by rw [List.cons_append, farR, farR, farR_snoc]
theorem farU_len (k : Int) (o : List Int) (p q : Nat) : (farU k o p q).length = o.length := by unfold farU; split <;> simp
theorem farR_len (k : Int) : ∀ (l : List evD) (o : List Int), (farR k l o).length = o.length
  | [], _ => rfl
  | x :: l, o => by rw [farR, farR_len, farX, farU_len, farU_len]
theorem farN_len (ev : List evD) (o : List Int) : ∀ m, (farN ev m o).length = o.length
  | 0 => rfl
  | m + 1 => by rw [farN, farR_len, farN_len]
theorem keyI_bd {n : Nat} {s : Int} (h : isSay n s) : 0 ≤ keyI s ∧ keyI s < 2 * n := by
  unfold keyI isSay at *; split <;> omega
set_option maxHeartbeats 2000000 in
theorem fn22 (n : Nat) (ev : List evD) (a : Int) (h1 : 1 ≤ n) (h2 : n ≤ 12) (h3 : ev.length ≤ 40) (hv : valid n ev) (ha : isSay n a) : Ox.Fn Go.Proofs.Try.prog 22 (.acons (vC n ev) (.acons (vI a) .anil)) (· = vL (farS ev n a)) := by
  refine Ox.Fn.intro xok Go.Proofs.Try.func22 rfl Go.Proofs.Try.call22 (Nat.le_of_ble_eq_true rfl) (fun E M0 up => ?_)
  refine JK.start ?_
  have hab : -1000 ≤ a ∧ a ≤ 1000 := by unfold isSay at ha; omega
  have hka := keyI_bd ha
  (repeat (first | refine zs rfl ?_ | refine zg rfl rfl rfl ?_ | refine zd ?_ | refine JK.fin ?_ | refine JK.ret ?_))
  refine JK.loop (fun i : Nat => ⟨[(1, vI a), (2, .lf (.optr 0 [])), (5, .lf (.osl 1)), (6, vI (i : Int))], [(0, .cell caT (vC n ev)), (1, .sl 3 (.int .i64) (List.replicate i (-1) ++ List.replicate (2 * n - i) 0))], 2⟩) (fun i => i ≤ 2 * n) (fun i => 2 * n - i) 0 (Nat.zero_le _) (by (refine JW.auto (by conv => lhs; reduce) ?_ ?_ ?_ ?_ rfl <;> (repeat' (first | exact trivial | exact rfl | refine And.intro ?_ ?_ | exact Nat.le_of_ble_eq_true rfl | refine HO.bdF ?_ | refine HO.bdP ?_ | (refine congrArg (fun z : Int => some (AV.val (.int .i64) z)) ?_; push_cast; omega) | (refine congrArg (fun z : List Int => some (HO.sl 3 (.int .i64) z)) ?_; show List.replicate (2 * (n : Int)).toNat 0 = List.replicate (2 * n - 0) 0; rw [show (2 * (n : Int)).toNat = 2 * n - 0 by omega]))))) fun i hi => ?_
  have hil : (List.replicate i (-1 : Int) ++ List.replicate (2 * n - i) 0).length = 2 * n := by simp; omega
  have his : i < 2 * n → (List.replicate i (-1 : Int) ++ List.replicate (2 * n - i) 0).set i (-1) = List.replicate (i + 1) (-1) ++ List.replicate (2 * n - (i + 1)) 0 := fun h => by
    rw [List.set_append_right _ _ (by simp), List.length_replicate, Nat.sub_self, show 2 * n - i = (2 * n - (i + 1)) + 1 by omega, List.replicate_succ, List.set_cons_zero, List.replicate_succ']
    simp
  have hie : i = 2 * n → (List.replicate i (-1 : Int) ++ List.replicate (2 * n - i) 0) = List.replicate (2 * n) (-1) := fun h => by rw [h]; simp
  generalize (List.replicate i (-1 : Int) ++ List.replicate (2 * n - i) 0) = o at hil his hie ⊢
  (repeat (first | refine zs rfl ?_ | refine zg rfl rfl rfl ?_ | refine zd ?_ | refine JK.fin ?_ | refine JK.ret ?_))
  refine JK.cond rfl (fun hd => ?_) (fun hd => ?_)
  · (simp only [↓bif_or, ↓bif_and, ↓Bool.or_eq_true, ↓Bool.or_eq_false_iff, ↓Bool.and_eq_true, ↓Bool.and_eq_false_iff, ↓Bool.not_eq_true', ↓Bool.not_eq_false', ↓decide_eq_true_eq, ↓decide_eq_false_iff_not, ↓beq_iff_eq, ↓bne_iff_ne, ↓bne_eq_false_iff_eq, ↓ne_eq, ↓beq_eq_false_iff_ne, ↓Bool.not_eq_true] at hd; try simp only [Ty.dflt, Int.toNat_natCast] at hd)
    have hi' : i < 2 * n := by omega
    (repeat (first | refine zs rfl ?_ | refine zg rfl rfl rfl ?_ | refine zd ?_ | refine JK.fin ?_ | refine JK.ret ?_))
    exact ⟨i + 1, by (refine JW.auto (by conv => lhs; reduce) ?_ ?_ ?_ ?_ rfl <;> (repeat' (first | exact trivial | exact rfl | refine And.intro ?_ ?_ | exact Nat.le_of_ble_eq_true rfl | refine HO.bdF ?_ | refine HO.bdP ?_ | (refine congrArg (fun z : Int => some (AV.val (.int .i64) z)) ?_; push_cast; omega) | exact congrArg (fun z : List Int => some (HO.sl 3 (.int .i64) z)) (his hi')))), by omega, by omega⟩
  · (simp only [↓bif_or, ↓bif_and, ↓Bool.or_eq_true, ↓Bool.or_eq_false_iff, ↓Bool.and_eq_true, ↓Bool.and_eq_false_iff, ↓Bool.not_eq_true', ↓Bool.not_eq_false', ↓decide_eq_true_eq, ↓decide_eq_false_iff_not, ↓beq_iff_eq, ↓bne_iff_ne, ↓bne_eq_false_iff_eq, ↓ne_eq, ↓beq_eq_false_iff_ne, ↓Bool.not_eq_true] at hd; try simp only [Ty.dflt, Int.toNat_natCast] at hd)
    obtain rfl : i = 2 * n := by omega
    obtain rfl := hie rfl
    (repeat (first | refine zs rfl ?_ | refine zg rfl rfl rfl ?_ | refine zd ?_ | refine JK.fin ?_ | refine JK.ret ?_ | refine zc rfl (fn23 a hab) rfl rfl ?_ | refine ze rfl (fn23 a hab) rfl ?_ | refine zk rfl rfl (fun _ => fn23 a hab) rfl rfl ?_))
    refine JK.loop (fun k : Nat => ⟨[(2, .lf (.optr 0 [])), (5, .lf (.osl 1)), (7, vI (k : Int))], [(0, .cell caT (vC n ev)), (1, .sl 3 (.int .i64) (farN ev k ((List.replicate (2 * n) (-1)).set (key a) 0)))], 2⟩) (fun k => k ≤ 2 * n) (fun k => 2 * n - k) 0 (Nat.zero_le _) (by (exact JW.Auto (by conv => lhs; reduce))) fun k hk => ?_
    have hkl : (farN ev k ((List.replicate (2 * n) (-1)).set (key a) 0)).length = 2 * n := by rw [farN_len]; simp
    have hkn : farN ev (k + 1) ((List.replicate (2 * n) (-1)).set (key a) 0) = farR k ev (farN ev k ((List.replicate (2 * n) (-1)).set (key a) 0)) := rfl
    have hke : k = 2 * n → farN ev k ((List.replicate (2 * n) (-1)).set (key a) 0) = farS ev n a := fun e => by rw [e]; rfl
    generalize farN ev k ((List.replicate (2 * n) (-1)).set (key a) 0) = o at hkl hkn hke ⊢
    (repeat (first | refine zs rfl ?_ | refine zg rfl rfl rfl ?_ | refine zd ?_ | refine JK.fin ?_ | refine JK.ret ?_))
    refine JK.cond rfl (fun he => ?_) (fun he => ?_)
    · (simp only [↓bif_or, ↓bif_and, ↓Bool.or_eq_true, ↓Bool.or_eq_false_iff, ↓Bool.and_eq_true, ↓Bool.and_eq_false_iff, ↓Bool.not_eq_true', ↓Bool.not_eq_false', ↓decide_eq_true_eq, ↓decide_eq_false_iff_not, ↓beq_iff_eq, ↓bne_iff_ne, ↓bne_eq_false_iff_eq, ↓ne_eq, ↓beq_eq_false_iff_ne, ↓Bool.not_eq_true] at he; try simp only [Ty.dflt, Int.toNat_natCast] at he)
      (repeat (first | refine zs rfl ?_ | refine zg rfl rfl rfl ?_ | refine zd ?_ | refine JK.fin ?_ | refine JK.ret ?_))
      refine JK.loop (fun i : Nat => ⟨[(2, .lf (.optr 0 [])), (5, .lf (.osl 1)), (7, vI (k : Int)), (8, vI (i : Int))], [(0, .cell caT (vC n ev)), (1, .sl 3 (.int .i64) (farR k (ev.take i) o))], 2⟩) (fun i => i ≤ ev.length) (fun i => ev.length - i) 0 (Nat.zero_le _) (by (exact JW.Auto (by conv => lhs; reduce))) fun i hi => ?_
      have hol : (farR k (ev.take i) o).length = 2 * n := by rw [farR_len, hkl]
      have hoe : i = ev.length → farR k (ev.take i) o = farR k ev o := fun e => by rw [e, List.take_length]
      have hon : ∀ h : i < ev.length, farR k (ev.take (i + 1)) o = farX k (farR k (ev.take i) o) ev[i] := fun h => by
        rw [List.take_succ, List.getElem?_eq_getElem h]; exact farR_snoc _ _ _ _
      generalize farR k (ev.take i) o = u at hol hoe hon ⊢
      (repeat (first | refine zs rfl ?_ | refine zg rfl rfl rfl ?_ | refine zd ?_ | refine JK.fin ?_ | refine JK.ret ?_))
      refine JK.cond rfl (fun hf => ?_) (fun hf => ?_)
      · (simp only [↓bif_or, ↓bif_and, ↓Bool.or_eq_true, ↓Bool.or_eq_false_iff, ↓Bool.and_eq_true, ↓Bool.and_eq_false_iff, ↓Bool.not_eq_true', ↓Bool.not_eq_false', ↓decide_eq_true_eq, ↓decide_eq_false_iff_not, ↓beq_iff_eq, ↓bne_iff_ne, ↓bne_eq_false_iff_eq, ↓ne_eq, ↓beq_eq_false_iff_ne, ↓Bool.not_eq_true] at hf; try simp only [Ty.dflt, Int.toNat_natCast] at hf)
        have hi' : i < ev.length := by omega
        have hvx := hv ev[i] (List.getElem_mem hi')
        replace hon := hon hi'
        have eX : ev.getD ((i : Int)).toNat evT.dflt = ev[i] := getD_nat ev hi' _
        rw [← eX] at hvx hon
        clear eX
        have hx1 : -1000 ≤ (ev.getD ((i : Int)).toNat evT.dflt).1 ∧ (ev.getD ((i : Int)).toNat evT.dflt).1 ≤ 1000 := by have := hvx.1; unfold isSay at this; omega
        have hx2 : -1000 ≤ (ev.getD ((i : Int)).toNat evT.dflt).2.1 ∧ (ev.getD ((i : Int)).toNat evT.dflt).2.1 ≤ 1000 := by have := hvx.2; unfold isSay at this; omega
        have ka := fn23 (0 - (ev.getD ((i : Int)).toNat evT.dflt).1) (by omega)
        have kb := fn23 ((ev.getD ((i : Int)).toNat evT.dflt).2.1) hx2
        have kc := fn23 (0 - (ev.getD ((i : Int)).toNat evT.dflt).2.1) (by omega)
        have kd := fn23 ((ev.getD ((i : Int)).toNat evT.dflt).1) hx1
        have ba := keyI_bd (n := n) (s := 0 - (ev.getD ((i : Int)).toNat evT.dflt).1) (by rw [Int.zero_sub]; exact hvx.1.neg)
        have bb := keyI_bd (n := n) (s := (ev.getD ((i : Int)).toNat evT.dflt).2.1) hvx.2
        have bc := keyI_bd (n := n) (s := 0 - (ev.getD ((i : Int)).toNat evT.dflt).2.1) (by rw [Int.zero_sub]; exact hvx.2.neg)
        have bd := keyI_bd (n := n) (s := (ev.getD ((i : Int)).toNat evT.dflt).1) hvx.1
        have hf1 : ∀ u : List Int, farU k u (key (-(ev.getD ((i : Int)).toNat evT.dflt).1)) (key (ev.getD ((i : Int)).toNat evT.dflt).2.1) = if u.getD (keyI (0 - (ev.getD ((i : Int)).toNat evT.dflt).1)).toNat 0 = k ∧ u.getD (keyI (ev.getD ((i : Int)).toNat evT.dflt).2.1).toNat 0 < 0 then u.set (keyI (ev.getD ((i : Int)).toNat evT.dflt).2.1).toNat (k + 1) else u := fun u => by rw [Int.zero_sub]; rfl
        have hf2 : ∀ u : List Int, farU k u (key (-(ev.getD ((i : Int)).toNat evT.dflt).2.1)) (key (ev.getD ((i : Int)).toNat evT.dflt).1) = if u.getD (keyI (0 - (ev.getD ((i : Int)).toNat evT.dflt).2.1)).toNat 0 = k ∧ u.getD (keyI (ev.getD ((i : Int)).toNat evT.dflt).1).toNat 0 < 0 then u.set (keyI (ev.getD ((i : Int)).toNat evT.dflt).1).toNat (k + 1) else u := fun u => by rw [Int.zero_sub]; rfl
        unfold farX at hon
        (repeat (first | refine zu rfl ?_ | refine zg rfl rfl rfl ?_ | refine zd ?_ | refine JK.fin ?_ | refine JK.ret ?_ | refine zc rfl (ka) rfl rfl ?_ | refine ze rfl (ka) rfl ?_ | refine zk rfl rfl (fun _ => ka) rfl rfl ?_ | refine zc rfl (kb) rfl rfl ?_ | refine ze rfl (kb) rfl ?_ | refine zk rfl rfl (fun _ => kb) rfl rfl ?_))
        refine JK.cut (σ := Unit) (fun _ => ⟨[(2, .lf (.optr 0 [])), (5, .lf (.osl 1)), (7, vI (k : Int)), (8, vI (i : Int)), (9, .lf (.optr 2 []))], [(0, .cell caT (vC n ev)), (1, .sl 3 (.int .i64) (farU k u (key (-(ev.getD ((i : Int)).toNat evT.dflt).1)) (key (ev.getD ((i : Int)).toNat evT.dflt).2.1))), (2, .cell evT (vE (ev.getD ((i : Int)).toNat evT.dflt)))], 3⟩) (fun _ => True) ?_ (fun _ _ => ?_)
        · have hfu := hf1 u
          (repeat (first | refine zs rfl ?_ | refine zg rfl rfl rfl ?_ | refine zd ?_ | refine JK.fin ?_ | refine JK.ret ?_ | refine zc rfl (ka) rfl rfl ?_ | refine ze rfl (ka) rfl ?_ | refine zk rfl rfl (fun _ => ka) rfl rfl ?_ | refine zc rfl (kb) rfl rfl ?_ | refine ze rfl (kb) rfl ?_ | refine zk rfl rfl (fun _ => kb) rfl rfl ?_))
          refine JK.cond rfl (fun hg => ?_) (fun hg => ?_)
          · (simp only [↓bif_or, ↓bif_and, ↓Bool.or_eq_true, ↓Bool.or_eq_false_iff, ↓Bool.and_eq_true, ↓Bool.and_eq_false_iff, ↓Bool.not_eq_true', ↓Bool.not_eq_false', ↓decide_eq_true_eq, ↓decide_eq_false_iff_not, ↓beq_iff_eq, ↓bne_iff_ne, ↓bne_eq_false_iff_eq, ↓ne_eq, ↓beq_eq_false_iff_ne, ↓Bool.not_eq_true] at hg; try simp only [Ty.dflt, Int.toNat_natCast] at hg)
            (repeat (first | refine zs rfl ?_ | refine zg rfl rfl rfl ?_ | refine zd ?_ | refine JK.fin ?_ | refine JK.ret ?_ | refine zc rfl (kb) rfl rfl ?_ | refine ze rfl (kb) rfl ?_ | refine zk rfl rfl (fun _ => kb) rfl rfl ?_))
            refine ⟨(), ?_, trivial⟩
            rw [hfu, if_pos ⟨hg.1, hg.2⟩]
            (exact JW.Auto (by conv => lhs; reduce))
          · (simp only [↓bif_or, ↓bif_and, ↓Bool.or_eq_true, ↓Bool.or_eq_false_iff, ↓Bool.and_eq_true, ↓Bool.and_eq_false_iff, ↓Bool.not_eq_true', ↓Bool.not_eq_false', ↓decide_eq_true_eq, ↓decide_eq_false_iff_not, ↓beq_iff_eq, ↓bne_iff_ne, ↓bne_eq_false_iff_eq, ↓ne_eq, ↓beq_eq_false_iff_ne, ↓Bool.not_eq_true] at hg; try simp only [Ty.dflt, Int.toNat_natCast] at hg)
            (repeat (first | refine zs rfl ?_ | refine zg rfl rfl rfl ?_ | refine zd ?_ | refine JK.fin ?_ | refine JK.ret ?_))
            refine ⟨(), ?_, trivial⟩
            rw [hfu, if_neg (fun h => hg.elim (fun g => g h.1) (fun g => g h.2))]
            (exact JW.Auto (by conv => lhs; reduce))
        · have hl1 := farU_len k u (key (-(ev.getD ((i : Int)).toNat evT.dflt).1)) (key (ev.getD ((i : Int)).toNat evT.dflt).2.1)
          rw [hol] at hl1
          generalize farU k u (key (-(ev.getD ((i : Int)).toNat evT.dflt).1)) (key (ev.getD ((i : Int)).toNat evT.dflt).2.1) = u at hon hl1 ⊢
          have hfu := hf2 u
          clear hf1 hf2 ka kb
          generalize ev.getD ((i : Int)).toNat evT.dflt = X at hvx hon hx1 hx2 kc kd ba bb bc bd hl1 hfu ⊢
          (repeat (first | refine zs rfl ?_ | refine zg rfl rfl rfl ?_ | refine zd ?_ | refine JK.fin ?_ | refine JK.ret ?_ | refine zc rfl (kc) rfl rfl ?_ | refine ze rfl (kc) rfl ?_ | refine zk rfl rfl (fun _ => kc) rfl rfl ?_ | refine zc rfl (kd) rfl rfl ?_ | refine ze rfl (kd) rfl ?_ | refine zk rfl rfl (fun _ => kd) rfl rfl ?_))
          refine JK.cond rfl (fun hg => ?_) (fun hg => ?_)
          · (simp only [↓bif_or, ↓bif_and, ↓Bool.or_eq_true, ↓Bool.or_eq_false_iff, ↓Bool.and_eq_true, ↓Bool.and_eq_false_iff, ↓Bool.not_eq_true', ↓Bool.not_eq_false', ↓decide_eq_true_eq, ↓decide_eq_false_iff_not, ↓beq_iff_eq, ↓bne_iff_ne, ↓bne_eq_false_iff_eq, ↓ne_eq, ↓beq_eq_false_iff_ne, ↓Bool.not_eq_true] at hg; try simp only [Ty.dflt, Int.toNat_natCast] at hg)
            rw [hfu, if_pos ⟨hg.1, hg.2⟩] at hon
            (repeat (first | refine zs rfl ?_ | refine zg rfl rfl rfl ?_ | refine zd ?_ | refine JK.fin ?_ | refine JK.ret ?_ | refine zc rfl (kd) rfl rfl ?_ | refine ze rfl (kd) rfl ?_ | refine zk rfl rfl (fun _ => kd) rfl rfl ?_))
            exact ⟨i + 1, by (refine JW.auto (by conv => lhs; reduce) ?_ ?_ ?_ ?_ rfl <;> (repeat' (first | exact trivial | exact rfl | refine And.intro ?_ ?_ | exact Nat.le_of_ble_eq_true rfl | refine HO.bdF ?_ | refine HO.bdP ?_ | (refine congrArg (fun z : Int => some (AV.val (.int .i64) z)) ?_; push_cast; omega) | exact congrArg (fun z : List Int => some (HO.sl 3 (.int .i64) z)) hon.symm))), by omega, by omega⟩
          · (simp only [↓bif_or, ↓bif_and, ↓Bool.or_eq_true, ↓Bool.or_eq_false_iff, ↓Bool.and_eq_true, ↓Bool.and_eq_false_iff, ↓Bool.not_eq_true', ↓Bool.not_eq_false', ↓decide_eq_true_eq, ↓decide_eq_false_iff_not, ↓beq_iff_eq, ↓bne_iff_ne, ↓bne_eq_false_iff_eq, ↓ne_eq, ↓beq_eq_false_iff_ne, ↓Bool.not_eq_true] at hg; try simp only [Ty.dflt, Int.toNat_natCast] at hg)
            rw [hfu, if_neg (fun h => hg.elim (fun g => g h.1) (fun g => g h.2))] at hon
            (repeat (first | refine zs rfl ?_ | refine zg rfl rfl rfl ?_ | refine zd ?_ | refine JK.fin ?_ | refine JK.ret ?_))
            exact ⟨i + 1, by (refine JW.auto (by conv => lhs; reduce) ?_ ?_ ?_ ?_ rfl <;> (repeat' (first | exact trivial | exact rfl | refine And.intro ?_ ?_ | exact Nat.le_of_ble_eq_true rfl | refine HO.bdF ?_ | refine HO.bdP ?_ | (refine congrArg (fun z : Int => some (AV.val (.int .i64) z)) ?_; push_cast; omega) | exact congrArg (fun z : List Int => some (HO.sl 3 (.int .i64) z)) hon.symm))), by omega, by omega⟩
      · (simp only [↓bif_or, ↓bif_and, ↓Bool.or_eq_true, ↓Bool.or_eq_false_iff, ↓Bool.and_eq_true, ↓Bool.and_eq_false_iff, ↓Bool.not_eq_true', ↓Bool.not_eq_false', ↓decide_eq_true_eq, ↓decide_eq_false_iff_not, ↓beq_iff_eq, ↓bne_iff_ne, ↓bne_eq_false_iff_eq, ↓ne_eq, ↓beq_eq_false_iff_ne, ↓Bool.not_eq_true] at hf; try simp only [Ty.dflt, Int.toNat_natCast] at hf)
        obtain rfl : i = ev.length := by omega
        rw [hoe rfl]
        (repeat (first | refine zs rfl ?_ | refine zg rfl rfl rfl ?_ | refine zd ?_ | refine JK.fin ?_ | refine JK.ret ?_))
        exact ⟨k + 1, by (refine JW.auto (by conv => lhs; reduce) ?_ ?_ ?_ ?_ rfl <;> (repeat' (first | exact trivial | exact rfl | refine And.intro ?_ ?_ | exact Nat.le_of_ble_eq_true rfl | refine HO.bdF ?_ | refine HO.bdP ?_ | (refine congrArg (fun z : Int => some (AV.val (.int .i64) z)) ?_; push_cast; omega) | exact congrArg (fun z : List Int => some (HO.sl 3 (.int .i64) z)) hkn.symm))), by omega, by omega⟩
    · (simp only [↓bif_or, ↓bif_and, ↓Bool.or_eq_true, ↓Bool.or_eq_false_iff, ↓Bool.and_eq_true, ↓Bool.and_eq_false_iff, ↓Bool.not_eq_true', ↓Bool.not_eq_false', ↓decide_eq_true_eq, ↓decide_eq_false_iff_not, ↓beq_iff_eq, ↓bne_iff_ne, ↓bne_eq_false_iff_eq, ↓ne_eq, ↓beq_eq_false_iff_ne, ↓Bool.not_eq_true] at he; try simp only [Ty.dflt, Int.toNat_natCast] at he)
      obtain rfl : k = 2 * n := by omega
      (repeat (first | refine zs rfl ?_ | refine zg rfl rfl rfl ?_ | refine zd ?_ | refine JK.fin ?_ | refine JK.ret ?_))
      refine ⟨.inl rfl, _, _, rfl, trivial, ?_⟩
      rw [hke rfl]
def chainErr (n : Int) (ev : List evD) (a b : Int) : Int :=
  if caseErr n ev ≠ 0 then caseErr n ev else if ¬ (sayB n a = true ∧ sayB n b = true ∧ a ≠ b) then 2 else if (farS ev n.toNat a).getD (key b) 0 < 0 then 5 else 0
theorem fn19 (n : Int) (ev : List evD) (a b : Int) : Ox.Fn Go.Proofs.Try.prog 19 (.acons (vC n ev) (.acons (vI a) (.acons (vI b) .anil))) (· = vI (chainErr n ev a b)) := by
  refine Ox.Fn.intro xok Go.Proofs.Try.func19 rfl Go.Proofs.Try.call19 (Nat.le_of_ble_eq_true rfl) (fun E M0 up => ?_)
  refine JK.start ?_
  (repeat (first | refine zs rfl ?_ | refine zg rfl rfl rfl ?_ | refine zd ?_ | refine JK.fin ?_ | refine JK.ret ?_ | refine zc rfl (fn57 n ev) rfl rfl ?_ | refine ze rfl (fn57 n ev) rfl ?_ | refine zk rfl rfl (fun _ => fn57 n ev) rfl rfl ?_))
  refine JK.cond rfl (fun hc => ?_) (fun hc => ?_)
  · (simp only [↓bif_or, ↓bif_and, ↓Bool.or_eq_true, ↓Bool.or_eq_false_iff, ↓Bool.and_eq_true, ↓Bool.and_eq_false_iff, ↓Bool.not_eq_true', ↓Bool.not_eq_false', ↓decide_eq_true_eq, ↓decide_eq_false_iff_not, ↓beq_iff_eq, ↓bne_iff_ne, ↓bne_eq_false_iff_eq, ↓ne_eq, ↓beq_eq_false_iff_ne, ↓Bool.not_eq_true] at hc; try simp only [Ty.dflt, Int.toNat_natCast] at hc)
    (repeat (first | refine zs rfl ?_ | refine zg rfl rfl rfl ?_ | refine zd ?_ | refine JK.fin ?_ | refine JK.ret ?_ | refine zc rfl (fn57 n ev) rfl rfl ?_ | refine ze rfl (fn57 n ev) rfl ?_ | refine zk rfl rfl (fun _ => fn57 n ev) rfl rfl ?_))
    refine ⟨.inl rfl, _, _, rfl, trivial, ?_⟩
    rw [chainErr, if_pos hc]
  · (simp only [↓bif_or, ↓bif_and, ↓Bool.or_eq_true, ↓Bool.or_eq_false_iff, ↓Bool.and_eq_true, ↓Bool.and_eq_false_iff, ↓Bool.not_eq_true', ↓Bool.not_eq_false', ↓decide_eq_true_eq, ↓decide_eq_false_iff_not, ↓beq_iff_eq, ↓bne_iff_ne, ↓bne_eq_false_iff_eq, ↓ne_eq, ↓beq_eq_false_iff_ne, ↓Bool.not_eq_true] at hc; try simp only [Ty.dflt, Int.toNat_natCast] at hc)
    have h0 : caseErr n ev = 0 := by omega
    have hok := case_ok h0
    (repeat (first | refine zs rfl ?_ | refine zg rfl rfl rfl ?_ | refine zd ?_ | refine JK.fin ?_ | refine JK.ret ?_ | refine zc rfl (fn50 n a ⟨by omega, by omega⟩) rfl rfl ?_ | refine ze rfl (fn50 n a ⟨by omega, by omega⟩) rfl ?_ | refine zk rfl rfl (fun _ => fn50 n a ⟨by omega, by omega⟩) rfl rfl ?_ | refine zc rfl (fn50 n b ⟨by omega, by omega⟩) rfl rfl ?_ | refine ze rfl (fn50 n b ⟨by omega, by omega⟩) rfl ?_ | refine zk rfl rfl (fun _ => fn50 n b ⟨by omega, by omega⟩) rfl rfl ?_))
    refine JK.cond rfl (fun hd => ?_) (fun hd => ?_)
    · have hd' : ¬ (sayB n a = true ∧ sayB n b = true ∧ a ≠ b) := by
        rintro ⟨h1, h2, h3⟩; rw [h1, h2] at hd; simp [h3] at hd
      (repeat (first | refine zs rfl ?_ | refine zg rfl rfl rfl ?_ | refine zd ?_ | refine JK.fin ?_ | refine JK.ret ?_))
      refine ⟨.inl rfl, _, _, rfl, trivial, ?_⟩
      rw [chainErr, if_neg (by omega), if_pos hd']
    · have hd' : sayB n a = true ∧ sayB n b = true ∧ a ≠ b := by
        revert hd; cases sayB n a <;> cases sayB n b <;> simp
      obtain ⟨N, rfl⟩ : ∃ N : Nat, n = N := ⟨n.toNat, by omega⟩
      rw [Int.toNat_natCast] at hok
      have ha := sayB_isSay.1 hd'.1
      have hb := sayB_isSay.1 hd'.2.1
      have hfl := farS_len (ev := ev) hok.2.2.2 ha
      have h22 := fn22 N ev a (by omega) (by omega) hok.2.2.1 hok.2.2.2 ha
      have he : chainErr N ev a b = if (farS ev N a).getD (keyI b).toNat 0 < 0 then 5 else 0 := by rw [chainErr, if_neg (by omega), if_neg (by simpa using hd'), Int.toNat_natCast]; rfl
      rw [he]
      have hkb := keyI_bd hb
      have h23 := fn23 b (by unfold isSay at hb; omega)
      generalize farS ev N a = far at hfl h22 ⊢
      (repeat (first | refine zs rfl ?_ | refine zg rfl rfl rfl ?_ | refine zd ?_ | refine JK.fin ?_ | refine JK.ret ?_ | refine zc rfl (h22) rfl rfl ?_ | refine ze rfl (h22) rfl ?_ | refine zk rfl rfl (fun _ => h22) rfl rfl ?_ | refine zc rfl (h23) rfl rfl ?_ | refine ze rfl (h23) rfl ?_ | refine zk rfl rfl (fun _ => h23) rfl rfl ?_))
      refine JK.cond rfl (fun hf => ?_) (fun hf => ?_)
      · (simp only [↓bif_or, ↓bif_and, ↓Bool.or_eq_true, ↓Bool.or_eq_false_iff, ↓Bool.and_eq_true, ↓Bool.and_eq_false_iff, ↓Bool.not_eq_true', ↓Bool.not_eq_false', ↓decide_eq_true_eq, ↓decide_eq_false_iff_not, ↓beq_iff_eq, ↓bne_iff_ne, ↓bne_eq_false_iff_eq, ↓ne_eq, ↓beq_eq_false_iff_ne, ↓Bool.not_eq_true] at hf; try simp only [Ty.dflt, Int.toNat_natCast] at hf)
        (repeat (first | refine zs rfl ?_ | refine zg rfl rfl rfl ?_ | refine zd ?_ | refine JK.fin ?_ | refine JK.ret ?_))
        refine ⟨.inl rfl, _, _, rfl, trivial, ?_⟩
        rw [if_pos hf]
      · (simp only [↓bif_or, ↓bif_and, ↓Bool.or_eq_true, ↓Bool.or_eq_false_iff, ↓Bool.and_eq_true, ↓Bool.and_eq_false_iff, ↓Bool.not_eq_true', ↓Bool.not_eq_false', ↓decide_eq_true_eq, ↓decide_eq_false_iff_not, ↓beq_iff_eq, ↓bne_iff_ne, ↓bne_eq_false_iff_eq, ↓ne_eq, ↓beq_eq_false_iff_ne, ↓Bool.not_eq_true] at hf; try simp only [Ty.dflt, Int.toNat_natCast] at hf)
        (repeat (first | refine zs rfl ?_ | refine zg rfl rfl rfl ?_ | refine zd ?_ | refine JK.fin ?_ | refine JK.ret ?_))
        refine ⟨.inl rfl, _, _, rfl, trivial, ?_⟩
        rw [if_neg hf]
/-- A step is one, by a piece of evidence that there is. -/
def stepB (ev : List evD) (z : stD) : Bool :=
  decide (((ev.getD z.2.2.1.toNat (0, 0, ())).1 = -z.1 ∧ (ev.getD z.2.2.1.toNat (0, 0, ())).2.1 = z.2.1) ∨ ((ev.getD z.2.2.1.toNat (0, 0, ())).2.1 = -z.1 ∧ (ev.getD z.2.2.1.toNat (0, 0, ())).1 = z.2.1))
theorem fn58 (n : Int) (ev : List evD) (z : stD) (h : caseErr n ev = 0) (hz : 0 ≤ z.2.2.1 ∧ z.2.2.1 < ev.length) : Ox.Fn Go.Proofs.Try.prog 58 (.acons (vC n ev) (.acons (vS z) .anil)) (· = vB (stepB ev z)) := by
  refine Ox.Fn.intro xok Go.Proofs.Try.func58 rfl Go.Proofs.Try.call58 (Nat.le_of_ble_eq_true rfl) (fun E M0 up => ?_)
  refine JK.start ?_
  have hok := case_ok h
  have h50 : Ox.Fn Go.Proofs.Try.prog 50 (.acons (vI n) (.acons (vI z.1) .anil)) (· = vB (decide ((1 ≤ z.1 ∧ z.1 ≤ n) ∨ (-n ≤ z.1 ∧ z.1 ≤ -1)))) := fn50 n z.1 ⟨by omega, by omega⟩
  have hi : z.2.2.1.toNat < ev.length := by omega
  have hx := hok.2.2.2 (ev.getD z.2.2.1.toNat (0, 0, ())) (by rw [getD_nat ev hi]; exact List.getElem_mem hi)
  have hst : stepB ev z = decide (((ev.getD z.2.2.1.toNat (0, 0, ())).1 = -z.1 ∧ (ev.getD z.2.2.1.toNat (0, 0, ())).2.1 = z.2.1) ∨ ((ev.getD z.2.2.1.toNat (0, 0, ())).2.1 = -z.1 ∧ (ev.getD z.2.2.1.toNat (0, 0, ())).1 = z.2.1)) := rfl
  rw [hst]
  clear hst
  (repeat (first | refine zs rfl ?_ | refine zg rfl rfl rfl ?_ | refine zd ?_ | refine JK.fin ?_ | refine JK.ret ?_ | refine zc rfl (h50) rfl rfl ?_ | refine ze rfl (h50) rfl ?_ | refine zk rfl rfl (fun _ => h50) rfl rfl ?_))
  refine ⟨.inl rfl, _, _, rfl, trivial, ?_⟩
  refine congrArg vB ?_
  unfold isSay at hx
  change _ = decide (((ev.getD z.2.2.1.toNat (Ty.dflt evT)).1 = -z.1 ∧ (ev.getD z.2.2.1.toNat (Ty.dflt evT)).2.1 = z.2.1) ∨ ((ev.getD z.2.2.1.toNat (Ty.dflt evT)).2.1 = -z.1 ∧ (ev.getD z.2.2.1.toNat (Ty.dflt evT)).1 = z.2.1))
  change (1 ≤ (ev.getD z.2.2.1.toNat (Ty.dflt evT)).1 ∧ (ev.getD z.2.2.1.toNat (Ty.dflt evT)).1 ≤ (n.toNat : Int) ∨ -(n.toNat : Int) ≤ (ev.getD z.2.2.1.toNat (Ty.dflt evT)).1 ∧ (ev.getD z.2.2.1.toNat (Ty.dflt evT)).1 ≤ -1) ∧ (1 ≤ (ev.getD z.2.2.1.toNat (Ty.dflt evT)).2.1 ∧ (ev.getD z.2.2.1.toNat (Ty.dflt evT)).2.1 ≤ (n.toNat : Int) ∨ -(n.toNat : Int) ≤ (ev.getD z.2.2.1.toNat (Ty.dflt evT)).2.1 ∧ (ev.getD z.2.2.1.toNat (Ty.dflt evT)).2.1 ≤ -1) at hx
  generalize ev.getD z.2.2.1.toNat (Ty.dflt evT) = x at hx ⊢
  obtain ⟨x1, x2, _⟩ := x
  obtain ⟨z1, z2, z3, _⟩ := z
  dsimp only [Ty.den] at hx x1 x2 z1 z2 z3 ⊢
  have hn : (n.toNat : Int) = n := by omega
  rw [hn] at hx
  clear h50 hz hi
  rw [Bool.eq_iff_iff]
  simp only [bif_and, bif_or, Bool.and_eq_true, Bool.or_eq_true, decide_eq_true_eq, beq_iff_eq]
  omega
end Go.Proofs.Ytdmfofjaknngnaa

namespace Go.Proofs.Ytdmfofjaknngnaa
open Go Go.RowKit Ox Ox.Two
attribute [local irreducible] JC JL JK JW

def linkAt (ev : List evD) (ch : List stD) (j : Nat) : Bool := stepB ev (ch.getD j (0, 0, 0, ())) && (decide (j = 0) || decide ((ch.getD j (0, 0, 0, ())).1 = (ch.getD (j - 1) (0, 0, 0, ())).2.1))
def linkB (ev : List evD) (ch : List stD) (i : Nat) : Bool := (List.range i).all (linkAt ev ch)
theorem linkB_succ {ev : List evD} {ch : List stD} {i : Nat} (h : linkB ev ch i = true) (h2 : linkAt ev ch i = true) : linkB ev ch (i + 1) = true := by
  unfold linkB at *; rw [List.range_succ, List.all_append, h]; simp [h2]
theorem linkB_no {ev : List evD} {ch : List stD} {i m : Nat} (hm : i < m) (h2 : linkAt ev ch i = false) : linkB ev ch m = false := by
  unfold linkB; rw [List.all_eq_false]; exact ⟨i, List.mem_range.2 hm, by rw [h2]; simp⟩
def byB (ev : List evD) (z : stD) : Bool := decide (0 ≤ z.2.2.1 ∧ z.2.2.1 ≤ (ev.length : Int) - 1)
/-- From where to where steps lead, or the error. -/
def chainR (n : Int) (ev : List evD) (ch : List stD) : Int × Int × Int :=
  if caseErr n ev ≠ 0 then (0, 0, caseErr n ev) else if ch.length < 1 ∨ ch.length > 60 then (0, 0, 6) else if ¬ ch.all (byB ev) = true then (0, 0, 3) else
    if linkB ev ch ch.length = true then ((ch.getD 0 (0, 0, 0, ())).1, (ch.getD (ch.length - 1) (0, 0, 0, ())).2.1, 0) else (0, 0, 16)
set_option maxHeartbeats 2000000 in
theorem fn17 (n : Int) (ev : List evD) (ch : List stD) : Ox.Fn Go.Proofs.Try.prog 17 (.acons (vC n ev) (.acons (vSs ch) .anil)) (· = vT3 (chainR n ev ch).1 (chainR n ev ch).2.1 (chainR n ev ch).2.2) := by
  refine Ox.Fn.intro xok Go.Proofs.Try.func17 rfl Go.Proofs.Try.call17 (Nat.le_of_ble_eq_true rfl) (fun E M0 up => ?_)
  refine JK.start ?_
  refine JK.lenOf 1 rfl fun hlen => ?_
  replace hlen : ch.length ≤ 9223372036854775807 := hlen.1
  (repeat (first | refine zs rfl ?_ | refine zg rfl rfl rfl ?_ | refine zd ?_ | refine JK.fin ?_ | refine JK.ret ?_ | refine zc rfl (fn57 n ev) rfl rfl ?_ | refine ze rfl (fn57 n ev) rfl ?_ | refine zk rfl rfl (fun _ => fn57 n ev) rfl rfl ?_))
  refine JK.cond rfl (fun hc => ?_) (fun hc => ?_)
  · (simp only [↓bif_or, ↓bif_and, ↓Bool.or_eq_true, ↓Bool.or_eq_false_iff, ↓Bool.and_eq_true, ↓Bool.and_eq_false_iff, ↓Bool.not_eq_true', ↓Bool.not_eq_false', ↓decide_eq_true_eq, ↓decide_eq_false_iff_not, ↓beq_iff_eq, ↓bne_iff_ne, ↓bne_eq_false_iff_eq, ↓ne_eq, ↓beq_eq_false_iff_ne, ↓Bool.not_eq_true] at hc; try simp only [Ty.dflt, Int.toNat_natCast] at hc)
    (repeat (first | refine zs rfl ?_ | refine zg rfl rfl rfl ?_ | refine zd ?_ | refine JK.fin ?_ | refine JK.ret ?_ | refine zc rfl (fn57 n ev) rfl rfl ?_ | refine ze rfl (fn57 n ev) rfl ?_ | refine zk rfl rfl (fun _ => fn57 n ev) rfl rfl ?_))
    refine ⟨.inl rfl, _, _, rfl, trivial, ?_⟩
    rw [chainR, if_pos hc]
  · (simp only [↓bif_or, ↓bif_and, ↓Bool.or_eq_true, ↓Bool.or_eq_false_iff, ↓Bool.and_eq_true, ↓Bool.and_eq_false_iff, ↓Bool.not_eq_true', ↓Bool.not_eq_false', ↓decide_eq_true_eq, ↓decide_eq_false_iff_not, ↓beq_iff_eq, ↓bne_iff_ne, ↓bne_eq_false_iff_eq, ↓ne_eq, ↓beq_eq_false_iff_ne, ↓Bool.not_eq_true] at hc; try simp only [Ty.dflt, Int.toNat_natCast] at hc)
    have h0 : caseErr n ev = 0 := by omega
    have hok := case_ok h0
    (repeat (first | refine zs rfl ?_ | refine zg rfl rfl rfl ?_ | refine zd ?_ | refine JK.fin ?_ | refine JK.ret ?_))
    refine JK.cond rfl (fun hd => ?_) (fun hd => ?_)
    · (simp only [↓bif_or, ↓bif_and, ↓Bool.or_eq_true, ↓Bool.or_eq_false_iff, ↓Bool.and_eq_true, ↓Bool.and_eq_false_iff, ↓Bool.not_eq_true', ↓Bool.not_eq_false', ↓decide_eq_true_eq, ↓decide_eq_false_iff_not, ↓beq_iff_eq, ↓bne_iff_ne, ↓bne_eq_false_iff_eq, ↓ne_eq, ↓beq_eq_false_iff_ne, ↓Bool.not_eq_true] at hd; try simp only [Ty.dflt, Int.toNat_natCast] at hd)
      (repeat (first | refine zs rfl ?_ | refine zg rfl rfl rfl ?_ | refine zd ?_ | refine JK.fin ?_ | refine JK.ret ?_))
      refine ⟨.inl rfl, _, _, rfl, trivial, ?_⟩
      rw [chainR, if_neg (by omega), if_pos (by omega)]
    · (simp only [↓bif_or, ↓bif_and, ↓Bool.or_eq_true, ↓Bool.or_eq_false_iff, ↓Bool.and_eq_true, ↓Bool.and_eq_false_iff, ↓Bool.not_eq_true', ↓Bool.not_eq_false', ↓decide_eq_true_eq, ↓decide_eq_false_iff_not, ↓beq_iff_eq, ↓bne_iff_ne, ↓bne_eq_false_iff_eq, ↓ne_eq, ↓beq_eq_false_iff_ne, ↓Bool.not_eq_true] at hd; try simp only [Ty.dflt, Int.toNat_natCast] at hd)
      have hd' : ¬ (ch.length < 1 ∨ ch.length > 60) := by omega
      (repeat (first | refine zs rfl ?_ | refine zg rfl rfl rfl ?_ | refine zd ?_ | refine JK.fin ?_ | refine JK.ret ?_))
      refine JK.loop (fun i : Nat => ⟨[(1, vSs ch), (2, .lf (.optr 0 [])), (7, vI (i : Int))], [(0, .cell caT (vC n ev))], 1⟩) (fun i => i ≤ ch.length ∧ (ch.take i).all (byB ev) = true) (fun i => ch.length - i) 0 ⟨Nat.zero_le _, rfl⟩ (by (exact JW.Auto (by conv => lhs; reduce))) fun i ⟨hi, hr⟩ => ?_
      (repeat (first | refine zs rfl ?_ | refine zg rfl rfl rfl ?_ | refine zd ?_ | refine JK.fin ?_ | refine JK.ret ?_))
      refine JK.cond rfl (fun he => ?_) (fun he => ?_)
      · (simp only [↓bif_or, ↓bif_and, ↓Bool.or_eq_true, ↓Bool.or_eq_false_iff, ↓Bool.and_eq_true, ↓Bool.and_eq_false_iff, ↓Bool.not_eq_true', ↓Bool.not_eq_false', ↓decide_eq_true_eq, ↓decide_eq_false_iff_not, ↓beq_iff_eq, ↓bne_iff_ne, ↓bne_eq_false_iff_eq, ↓ne_eq, ↓beq_eq_false_iff_ne, ↓Bool.not_eq_true] at he; try simp only [Ty.dflt, Int.toNat_natCast] at he)
        have hi' : i < ch.length := by omega
        have eX : ch.getD ((i : Int)).toNat stT.dflt = ch[i] := getD_nat ch hi' _
        (repeat (first | refine zs rfl ?_ | refine zg rfl rfl rfl ?_ | refine zd ?_ | refine JK.fin ?_ | refine JK.ret ?_))
        refine JK.cond rfl (fun hf => ?_) (fun hf => ?_)
        · (simp only [↓bif_or, ↓bif_and, ↓Bool.or_eq_true, ↓Bool.or_eq_false_iff, ↓Bool.and_eq_true, ↓Bool.and_eq_false_iff, ↓Bool.not_eq_true', ↓Bool.not_eq_false', ↓decide_eq_true_eq, ↓decide_eq_false_iff_not, ↓beq_iff_eq, ↓bne_iff_ne, ↓bne_eq_false_iff_eq, ↓ne_eq, ↓beq_eq_false_iff_ne, ↓Bool.not_eq_true] at hf; try simp only [Ty.dflt, Int.toNat_natCast] at hf)
          have hno : byB ev ch[i] = false := by
            rw [← eX]; exact decide_eq_false (fun h => by have h1 := h.1; have h2 := h.2; dsimp only [Ty.dflt, Int.toNat_natCast] at h1 h2; omega)
          (repeat (first | refine zs rfl ?_ | refine zg rfl rfl rfl ?_ | refine zd ?_ | refine JK.fin ?_ | refine JK.ret ?_))
          refine ⟨.inl rfl, _, _, rfl, trivial, ?_⟩
          rw [chainR, if_neg (by omega), if_neg hd', if_pos (by rw [all_not hi' hno]; simp)]
        · (simp only [↓bif_or, ↓bif_and, ↓Bool.or_eq_true, ↓Bool.or_eq_false_iff, ↓Bool.and_eq_true, ↓Bool.and_eq_false_iff, ↓Bool.not_eq_true', ↓Bool.not_eq_false', ↓decide_eq_true_eq, ↓decide_eq_false_iff_not, ↓beq_iff_eq, ↓bne_iff_ne, ↓bne_eq_false_iff_eq, ↓ne_eq, ↓beq_eq_false_iff_ne, ↓Bool.not_eq_true] at hf; try simp only [Ty.dflt, Int.toNat_natCast] at hf)
          have hyes : byB ev ch[i] = true := by
            rw [← eX]; exact decide_eq_true (by dsimp only [Ty.dflt, Int.toNat_natCast]; omega)
          (repeat (first | refine zs rfl ?_ | refine zg rfl rfl rfl ?_ | refine zd ?_ | refine JK.fin ?_ | refine JK.ret ?_))
          exact ⟨i + 1, by (exact JW.Auto (by conv => lhs; reduce)), ⟨by omega, all_take hi' hr hyes⟩, by omega⟩
      · (simp only [↓bif_or, ↓bif_and, ↓Bool.or_eq_true, ↓Bool.or_eq_false_iff, ↓Bool.and_eq_true, ↓Bool.and_eq_false_iff, ↓Bool.not_eq_true', ↓Bool.not_eq_false', ↓decide_eq_true_eq, ↓decide_eq_false_iff_not, ↓beq_iff_eq, ↓bne_iff_ne, ↓bne_eq_false_iff_eq, ↓ne_eq, ↓beq_eq_false_iff_ne, ↓Bool.not_eq_true] at he; try simp only [Ty.dflt, Int.toNat_natCast] at he)
        obtain rfl : i = ch.length := by omega
        rw [List.take_length] at hr
        have hby : ∀ z ∈ ch, 0 ≤ z.2.2.1 ∧ z.2.2.1 < ev.length := fun z hz => by
          have := of_decide_eq_true (List.all_eq_true.1 hr z hz : byB ev z = true); omega
        (repeat (first | refine zs rfl ?_ | refine zg rfl rfl rfl ?_ | refine zd ?_ | refine JK.fin ?_ | refine JK.ret ?_))
        refine JK.loop (fun i : Nat => ⟨[(1, vSs ch), (2, .lf (.optr 0 [])), (8, vI (i : Int))], [(0, .cell caT (vC n ev))], 1⟩) (fun i => i ≤ ch.length ∧ linkB ev ch i = true) (fun i => ch.length - i) 0 ⟨Nat.zero_le _, rfl⟩ (by (exact JW.Auto (by conv => lhs; reduce))) fun i ⟨hi, hq⟩ => ?_
        (repeat (first | refine zs rfl ?_ | refine zg rfl rfl rfl ?_ | refine zd ?_ | refine JK.fin ?_ | refine JK.ret ?_))
        refine JK.cond rfl (fun hf => ?_) (fun hf => ?_)
        · (simp only [↓bif_or, ↓bif_and, ↓Bool.or_eq_true, ↓Bool.or_eq_false_iff, ↓Bool.and_eq_true, ↓Bool.and_eq_false_iff, ↓Bool.not_eq_true', ↓Bool.not_eq_false', ↓decide_eq_true_eq, ↓decide_eq_false_iff_not, ↓beq_iff_eq, ↓bne_iff_ne, ↓bne_eq_false_iff_eq, ↓ne_eq, ↓beq_eq_false_iff_ne, ↓Bool.not_eq_true] at hf; try simp only [Ty.dflt, Int.toNat_natCast] at hf)
          have hi' : i < ch.length := by omega
          have eX : ch.getD ((i : Int)).toNat stT.dflt = ch[i] := getD_nat ch hi' _
          have h58 := fn58 n ev (ch.getD ((i : Int)).toNat stT.dflt) h0 (by rw [eX]; exact hby _ (List.getElem_mem hi'))
          have hat : linkAt ev ch i = (stepB ev (ch.getD ((i : Int)).toNat stT.dflt) && (decide (i = 0) || decide ((ch.getD ((i : Int)).toNat stT.dflt).1 = (ch.getD (i - 1) stT.dflt).2.1))) := rfl
          have e1 : ((i : Int) - 1).toNat = i - 1 := by omega
          have hlk : linkAt ev ch i = !(bif !stepB ev (ch.getD ((i : Int)).toNat stT.dflt) then true else bif decide ((i : Int) > 0) then (ch.getD ((i : Int)).toNat stT.dflt).1 != (ch.getD ((i : Int) - 1).toNat stT.dflt).2.1 else false) := by
            rw [hat, e1]
            cases stepB ev (ch.getD ((i : Int)).toNat stT.dflt) with
            | false => rfl
            | true =>
              rcases Nat.eq_zero_or_pos i with h | h
              · rw [decide_eq_true h, decide_eq_false (by omega : ¬ (i : Int) > 0)]; rfl
              · rw [decide_eq_false (by omega : ¬ i = 0), decide_eq_true (by omega : (i : Int) > 0)]
                rw [Bool.true_and, Bool.false_or]; exact (Bool.not_not _).symm
          (repeat (first | refine zs rfl ?_ | refine zg rfl rfl rfl ?_ | refine zd ?_ | refine JK.fin ?_ | refine JK.ret ?_ | refine zc rfl (h58) rfl rfl ?_ | refine ze rfl (h58) rfl ?_ | refine zk rfl rfl (fun _ => h58) rfl rfl ?_))
          refine JK.cond rfl (fun hg => ?_) (fun hg => ?_)
          · have hno : linkAt ev ch i = false := by rw [hlk]; exact congrArg (!·) hg
            (repeat (first | refine zs rfl ?_ | refine zg rfl rfl rfl ?_ | refine zd ?_ | refine JK.fin ?_ | refine JK.ret ?_))
            refine ⟨.inl rfl, _, _, rfl, trivial, ?_⟩
            rw [chainR, if_neg (by omega), if_neg hd', if_neg (by simpa using hr), if_neg (by rw [linkB_no hi' hno]; simp)]
          · have hyes : linkAt ev ch i = true := by rw [hlk]; exact congrArg (!·) hg
            (repeat (first | refine zs rfl ?_ | refine zg rfl rfl rfl ?_ | refine zd ?_ | refine JK.fin ?_ | refine JK.ret ?_))
            exact ⟨i + 1, by (exact JW.Auto (by conv => lhs; reduce)), ⟨by omega, linkB_succ hq hyes⟩, by omega⟩
        · (simp only [↓bif_or, ↓bif_and, ↓Bool.or_eq_true, ↓Bool.or_eq_false_iff, ↓Bool.and_eq_true, ↓Bool.and_eq_false_iff, ↓Bool.not_eq_true', ↓Bool.not_eq_false', ↓decide_eq_true_eq, ↓decide_eq_false_iff_not, ↓beq_iff_eq, ↓bne_iff_ne, ↓bne_eq_false_iff_eq, ↓ne_eq, ↓beq_eq_false_iff_ne, ↓Bool.not_eq_true] at hf; try simp only [Ty.dflt, Int.toNat_natCast] at hf)
          obtain rfl : i = ch.length := by omega
          (repeat (first | refine zs rfl ?_ | refine zg rfl rfl rfl ?_ | refine zd ?_ | refine JK.fin ?_ | refine JK.ret ?_))
          refine ⟨.inl rfl, _, _, rfl, trivial, ?_⟩
          rw [chainR, if_neg (by omega), if_neg hd', if_neg (by simpa using hr), if_pos hq]
          have e1 : ((ch.length : Int) - 1).toNat = ch.length - 1 := by omega
          rw [e1]; rfl
def clashR (n : Int) (ev : List evD) (ch : List stD) : Int :=
  if (chainR n ev ch).2.2 ≠ 0 then (chainR n ev ch).2.2 else if (chainR n ev ch).1 = (chainR n ev ch).2.1 ∧ ch.any (fun z => decide (z.2.1 = -(chainR n ev ch).1)) = true then 0 else 14
theorem chain_from {n : Int} {ev : List evD} {ch : List stD} (h : (chainR n ev ch).2.2 = 0) : caseErr n ev = 0 ∧ (1 ≤ ch.length ∧ ch.length ≤ 60) ∧ isSay n.toNat (chainR n ev ch).1 := by
  unfold chainR at h ⊢
  by_cases h1 : caseErr n ev = 0
  · rw [if_neg (by omega)] at h ⊢
    by_cases h2 : ch.length < 1 ∨ ch.length > 60
    · rw [if_pos h2] at h; cases h
    · rw [if_neg h2] at h ⊢
      by_cases h3 : ch.all (byB ev) = true
      · rw [if_neg (by simp [h3])] at h ⊢
        by_cases h4 : linkB ev ch ch.length = true
        · rw [if_pos h4] at h ⊢
          refine ⟨h1, by omega, ?_⟩
          have h5 : linkAt ev ch 0 = true := List.all_eq_true.1 h4 0 (List.mem_range.2 (by omega))
          have h6 : stepB ev (ch.getD 0 (0, 0, 0, ())) = true := (Bool.and_eq_true_iff.1 h5).1
          have h7 := of_decide_eq_true h6
          have hb := of_decide_eq_true (List.all_eq_true.1 h3 (ch.getD 0 (0, 0, 0, ())) (by rw [getD_nat ch (by omega)]; exact List.getElem_mem _) : byB ev _ = true)
          have hv := (case_ok h1).2.2.2 (ev.getD (ch.getD 0 (0, 0, 0, ())).2.2.1.toNat (0, 0, ())) (by rw [getD_nat ev (by omega)]; exact List.getElem_mem _)
          show isSay n.toNat (ch.getD 0 (0, 0, 0, ())).1
          unfold isSay at hv ⊢
          omega
        · rw [if_neg h4] at h; cases h
      · rw [if_pos h3] at h; cases h
  · rw [if_pos h1] at h; exact absurd h h1
theorem fn21 (n : Int) (ev : List evD) (ch : List stD) : Ox.Fn Go.Proofs.Try.prog 21 (.acons (vC n ev) (.acons (vSs ch) .anil)) (· = vI (clashR n ev ch)) := by
  refine Ox.Fn.intro xok Go.Proofs.Try.func21 rfl Go.Proofs.Try.call21 (Nat.le_of_ble_eq_true rfl) (fun E M0 up => ?_)
  refine JK.start ?_
  have hcl : clashR n ev ch = if (chainR n ev ch).2.2 ≠ 0 then (chainR n ev ch).2.2 else if (chainR n ev ch).1 = (chainR n ev ch).2.1 ∧ ch.any (fun z => decide (z.2.1 = -(chainR n ev ch).1)) = true then 0 else 14 := rfl
  rw [hcl]
  have hcf := chain_from (n := n) (ev := ev) (ch := ch)
  have h17 := fn17 n ev ch
  generalize chainR n ev ch = c at hcf h17 ⊢
  obtain ⟨fr, to, e⟩ := c
  dsimp only at hcf h17 ⊢
  (repeat (first | refine zs rfl ?_ | refine zg rfl rfl rfl ?_ | refine zd ?_ | refine JK.fin ?_ | refine JK.ret ?_ | refine zc rfl (h17) rfl rfl ?_ | refine ze rfl (h17) rfl ?_ | refine zk rfl rfl (fun _ => h17) rfl rfl ?_))
  refine JK.cond rfl (fun hd => ?_) (fun hd => ?_)
  · (simp only [↓bif_or, ↓bif_and, ↓Bool.or_eq_true, ↓Bool.or_eq_false_iff, ↓Bool.and_eq_true, ↓Bool.and_eq_false_iff, ↓Bool.not_eq_true', ↓Bool.not_eq_false', ↓decide_eq_true_eq, ↓decide_eq_false_iff_not, ↓beq_iff_eq, ↓bne_iff_ne, ↓bne_eq_false_iff_eq, ↓ne_eq, ↓beq_eq_false_iff_ne, ↓Bool.not_eq_true] at hd; try simp only [Ty.dflt, Int.toNat_natCast] at hd)
    (repeat (first | refine zs rfl ?_ | refine zg rfl rfl rfl ?_ | refine zd ?_ | refine JK.fin ?_ | refine JK.ret ?_))
    refine ⟨.inl rfl, _, _, rfl, trivial, ?_⟩
    rw [if_pos hd]
  · (simp only [↓bif_or, ↓bif_and, ↓Bool.or_eq_true, ↓Bool.or_eq_false_iff, ↓Bool.and_eq_true, ↓Bool.and_eq_false_iff, ↓Bool.not_eq_true', ↓Bool.not_eq_false', ↓decide_eq_true_eq, ↓decide_eq_false_iff_not, ↓beq_iff_eq, ↓bne_iff_ne, ↓bne_eq_false_iff_eq, ↓ne_eq, ↓beq_eq_false_iff_ne, ↓Bool.not_eq_true] at hd; try simp only [Ty.dflt, Int.toNat_natCast] at hd)
    have hok := hcf (by omega)
    have hn := case_ok hok.1
    have hfr : -1000 ≤ fr ∧ fr ≤ 1000 := by have := hok.2.2; unfold isSay at this; omega
    rw [if_neg (by omega)]
    (repeat (first | refine zs rfl ?_ | refine zg rfl rfl rfl ?_ | refine zd ?_ | refine JK.fin ?_ | refine JK.ret ?_))
    refine JK.loop (fun i : Nat => ⟨[(1, vSs ch), (5, vI fr), (6, vI to), (8, vI (i : Int))], [], 0⟩) (fun i => i ≤ ch.length ∧ (fr = to → ∀ j (h : j < ch.length), j < i → ch[j].2.1 ≠ -fr)) (fun i => ch.length - i) 0 ⟨Nat.zero_le _, fun _ j _ h => by omega⟩ (by (exact JW.Auto (by conv => lhs; reduce))) fun i ⟨hi, hr⟩ => ?_
    (repeat (first | refine zs rfl ?_ | refine zg rfl rfl rfl ?_ | refine zd ?_ | refine JK.fin ?_ | refine JK.ret ?_))
    refine JK.cond rfl (fun he => ?_) (fun he => ?_)
    · (simp only [↓bif_or, ↓bif_and, ↓Bool.or_eq_true, ↓Bool.or_eq_false_iff, ↓Bool.and_eq_true, ↓Bool.and_eq_false_iff, ↓Bool.not_eq_true', ↓Bool.not_eq_false', ↓decide_eq_true_eq, ↓decide_eq_false_iff_not, ↓beq_iff_eq, ↓bne_iff_ne, ↓bne_eq_false_iff_eq, ↓ne_eq, ↓beq_eq_false_iff_ne, ↓Bool.not_eq_true] at he; try simp only [Ty.dflt, Int.toNat_natCast] at he)
      have hi' : i < ch.length := by omega
      have eX : ch.getD ((i : Int)).toNat stT.dflt = ch[i] := getD_nat ch hi' _
      (repeat (first | refine zs rfl ?_ | refine zg rfl rfl rfl ?_ | refine zd ?_ | refine JK.fin ?_ | refine JK.ret ?_))
      refine JK.cond rfl (fun hf => ?_) (fun hf => ?_)
      · rw [eX] at hf
        (simp only [↓bif_or, ↓bif_and, ↓Bool.or_eq_true, ↓Bool.or_eq_false_iff, ↓Bool.and_eq_true, ↓Bool.and_eq_false_iff, ↓Bool.not_eq_true', ↓Bool.not_eq_false', ↓decide_eq_true_eq, ↓decide_eq_false_iff_not, ↓beq_iff_eq, ↓bne_iff_ne, ↓bne_eq_false_iff_eq, ↓ne_eq, ↓beq_eq_false_iff_ne, ↓Bool.not_eq_true] at hf; try simp only [Ty.dflt, Int.toNat_natCast] at hf)
        (repeat (first | refine zs rfl ?_ | refine zg rfl rfl rfl ?_ | refine zd ?_ | refine JK.fin ?_ | refine JK.ret ?_))
        refine ⟨.inl rfl, _, _, rfl, trivial, ?_⟩
        rw [if_pos ⟨hf.1, List.any_eq_true.2 ⟨ch[i], List.getElem_mem hi', decide_eq_true (by omega)⟩⟩]
      · rw [eX] at hf
        (simp only [↓bif_or, ↓bif_and, ↓Bool.or_eq_true, ↓Bool.or_eq_false_iff, ↓Bool.and_eq_true, ↓Bool.and_eq_false_iff, ↓Bool.not_eq_true', ↓Bool.not_eq_false', ↓decide_eq_true_eq, ↓decide_eq_false_iff_not, ↓beq_iff_eq, ↓bne_iff_ne, ↓bne_eq_false_iff_eq, ↓ne_eq, ↓beq_eq_false_iff_ne, ↓Bool.not_eq_true] at hf; try simp only [Ty.dflt, Int.toNat_natCast] at hf)
        (repeat (first | refine zs rfl ?_ | refine zg rfl rfl rfl ?_ | refine zd ?_ | refine JK.fin ?_ | refine JK.ret ?_))
        exact ⟨i + 1, by (exact JW.Auto (by conv => lhs; reduce)), ⟨by omega, fun h j hj hji => by
          by_cases hji' : j = i
          · subst hji'; intro h9; rcases hf with hf | hf
            · exact hf h
            · exact hf (by omega)
          · exact hr h j hj (by omega)⟩, by omega⟩
    · (simp only [↓bif_or, ↓bif_and, ↓Bool.or_eq_true, ↓Bool.or_eq_false_iff, ↓Bool.and_eq_true, ↓Bool.and_eq_false_iff, ↓Bool.not_eq_true', ↓Bool.not_eq_false', ↓decide_eq_true_eq, ↓decide_eq_false_iff_not, ↓beq_iff_eq, ↓bne_iff_ne, ↓bne_eq_false_iff_eq, ↓ne_eq, ↓beq_eq_false_iff_ne, ↓Bool.not_eq_true] at he; try simp only [Ty.dflt, Int.toNat_natCast] at he)
      obtain rfl : i = ch.length := by omega
      (repeat (first | refine zs rfl ?_ | refine zg rfl rfl rfl ?_ | refine zd ?_ | refine JK.fin ?_ | refine JK.ret ?_))
      refine ⟨.inl rfl, _, _, rfl, trivial, ?_⟩
      rw [if_neg]
      rintro ⟨h1, h2⟩
      obtain ⟨z, hz, h3⟩ := List.any_eq_true.1 h2
      obtain ⟨j, hj, rfl⟩ := List.mem_iff_getElem.1 hz
      exact hr h1 j hj hj (of_decide_eq_true h3)
end Go.Proofs.Ytdmfofjaknngnaa

namespace Go.Proofs.Ytdmfofjaknngnaa
open Go Go.RowKit Ox Ox.Two
attribute [local irreducible] JC JL JK JW
theorem eqS : EqT Go.Proofs.Try.prog stT 65 := .of (by decide +kernel)

theorem fn55 (n : Int) (ev : List evD) (z : stD) (hl : ev.length ≤ 40) : Ox.Fn Go.Proofs.Try.prog 55 (.acons (vS z) (.acons (pC n ev) .anil)) (· = vB (!byB ev z)) := by
  refine Ox.Fn.intro xok Go.Proofs.Try.func55 rfl Go.Proofs.Try.call55 (Nat.le_of_ble_eq_true rfl) (fun E M0 up => ?_)
  refine JK.start ?_
  (repeat (first | refine zs rfl ?_ | refine zg rfl rfl rfl ?_ | refine zd ?_ | refine JK.fin ?_ | refine JK.ret ?_ | refine zeq eqS rfl rfl rfl ?_ | refine zne eqS rfl rfl rfl ?_ | refine zeqg eqS rfl rfl rfl rfl ?_ | refine zneg eqS rfl rfl rfl rfl ?_ | refine zc rfl (fn56 _ _ _) rfl rfl ?_ | refine ze rfl (fn56 _ _ _) rfl ?_ | refine zk rfl rfl (fun _ => fn56 _ _ _) rfl rfl ?_))
  refine ⟨.inl rfl, _, _, rfl, trivial, ?_⟩
  refine congrArg (fun b : Bool => vB (!b)) ?_
  unfold byB
  rw [Bool.eq_iff_iff]
  simp
theorem fn63 (fr : Int) (z : stD) (h : -1000 ≤ fr ∧ fr ≤ 1000) : Ox.Fn Go.Proofs.Try.prog 63 (.acons (vS z) (.acons (pI fr) .anil)) (· = vB (decide (z.2.1 = -fr))) := by
  refine Ox.Fn.intro xok Go.Proofs.Try.func63 rfl Go.Proofs.Try.call63 (Nat.le_of_ble_eq_true rfl) (fun E M0 up => ?_)
  refine JK.start ?_
  (repeat (first | refine zs rfl ?_ | refine zg rfl rfl rfl ?_ | refine zd ?_ | refine JK.fin ?_ | refine JK.ret ?_ | refine zeq eqS rfl rfl rfl ?_ | refine zne eqS rfl rfl rfl ?_ | refine zeqg eqS rfl rfl rfl rfl ?_ | refine zneg eqS rfl rfl rfl rfl ?_))
  refine ⟨.inl rfl, _, _, rfl, trivial, ?_⟩
  refine congrArg vB ?_
  rw [Bool.eq_iff_iff]
  simp
def atI (ch : List stD) : Nat → Int
  | 0 => (ch.getD 0 (0, 0, 0, ())).1
  | i + 1 => (ch.getD i (0, 0, 0, ())).2.1
theorem linkAt_eq {ev : List evD} {ch : List stD} {i : Nat} {z1 z2 z3 x1 x2 : Int} {zu xu : Unit} (hZ : ch.getD i (0, 0, 0, ()) = (z1, z2, z3, zu)) (hX : ev.getD z3.toNat (0, 0, ()) = (x1, x2, xu)) :
    linkAt ev ch i = !(bif (bif !stT.eqB (z1, z2, z3, zu) (0 - x1, x2, z3, ()) then !stT.eqB (z1, z2, z3, zu) (0 - x2, x1, z3, ()) else false) then true else z1 != atI ch i) := by
  have ha : (decide (i = 0) || decide ((ch.getD i (0, 0, 0, ())).1 = (ch.getD (i - 1) (0, 0, 0, ())).2.1)) = decide (z1 = atI ch i) := by
    cases i with
    | zero => rw [Bool.eq_iff_iff]; simp only [atI, hZ]; simp
    | succ j => rw [hZ, Nat.add_sub_cancel]; simp [atI]
  have h1 : stT.eqB (z1, z2, z3, zu) (0 - x1, x2, z3, ()) = decide (z1 = 0 - x1 ∧ z2 = x2) := by
    rw [Bool.eq_iff_iff, Ty.eqB_iff, decide_eq_true_eq]
    constructor
    · intro h; exact ⟨congrArg (fun q : stD => q.1) h, congrArg (fun q : stD => q.2.1) h⟩
    · rintro ⟨h, h'⟩; rw [h, h']
  have h2 : stT.eqB (z1, z2, z3, zu) (0 - x2, x1, z3, ()) = decide (z1 = 0 - x2 ∧ z2 = x1) := by
    rw [Bool.eq_iff_iff, Ty.eqB_iff, decide_eq_true_eq]
    constructor
    · intro h; exact ⟨congrArg (fun q : stD => q.1) h, congrArg (fun q : stD => q.2.1) h⟩
    · rintro ⟨h, h'⟩; rw [h, h']
  rw [linkAt, ha, h1, h2]
  have h3 : stepB ev (ch.getD i (0, 0, 0, ())) = decide ((x1 = -z1 ∧ x2 = z2) ∨ (x2 = -z1 ∧ x1 = z2)) := by
    rw [hZ]; unfold stepB; dsimp only; rw [hX]
  rw [h3, Bool.eq_iff_iff]
  simp only [bif_and, bif_or, Bool.and_eq_true, Bool.or_eq_true, Bool.not_eq_true', Bool.or_eq_false_iff, Bool.and_eq_false_iff, Bool.not_eq_false', decide_eq_true_eq, bne_eq_false_iff_eq]
  omega
set_option maxHeartbeats 2000000 in
theorem fn16 (n : Int) (ev : List evD) (ch : List stD) : Ox.Fn Go.Proofs.Try.prog 16 (.acons (vC n ev) (.acons (vSs ch) .anil)) (· = vT3 (chainR n ev ch).1 (chainR n ev ch).2.1 (chainR n ev ch).2.2) := by
  refine Ox.Fn.intro xok Go.Proofs.Try.func16 rfl Go.Proofs.Try.call16 (Nat.le_of_ble_eq_true rfl) (fun E M0 up => ?_)
  refine JK.start ?_
  refine JK.lenOf 1 rfl fun hlen => ?_
  replace hlen : ch.length ≤ 9223372036854775807 := hlen.1
  (repeat (first | refine zs rfl ?_ | refine zg rfl rfl rfl ?_ | refine zd ?_ | refine JK.fin ?_ | refine JK.ret ?_ | refine zeq eqS rfl rfl rfl ?_ | refine zne eqS rfl rfl rfl ?_ | refine zeqg eqS rfl rfl rfl rfl ?_ | refine zneg eqS rfl rfl rfl rfl ?_ | refine zc rfl (fn53 n ev) rfl rfl ?_ | refine ze rfl (fn53 n ev) rfl ?_ | refine zk rfl rfl (fun _ => fn53 n ev) rfl rfl ?_))
  refine JK.cond rfl (fun hc => ?_) (fun hc => ?_)
  · (simp only [↓bif_or, ↓bif_and, ↓Bool.or_eq_true, ↓Bool.or_eq_false_iff, ↓Bool.and_eq_true, ↓Bool.and_eq_false_iff, ↓Bool.not_eq_true', ↓Bool.not_eq_false', ↓decide_eq_true_eq, ↓decide_eq_false_iff_not, ↓beq_iff_eq, ↓bne_iff_ne, ↓bne_eq_false_iff_eq, ↓ne_eq, ↓beq_eq_false_iff_ne, ↓Bool.not_eq_true] at hc; try simp only [Ty.dflt, Int.toNat_natCast] at hc)
    (repeat (first | refine zs rfl ?_ | refine zg rfl rfl rfl ?_ | refine zd ?_ | refine JK.fin ?_ | refine JK.ret ?_ | refine zeq eqS rfl rfl rfl ?_ | refine zne eqS rfl rfl rfl ?_ | refine zeqg eqS rfl rfl rfl rfl ?_ | refine zneg eqS rfl rfl rfl rfl ?_))
    refine ⟨.inl rfl, _, _, rfl, trivial, ?_⟩
    rw [chainR, if_pos hc]
  · (simp only [↓bif_or, ↓bif_and, ↓Bool.or_eq_true, ↓Bool.or_eq_false_iff, ↓Bool.and_eq_true, ↓Bool.and_eq_false_iff, ↓Bool.not_eq_true', ↓Bool.not_eq_false', ↓decide_eq_true_eq, ↓decide_eq_false_iff_not, ↓beq_iff_eq, ↓bne_iff_ne, ↓bne_eq_false_iff_eq, ↓ne_eq, ↓beq_eq_false_iff_ne, ↓Bool.not_eq_true] at hc; try simp only [Ty.dflt, Int.toNat_natCast] at hc)
    have h0 : caseErr n ev = 0 := by omega
    have hok := case_ok h0
    (repeat (first | refine zs rfl ?_ | refine zg rfl rfl rfl ?_ | refine zd ?_ | refine JK.fin ?_ | refine JK.ret ?_ | refine zeq eqS rfl rfl rfl ?_ | refine zne eqS rfl rfl rfl ?_ | refine zeqg eqS rfl rfl rfl rfl ?_ | refine zneg eqS rfl rfl rfl rfl ?_))
    refine JK.cond rfl (fun hd => ?_) (fun hd => ?_)
    · (simp only [↓bif_or, ↓bif_and, ↓Bool.or_eq_true, ↓Bool.or_eq_false_iff, ↓Bool.and_eq_true, ↓Bool.and_eq_false_iff, ↓Bool.not_eq_true', ↓Bool.not_eq_false', ↓decide_eq_true_eq, ↓decide_eq_false_iff_not, ↓beq_iff_eq, ↓bne_iff_ne, ↓bne_eq_false_iff_eq, ↓ne_eq, ↓beq_eq_false_iff_ne, ↓Bool.not_eq_true] at hd; try simp only [Ty.dflt, Int.toNat_natCast] at hd)
      (repeat (first | refine zs rfl ?_ | refine zg rfl rfl rfl ?_ | refine zd ?_ | refine JK.fin ?_ | refine JK.ret ?_ | refine zeq eqS rfl rfl rfl ?_ | refine zne eqS rfl rfl rfl ?_ | refine zeqg eqS rfl rfl rfl rfl ?_ | refine zneg eqS rfl rfl rfl rfl ?_))
      refine ⟨.inl rfl, _, _, rfl, trivial, ?_⟩
      rw [chainR, if_neg (by omega), if_pos (by omega)]
    · (simp only [↓bif_or, ↓bif_and, ↓Bool.or_eq_true, ↓Bool.or_eq_false_iff, ↓Bool.and_eq_true, ↓Bool.and_eq_false_iff, ↓Bool.not_eq_true', ↓Bool.not_eq_false', ↓decide_eq_true_eq, ↓decide_eq_false_iff_not, ↓beq_iff_eq, ↓bne_iff_ne, ↓bne_eq_false_iff_eq, ↓ne_eq, ↓beq_eq_false_iff_ne, ↓Bool.not_eq_true] at hd; try simp only [Ty.dflt, Int.toNat_natCast] at hd)
      have hd' : ¬ (ch.length < 1 ∨ ch.length > 60) := by omega
      (repeat (first | refine zs rfl ?_ | refine zg rfl rfl rfl ?_ | refine zd ?_ | refine JK.fin ?_ | refine JK.ret ?_ | refine zeq eqS rfl rfl rfl ?_ | refine zne eqS rfl rfl rfl ?_ | refine zeqg eqS rfl rfl rfl rfl ?_ | refine zneg eqS rfl rfl rfl rfl ?_ | refine zc rfl (fn54 ch (fun z => !byB ev z) (fun z _ => fn55 n ev z hok.2.2.1)) rfl rfl ?_ | refine ze rfl (fn54 ch (fun z => !byB ev z) (fun z _ => fn55 n ev z hok.2.2.1)) rfl ?_ | refine zk rfl rfl (fun _ => fn54 ch (fun z => !byB ev z) (fun z _ => fn55 n ev z hok.2.2.1)) rfl rfl ?_))
      refine JK.cond rfl (fun he => ?_) (fun he => ?_)
      · (repeat (first | refine zs rfl ?_ | refine zg rfl rfl rfl ?_ | refine zd ?_ | refine JK.fin ?_ | refine JK.ret ?_ | refine zeq eqS rfl rfl rfl ?_ | refine zne eqS rfl rfl rfl ?_ | refine zeqg eqS rfl rfl rfl rfl ?_ | refine zneg eqS rfl rfl rfl rfl ?_))
        refine ⟨.inl rfl, _, _, rfl, trivial, ?_⟩
        rw [chainR, if_neg (by omega), if_neg hd', if_pos]
        intro h
        obtain ⟨z, hz, h1⟩ := List.any_eq_true.1 he
        rw [List.all_eq_true.1 h z hz] at h1
        cases h1
      · have hby : ch.all (byB ev) = true := by
          rw [List.all_eq_true]; intro z hz
          have := List.any_eq_false.1 he z hz
          simpa using this
        (repeat (first | refine zs rfl ?_ | refine zg rfl rfl rfl ?_ | refine zd ?_ | refine JK.fin ?_ | refine JK.ret ?_ | refine zeq eqS rfl rfl rfl ?_ | refine zne eqS rfl rfl rfl ?_ | refine zeqg eqS rfl rfl rfl rfl ?_ | refine zneg eqS rfl rfl rfl rfl ?_))
        refine JK.loop (fun i : Nat => ⟨[(1, vSs ch), (2, .lf (.optr 0 [])), (8, vI (atI ch i)), (37, vSs ch), (38, vI ch.length), (39, vI (i : Int))], [(0, .cell caT (vC n ev))], 1⟩) (fun i => i ≤ ch.length ∧ linkB ev ch i = true) (fun i => ch.length - i) 0 ⟨Nat.zero_le _, rfl⟩ (by (exact JW.Auto (by conv => lhs; reduce))) fun i ⟨hi, hq⟩ => ?_
        (repeat (first | refine zs rfl ?_ | refine zg rfl rfl rfl ?_ | refine zd ?_ | refine JK.fin ?_ | refine JK.ret ?_ | refine zeq eqS rfl rfl rfl ?_ | refine zne eqS rfl rfl rfl ?_ | refine zeqg eqS rfl rfl rfl rfl ?_ | refine zneg eqS rfl rfl rfl rfl ?_))
        refine JK.cond rfl (fun hf => ?_) (fun hf => ?_)
        · (simp only [↓bif_or, ↓bif_and, ↓Bool.or_eq_true, ↓Bool.or_eq_false_iff, ↓Bool.and_eq_true, ↓Bool.and_eq_false_iff, ↓Bool.not_eq_true', ↓Bool.not_eq_false', ↓decide_eq_true_eq, ↓decide_eq_false_iff_not, ↓beq_iff_eq, ↓bne_iff_ne, ↓bne_eq_false_iff_eq, ↓ne_eq, ↓beq_eq_false_iff_ne, ↓Bool.not_eq_true] at hf; try simp only [Ty.dflt, Int.toNat_natCast] at hf)
          have hi' : i < ch.length := by omega
          have eX : ch.getD ((i : Int)).toNat stT.dflt = ch[i] := getD_nat ch hi' _
          have hbz : 0 ≤ (ch.getD ((i : Int)).toNat stT.dflt).2.2.1 ∧ (ch.getD ((i : Int)).toNat stT.dflt).2.2.1 ≤ (ev.length : Int) - 1 := by
            rw [eX]; exact of_decide_eq_true (List.all_eq_true.1 hby _ (List.getElem_mem hi') : byB ev _ = true)
          have hbn : ((ch.getD ((i : Int)).toNat stT.dflt).2.2.1).toNat < ev.length := by omega
          have eY : ev.getD ((ch.getD ((i : Int)).toNat stT.dflt).2.2.1).toNat evT.dflt = ev[((ch.getD ((i : Int)).toNat stT.dflt).2.2.1).toNat] := getD_nat ev hbn _
          have hvx := hok.2.2.2 _ (List.getElem_mem hbn)
          rw [← eY] at hvx
          have hx1 : -1000 ≤ (ev.getD ((ch.getD ((i : Int)).toNat stT.dflt).2.2.1).toNat evT.dflt).1 ∧ (ev.getD ((ch.getD ((i : Int)).toNat stT.dflt).2.2.1).toNat evT.dflt).1 ≤ 1000 := by have := hvx.1; unfold isSay at this; omega
          have hx2 : -1000 ≤ (ev.getD ((ch.getD ((i : Int)).toNat stT.dflt).2.2.1).toNat evT.dflt).2.1 ∧ (ev.getD ((ch.getD ((i : Int)).toNat stT.dflt).2.2.1).toNat evT.dflt).2.1 ≤ 1000 := by have := hvx.2; unfold isSay at this; omega
          clear eX eY
          (repeat (first | refine zs rfl ?_ | refine zg rfl rfl rfl ?_ | refine JK.fin ?_ | refine JK.ret ?_ | refine zeq eqS rfl rfl rfl ?_ | refine zne eqS rfl rfl rfl ?_ | refine zeqg eqS rfl rfl rfl rfl ?_ | refine zneg eqS rfl rfl rfl rfl ?_))
          refine JK.weak (s' := ⟨[(1, vSs ch), (2, .lf (.optr 0 [])), (8, vI (atI ch i)), (10, .lf (.optr 1 [])), (11, .lf (.optr 2 [])), (37, vSs ch), (38, vI ch.length), (39, vI (i : Int))],
            [(0, .cell caT (vC n ev)), (1, .cell stT (vS (ch.getD ((i : Int)).toNat stT.dflt))), (2, .cell evT (vE (ev.getD ((ch.getD ((i : Int)).toNat stT.dflt).2.2.1).toNat evT.dflt)))], 3⟩) (by (exact JW.Auto (by conv => lhs; reduce))) ?_
          generalize hX : ev.getD ((ch.getD ((i : Int)).toNat stT.dflt).2.2.1).toNat evT.dflt = X at hvx hx1 hx2 ⊢
          generalize hZ : ch.getD ((i : Int)).toNat stT.dflt = Z at hX hbz hbn ⊢
          obtain ⟨x1, x2, xu⟩ := X
          obtain ⟨z1, z2, z3, zu⟩ := Z
          dsimp only at hvx hx1 hx2 hbz hbn
          refine JK.drawTo (xok rfl rfl rfl rfl) (Go.Proofs.Try.f16.body.getD .skip) ⟨[(1, vSs ch), (2, .lf (.optr 0 [])), (8, vI (atI ch i)), (10, .lf (.optr 1 [])), (12, .lf (.optr 3 [])), (13, .lf (.optr 4 [])), (37, vSs ch), (38, vI ch.length), (39, vI (i : Int))],
            [(0, .cell caT (vC n ev)), (1, .cell stT (vS (z1, z2, z3, zu))), (3, .cell stT (vS (0 - x1, x2, z3, ()))), (4, .cell stT (vS (0 - x2, x1, z3, ())))], 5⟩ rfl 20 rfl ?_ ?_
          · (refine JF.First 0 (xok rfl rfl rfl rfl) rfl rfl ?_; refine JF.First 3 (xok rfl rfl rfl rfl) rfl rfl ?_; refine JF.First 5 (xok rfl rfl rfl rfl) rfl rfl ?_; refine JF.First 8 (xok rfl rfl rfl rfl) rfl rfl ?_; refine JF.First 11 (xok rfl rfl rfl rfl) rfl rfl ?_; refine JF.First 13 (xok rfl rfl rfl rfl) rfl rfl ?_; refine JF.Float 1 (xok rfl rfl rfl rfl) rfl rfl ?_; refine JF.Float 2 (xok rfl rfl rfl rfl) rfl rfl ?_; refine JF.Float 4 (xok rfl rfl rfl rfl) rfl rfl ?_; refine JF.Float 6 (xok rfl rfl rfl rfl) rfl rfl ?_; refine JF.Float 9 (xok rfl rfl rfl rfl) rfl rfl ?_; refine JF.Float 10 (xok rfl rfl rfl rfl) rfl rfl ?_; refine JF.Float 12 (xok rfl rfl rfl rfl) rfl rfl ?_; refine JF.Float 14 (xok rfl rfl rfl rfl) rfl rfl ?_; refine JF.Branch 7 [15, 16, 17] (xok rfl rfl rfl rfl) ?_ ?_; (focus (repeat (first | exact StF.nil | refine StF.One rfl rfl rfl ?_))); refine BrF.one rfl rfl ?_ (BrF.one rfl rfl ?_ (BrF.one rfl rfl ?_ (BrF.one rfl rfl ?_ BrF.nil))); (· (first | refine JL.Q1 (xok rfl rfl rfl rfl) rfl rfl ?_ | refine JL.G1 (xok rfl rfl rfl rfl) rfl rfl rfl ?_ | refine JL.M1 (xok rfl rfl rfl rfl) rfl rfl ?_ | refine JL.M0 (xok rfl rfl rfl rfl) rfl ?_ | refine JL.Q0 (xok rfl rfl rfl rfl) rfl ?_ | refine JL.EqQ eqS rfl rfl rfl ?_ | refine JL.NeQ eqS rfl rfl rfl ?_); refine JL.finN ?_; refine JF.Branch 15 [16, 17] (xok rfl rfl rfl rfl) ?_ ?_; (focus (repeat (first | exact StF.nil | refine StF.One rfl rfl rfl ?_))); refine BrF.one rfl rfl ?_ (BrF.one rfl rfl ?_ (BrF.one rfl rfl ?_ BrF.nil)); (· (first | refine JL.Q1 (xok rfl rfl rfl rfl) rfl rfl ?_ | refine JL.G1 (xok rfl rfl rfl rfl) rfl rfl rfl ?_ | refine JL.M1 (xok rfl rfl rfl rfl) rfl rfl ?_ | refine JL.M0 (xok rfl rfl rfl rfl) rfl ?_ | refine JL.Q0 (xok rfl rfl rfl rfl) rfl ?_ | refine JL.EqQ eqS rfl rfl rfl ?_ | refine JL.NeQ eqS rfl rfl rfl ?_); refine JL.finN ?_; refine JF.Branch 16 [17] (xok rfl rfl rfl rfl) ?_ ?_; (focus (repeat (first | exact StF.nil | refine StF.One rfl rfl rfl ?_))); refine BrF.one rfl rfl ?_ (BrF.one rfl rfl ?_ BrF.nil); (· (first | refine JL.Q1 (xok rfl rfl rfl rfl) rfl rfl ?_ | refine JL.G1 (xok rfl rfl rfl rfl) rfl rfl rfl ?_ | refine JL.M1 (xok rfl rfl rfl rfl) rfl rfl ?_ | refine JL.M0 (xok rfl rfl rfl rfl) rfl ?_ | refine JL.Q0 (xok rfl rfl rfl rfl) rfl ?_ | refine JL.EqQ eqS rfl rfl rfl ?_ | refine JL.NeQ eqS rfl rfl rfl ?_); refine JL.finN ?_; refine JF.Branch 17 [] (xok rfl rfl rfl rfl) ?_ ?_; (focus (repeat (first | exact StF.nil | refine StF.One rfl rfl rfl ?_))); refine BrF.one rfl rfl ?_ BrF.nil; (· (first | refine JL.Q1 (xok rfl rfl rfl rfl) rfl rfl ?_ | refine JL.G1 (xok rfl rfl rfl rfl) rfl rfl rfl ?_ | refine JL.M1 (xok rfl rfl rfl rfl) rfl rfl ?_ | refine JL.M0 (xok rfl rfl rfl rfl) rfl ?_ | refine JL.Q0 (xok rfl rfl rfl rfl) rfl ?_ | refine JL.EqQ eqS rfl rfl rfl ?_ | refine JL.NeQ eqS rfl rfl rfl ?_); refine JL.finN ?_; refine JF.Branch 18 [] (xok rfl rfl rfl rfl) ?_ ?_; (focus (repeat (first | exact StF.nil | refine StF.One rfl rfl rfl ?_))); refine BrF.one rfl rfl ?_ BrF.nil; (· (first | refine JL.Q1 (xok rfl rfl rfl rfl) rfl rfl ?_ | refine JL.G1 (xok rfl rfl rfl rfl) rfl rfl rfl ?_ | refine JL.M1 (xok rfl rfl rfl rfl) rfl rfl ?_ | refine JL.M0 (xok rfl rfl rfl rfl) rfl ?_ | refine JL.Q0 (xok rfl rfl rfl rfl) rfl ?_ | refine JL.EqQ eqS rfl rfl rfl ?_ | refine JL.NeQ eqS rfl rfl rfl ?_); refine JL.finN ?_; refine JF.Branch 19 [] (xok rfl rfl rfl rfl) ?_ ?_; (focus (repeat (first | exact StF.nil | refine StF.One rfl rfl rfl ?_))); refine BrF.one rfl rfl ?_ BrF.nil; (· (first | refine JL.Q1 (xok rfl rfl rfl rfl) rfl rfl ?_ | refine JL.G1 (xok rfl rfl rfl rfl) rfl rfl rfl ?_ | refine JL.M1 (xok rfl rfl rfl rfl) rfl rfl ?_ | refine JL.M0 (xok rfl rfl rfl rfl) rfl ?_ | refine JL.Q0 (xok rfl rfl rfl rfl) rfl ?_ | refine JL.EqQ eqS rfl rfl rfl ?_ | refine JL.NeQ eqS rfl rfl rfl ?_); refine JL.finN ?_; refine JF.Done (xok rfl rfl rfl rfl) ?_ ?_; (focus (repeat (first | exact StF.nil | refine StF.One rfl rfl rfl ?_))); ((exact JW.Auto (by conv => lhs; reduce))))))); (· (first | refine JL.Q1 (xok rfl rfl rfl rfl) rfl rfl ?_ | refine JL.G1 (xok rfl rfl rfl rfl) rfl rfl rfl ?_ | refine JL.M1 (xok rfl rfl rfl rfl) rfl rfl ?_ | refine JL.M0 (xok rfl rfl rfl rfl) rfl ?_ | refine JL.Q0 (xok rfl rfl rfl rfl) rfl ?_ | refine JL.EqQ eqS rfl rfl rfl ?_ | refine JL.NeQ eqS rfl rfl rfl ?_); refine JL.finN ?_; refine JF.Branch 16 [] (xok rfl rfl rfl rfl) ?_ ?_; (focus (repeat (first | exact StF.nil | refine StF.One rfl rfl rfl ?_))); refine BrF.one rfl rfl ?_ BrF.nil; (· (first | refine JL.Q1 (xok rfl rfl rfl rfl) rfl rfl ?_ | refine JL.G1 (xok rfl rfl rfl rfl) rfl rfl rfl ?_ | refine JL.M1 (xok rfl rfl rfl rfl) rfl rfl ?_ | refine JL.M0 (xok rfl rfl rfl rfl) rfl ?_ | refine JL.Q0 (xok rfl rfl rfl rfl) rfl ?_ | refine JL.EqQ eqS rfl rfl rfl ?_ | refine JL.NeQ eqS rfl rfl rfl ?_); refine JL.finN ?_; refine JF.Branch 18 [] (xok rfl rfl rfl rfl) ?_ ?_; (focus (repeat (first | exact StF.nil | refine StF.One rfl rfl rfl ?_))); refine BrF.one rfl rfl ?_ BrF.nil; (· (first | refine JL.Q1 (xok rfl rfl rfl rfl) rfl rfl ?_ | refine JL.G1 (xok rfl rfl rfl rfl) rfl rfl rfl ?_ | refine JL.M1 (xok rfl rfl rfl rfl) rfl rfl ?_ | refine JL.M0 (xok rfl rfl rfl rfl) rfl ?_ | refine JL.Q0 (xok rfl rfl rfl rfl) rfl ?_ | refine JL.EqQ eqS rfl rfl rfl ?_ | refine JL.NeQ eqS rfl rfl rfl ?_); refine JL.finN ?_; refine JF.Branch 19 [] (xok rfl rfl rfl rfl) ?_ ?_; (focus (repeat (first | exact StF.nil | refine StF.One rfl rfl rfl ?_))); refine BrF.one rfl rfl ?_ BrF.nil; (· (first | refine JL.Q1 (xok rfl rfl rfl rfl) rfl rfl ?_ | refine JL.G1 (xok rfl rfl rfl rfl) rfl rfl rfl ?_ | refine JL.M1 (xok rfl rfl rfl rfl) rfl rfl ?_ | refine JL.M0 (xok rfl rfl rfl rfl) rfl ?_ | refine JL.Q0 (xok rfl rfl rfl rfl) rfl ?_ | refine JL.EqQ eqS rfl rfl rfl ?_ | refine JL.NeQ eqS rfl rfl rfl ?_); refine JL.finN ?_; refine JF.Done (xok rfl rfl rfl rfl) ?_ ?_; (focus (repeat (first | exact StF.nil | refine StF.One rfl rfl rfl ?_))); ((exact JW.Auto (by conv => lhs; reduce)))))))); (· (first | refine JL.Q1 (xok rfl rfl rfl rfl) rfl rfl ?_ | refine JL.G1 (xok rfl rfl rfl rfl) rfl rfl rfl ?_ | refine JL.M1 (xok rfl rfl rfl rfl) rfl rfl ?_ | refine JL.M0 (xok rfl rfl rfl rfl) rfl ?_ | refine JL.Q0 (xok rfl rfl rfl rfl) rfl ?_ | refine JL.EqQ eqS rfl rfl rfl ?_ | refine JL.NeQ eqS rfl rfl rfl ?_); refine JL.finN ?_; refine JF.Branch 15 [17] (xok rfl rfl rfl rfl) ?_ ?_; (focus (repeat (first | exact StF.nil | refine StF.One rfl rfl rfl ?_))); refine BrF.one rfl rfl ?_ (BrF.one rfl rfl ?_ BrF.nil); (· (first | refine JL.Q1 (xok rfl rfl rfl rfl) rfl rfl ?_ | refine JL.G1 (xok rfl rfl rfl rfl) rfl rfl rfl ?_ | refine JL.M1 (xok rfl rfl rfl rfl) rfl rfl ?_ | refine JL.M0 (xok rfl rfl rfl rfl) rfl ?_ | refine JL.Q0 (xok rfl rfl rfl rfl) rfl ?_ | refine JL.EqQ eqS rfl rfl rfl ?_ | refine JL.NeQ eqS rfl rfl rfl ?_); refine JL.finN ?_; refine JF.Branch 17 [] (xok rfl rfl rfl rfl) ?_ ?_; (focus (repeat (first | exact StF.nil | refine StF.One rfl rfl rfl ?_))); refine BrF.one rfl rfl ?_ BrF.nil; (· (first | refine JL.Q1 (xok rfl rfl rfl rfl) rfl rfl ?_ | refine JL.G1 (xok rfl rfl rfl rfl) rfl rfl rfl ?_ | refine JL.M1 (xok rfl rfl rfl rfl) rfl rfl ?_ | refine JL.M0 (xok rfl rfl rfl rfl) rfl ?_ | refine JL.Q0 (xok rfl rfl rfl rfl) rfl ?_ | refine JL.EqQ eqS rfl rfl rfl ?_ | refine JL.NeQ eqS rfl rfl rfl ?_); refine JL.finN ?_; refine JF.Branch 18 [] (xok rfl rfl rfl rfl) ?_ ?_; (focus (repeat (first | exact StF.nil | refine StF.One rfl rfl rfl ?_))); refine BrF.one rfl rfl ?_ BrF.nil; (· (first | refine JL.Q1 (xok rfl rfl rfl rfl) rfl rfl ?_ | refine JL.G1 (xok rfl rfl rfl rfl) rfl rfl rfl ?_ | refine JL.M1 (xok rfl rfl rfl rfl) rfl rfl ?_ | refine JL.M0 (xok rfl rfl rfl rfl) rfl ?_ | refine JL.Q0 (xok rfl rfl rfl rfl) rfl ?_ | refine JL.EqQ eqS rfl rfl rfl ?_ | refine JL.NeQ eqS rfl rfl rfl ?_); refine JL.finN ?_; refine JF.Branch 19 [] (xok rfl rfl rfl rfl) ?_ ?_; (focus (repeat (first | exact StF.nil | refine StF.One rfl rfl rfl ?_))); refine BrF.one rfl rfl ?_ BrF.nil; (· (first | refine JL.Q1 (xok rfl rfl rfl rfl) rfl rfl ?_ | refine JL.G1 (xok rfl rfl rfl rfl) rfl rfl rfl ?_ | refine JL.M1 (xok rfl rfl rfl rfl) rfl rfl ?_ | refine JL.M0 (xok rfl rfl rfl rfl) rfl ?_ | refine JL.Q0 (xok rfl rfl rfl rfl) rfl ?_ | refine JL.EqQ eqS rfl rfl rfl ?_ | refine JL.NeQ eqS rfl rfl rfl ?_); refine JL.finN ?_; refine JF.Done (xok rfl rfl rfl rfl) ?_ ?_; (focus (repeat (first | exact StF.nil | refine StF.One rfl rfl rfl ?_))); ((exact JW.Auto (by conv => lhs; reduce))))))); (· (first | refine JL.Q1 (xok rfl rfl rfl rfl) rfl rfl ?_ | refine JL.G1 (xok rfl rfl rfl rfl) rfl rfl rfl ?_ | refine JL.M1 (xok rfl rfl rfl rfl) rfl rfl ?_ | refine JL.M0 (xok rfl rfl rfl rfl) rfl ?_ | refine JL.Q0 (xok rfl rfl rfl rfl) rfl ?_ | refine JL.EqQ eqS rfl rfl rfl ?_ | refine JL.NeQ eqS rfl rfl rfl ?_); refine JL.finN ?_; refine JF.Branch 15 [18] (xok rfl rfl rfl rfl) ?_ ?_; (focus (repeat (first | exact StF.nil | refine StF.One rfl rfl rfl ?_))); refine BrF.one rfl rfl ?_ (BrF.one rfl rfl ?_ BrF.nil); (· (first | refine JL.Q1 (xok rfl rfl rfl rfl) rfl rfl ?_ | refine JL.G1 (xok rfl rfl rfl rfl) rfl rfl rfl ?_ | refine JL.M1 (xok rfl rfl rfl rfl) rfl rfl ?_ | refine JL.M0 (xok rfl rfl rfl rfl) rfl ?_ | refine JL.Q0 (xok rfl rfl rfl rfl) rfl ?_ | refine JL.EqQ eqS rfl rfl rfl ?_ | refine JL.NeQ eqS rfl rfl rfl ?_); refine JL.finN ?_; refine JF.Branch 18 [] (xok rfl rfl rfl rfl) ?_ ?_; (focus (repeat (first | exact StF.nil | refine StF.One rfl rfl rfl ?_))); refine BrF.one rfl rfl ?_ BrF.nil; (· (first | refine JL.Q1 (xok rfl rfl rfl rfl) rfl rfl ?_ | refine JL.G1 (xok rfl rfl rfl rfl) rfl rfl rfl ?_ | refine JL.M1 (xok rfl rfl rfl rfl) rfl rfl ?_ | refine JL.M0 (xok rfl rfl rfl rfl) rfl ?_ | refine JL.Q0 (xok rfl rfl rfl rfl) rfl ?_ | refine JL.EqQ eqS rfl rfl rfl ?_ | refine JL.NeQ eqS rfl rfl rfl ?_); refine JL.finN ?_; refine JF.Branch 19 [] (xok rfl rfl rfl rfl) ?_ ?_; (focus (repeat (first | exact StF.nil | refine StF.One rfl rfl rfl ?_))); refine BrF.one rfl rfl ?_ BrF.nil; (· (first | refine JL.Q1 (xok rfl rfl rfl rfl) rfl rfl ?_ | refine JL.G1 (xok rfl rfl rfl rfl) rfl rfl rfl ?_ | refine JL.M1 (xok rfl rfl rfl rfl) rfl rfl ?_ | refine JL.M0 (xok rfl rfl rfl rfl) rfl ?_ | refine JL.Q0 (xok rfl rfl rfl rfl) rfl ?_ | refine JL.EqQ eqS rfl rfl rfl ?_ | refine JL.NeQ eqS rfl rfl rfl ?_); refine JL.finN ?_; refine JF.Done (xok rfl rfl rfl rfl) ?_ ?_; (focus (repeat (first | exact StF.nil | refine StF.One rfl rfl rfl ?_))); ((exact JW.Auto (by conv => lhs; reduce)))))); (· (first | refine JL.Q1 (xok rfl rfl rfl rfl) rfl rfl ?_ | refine JL.G1 (xok rfl rfl rfl rfl) rfl rfl rfl ?_ | refine JL.M1 (xok rfl rfl rfl rfl) rfl rfl ?_ | refine JL.M0 (xok rfl rfl rfl rfl) rfl ?_ | refine JL.Q0 (xok rfl rfl rfl rfl) rfl ?_ | refine JL.EqQ eqS rfl rfl rfl ?_ | refine JL.NeQ eqS rfl rfl rfl ?_); refine JL.finN ?_; refine JF.Branch 15 [] (xok rfl rfl rfl rfl) ?_ ?_; (focus (repeat (first | exact StF.nil | refine StF.One rfl rfl rfl ?_))); refine BrF.one rfl rfl ?_ BrF.nil; (· (first | refine JL.Q1 (xok rfl rfl rfl rfl) rfl rfl ?_ | refine JL.G1 (xok rfl rfl rfl rfl) rfl rfl rfl ?_ | refine JL.M1 (xok rfl rfl rfl rfl) rfl rfl ?_ | refine JL.M0 (xok rfl rfl rfl rfl) rfl ?_ | refine JL.Q0 (xok rfl rfl rfl rfl) rfl ?_ | refine JL.EqQ eqS rfl rfl rfl ?_ | refine JL.NeQ eqS rfl rfl rfl ?_); refine JL.finN ?_; refine JF.Branch 19 [] (xok rfl rfl rfl rfl) ?_ ?_; (focus (repeat (first | exact StF.nil | refine StF.One rfl rfl rfl ?_))); refine BrF.one rfl rfl ?_ BrF.nil; (· (first | refine JL.Q1 (xok rfl rfl rfl rfl) rfl rfl ?_ | refine JL.G1 (xok rfl rfl rfl rfl) rfl rfl rfl ?_ | refine JL.M1 (xok rfl rfl rfl rfl) rfl rfl ?_ | refine JL.M0 (xok rfl rfl rfl rfl) rfl ?_ | refine JL.Q0 (xok rfl rfl rfl rfl) rfl ?_ | refine JL.EqQ eqS rfl rfl rfl ?_ | refine JL.NeQ eqS rfl rfl rfl ?_); refine JL.finN ?_; refine JF.Done (xok rfl rfl rfl rfl) ?_ ?_; (focus (repeat (first | exact StF.nil | refine StF.One rfl rfl rfl ?_))); ((exact JW.Auto (by conv => lhs; reduce)))))))); (· (first | refine JL.Q1 (xok rfl rfl rfl rfl) rfl rfl ?_ | refine JL.G1 (xok rfl rfl rfl rfl) rfl rfl rfl ?_ | refine JL.M1 (xok rfl rfl rfl rfl) rfl rfl ?_ | refine JL.M0 (xok rfl rfl rfl rfl) rfl ?_ | refine JL.Q0 (xok rfl rfl rfl rfl) rfl ?_ | refine JL.EqQ eqS rfl rfl rfl ?_ | refine JL.NeQ eqS rfl rfl rfl ?_); refine JL.finN ?_; refine JF.Branch 15 [16] (xok rfl rfl rfl rfl) ?_ ?_; (focus (repeat (first | exact StF.nil | refine StF.One rfl rfl rfl ?_))); refine BrF.one rfl rfl ?_ (BrF.one rfl rfl ?_ BrF.nil); (· (first | refine JL.Q1 (xok rfl rfl rfl rfl) rfl rfl ?_ | refine JL.G1 (xok rfl rfl rfl rfl) rfl rfl rfl ?_ | refine JL.M1 (xok rfl rfl rfl rfl) rfl rfl ?_ | refine JL.M0 (xok rfl rfl rfl rfl) rfl ?_ | refine JL.Q0 (xok rfl rfl rfl rfl) rfl ?_ | refine JL.EqQ eqS rfl rfl rfl ?_ | refine JL.NeQ eqS rfl rfl rfl ?_); refine JL.finN ?_; refine JF.Branch 16 [] (xok rfl rfl rfl rfl) ?_ ?_; (focus (repeat (first | exact StF.nil | refine StF.One rfl rfl rfl ?_))); refine BrF.one rfl rfl ?_ BrF.nil; (· (first | refine JL.Q1 (xok rfl rfl rfl rfl) rfl rfl ?_ | refine JL.G1 (xok rfl rfl rfl rfl) rfl rfl rfl ?_ | refine JL.M1 (xok rfl rfl rfl rfl) rfl rfl ?_ | refine JL.M0 (xok rfl rfl rfl rfl) rfl ?_ | refine JL.Q0 (xok rfl rfl rfl rfl) rfl ?_ | refine JL.EqQ eqS rfl rfl rfl ?_ | refine JL.NeQ eqS rfl rfl rfl ?_); refine JL.finN ?_; refine JF.Branch 18 [] (xok rfl rfl rfl rfl) ?_ ?_; (focus (repeat (first | exact StF.nil | refine StF.One rfl rfl rfl ?_))); refine BrF.one rfl rfl ?_ BrF.nil; (· (first | refine JL.Q1 (xok rfl rfl rfl rfl) rfl rfl ?_ | refine JL.G1 (xok rfl rfl rfl rfl) rfl rfl rfl ?_ | refine JL.M1 (xok rfl rfl rfl rfl) rfl rfl ?_ | refine JL.M0 (xok rfl rfl rfl rfl) rfl ?_ | refine JL.Q0 (xok rfl rfl rfl rfl) rfl ?_ | refine JL.EqQ eqS rfl rfl rfl ?_ | refine JL.NeQ eqS rfl rfl rfl ?_); refine JL.finN ?_; refine JF.Branch 19 [] (xok rfl rfl rfl rfl) ?_ ?_; (focus (repeat (first | exact StF.nil | refine StF.One rfl rfl rfl ?_))); refine BrF.one rfl rfl ?_ BrF.nil; (· (first | refine JL.Q1 (xok rfl rfl rfl rfl) rfl rfl ?_ | refine JL.G1 (xok rfl rfl rfl rfl) rfl rfl rfl ?_ | refine JL.M1 (xok rfl rfl rfl rfl) rfl rfl ?_ | refine JL.M0 (xok rfl rfl rfl rfl) rfl ?_ | refine JL.Q0 (xok rfl rfl rfl rfl) rfl ?_ | refine JL.EqQ eqS rfl rfl rfl ?_ | refine JL.NeQ eqS rfl rfl rfl ?_); refine JL.finN ?_; refine JF.Done (xok rfl rfl rfl rfl) ?_ ?_; (focus (repeat (first | exact StF.nil | refine StF.One rfl rfl rfl ?_))); ((exact JW.Auto (by conv => lhs; reduce))))))); (· (first | refine JL.Q1 (xok rfl rfl rfl rfl) rfl rfl ?_ | refine JL.G1 (xok rfl rfl rfl rfl) rfl rfl rfl ?_ | refine JL.M1 (xok rfl rfl rfl rfl) rfl rfl ?_ | refine JL.M0 (xok rfl rfl rfl rfl) rfl ?_ | refine JL.Q0 (xok rfl rfl rfl rfl) rfl ?_ | refine JL.EqQ eqS rfl rfl rfl ?_ | refine JL.NeQ eqS rfl rfl rfl ?_); refine JL.finN ?_; refine JF.Branch 15 [18] (xok rfl rfl rfl rfl) ?_ ?_; (focus (repeat (first | exact StF.nil | refine StF.One rfl rfl rfl ?_))); refine BrF.one rfl rfl ?_ (BrF.one rfl rfl ?_ BrF.nil); (· (first | refine JL.Q1 (xok rfl rfl rfl rfl) rfl rfl ?_ | refine JL.G1 (xok rfl rfl rfl rfl) rfl rfl rfl ?_ | refine JL.M1 (xok rfl rfl rfl rfl) rfl rfl ?_ | refine JL.M0 (xok rfl rfl rfl rfl) rfl ?_ | refine JL.Q0 (xok rfl rfl rfl rfl) rfl ?_ | refine JL.EqQ eqS rfl rfl rfl ?_ | refine JL.NeQ eqS rfl rfl rfl ?_); refine JL.finN ?_; refine JF.Branch 18 [] (xok rfl rfl rfl rfl) ?_ ?_; (focus (repeat (first | exact StF.nil | refine StF.One rfl rfl rfl ?_))); refine BrF.one rfl rfl ?_ BrF.nil; (· (first | refine JL.Q1 (xok rfl rfl rfl rfl) rfl rfl ?_ | refine JL.G1 (xok rfl rfl rfl rfl) rfl rfl rfl ?_ | refine JL.M1 (xok rfl rfl rfl rfl) rfl rfl ?_ | refine JL.M0 (xok rfl rfl rfl rfl) rfl ?_ | refine JL.Q0 (xok rfl rfl rfl rfl) rfl ?_ | refine JL.EqQ eqS rfl rfl rfl ?_ | refine JL.NeQ eqS rfl rfl rfl ?_); refine JL.finN ?_; refine JF.Branch 19 [] (xok rfl rfl rfl rfl) ?_ ?_; (focus (repeat (first | exact StF.nil | refine StF.One rfl rfl rfl ?_))); refine BrF.one rfl rfl ?_ BrF.nil; (· (first | refine JL.Q1 (xok rfl rfl rfl rfl) rfl rfl ?_ | refine JL.G1 (xok rfl rfl rfl rfl) rfl rfl rfl ?_ | refine JL.M1 (xok rfl rfl rfl rfl) rfl rfl ?_ | refine JL.M0 (xok rfl rfl rfl rfl) rfl ?_ | refine JL.Q0 (xok rfl rfl rfl rfl) rfl ?_ | refine JL.EqQ eqS rfl rfl rfl ?_ | refine JL.NeQ eqS rfl rfl rfl ?_); refine JL.finN ?_; refine JF.Done (xok rfl rfl rfl rfl) ?_ ?_; (focus (repeat (first | exact StF.nil | refine StF.One rfl rfl rfl ?_))); ((exact JW.Auto (by conv => lhs; reduce)))))); (· (first | refine JL.Q1 (xok rfl rfl rfl rfl) rfl rfl ?_ | refine JL.G1 (xok rfl rfl rfl rfl) rfl rfl rfl ?_ | refine JL.M1 (xok rfl rfl rfl rfl) rfl rfl ?_ | refine JL.M0 (xok rfl rfl rfl rfl) rfl ?_ | refine JL.Q0 (xok rfl rfl rfl rfl) rfl ?_ | refine JL.EqQ eqS rfl rfl rfl ?_ | refine JL.NeQ eqS rfl rfl rfl ?_); refine JL.finN ?_; refine JF.Branch 15 [] (xok rfl rfl rfl rfl) ?_ ?_; (focus (repeat (first | exact StF.nil | refine StF.One rfl rfl rfl ?_))); refine BrF.one rfl rfl ?_ BrF.nil; (· (first | refine JL.Q1 (xok rfl rfl rfl rfl) rfl rfl ?_ | refine JL.G1 (xok rfl rfl rfl rfl) rfl rfl rfl ?_ | refine JL.M1 (xok rfl rfl rfl rfl) rfl rfl ?_ | refine JL.M0 (xok rfl rfl rfl rfl) rfl ?_ | refine JL.Q0 (xok rfl rfl rfl rfl) rfl ?_ | refine JL.EqQ eqS rfl rfl rfl ?_ | refine JL.NeQ eqS rfl rfl rfl ?_); refine JL.finN ?_; refine JF.Branch 19 [] (xok rfl rfl rfl rfl) ?_ ?_; (focus (repeat (first | exact StF.nil | refine StF.One rfl rfl rfl ?_))); refine BrF.one rfl rfl ?_ BrF.nil; (· (first | refine JL.Q1 (xok rfl rfl rfl rfl) rfl rfl ?_ | refine JL.G1 (xok rfl rfl rfl rfl) rfl rfl rfl ?_ | refine JL.M1 (xok rfl rfl rfl rfl) rfl rfl ?_ | refine JL.M0 (xok rfl rfl rfl rfl) rfl ?_ | refine JL.Q0 (xok rfl rfl rfl rfl) rfl ?_ | refine JL.EqQ eqS rfl rfl rfl ?_ | refine JL.NeQ eqS rfl rfl rfl ?_); refine JL.finN ?_; refine JF.Done (xok rfl rfl rfl rfl) ?_ ?_; (focus (repeat (first | exact StF.nil | refine StF.One rfl rfl rfl ?_))); ((exact JW.Auto (by conv => lhs; reduce))))))))); (· (first | refine JL.Q1 (xok rfl rfl rfl rfl) rfl rfl ?_ | refine JL.G1 (xok rfl rfl rfl rfl) rfl rfl rfl ?_ | refine JL.M1 (xok rfl rfl rfl rfl) rfl rfl ?_ | refine JL.M0 (xok rfl rfl rfl rfl) rfl ?_ | refine JL.Q0 (xok rfl rfl rfl rfl) rfl ?_ | refine JL.EqQ eqS rfl rfl rfl ?_ | refine JL.NeQ eqS rfl rfl rfl ?_); refine JL.finN ?_; refine JF.Branch 7 [16, 17] (xok rfl rfl rfl rfl) ?_ ?_; (focus (repeat (first | exact StF.nil | refine StF.One rfl rfl rfl ?_))); refine BrF.one rfl rfl ?_ (BrF.one rfl rfl ?_ (BrF.one rfl rfl ?_ BrF.nil)); (· (first | refine JL.Q1 (xok rfl rfl rfl rfl) rfl rfl ?_ | refine JL.G1 (xok rfl rfl rfl rfl) rfl rfl rfl ?_ | refine JL.M1 (xok rfl rfl rfl rfl) rfl rfl ?_ | refine JL.M0 (xok rfl rfl rfl rfl) rfl ?_ | refine JL.Q0 (xok rfl rfl rfl rfl) rfl ?_ | refine JL.EqQ eqS rfl rfl rfl ?_ | refine JL.NeQ eqS rfl rfl rfl ?_); refine JL.finN ?_; refine JF.Branch 16 [17] (xok rfl rfl rfl rfl) ?_ ?_; (focus (repeat (first | exact StF.nil | refine StF.One rfl rfl rfl ?_))); refine BrF.one rfl rfl ?_ (BrF.one rfl rfl ?_ BrF.nil); (· (first | refine JL.Q1 (xok rfl rfl rfl rfl) rfl rfl ?_ | refine JL.G1 (xok rfl rfl rfl rfl) rfl rfl rfl ?_ | refine JL.M1 (xok rfl rfl rfl rfl) rfl rfl ?_ | refine JL.M0 (xok rfl rfl rfl rfl) rfl ?_ | refine JL.Q0 (xok rfl rfl rfl rfl) rfl ?_ | refine JL.EqQ eqS rfl rfl rfl ?_ | refine JL.NeQ eqS rfl rfl rfl ?_); refine JL.finN ?_; refine JF.Branch 17 [] (xok rfl rfl rfl rfl) ?_ ?_; (focus (repeat (first | exact StF.nil | refine StF.One rfl rfl rfl ?_))); refine BrF.one rfl rfl ?_ BrF.nil; (· (first | refine JL.Q1 (xok rfl rfl rfl rfl) rfl rfl ?_ | refine JL.G1 (xok rfl rfl rfl rfl) rfl rfl rfl ?_ | refine JL.M1 (xok rfl rfl rfl rfl) rfl rfl ?_ | refine JL.M0 (xok rfl rfl rfl rfl) rfl ?_ | refine JL.Q0 (xok rfl rfl rfl rfl) rfl ?_ | refine JL.EqQ eqS rfl rfl rfl ?_ | refine JL.NeQ eqS rfl rfl rfl ?_); refine JL.finN ?_; refine JF.Branch 18 [] (xok rfl rfl rfl rfl) ?_ ?_; (focus (repeat (first | exact StF.nil | refine StF.One rfl rfl rfl ?_))); refine BrF.one rfl rfl ?_ BrF.nil; (· (first | refine JL.Q1 (xok rfl rfl rfl rfl) rfl rfl ?_ | refine JL.G1 (xok rfl rfl rfl rfl) rfl rfl rfl ?_ | refine JL.M1 (xok rfl rfl rfl rfl) rfl rfl ?_ | refine JL.M0 (xok rfl rfl rfl rfl) rfl ?_ | refine JL.Q0 (xok rfl rfl rfl rfl) rfl ?_ | refine JL.EqQ eqS rfl rfl rfl ?_ | refine JL.NeQ eqS rfl rfl rfl ?_); refine JL.finN ?_; refine JF.Branch 19 [] (xok rfl rfl rfl rfl) ?_ ?_; (focus (repeat (first | exact StF.nil | refine StF.One rfl rfl rfl ?_))); refine BrF.one rfl rfl ?_ BrF.nil; (· (first | refine JL.Q1 (xok rfl rfl rfl rfl) rfl rfl ?_ | refine JL.G1 (xok rfl rfl rfl rfl) rfl rfl rfl ?_ | refine JL.M1 (xok rfl rfl rfl rfl) rfl rfl ?_ | refine JL.M0 (xok rfl rfl rfl rfl) rfl ?_ | refine JL.Q0 (xok rfl rfl rfl rfl) rfl ?_ | refine JL.EqQ eqS rfl rfl rfl ?_ | refine JL.NeQ eqS rfl rfl rfl ?_); refine JL.finN ?_; refine JF.Done (xok rfl rfl rfl rfl) ?_ ?_; (focus (repeat (first | exact StF.nil | refine StF.One rfl rfl rfl ?_))); ((exact JW.Auto (by conv => lhs; reduce))))))); (· (first | refine JL.Q1 (xok rfl rfl rfl rfl) rfl rfl ?_ | refine JL.G1 (xok rfl rfl rfl rfl) rfl rfl rfl ?_ | refine JL.M1 (xok rfl rfl rfl rfl) rfl rfl ?_ | refine JL.M0 (xok rfl rfl rfl rfl) rfl ?_ | refine JL.Q0 (xok rfl rfl rfl rfl) rfl ?_ | refine JL.EqQ eqS rfl rfl rfl ?_ | refine JL.NeQ eqS rfl rfl rfl ?_); refine JL.finN ?_; refine JF.Branch 16 [] (xok rfl rfl rfl rfl) ?_ ?_; (focus (repeat (first | exact StF.nil | refine StF.One rfl rfl rfl ?_))); refine BrF.one rfl rfl ?_ BrF.nil; (· (first | refine JL.Q1 (xok rfl rfl rfl rfl) rfl rfl ?_ | refine JL.G1 (xok rfl rfl rfl rfl) rfl rfl rfl ?_ | refine JL.M1 (xok rfl rfl rfl rfl) rfl rfl ?_ | refine JL.M0 (xok rfl rfl rfl rfl) rfl ?_ | refine JL.Q0 (xok rfl rfl rfl rfl) rfl ?_ | refine JL.EqQ eqS rfl rfl rfl ?_ | refine JL.NeQ eqS rfl rfl rfl ?_); refine JL.finN ?_; refine JF.Branch 18 [] (xok rfl rfl rfl rfl) ?_ ?_; (focus (repeat (first | exact StF.nil | refine StF.One rfl rfl rfl ?_))); refine BrF.one rfl rfl ?_ BrF.nil; (· (first | refine JL.Q1 (xok rfl rfl rfl rfl) rfl rfl ?_ | refine JL.G1 (xok rfl rfl rfl rfl) rfl rfl rfl ?_ | refine JL.M1 (xok rfl rfl rfl rfl) rfl rfl ?_ | refine JL.M0 (xok rfl rfl rfl rfl) rfl ?_ | refine JL.Q0 (xok rfl rfl rfl rfl) rfl ?_ | refine JL.EqQ eqS rfl rfl rfl ?_ | refine JL.NeQ eqS rfl rfl rfl ?_); refine JL.finN ?_; refine JF.Branch 19 [] (xok rfl rfl rfl rfl) ?_ ?_; (focus (repeat (first | exact StF.nil | refine StF.One rfl rfl rfl ?_))); refine BrF.one rfl rfl ?_ BrF.nil; (· (first | refine JL.Q1 (xok rfl rfl rfl rfl) rfl rfl ?_ | refine JL.G1 (xok rfl rfl rfl rfl) rfl rfl rfl ?_ | refine JL.M1 (xok rfl rfl rfl rfl) rfl rfl ?_ | refine JL.M0 (xok rfl rfl rfl rfl) rfl ?_ | refine JL.Q0 (xok rfl rfl rfl rfl) rfl ?_ | refine JL.EqQ eqS rfl rfl rfl ?_ | refine JL.NeQ eqS rfl rfl rfl ?_); refine JL.finN ?_; refine JF.Done (xok rfl rfl rfl rfl) ?_ ?_; (focus (repeat (first | exact StF.nil | refine StF.One rfl rfl rfl ?_))); ((exact JW.Auto (by conv => lhs; reduce)))))))); (· (first | refine JL.Q1 (xok rfl rfl rfl rfl) rfl rfl ?_ | refine JL.G1 (xok rfl rfl rfl rfl) rfl rfl rfl ?_ | refine JL.M1 (xok rfl rfl rfl rfl) rfl rfl ?_ | refine JL.M0 (xok rfl rfl rfl rfl) rfl ?_ | refine JL.Q0 (xok rfl rfl rfl rfl) rfl ?_ | refine JL.EqQ eqS rfl rfl rfl ?_ | refine JL.NeQ eqS rfl rfl rfl ?_); refine JL.finN ?_; refine JF.Branch 7 [17] (xok rfl rfl rfl rfl) ?_ ?_; (focus (repeat (first | exact StF.nil | refine StF.One rfl rfl rfl ?_))); refine BrF.one rfl rfl ?_ (BrF.one rfl rfl ?_ BrF.nil); (· (first | refine JL.Q1 (xok rfl rfl rfl rfl) rfl rfl ?_ | refine JL.G1 (xok rfl rfl rfl rfl) rfl rfl rfl ?_ | refine JL.M1 (xok rfl rfl rfl rfl) rfl rfl ?_ | refine JL.M0 (xok rfl rfl rfl rfl) rfl ?_ | refine JL.Q0 (xok rfl rfl rfl rfl) rfl ?_ | refine JL.EqQ eqS rfl rfl rfl ?_ | refine JL.NeQ eqS rfl rfl rfl ?_); refine JL.finN ?_; refine JF.Branch 17 [] (xok rfl rfl rfl rfl) ?_ ?_; (focus (repeat (first | exact StF.nil | refine StF.One rfl rfl rfl ?_))); refine BrF.one rfl rfl ?_ BrF.nil; (· (first | refine JL.Q1 (xok rfl rfl rfl rfl) rfl rfl ?_ | refine JL.G1 (xok rfl rfl rfl rfl) rfl rfl rfl ?_ | refine JL.M1 (xok rfl rfl rfl rfl) rfl rfl ?_ | refine JL.M0 (xok rfl rfl rfl rfl) rfl ?_ | refine JL.Q0 (xok rfl rfl rfl rfl) rfl ?_ | refine JL.EqQ eqS rfl rfl rfl ?_ | refine JL.NeQ eqS rfl rfl rfl ?_); refine JL.finN ?_; refine JF.Branch 18 [] (xok rfl rfl rfl rfl) ?_ ?_; (focus (repeat (first | exact StF.nil | refine StF.One rfl rfl rfl ?_))); refine BrF.one rfl rfl ?_ BrF.nil; (· (first | refine JL.Q1 (xok rfl rfl rfl rfl) rfl rfl ?_ | refine JL.G1 (xok rfl rfl rfl rfl) rfl rfl rfl ?_ | refine JL.M1 (xok rfl rfl rfl rfl) rfl rfl ?_ | refine JL.M0 (xok rfl rfl rfl rfl) rfl ?_ | refine JL.Q0 (xok rfl rfl rfl rfl) rfl ?_ | refine JL.EqQ eqS rfl rfl rfl ?_ | refine JL.NeQ eqS rfl rfl rfl ?_); refine JL.finN ?_; refine JF.Branch 19 [] (xok rfl rfl rfl rfl) ?_ ?_; (focus (repeat (first | exact StF.nil | refine StF.One rfl rfl rfl ?_))); refine BrF.one rfl rfl ?_ BrF.nil; (· (first | refine JL.Q1 (xok rfl rfl rfl rfl) rfl rfl ?_ | refine JL.G1 (xok rfl rfl rfl rfl) rfl rfl rfl ?_ | refine JL.M1 (xok rfl rfl rfl rfl) rfl rfl ?_ | refine JL.M0 (xok rfl rfl rfl rfl) rfl ?_ | refine JL.Q0 (xok rfl rfl rfl rfl) rfl ?_ | refine JL.EqQ eqS rfl rfl rfl ?_ | refine JL.NeQ eqS rfl rfl rfl ?_); refine JL.finN ?_; refine JF.Done (xok rfl rfl rfl rfl) ?_ ?_; (focus (repeat (first | exact StF.nil | refine StF.One rfl rfl rfl ?_))); ((exact JW.Auto (by conv => lhs; reduce))))))); (· (first | refine JL.Q1 (xok rfl rfl rfl rfl) rfl rfl ?_ | refine JL.G1 (xok rfl rfl rfl rfl) rfl rfl rfl ?_ | refine JL.M1 (xok rfl rfl rfl rfl) rfl rfl ?_ | refine JL.M0 (xok rfl rfl rfl rfl) rfl ?_ | refine JL.Q0 (xok rfl rfl rfl rfl) rfl ?_ | refine JL.EqQ eqS rfl rfl rfl ?_ | refine JL.NeQ eqS rfl rfl rfl ?_); refine JL.finN ?_; refine JF.Branch 7 [] (xok rfl rfl rfl rfl) ?_ ?_; (focus (repeat (first | exact StF.nil | refine StF.One rfl rfl rfl ?_))); refine BrF.one rfl rfl ?_ BrF.nil; (· (first | refine JL.Q1 (xok rfl rfl rfl rfl) rfl rfl ?_ | refine JL.G1 (xok rfl rfl rfl rfl) rfl rfl rfl ?_ | refine JL.M1 (xok rfl rfl rfl rfl) rfl rfl ?_ | refine JL.M0 (xok rfl rfl rfl rfl) rfl ?_ | refine JL.Q0 (xok rfl rfl rfl rfl) rfl ?_ | refine JL.EqQ eqS rfl rfl rfl ?_ | refine JL.NeQ eqS rfl rfl rfl ?_); refine JL.finN ?_; refine JF.Branch 18 [] (xok rfl rfl rfl rfl) ?_ ?_; (focus (repeat (first | exact StF.nil | refine StF.One rfl rfl rfl ?_))); refine BrF.one rfl rfl ?_ BrF.nil; (· (first | refine JL.Q1 (xok rfl rfl rfl rfl) rfl rfl ?_ | refine JL.G1 (xok rfl rfl rfl rfl) rfl rfl rfl ?_ | refine JL.M1 (xok rfl rfl rfl rfl) rfl rfl ?_ | refine JL.M0 (xok rfl rfl rfl rfl) rfl ?_ | refine JL.Q0 (xok rfl rfl rfl rfl) rfl ?_ | refine JL.EqQ eqS rfl rfl rfl ?_ | refine JL.NeQ eqS rfl rfl rfl ?_); refine JL.finN ?_; refine JF.Branch 19 [] (xok rfl rfl rfl rfl) ?_ ?_; (focus (repeat (first | exact StF.nil | refine StF.One rfl rfl rfl ?_))); refine BrF.one rfl rfl ?_ BrF.nil; (· (first | refine JL.Q1 (xok rfl rfl rfl rfl) rfl rfl ?_ | refine JL.G1 (xok rfl rfl rfl rfl) rfl rfl rfl ?_ | refine JL.M1 (xok rfl rfl rfl rfl) rfl rfl ?_ | refine JL.M0 (xok rfl rfl rfl rfl) rfl ?_ | refine JL.Q0 (xok rfl rfl rfl rfl) rfl ?_ | refine JL.EqQ eqS rfl rfl rfl ?_ | refine JL.NeQ eqS rfl rfl rfl ?_); refine JL.finN ?_; refine JF.Done (xok rfl rfl rfl rfl) ?_ ?_; (focus (repeat (first | exact StF.nil | refine StF.One rfl rfl rfl ?_))); ((exact JW.Auto (by conv => lhs; reduce)))))))); (· (first | refine JL.Q1 (xok rfl rfl rfl rfl) rfl rfl ?_ | refine JL.G1 (xok rfl rfl rfl rfl) rfl rfl rfl ?_ | refine JL.M1 (xok rfl rfl rfl rfl) rfl rfl ?_ | refine JL.M0 (xok rfl rfl rfl rfl) rfl ?_ | refine JL.Q0 (xok rfl rfl rfl rfl) rfl ?_ | refine JL.EqQ eqS rfl rfl rfl ?_ | refine JL.NeQ eqS rfl rfl rfl ?_); refine JL.finN ?_; refine JF.Branch 7 [16] (xok rfl rfl rfl rfl) ?_ ?_; (focus (repeat (first | exact StF.nil | refine StF.One rfl rfl rfl ?_))); refine BrF.one rfl rfl ?_ (BrF.one rfl rfl ?_ BrF.nil); (· (first | refine JL.Q1 (xok rfl rfl rfl rfl) rfl rfl ?_ | refine JL.G1 (xok rfl rfl rfl rfl) rfl rfl rfl ?_ | refine JL.M1 (xok rfl rfl rfl rfl) rfl rfl ?_ | refine JL.M0 (xok rfl rfl rfl rfl) rfl ?_ | refine JL.Q0 (xok rfl rfl rfl rfl) rfl ?_ | refine JL.EqQ eqS rfl rfl rfl ?_ | refine JL.NeQ eqS rfl rfl rfl ?_); refine JL.finN ?_; refine JF.Branch 16 [] (xok rfl rfl rfl rfl) ?_ ?_; (focus (repeat (first | exact StF.nil | refine StF.One rfl rfl rfl ?_))); refine BrF.one rfl rfl ?_ BrF.nil; (· (first | refine JL.Q1 (xok rfl rfl rfl rfl) rfl rfl ?_ | refine JL.G1 (xok rfl rfl rfl rfl) rfl rfl rfl ?_ | refine JL.M1 (xok rfl rfl rfl rfl) rfl rfl ?_ | refine JL.M0 (xok rfl rfl rfl rfl) rfl ?_ | refine JL.Q0 (xok rfl rfl rfl rfl) rfl ?_ | refine JL.EqQ eqS rfl rfl rfl ?_ | refine JL.NeQ eqS rfl rfl rfl ?_); refine JL.finN ?_; refine JF.Branch 18 [] (xok rfl rfl rfl rfl) ?_ ?_; (focus (repeat (first | exact StF.nil | refine StF.One rfl rfl rfl ?_))); refine BrF.one rfl rfl ?_ BrF.nil; (· (first | refine JL.Q1 (xok rfl rfl rfl rfl) rfl rfl ?_ | refine JL.G1 (xok rfl rfl rfl rfl) rfl rfl rfl ?_ | refine JL.M1 (xok rfl rfl rfl rfl) rfl rfl ?_ | refine JL.M0 (xok rfl rfl rfl rfl) rfl ?_ | refine JL.Q0 (xok rfl rfl rfl rfl) rfl ?_ | refine JL.EqQ eqS rfl rfl rfl ?_ | refine JL.NeQ eqS rfl rfl rfl ?_); refine JL.finN ?_; refine JF.Branch 19 [] (xok rfl rfl rfl rfl) ?_ ?_; (focus (repeat (first | exact StF.nil | refine StF.One rfl rfl rfl ?_))); refine BrF.one rfl rfl ?_ BrF.nil; (· (first | refine JL.Q1 (xok rfl rfl rfl rfl) rfl rfl ?_ | refine JL.G1 (xok rfl rfl rfl rfl) rfl rfl rfl ?_ | refine JL.M1 (xok rfl rfl rfl rfl) rfl rfl ?_ | refine JL.M0 (xok rfl rfl rfl rfl) rfl ?_ | refine JL.Q0 (xok rfl rfl rfl rfl) rfl ?_ | refine JL.EqQ eqS rfl rfl rfl ?_ | refine JL.NeQ eqS rfl rfl rfl ?_); refine JL.finN ?_; refine JF.Done (xok rfl rfl rfl rfl) ?_ ?_; (focus (repeat (first | exact StF.nil | refine StF.One rfl rfl rfl ?_))); ((exact JW.Auto (by conv => lhs; reduce))))))); (· (first | refine JL.Q1 (xok rfl rfl rfl rfl) rfl rfl ?_ | refine JL.G1 (xok rfl rfl rfl rfl) rfl rfl rfl ?_ | refine JL.M1 (xok rfl rfl rfl rfl) rfl rfl ?_ | refine JL.M0 (xok rfl rfl rfl rfl) rfl ?_ | refine JL.Q0 (xok rfl rfl rfl rfl) rfl ?_ | refine JL.EqQ eqS rfl rfl rfl ?_ | refine JL.NeQ eqS rfl rfl rfl ?_); refine JL.finN ?_; refine JF.Branch 7 [] (xok rfl rfl rfl rfl) ?_ ?_; (focus (repeat (first | exact StF.nil | refine StF.One rfl rfl rfl ?_))); refine BrF.one rfl rfl ?_ BrF.nil; (· (first | refine JL.Q1 (xok rfl rfl rfl rfl) rfl rfl ?_ | refine JL.G1 (xok rfl rfl rfl rfl) rfl rfl rfl ?_ | refine JL.M1 (xok rfl rfl rfl rfl) rfl rfl ?_ | refine JL.M0 (xok rfl rfl rfl rfl) rfl ?_ | refine JL.Q0 (xok rfl rfl rfl rfl) rfl ?_ | refine JL.EqQ eqS rfl rfl rfl ?_ | refine JL.NeQ eqS rfl rfl rfl ?_); refine JL.finN ?_; refine JF.Branch 18 [] (xok rfl rfl rfl rfl) ?_ ?_; (focus (repeat (first | exact StF.nil | refine StF.One rfl rfl rfl ?_))); refine BrF.one rfl rfl ?_ BrF.nil; (· (first | refine JL.Q1 (xok rfl rfl rfl rfl) rfl rfl ?_ | refine JL.G1 (xok rfl rfl rfl rfl) rfl rfl rfl ?_ | refine JL.M1 (xok rfl rfl rfl rfl) rfl rfl ?_ | refine JL.M0 (xok rfl rfl rfl rfl) rfl ?_ | refine JL.Q0 (xok rfl rfl rfl rfl) rfl ?_ | refine JL.EqQ eqS rfl rfl rfl ?_ | refine JL.NeQ eqS rfl rfl rfl ?_); refine JL.finN ?_; refine JF.Branch 19 [] (xok rfl rfl rfl rfl) ?_ ?_; (focus (repeat (first | exact StF.nil | refine StF.One rfl rfl rfl ?_))); refine BrF.one rfl rfl ?_ BrF.nil; (· (first | refine JL.Q1 (xok rfl rfl rfl rfl) rfl rfl ?_ | refine JL.G1 (xok rfl rfl rfl rfl) rfl rfl rfl ?_ | refine JL.M1 (xok rfl rfl rfl rfl) rfl rfl ?_ | refine JL.M0 (xok rfl rfl rfl rfl) rfl ?_ | refine JL.Q0 (xok rfl rfl rfl rfl) rfl ?_ | refine JL.EqQ eqS rfl rfl rfl ?_ | refine JL.NeQ eqS rfl rfl rfl ?_); refine JL.finN ?_; refine JF.Done (xok rfl rfl rfl rfl) ?_ ?_; (focus (repeat (first | exact StF.nil | refine StF.One rfl rfl rfl ?_))); ((exact JW.Auto (by conv => lhs; reduce))))))))); (· (first | refine JL.Q1 (xok rfl rfl rfl rfl) rfl rfl ?_ | refine JL.G1 (xok rfl rfl rfl rfl) rfl rfl rfl ?_ | refine JL.M1 (xok rfl rfl rfl rfl) rfl rfl ?_ | refine JL.M0 (xok rfl rfl rfl rfl) rfl ?_ | refine JL.Q0 (xok rfl rfl rfl rfl) rfl ?_ | refine JL.EqQ eqS rfl rfl rfl ?_ | refine JL.NeQ eqS rfl rfl rfl ?_); refine JL.finN ?_; refine JF.Branch 7 [15, 17] (xok rfl rfl rfl rfl) ?_ ?_; (focus (repeat (first | exact StF.nil | refine StF.One rfl rfl rfl ?_))); refine BrF.one rfl rfl ?_ (BrF.one rfl rfl ?_ (BrF.one rfl rfl ?_ BrF.nil)); (· (first | refine JL.Q1 (xok rfl rfl rfl rfl) rfl rfl ?_ | refine JL.G1 (xok rfl rfl rfl rfl) rfl rfl rfl ?_ | refine JL.M1 (xok rfl rfl rfl rfl) rfl rfl ?_ | refine JL.M0 (xok rfl rfl rfl rfl) rfl ?_ | refine JL.Q0 (xok rfl rfl rfl rfl) rfl ?_ | refine JL.EqQ eqS rfl rfl rfl ?_ | refine JL.NeQ eqS rfl rfl rfl ?_); refine JL.finN ?_; refine JF.Branch 15 [17] (xok rfl rfl rfl rfl) ?_ ?_; (focus (repeat (first | exact StF.nil | refine StF.One rfl rfl rfl ?_))); refine BrF.one rfl rfl ?_ (BrF.one rfl rfl ?_ BrF.nil); (· (first | refine JL.Q1 (xok rfl rfl rfl rfl) rfl rfl ?_ | refine JL.G1 (xok rfl rfl rfl rfl) rfl rfl rfl ?_ | refine JL.M1 (xok rfl rfl rfl rfl) rfl rfl ?_ | refine JL.M0 (xok rfl rfl rfl rfl) rfl ?_ | refine JL.Q0 (xok rfl rfl rfl rfl) rfl ?_ | refine JL.EqQ eqS rfl rfl rfl ?_ | refine JL.NeQ eqS rfl rfl rfl ?_); refine JL.finN ?_; refine JF.Branch 17 [] (xok rfl rfl rfl rfl) ?_ ?_; (focus (repeat (first | exact StF.nil | refine StF.One rfl rfl rfl ?_))); refine BrF.one rfl rfl ?_ BrF.nil; (· (first | refine JL.Q1 (xok rfl rfl rfl rfl) rfl rfl ?_ | refine JL.G1 (xok rfl rfl rfl rfl) rfl rfl rfl ?_ | refine JL.M1 (xok rfl rfl rfl rfl) rfl rfl ?_ | refine JL.M0 (xok rfl rfl rfl rfl) rfl ?_ | refine JL.Q0 (xok rfl rfl rfl rfl) rfl ?_ | refine JL.EqQ eqS rfl rfl rfl ?_ | refine JL.NeQ eqS rfl rfl rfl ?_); refine JL.finN ?_; refine JF.Branch 18 [] (xok rfl rfl rfl rfl) ?_ ?_; (focus (repeat (first | exact StF.nil | refine StF.One rfl rfl rfl ?_))); refine BrF.one rfl rfl ?_ BrF.nil; (· (first | refine JL.Q1 (xok rfl rfl rfl rfl) rfl rfl ?_ | refine JL.G1 (xok rfl rfl rfl rfl) rfl rfl rfl ?_ | refine JL.M1 (xok rfl rfl rfl rfl) rfl rfl ?_ | refine JL.M0 (xok rfl rfl rfl rfl) rfl ?_ | refine JL.Q0 (xok rfl rfl rfl rfl) rfl ?_ | refine JL.EqQ eqS rfl rfl rfl ?_ | refine JL.NeQ eqS rfl rfl rfl ?_); refine JL.finN ?_; refine JF.Branch 19 [] (xok rfl rfl rfl rfl) ?_ ?_; (focus (repeat (first | exact StF.nil | refine StF.One rfl rfl rfl ?_))); refine BrF.one rfl rfl ?_ BrF.nil; (· (first | refine JL.Q1 (xok rfl rfl rfl rfl) rfl rfl ?_ | refine JL.G1 (xok rfl rfl rfl rfl) rfl rfl rfl ?_ | refine JL.M1 (xok rfl rfl rfl rfl) rfl rfl ?_ | refine JL.M0 (xok rfl rfl rfl rfl) rfl ?_ | refine JL.Q0 (xok rfl rfl rfl rfl) rfl ?_ | refine JL.EqQ eqS rfl rfl rfl ?_ | refine JL.NeQ eqS rfl rfl rfl ?_); refine JL.finN ?_; refine JF.Done (xok rfl rfl rfl rfl) ?_ ?_; (focus (repeat (first | exact StF.nil | refine StF.One rfl rfl rfl ?_))); ((exact JW.Auto (by conv => lhs; reduce))))))); (· (first | refine JL.Q1 (xok rfl rfl rfl rfl) rfl rfl ?_ | refine JL.G1 (xok rfl rfl rfl rfl) rfl rfl rfl ?_ | refine JL.M1 (xok rfl rfl rfl rfl) rfl rfl ?_ | refine JL.M0 (xok rfl rfl rfl rfl) rfl ?_ | refine JL.Q0 (xok rfl rfl rfl rfl) rfl ?_ | refine JL.EqQ eqS rfl rfl rfl ?_ | refine JL.NeQ eqS rfl rfl rfl ?_); refine JL.finN ?_; refine JF.Branch 15 [18] (xok rfl rfl rfl rfl) ?_ ?_; (focus (repeat (first | exact StF.nil | refine StF.One rfl rfl rfl ?_))); refine BrF.one rfl rfl ?_ (BrF.one rfl rfl ?_ BrF.nil); (· (first | refine JL.Q1 (xok rfl rfl rfl rfl) rfl rfl ?_ | refine JL.G1 (xok rfl rfl rfl rfl) rfl rfl rfl ?_ | refine JL.M1 (xok rfl rfl rfl rfl) rfl rfl ?_ | refine JL.M0 (xok rfl rfl rfl rfl) rfl ?_ | refine JL.Q0 (xok rfl rfl rfl rfl) rfl ?_ | refine JL.EqQ eqS rfl rfl rfl ?_ | refine JL.NeQ eqS rfl rfl rfl ?_); refine JL.finN ?_; refine JF.Branch 18 [] (xok rfl rfl rfl rfl) ?_ ?_; (focus (repeat (first | exact StF.nil | refine StF.One rfl rfl rfl ?_))); refine BrF.one rfl rfl ?_ BrF.nil; (· (first | refine JL.Q1 (xok rfl rfl rfl rfl) rfl rfl ?_ | refine JL.G1 (xok rfl rfl rfl rfl) rfl rfl rfl ?_ | refine JL.M1 (xok rfl rfl rfl rfl) rfl rfl ?_ | refine JL.M0 (xok rfl rfl rfl rfl) rfl ?_ | refine JL.Q0 (xok rfl rfl rfl rfl) rfl ?_ | refine JL.EqQ eqS rfl rfl rfl ?_ | refine JL.NeQ eqS rfl rfl rfl ?_); refine JL.finN ?_; refine JF.Branch 19 [] (xok rfl rfl rfl rfl) ?_ ?_; (focus (repeat (first | exact StF.nil | refine StF.One rfl rfl rfl ?_))); refine BrF.one rfl rfl ?_ BrF.nil; (· (first | refine JL.Q1 (xok rfl rfl rfl rfl) rfl rfl ?_ | refine JL.G1 (xok rfl rfl rfl rfl) rfl rfl rfl ?_ | refine JL.M1 (xok rfl rfl rfl rfl) rfl rfl ?_ | refine JL.M0 (xok rfl rfl rfl rfl) rfl ?_ | refine JL.Q0 (xok rfl rfl rfl rfl) rfl ?_ | refine JL.EqQ eqS rfl rfl rfl ?_ | refine JL.NeQ eqS rfl rfl rfl ?_); refine JL.finN ?_; refine JF.Done (xok rfl rfl rfl rfl) ?_ ?_; (focus (repeat (first | exact StF.nil | refine StF.One rfl rfl rfl ?_))); ((exact JW.Auto (by conv => lhs; reduce)))))); (· (first | refine JL.Q1 (xok rfl rfl rfl rfl) rfl rfl ?_ | refine JL.G1 (xok rfl rfl rfl rfl) rfl rfl rfl ?_ | refine JL.M1 (xok rfl rfl rfl rfl) rfl rfl ?_ | refine JL.M0 (xok rfl rfl rfl rfl) rfl ?_ | refine JL.Q0 (xok rfl rfl rfl rfl) rfl ?_ | refine JL.EqQ eqS rfl rfl rfl ?_ | refine JL.NeQ eqS rfl rfl rfl ?_); refine JL.finN ?_; refine JF.Branch 15 [] (xok rfl rfl rfl rfl) ?_ ?_; (focus (repeat (first | exact StF.nil | refine StF.One rfl rfl rfl ?_))); refine BrF.one rfl rfl ?_ BrF.nil; (· (first | refine JL.Q1 (xok rfl rfl rfl rfl) rfl rfl ?_ | refine JL.G1 (xok rfl rfl rfl rfl) rfl rfl rfl ?_ | refine JL.M1 (xok rfl rfl rfl rfl) rfl rfl ?_ | refine JL.M0 (xok rfl rfl rfl rfl) rfl ?_ | refine JL.Q0 (xok rfl rfl rfl rfl) rfl ?_ | refine JL.EqQ eqS rfl rfl rfl ?_ | refine JL.NeQ eqS rfl rfl rfl ?_); refine JL.finN ?_; refine JF.Branch 19 [] (xok rfl rfl rfl rfl) ?_ ?_; (focus (repeat (first | exact StF.nil | refine StF.One rfl rfl rfl ?_))); refine BrF.one rfl rfl ?_ BrF.nil; (· (first | refine JL.Q1 (xok rfl rfl rfl rfl) rfl rfl ?_ | refine JL.G1 (xok rfl rfl rfl rfl) rfl rfl rfl ?_ | refine JL.M1 (xok rfl rfl rfl rfl) rfl rfl ?_ | refine JL.M0 (xok rfl rfl rfl rfl) rfl ?_ | refine JL.Q0 (xok rfl rfl rfl rfl) rfl ?_ | refine JL.EqQ eqS rfl rfl rfl ?_ | refine JL.NeQ eqS rfl rfl rfl ?_); refine JL.finN ?_; refine JF.Done (xok rfl rfl rfl rfl) ?_ ?_; (focus (repeat (first | exact StF.nil | refine StF.One rfl rfl rfl ?_))); ((exact JW.Auto (by conv => lhs; reduce)))))))); (· (first | refine JL.Q1 (xok rfl rfl rfl rfl) rfl rfl ?_ | refine JL.G1 (xok rfl rfl rfl rfl) rfl rfl rfl ?_ | refine JL.M1 (xok rfl rfl rfl rfl) rfl rfl ?_ | refine JL.M0 (xok rfl rfl rfl rfl) rfl ?_ | refine JL.Q0 (xok rfl rfl rfl rfl) rfl ?_ | refine JL.EqQ eqS rfl rfl rfl ?_ | refine JL.NeQ eqS rfl rfl rfl ?_); refine JL.finN ?_; refine JF.Branch 7 [17] (xok rfl rfl rfl rfl) ?_ ?_; (focus (repeat (first | exact StF.nil | refine StF.One rfl rfl rfl ?_))); refine BrF.one rfl rfl ?_ (BrF.one rfl rfl ?_ BrF.nil); (· (first | refine JL.Q1 (xok rfl rfl rfl rfl) rfl rfl ?_ | refine JL.G1 (xok rfl rfl rfl rfl) rfl rfl rfl ?_ | refine JL.M1 (xok rfl rfl rfl rfl) rfl rfl ?_ | refine JL.M0 (xok rfl rfl rfl rfl) rfl ?_ | refine JL.Q0 (xok rfl rfl rfl rfl) rfl ?_ | refine JL.EqQ eqS rfl rfl rfl ?_ | refine JL.NeQ eqS rfl rfl rfl ?_); refine JL.finN ?_; refine JF.Branch 17 [] (xok rfl rfl rfl rfl) ?_ ?_; (focus (repeat (first | exact StF.nil | refine StF.One rfl rfl rfl ?_))); refine BrF.one rfl rfl ?_ BrF.nil; (· (first | refine JL.Q1 (xok rfl rfl rfl rfl) rfl rfl ?_ | refine JL.G1 (xok rfl rfl rfl rfl) rfl rfl rfl ?_ | refine JL.M1 (xok rfl rfl rfl rfl) rfl rfl ?_ | refine JL.M0 (xok rfl rfl rfl rfl) rfl ?_ | refine JL.Q0 (xok rfl rfl rfl rfl) rfl ?_ | refine JL.EqQ eqS rfl rfl rfl ?_ | refine JL.NeQ eqS rfl rfl rfl ?_); refine JL.finN ?_; refine JF.Branch 18 [] (xok rfl rfl rfl rfl) ?_ ?_; (focus (repeat (first | exact StF.nil | refine StF.One rfl rfl rfl ?_))); refine BrF.one rfl rfl ?_ BrF.nil; (· (first | refine JL.Q1 (xok rfl rfl rfl rfl) rfl rfl ?_ | refine JL.G1 (xok rfl rfl rfl rfl) rfl rfl rfl ?_ | refine JL.M1 (xok rfl rfl rfl rfl) rfl rfl ?_ | refine JL.M0 (xok rfl rfl rfl rfl) rfl ?_ | refine JL.Q0 (xok rfl rfl rfl rfl) rfl ?_ | refine JL.EqQ eqS rfl rfl rfl ?_ | refine JL.NeQ eqS rfl rfl rfl ?_); refine JL.finN ?_; refine JF.Branch 19 [] (xok rfl rfl rfl rfl) ?_ ?_; (focus (repeat (first | exact StF.nil | refine StF.One rfl rfl rfl ?_))); refine BrF.one rfl rfl ?_ BrF.nil; (· (first | refine JL.Q1 (xok rfl rfl rfl rfl) rfl rfl ?_ | refine JL.G1 (xok rfl rfl rfl rfl) rfl rfl rfl ?_ | refine JL.M1 (xok rfl rfl rfl rfl) rfl rfl ?_ | refine JL.M0 (xok rfl rfl rfl rfl) rfl ?_ | refine JL.Q0 (xok rfl rfl rfl rfl) rfl ?_ | refine JL.EqQ eqS rfl rfl rfl ?_ | refine JL.NeQ eqS rfl rfl rfl ?_); refine JL.finN ?_; refine JF.Done (xok rfl rfl rfl rfl) ?_ ?_; (focus (repeat (first | exact StF.nil | refine StF.One rfl rfl rfl ?_))); ((exact JW.Auto (by conv => lhs; reduce))))))); (· (first | refine JL.Q1 (xok rfl rfl rfl rfl) rfl rfl ?_ | refine JL.G1 (xok rfl rfl rfl rfl) rfl rfl rfl ?_ | refine JL.M1 (xok rfl rfl rfl rfl) rfl rfl ?_ | refine JL.M0 (xok rfl rfl rfl rfl) rfl ?_ | refine JL.Q0 (xok rfl rfl rfl rfl) rfl ?_ | refine JL.EqQ eqS rfl rfl rfl ?_ | refine JL.NeQ eqS rfl rfl rfl ?_); refine JL.finN ?_; refine JF.Branch 7 [] (xok rfl rfl rfl rfl) ?_ ?_; (focus (repeat (first | exact StF.nil | refine StF.One rfl rfl rfl ?_))); refine BrF.one rfl rfl ?_ BrF.nil; (· (first | refine JL.Q1 (xok rfl rfl rfl rfl) rfl rfl ?_ | refine JL.G1 (xok rfl rfl rfl rfl) rfl rfl rfl ?_ | refine JL.M1 (xok rfl rfl rfl rfl) rfl rfl ?_ | refine JL.M0 (xok rfl rfl rfl rfl) rfl ?_ | refine JL.Q0 (xok rfl rfl rfl rfl) rfl ?_ | refine JL.EqQ eqS rfl rfl rfl ?_ | refine JL.NeQ eqS rfl rfl rfl ?_); refine JL.finN ?_; refine JF.Branch 18 [] (xok rfl rfl rfl rfl) ?_ ?_; (focus (repeat (first | exact StF.nil | refine StF.One rfl rfl rfl ?_))); refine BrF.one rfl rfl ?_ BrF.nil; (· (first | refine JL.Q1 (xok rfl rfl rfl rfl) rfl rfl ?_ | refine JL.G1 (xok rfl rfl rfl rfl) rfl rfl rfl ?_ | refine JL.M1 (xok rfl rfl rfl rfl) rfl rfl ?_ | refine JL.M0 (xok rfl rfl rfl rfl) rfl ?_ | refine JL.Q0 (xok rfl rfl rfl rfl) rfl ?_ | refine JL.EqQ eqS rfl rfl rfl ?_ | refine JL.NeQ eqS rfl rfl rfl ?_); refine JL.finN ?_; refine JF.Branch 19 [] (xok rfl rfl rfl rfl) ?_ ?_; (focus (repeat (first | exact StF.nil | refine StF.One rfl rfl rfl ?_))); refine BrF.one rfl rfl ?_ BrF.nil; (· (first | refine JL.Q1 (xok rfl rfl rfl rfl) rfl rfl ?_ | refine JL.G1 (xok rfl rfl rfl rfl) rfl rfl rfl ?_ | refine JL.M1 (xok rfl rfl rfl rfl) rfl rfl ?_ | refine JL.M0 (xok rfl rfl rfl rfl) rfl ?_ | refine JL.Q0 (xok rfl rfl rfl rfl) rfl ?_ | refine JL.EqQ eqS rfl rfl rfl ?_ | refine JL.NeQ eqS rfl rfl rfl ?_); refine JL.finN ?_; refine JF.Done (xok rfl rfl rfl rfl) ?_ ?_; (focus (repeat (first | exact StF.nil | refine StF.One rfl rfl rfl ?_))); ((exact JW.Auto (by conv => lhs; reduce)))))))); (· (first | refine JL.Q1 (xok rfl rfl rfl rfl) rfl rfl ?_ | refine JL.G1 (xok rfl rfl rfl rfl) rfl rfl rfl ?_ | refine JL.M1 (xok rfl rfl rfl rfl) rfl rfl ?_ | refine JL.M0 (xok rfl rfl rfl rfl) rfl ?_ | refine JL.Q0 (xok rfl rfl rfl rfl) rfl ?_ | refine JL.EqQ eqS rfl rfl rfl ?_ | refine JL.NeQ eqS rfl rfl rfl ?_); refine JL.finN ?_; refine JF.Branch 7 [15] (xok rfl rfl rfl rfl) ?_ ?_; (focus (repeat (first | exact StF.nil | refine StF.One rfl rfl rfl ?_))); refine BrF.one rfl rfl ?_ (BrF.one rfl rfl ?_ BrF.nil); (· (first | refine JL.Q1 (xok rfl rfl rfl rfl) rfl rfl ?_ | refine JL.G1 (xok rfl rfl rfl rfl) rfl rfl rfl ?_ | refine JL.M1 (xok rfl rfl rfl rfl) rfl rfl ?_ | refine JL.M0 (xok rfl rfl rfl rfl) rfl ?_ | refine JL.Q0 (xok rfl rfl rfl rfl) rfl ?_ | refine JL.EqQ eqS rfl rfl rfl ?_ | refine JL.NeQ eqS rfl rfl rfl ?_); refine JL.finN ?_; refine JF.Branch 15 [18] (xok rfl rfl rfl rfl) ?_ ?_; (focus (repeat (first | exact StF.nil | refine StF.One rfl rfl rfl ?_))); refine BrF.one rfl rfl ?_ (BrF.one rfl rfl ?_ BrF.nil); (· (first | refine JL.Q1 (xok rfl rfl rfl rfl) rfl rfl ?_ | refine JL.G1 (xok rfl rfl rfl rfl) rfl rfl rfl ?_ | refine JL.M1 (xok rfl rfl rfl rfl) rfl rfl ?_ | refine JL.M0 (xok rfl rfl rfl rfl) rfl ?_ | refine JL.Q0 (xok rfl rfl rfl rfl) rfl ?_ | refine JL.EqQ eqS rfl rfl rfl ?_ | refine JL.NeQ eqS rfl rfl rfl ?_); refine JL.finN ?_; refine JF.Branch 18 [] (xok rfl rfl rfl rfl) ?_ ?_; (focus (repeat (first | exact StF.nil | refine StF.One rfl rfl rfl ?_))); refine BrF.one rfl rfl ?_ BrF.nil; (· (first | refine JL.Q1 (xok rfl rfl rfl rfl) rfl rfl ?_ | refine JL.G1 (xok rfl rfl rfl rfl) rfl rfl rfl ?_ | refine JL.M1 (xok rfl rfl rfl rfl) rfl rfl ?_ | refine JL.M0 (xok rfl rfl rfl rfl) rfl ?_ | refine JL.Q0 (xok rfl rfl rfl rfl) rfl ?_ | refine JL.EqQ eqS rfl rfl rfl ?_ | refine JL.NeQ eqS rfl rfl rfl ?_); refine JL.finN ?_; refine JF.Branch 19 [] (xok rfl rfl rfl rfl) ?_ ?_; (focus (repeat (first | exact StF.nil | refine StF.One rfl rfl rfl ?_))); refine BrF.one rfl rfl ?_ BrF.nil; (· (first | refine JL.Q1 (xok rfl rfl rfl rfl) rfl rfl ?_ | refine JL.G1 (xok rfl rfl rfl rfl) rfl rfl rfl ?_ | refine JL.M1 (xok rfl rfl rfl rfl) rfl rfl ?_ | refine JL.M0 (xok rfl rfl rfl rfl) rfl ?_ | refine JL.Q0 (xok rfl rfl rfl rfl) rfl ?_ | refine JL.EqQ eqS rfl rfl rfl ?_ | refine JL.NeQ eqS rfl rfl rfl ?_); refine JL.finN ?_; refine JF.Done (xok rfl rfl rfl rfl) ?_ ?_; (focus (repeat (first | exact StF.nil | refine StF.One rfl rfl rfl ?_))); ((exact JW.Auto (by conv => lhs; reduce)))))); (· (first | refine JL.Q1 (xok rfl rfl rfl rfl) rfl rfl ?_ | refine JL.G1 (xok rfl rfl rfl rfl) rfl rfl rfl ?_ | refine JL.M1 (xok rfl rfl rfl rfl) rfl rfl ?_ | refine JL.M0 (xok rfl rfl rfl rfl) rfl ?_ | refine JL.Q0 (xok rfl rfl rfl rfl) rfl ?_ | refine JL.EqQ eqS rfl rfl rfl ?_ | refine JL.NeQ eqS rfl rfl rfl ?_); refine JL.finN ?_; refine JF.Branch 15 [] (xok rfl rfl rfl rfl) ?_ ?_; (focus (repeat (first | exact StF.nil | refine StF.One rfl rfl rfl ?_))); refine BrF.one rfl rfl ?_ BrF.nil; (· (first | refine JL.Q1 (xok rfl rfl rfl rfl) rfl rfl ?_ | refine JL.G1 (xok rfl rfl rfl rfl) rfl rfl rfl ?_ | refine JL.M1 (xok rfl rfl rfl rfl) rfl rfl ?_ | refine JL.M0 (xok rfl rfl rfl rfl) rfl ?_ | refine JL.Q0 (xok rfl rfl rfl rfl) rfl ?_ | refine JL.EqQ eqS rfl rfl rfl ?_ | refine JL.NeQ eqS rfl rfl rfl ?_); refine JL.finN ?_; refine JF.Branch 19 [] (xok rfl rfl rfl rfl) ?_ ?_; (focus (repeat (first | exact StF.nil | refine StF.One rfl rfl rfl ?_))); refine BrF.one rfl rfl ?_ BrF.nil; (· (first | refine JL.Q1 (xok rfl rfl rfl rfl) rfl rfl ?_ | refine JL.G1 (xok rfl rfl rfl rfl) rfl rfl rfl ?_ | refine JL.M1 (xok rfl rfl rfl rfl) rfl rfl ?_ | refine JL.M0 (xok rfl rfl rfl rfl) rfl ?_ | refine JL.Q0 (xok rfl rfl rfl rfl) rfl ?_ | refine JL.EqQ eqS rfl rfl rfl ?_ | refine JL.NeQ eqS rfl rfl rfl ?_); refine JL.finN ?_; refine JF.Done (xok rfl rfl rfl rfl) ?_ ?_; (focus (repeat (first | exact StF.nil | refine StF.One rfl rfl rfl ?_))); ((exact JW.Auto (by conv => lhs; reduce))))))); (· (first | refine JL.Q1 (xok rfl rfl rfl rfl) rfl rfl ?_ | refine JL.G1 (xok rfl rfl rfl rfl) rfl rfl rfl ?_ | refine JL.M1 (xok rfl rfl rfl rfl) rfl rfl ?_ | refine JL.M0 (xok rfl rfl rfl rfl) rfl ?_ | refine JL.Q0 (xok rfl rfl rfl rfl) rfl ?_ | refine JL.EqQ eqS rfl rfl rfl ?_ | refine JL.NeQ eqS rfl rfl rfl ?_); refine JL.finN ?_; refine JF.Branch 7 [] (xok rfl rfl rfl rfl) ?_ ?_; (focus (repeat (first | exact StF.nil | refine StF.One rfl rfl rfl ?_))); refine BrF.one rfl rfl ?_ BrF.nil; (· (first | refine JL.Q1 (xok rfl rfl rfl rfl) rfl rfl ?_ | refine JL.G1 (xok rfl rfl rfl rfl) rfl rfl rfl ?_ | refine JL.M1 (xok rfl rfl rfl rfl) rfl rfl ?_ | refine JL.M0 (xok rfl rfl rfl rfl) rfl ?_ | refine JL.Q0 (xok rfl rfl rfl rfl) rfl ?_ | refine JL.EqQ eqS rfl rfl rfl ?_ | refine JL.NeQ eqS rfl rfl rfl ?_); refine JL.finN ?_; refine JF.Branch 18 [] (xok rfl rfl rfl rfl) ?_ ?_; (focus (repeat (first | exact StF.nil | refine StF.One rfl rfl rfl ?_))); refine BrF.one rfl rfl ?_ BrF.nil; (· (first | refine JL.Q1 (xok rfl rfl rfl rfl) rfl rfl ?_ | refine JL.G1 (xok rfl rfl rfl rfl) rfl rfl rfl ?_ | refine JL.M1 (xok rfl rfl rfl rfl) rfl rfl ?_ | refine JL.M0 (xok rfl rfl rfl rfl) rfl ?_ | refine JL.Q0 (xok rfl rfl rfl rfl) rfl ?_ | refine JL.EqQ eqS rfl rfl rfl ?_ | refine JL.NeQ eqS rfl rfl rfl ?_); refine JL.finN ?_; refine JF.Branch 19 [] (xok rfl rfl rfl rfl) ?_ ?_; (focus (repeat (first | exact StF.nil | refine StF.One rfl rfl rfl ?_))); refine BrF.one rfl rfl ?_ BrF.nil; (· (first | refine JL.Q1 (xok rfl rfl rfl rfl) rfl rfl ?_ | refine JL.G1 (xok rfl rfl rfl rfl) rfl rfl rfl ?_ | refine JL.M1 (xok rfl rfl rfl rfl) rfl rfl ?_ | refine JL.M0 (xok rfl rfl rfl rfl) rfl ?_ | refine JL.Q0 (xok rfl rfl rfl rfl) rfl ?_ | refine JL.EqQ eqS rfl rfl rfl ?_ | refine JL.NeQ eqS rfl rfl rfl ?_); refine JL.finN ?_; refine JF.Done (xok rfl rfl rfl rfl) ?_ ?_; (focus (repeat (first | exact StF.nil | refine StF.One rfl rfl rfl ?_))); ((exact JW.Auto (by conv => lhs; reduce))))))))); (· (first | refine JL.Q1 (xok rfl rfl rfl rfl) rfl rfl ?_ | refine JL.G1 (xok rfl rfl rfl rfl) rfl rfl rfl ?_ | refine JL.M1 (xok rfl rfl rfl rfl) rfl rfl ?_ | refine JL.M0 (xok rfl rfl rfl rfl) rfl ?_ | refine JL.Q0 (xok rfl rfl rfl rfl) rfl ?_ | refine JL.EqQ eqS rfl rfl rfl ?_ | refine JL.NeQ eqS rfl rfl rfl ?_); refine JL.finN ?_; refine JF.Branch 7 [15, 16] (xok rfl rfl rfl rfl) ?_ ?_; (focus (repeat (first | exact StF.nil | refine StF.One rfl rfl rfl ?_))); refine BrF.one rfl rfl ?_ (BrF.one rfl rfl ?_ (BrF.one rfl rfl ?_ BrF.nil)); (· (first | refine JL.Q1 (xok rfl rfl rfl rfl) rfl rfl ?_ | refine JL.G1 (xok rfl rfl rfl rfl) rfl rfl rfl ?_ | refine JL.M1 (xok rfl rfl rfl rfl) rfl rfl ?_ | refine JL.M0 (xok rfl rfl rfl rfl) rfl ?_ | refine JL.Q0 (xok rfl rfl rfl rfl) rfl ?_ | refine JL.EqQ eqS rfl rfl rfl ?_ | refine JL.NeQ eqS rfl rfl rfl ?_); refine JL.finN ?_; refine JF.Branch 15 [16] (xok rfl rfl rfl rfl) ?_ ?_; (focus (repeat (first | exact StF.nil | refine StF.One rfl rfl rfl ?_))); refine BrF.one rfl rfl ?_ (BrF.one rfl rfl ?_ BrF.nil); (· (first | refine JL.Q1 (xok rfl rfl rfl rfl) rfl rfl ?_ | refine JL.G1 (xok rfl rfl rfl rfl) rfl rfl rfl ?_ | refine JL.M1 (xok rfl rfl rfl rfl) rfl rfl ?_ | refine JL.M0 (xok rfl rfl rfl rfl) rfl ?_ | refine JL.Q0 (xok rfl rfl rfl rfl) rfl ?_ | refine JL.EqQ eqS rfl rfl rfl ?_ | refine JL.NeQ eqS rfl rfl rfl ?_); refine JL.finN ?_; refine JF.Branch 16 [] (xok rfl rfl rfl rfl) ?_ ?_; (focus (repeat (first | exact StF.nil | refine StF.One rfl rfl rfl ?_))); refine BrF.one rfl rfl ?_ BrF.nil; (· (first | refine JL.Q1 (xok rfl rfl rfl rfl) rfl rfl ?_ | refine JL.G1 (xok rfl rfl rfl rfl) rfl rfl rfl ?_ | refine JL.M1 (xok rfl rfl rfl rfl) rfl rfl ?_ | refine JL.M0 (xok rfl rfl rfl rfl) rfl ?_ | refine JL.Q0 (xok rfl rfl rfl rfl) rfl ?_ | refine JL.EqQ eqS rfl rfl rfl ?_ | refine JL.NeQ eqS rfl rfl rfl ?_); refine JL.finN ?_; refine JF.Branch 18 [] (xok rfl rfl rfl rfl) ?_ ?_; (focus (repeat (first | exact StF.nil | refine StF.One rfl rfl rfl ?_))); refine BrF.one rfl rfl ?_ BrF.nil; (· (first | refine JL.Q1 (xok rfl rfl rfl rfl) rfl rfl ?_ | refine JL.G1 (xok rfl rfl rfl rfl) rfl rfl rfl ?_ | refine JL.M1 (xok rfl rfl rfl rfl) rfl rfl ?_ | refine JL.M0 (xok rfl rfl rfl rfl) rfl ?_ | refine JL.Q0 (xok rfl rfl rfl rfl) rfl ?_ | refine JL.EqQ eqS rfl rfl rfl ?_ | refine JL.NeQ eqS rfl rfl rfl ?_); refine JL.finN ?_; refine JF.Branch 19 [] (xok rfl rfl rfl rfl) ?_ ?_; (focus (repeat (first | exact StF.nil | refine StF.One rfl rfl rfl ?_))); refine BrF.one rfl rfl ?_ BrF.nil; (· (first | refine JL.Q1 (xok rfl rfl rfl rfl) rfl rfl ?_ | refine JL.G1 (xok rfl rfl rfl rfl) rfl rfl rfl ?_ | refine JL.M1 (xok rfl rfl rfl rfl) rfl rfl ?_ | refine JL.M0 (xok rfl rfl rfl rfl) rfl ?_ | refine JL.Q0 (xok rfl rfl rfl rfl) rfl ?_ | refine JL.EqQ eqS rfl rfl rfl ?_ | refine JL.NeQ eqS rfl rfl rfl ?_); refine JL.finN ?_; refine JF.Done (xok rfl rfl rfl rfl) ?_ ?_; (focus (repeat (first | exact StF.nil | refine StF.One rfl rfl rfl ?_))); ((exact JW.Auto (by conv => lhs; reduce))))))); (· (first | refine JL.Q1 (xok rfl rfl rfl rfl) rfl rfl ?_ | refine JL.G1 (xok rfl rfl rfl rfl) rfl rfl rfl ?_ | refine JL.M1 (xok rfl rfl rfl rfl) rfl rfl ?_ | refine JL.M0 (xok rfl rfl rfl rfl) rfl ?_ | refine JL.Q0 (xok rfl rfl rfl rfl) rfl ?_ | refine JL.EqQ eqS rfl rfl rfl ?_ | refine JL.NeQ eqS rfl rfl rfl ?_); refine JL.finN ?_; refine JF.Branch 15 [18] (xok rfl rfl rfl rfl) ?_ ?_; (focus (repeat (first | exact StF.nil | refine StF.One rfl rfl rfl ?_))); refine BrF.one rfl rfl ?_ (BrF.one rfl rfl ?_ BrF.nil); (· (first | refine JL.Q1 (xok rfl rfl rfl rfl) rfl rfl ?_ | refine JL.G1 (xok rfl rfl rfl rfl) rfl rfl rfl ?_ | refine JL.M1 (xok rfl rfl rfl rfl) rfl rfl ?_ | refine JL.M0 (xok rfl rfl rfl rfl) rfl ?_ | refine JL.Q0 (xok rfl rfl rfl rfl) rfl ?_ | refine JL.EqQ eqS rfl rfl rfl ?_ | refine JL.NeQ eqS rfl rfl rfl ?_); refine JL.finN ?_; refine JF.Branch 18 [] (xok rfl rfl rfl rfl) ?_ ?_; (focus (repeat (first | exact StF.nil | refine StF.One rfl rfl rfl ?_))); refine BrF.one rfl rfl ?_ BrF.nil; (· (first | refine JL.Q1 (xok rfl rfl rfl rfl) rfl rfl ?_ | refine JL.G1 (xok rfl rfl rfl rfl) rfl rfl rfl ?_ | refine JL.M1 (xok rfl rfl rfl rfl) rfl rfl ?_ | refine JL.M0 (xok rfl rfl rfl rfl) rfl ?_ | refine JL.Q0 (xok rfl rfl rfl rfl) rfl ?_ | refine JL.EqQ eqS rfl rfl rfl ?_ | refine JL.NeQ eqS rfl rfl rfl ?_); refine JL.finN ?_; refine JF.Branch 19 [] (xok rfl rfl rfl rfl) ?_ ?_; (focus (repeat (first | exact StF.nil | refine StF.One rfl rfl rfl ?_))); refine BrF.one rfl rfl ?_ BrF.nil; (· (first | refine JL.Q1 (xok rfl rfl rfl rfl) rfl rfl ?_ | refine JL.G1 (xok rfl rfl rfl rfl) rfl rfl rfl ?_ | refine JL.M1 (xok rfl rfl rfl rfl) rfl rfl ?_ | refine JL.M0 (xok rfl rfl rfl rfl) rfl ?_ | refine JL.Q0 (xok rfl rfl rfl rfl) rfl ?_ | refine JL.EqQ eqS rfl rfl rfl ?_ | refine JL.NeQ eqS rfl rfl rfl ?_); refine JL.finN ?_; refine JF.Done (xok rfl rfl rfl rfl) ?_ ?_; (focus (repeat (first | exact StF.nil | refine StF.One rfl rfl rfl ?_))); ((exact JW.Auto (by conv => lhs; reduce)))))); (· (first | refine JL.Q1 (xok rfl rfl rfl rfl) rfl rfl ?_ | refine JL.G1 (xok rfl rfl rfl rfl) rfl rfl rfl ?_ | refine JL.M1 (xok rfl rfl rfl rfl) rfl rfl ?_ | refine JL.M0 (xok rfl rfl rfl rfl) rfl ?_ | refine JL.Q0 (xok rfl rfl rfl rfl) rfl ?_ | refine JL.EqQ eqS rfl rfl rfl ?_ | refine JL.NeQ eqS rfl rfl rfl ?_); refine JL.finN ?_; refine JF.Branch 15 [] (xok rfl rfl rfl rfl) ?_ ?_; (focus (repeat (first | exact StF.nil | refine StF.One rfl rfl rfl ?_))); refine BrF.one rfl rfl ?_ BrF.nil; (· (first | refine JL.Q1 (xok rfl rfl rfl rfl) rfl rfl ?_ | refine JL.G1 (xok rfl rfl rfl rfl) rfl rfl rfl ?_ | refine JL.M1 (xok rfl rfl rfl rfl) rfl rfl ?_ | refine JL.M0 (xok rfl rfl rfl rfl) rfl ?_ | refine JL.Q0 (xok rfl rfl rfl rfl) rfl ?_ | refine JL.EqQ eqS rfl rfl rfl ?_ | refine JL.NeQ eqS rfl rfl rfl ?_); refine JL.finN ?_; refine JF.Branch 19 [] (xok rfl rfl rfl rfl) ?_ ?_; (focus (repeat (first | exact StF.nil | refine StF.One rfl rfl rfl ?_))); refine BrF.one rfl rfl ?_ BrF.nil; (· (first | refine JL.Q1 (xok rfl rfl rfl rfl) rfl rfl ?_ | refine JL.G1 (xok rfl rfl rfl rfl) rfl rfl rfl ?_ | refine JL.M1 (xok rfl rfl rfl rfl) rfl rfl ?_ | refine JL.M0 (xok rfl rfl rfl rfl) rfl ?_ | refine JL.Q0 (xok rfl rfl rfl rfl) rfl ?_ | refine JL.EqQ eqS rfl rfl rfl ?_ | refine JL.NeQ eqS rfl rfl rfl ?_); refine JL.finN ?_; refine JF.Done (xok rfl rfl rfl rfl) ?_ ?_; (focus (repeat (first | exact StF.nil | refine StF.One rfl rfl rfl ?_))); ((exact JW.Auto (by conv => lhs; reduce)))))))); (· (first | refine JL.Q1 (xok rfl rfl rfl rfl) rfl rfl ?_ | refine JL.G1 (xok rfl rfl rfl rfl) rfl rfl rfl ?_ | refine JL.M1 (xok rfl rfl rfl rfl) rfl rfl ?_ | refine JL.M0 (xok rfl rfl rfl rfl) rfl ?_ | refine JL.Q0 (xok rfl rfl rfl rfl) rfl ?_ | refine JL.EqQ eqS rfl rfl rfl ?_ | refine JL.NeQ eqS rfl rfl rfl ?_); refine JL.finN ?_; refine JF.Branch 7 [16] (xok rfl rfl rfl rfl) ?_ ?_; (focus (repeat (first | exact StF.nil | refine StF.One rfl rfl rfl ?_))); refine BrF.one rfl rfl ?_ (BrF.one rfl rfl ?_ BrF.nil); (· (first | refine JL.Q1 (xok rfl rfl rfl rfl) rfl rfl ?_ | refine JL.G1 (xok rfl rfl rfl rfl) rfl rfl rfl ?_ | refine JL.M1 (xok rfl rfl rfl rfl) rfl rfl ?_ | refine JL.M0 (xok rfl rfl rfl rfl) rfl ?_ | refine JL.Q0 (xok rfl rfl rfl rfl) rfl ?_ | refine JL.EqQ eqS rfl rfl rfl ?_ | refine JL.NeQ eqS rfl rfl rfl ?_); refine JL.finN ?_; refine JF.Branch 16 [] (xok rfl rfl rfl rfl) ?_ ?_; (focus (repeat (first | exact StF.nil | refine StF.One rfl rfl rfl ?_))); refine BrF.one rfl rfl ?_ BrF.nil; (· (first | refine JL.Q1 (xok rfl rfl rfl rfl) rfl rfl ?_ | refine JL.G1 (xok rfl rfl rfl rfl) rfl rfl rfl ?_ | refine JL.M1 (xok rfl rfl rfl rfl) rfl rfl ?_ | refine JL.M0 (xok rfl rfl rfl rfl) rfl ?_ | refine JL.Q0 (xok rfl rfl rfl rfl) rfl ?_ | refine JL.EqQ eqS rfl rfl rfl ?_ | refine JL.NeQ eqS rfl rfl rfl ?_); refine JL.finN ?_; refine JF.Branch 18 [] (xok rfl rfl rfl rfl) ?_ ?_; (focus (repeat (first | exact StF.nil | refine StF.One rfl rfl rfl ?_))); refine BrF.one rfl rfl ?_ BrF.nil; (· (first | refine JL.Q1 (xok rfl rfl rfl rfl) rfl rfl ?_ | refine JL.G1 (xok rfl rfl rfl rfl) rfl rfl rfl ?_ | refine JL.M1 (xok rfl rfl rfl rfl) rfl rfl ?_ | refine JL.M0 (xok rfl rfl rfl rfl) rfl ?_ | refine JL.Q0 (xok rfl rfl rfl rfl) rfl ?_ | refine JL.EqQ eqS rfl rfl rfl ?_ | refine JL.NeQ eqS rfl rfl rfl ?_); refine JL.finN ?_; refine JF.Branch 19 [] (xok rfl rfl rfl rfl) ?_ ?_; (focus (repeat (first | exact StF.nil | refine StF.One rfl rfl rfl ?_))); refine BrF.one rfl rfl ?_ BrF.nil; (· (first | refine JL.Q1 (xok rfl rfl rfl rfl) rfl rfl ?_ | refine JL.G1 (xok rfl rfl rfl rfl) rfl rfl rfl ?_ | refine JL.M1 (xok rfl rfl rfl rfl) rfl rfl ?_ | refine JL.M0 (xok rfl rfl rfl rfl) rfl ?_ | refine JL.Q0 (xok rfl rfl rfl rfl) rfl ?_ | refine JL.EqQ eqS rfl rfl rfl ?_ | refine JL.NeQ eqS rfl rfl rfl ?_); refine JL.finN ?_; refine JF.Done (xok rfl rfl rfl rfl) ?_ ?_; (focus (repeat (first | exact StF.nil | refine StF.One rfl rfl rfl ?_))); ((exact JW.Auto (by conv => lhs; reduce))))))); (· (first | refine JL.Q1 (xok rfl rfl rfl rfl) rfl rfl ?_ | refine JL.G1 (xok rfl rfl rfl rfl) rfl rfl rfl ?_ | refine JL.M1 (xok rfl rfl rfl rfl) rfl rfl ?_ | refine JL.M0 (xok rfl rfl rfl rfl) rfl ?_ | refine JL.Q0 (xok rfl rfl rfl rfl) rfl ?_ | refine JL.EqQ eqS rfl rfl rfl ?_ | refine JL.NeQ eqS rfl rfl rfl ?_); refine JL.finN ?_; refine JF.Branch 7 [] (xok rfl rfl rfl rfl) ?_ ?_; (focus (repeat (first | exact StF.nil | refine StF.One rfl rfl rfl ?_))); refine BrF.one rfl rfl ?_ BrF.nil; (· (first | refine JL.Q1 (xok rfl rfl rfl rfl) rfl rfl ?_ | refine JL.G1 (xok rfl rfl rfl rfl) rfl rfl rfl ?_ | refine JL.M1 (xok rfl rfl rfl rfl) rfl rfl ?_ | refine JL.M0 (xok rfl rfl rfl rfl) rfl ?_ | refine JL.Q0 (xok rfl rfl rfl rfl) rfl ?_ | refine JL.EqQ eqS rfl rfl rfl ?_ | refine JL.NeQ eqS rfl rfl rfl ?_); refine JL.finN ?_; refine JF.Branch 18 [] (xok rfl rfl rfl rfl) ?_ ?_; (focus (repeat (first | exact StF.nil | refine StF.One rfl rfl rfl ?_))); refine BrF.one rfl rfl ?_ BrF.nil; (· (first | refine JL.Q1 (xok rfl rfl rfl rfl) rfl rfl ?_ | refine JL.G1 (xok rfl rfl rfl rfl) rfl rfl rfl ?_ | refine JL.M1 (xok rfl rfl rfl rfl) rfl rfl ?_ | refine JL.M0 (xok rfl rfl rfl rfl) rfl ?_ | refine JL.Q0 (xok rfl rfl rfl rfl) rfl ?_ | refine JL.EqQ eqS rfl rfl rfl ?_ | refine JL.NeQ eqS rfl rfl rfl ?_); refine JL.finN ?_; refine JF.Branch 19 [] (xok rfl rfl rfl rfl) ?_ ?_; (focus (repeat (first | exact StF.nil | refine StF.One rfl rfl rfl ?_))); refine BrF.one rfl rfl ?_ BrF.nil; (· (first | refine JL.Q1 (xok rfl rfl rfl rfl) rfl rfl ?_ | refine JL.G1 (xok rfl rfl rfl rfl) rfl rfl rfl ?_ | refine JL.M1 (xok rfl rfl rfl rfl) rfl rfl ?_ | refine JL.M0 (xok rfl rfl rfl rfl) rfl ?_ | refine JL.Q0 (xok rfl rfl rfl rfl) rfl ?_ | refine JL.EqQ eqS rfl rfl rfl ?_ | refine JL.NeQ eqS rfl rfl rfl ?_); refine JL.finN ?_; refine JF.Done (xok rfl rfl rfl rfl) ?_ ?_; (focus (repeat (first | exact StF.nil | refine StF.One rfl rfl rfl ?_))); ((exact JW.Auto (by conv => lhs; reduce)))))))); (· (first | refine JL.Q1 (xok rfl rfl rfl rfl) rfl rfl ?_ | refine JL.G1 (xok rfl rfl rfl rfl) rfl rfl rfl ?_ | refine JL.M1 (xok rfl rfl rfl rfl) rfl rfl ?_ | refine JL.M0 (xok rfl rfl rfl rfl) rfl ?_ | refine JL.Q0 (xok rfl rfl rfl rfl) rfl ?_ | refine JL.EqQ eqS rfl rfl rfl ?_ | refine JL.NeQ eqS rfl rfl rfl ?_); refine JL.finN ?_; refine JF.Branch 7 [15] (xok rfl rfl rfl rfl) ?_ ?_; (focus (repeat (first | exact StF.nil | refine StF.One rfl rfl rfl ?_))); refine BrF.one rfl rfl ?_ (BrF.one rfl rfl ?_ BrF.nil); (· (first | refine JL.Q1 (xok rfl rfl rfl rfl) rfl rfl ?_ | refine JL.G1 (xok rfl rfl rfl rfl) rfl rfl rfl ?_ | refine JL.M1 (xok rfl rfl rfl rfl) rfl rfl ?_ | refine JL.M0 (xok rfl rfl rfl rfl) rfl ?_ | refine JL.Q0 (xok rfl rfl rfl rfl) rfl ?_ | refine JL.EqQ eqS rfl rfl rfl ?_ | refine JL.NeQ eqS rfl rfl rfl ?_); refine JL.finN ?_; refine JF.Branch 15 [18] (xok rfl rfl rfl rfl) ?_ ?_; (focus (repeat (first | exact StF.nil | refine StF.One rfl rfl rfl ?_))); refine BrF.one rfl rfl ?_ (BrF.one rfl rfl ?_ BrF.nil); (· (first | refine JL.Q1 (xok rfl rfl rfl rfl) rfl rfl ?_ | refine JL.G1 (xok rfl rfl rfl rfl) rfl rfl rfl ?_ | refine JL.M1 (xok rfl rfl rfl rfl) rfl rfl ?_ | refine JL.M0 (xok rfl rfl rfl rfl) rfl ?_ | refine JL.Q0 (xok rfl rfl rfl rfl) rfl ?_ | refine JL.EqQ eqS rfl rfl rfl ?_ | refine JL.NeQ eqS rfl rfl rfl ?_); refine JL.finN ?_; refine JF.Branch 18 [] (xok rfl rfl rfl rfl) ?_ ?_; (focus (repeat (first | exact StF.nil | refine StF.One rfl rfl rfl ?_))); refine BrF.one rfl rfl ?_ BrF.nil; (· (first | refine JL.Q1 (xok rfl rfl rfl rfl) rfl rfl ?_ | refine JL.G1 (xok rfl rfl rfl rfl) rfl rfl rfl ?_ | refine JL.M1 (xok rfl rfl rfl rfl) rfl rfl ?_ | refine JL.M0 (xok rfl rfl rfl rfl) rfl ?_ | refine JL.Q0 (xok rfl rfl rfl rfl) rfl ?_ | refine JL.EqQ eqS rfl rfl rfl ?_ | refine JL.NeQ eqS rfl rfl rfl ?_); refine JL.finN ?_; refine JF.Branch 19 [] (xok rfl rfl rfl rfl) ?_ ?_; (focus (repeat (first | exact StF.nil | refine StF.One rfl rfl rfl ?_))); refine BrF.one rfl rfl ?_ BrF.nil; (· (first | refine JL.Q1 (xok rfl rfl rfl rfl) rfl rfl ?_ | refine JL.G1 (xok rfl rfl rfl rfl) rfl rfl rfl ?_ | refine JL.M1 (xok rfl rfl rfl rfl) rfl rfl ?_ | refine JL.M0 (xok rfl rfl rfl rfl) rfl ?_ | refine JL.Q0 (xok rfl rfl rfl rfl) rfl ?_ | refine JL.EqQ eqS rfl rfl rfl ?_ | refine JL.NeQ eqS rfl rfl rfl ?_); refine JL.finN ?_; refine JF.Done (xok rfl rfl rfl rfl) ?_ ?_; (focus (repeat (first | exact StF.nil | refine StF.One rfl rfl rfl ?_))); ((exact JW.Auto (by conv => lhs; reduce)))))); (· (first | refine JL.Q1 (xok rfl rfl rfl rfl) rfl rfl ?_ | refine JL.G1 (xok rfl rfl rfl rfl) rfl rfl rfl ?_ | refine JL.M1 (xok rfl rfl rfl rfl) rfl rfl ?_ | refine JL.M0 (xok rfl rfl rfl rfl) rfl ?_ | refine JL.Q0 (xok rfl rfl rfl rfl) rfl ?_ | refine JL.EqQ eqS rfl rfl rfl ?_ | refine JL.NeQ eqS rfl rfl rfl ?_); refine JL.finN ?_; refine JF.Branch 15 [] (xok rfl rfl rfl rfl) ?_ ?_; (focus (repeat (first | exact StF.nil | refine StF.One rfl rfl rfl ?_))); refine BrF.one rfl rfl ?_ BrF.nil; (· (first | refine JL.Q1 (xok rfl rfl rfl rfl) rfl rfl ?_ | refine JL.G1 (xok rfl rfl rfl rfl) rfl rfl rfl ?_ | refine JL.M1 (xok rfl rfl rfl rfl) rfl rfl ?_ | refine JL.M0 (xok rfl rfl rfl rfl) rfl ?_ | refine JL.Q0 (xok rfl rfl rfl rfl) rfl ?_ | refine JL.EqQ eqS rfl rfl rfl ?_ | refine JL.NeQ eqS rfl rfl rfl ?_); refine JL.finN ?_; refine JF.Branch 19 [] (xok rfl rfl rfl rfl) ?_ ?_; (focus (repeat (first | exact StF.nil | refine StF.One rfl rfl rfl ?_))); refine BrF.one rfl rfl ?_ BrF.nil; (· (first | refine JL.Q1 (xok rfl rfl rfl rfl) rfl rfl ?_ | refine JL.G1 (xok rfl rfl rfl rfl) rfl rfl rfl ?_ | refine JL.M1 (xok rfl rfl rfl rfl) rfl rfl ?_ | refine JL.M0 (xok rfl rfl rfl rfl) rfl ?_ | refine JL.Q0 (xok rfl rfl rfl rfl) rfl ?_ | refine JL.EqQ eqS rfl rfl rfl ?_ | refine JL.NeQ eqS rfl rfl rfl ?_); refine JL.finN ?_; refine JF.Done (xok rfl rfl rfl rfl) ?_ ?_; (focus (repeat (first | exact StF.nil | refine StF.One rfl rfl rfl ?_))); ((exact JW.Auto (by conv => lhs; reduce))))))); (· (first | refine JL.Q1 (xok rfl rfl rfl rfl) rfl rfl ?_ | refine JL.G1 (xok rfl rfl rfl rfl) rfl rfl rfl ?_ | refine JL.M1 (xok rfl rfl rfl rfl) rfl rfl ?_ | refine JL.M0 (xok rfl rfl rfl rfl) rfl ?_ | refine JL.Q0 (xok rfl rfl rfl rfl) rfl ?_ | refine JL.EqQ eqS rfl rfl rfl ?_ | refine JL.NeQ eqS rfl rfl rfl ?_); refine JL.finN ?_; refine JF.Branch 7 [] (xok rfl rfl rfl rfl) ?_ ?_; (focus (repeat (first | exact StF.nil | refine StF.One rfl rfl rfl ?_))); refine BrF.one rfl rfl ?_ BrF.nil; (· (first | refine JL.Q1 (xok rfl rfl rfl rfl) rfl rfl ?_ | refine JL.G1 (xok rfl rfl rfl rfl) rfl rfl rfl ?_ | refine JL.M1 (xok rfl rfl rfl rfl) rfl rfl ?_ | refine JL.M0 (xok rfl rfl rfl rfl) rfl ?_ | refine JL.Q0 (xok rfl rfl rfl rfl) rfl ?_ | refine JL.EqQ eqS rfl rfl rfl ?_ | refine JL.NeQ eqS rfl rfl rfl ?_); refine JL.finN ?_; refine JF.Branch 18 [] (xok rfl rfl rfl rfl) ?_ ?_; (focus (repeat (first | exact StF.nil | refine StF.One rfl rfl rfl ?_))); refine BrF.one rfl rfl ?_ BrF.nil; (· (first | refine JL.Q1 (xok rfl rfl rfl rfl) rfl rfl ?_ | refine JL.G1 (xok rfl rfl rfl rfl) rfl rfl rfl ?_ | refine JL.M1 (xok rfl rfl rfl rfl) rfl rfl ?_ | refine JL.M0 (xok rfl rfl rfl rfl) rfl ?_ | refine JL.Q0 (xok rfl rfl rfl rfl) rfl ?_ | refine JL.EqQ eqS rfl rfl rfl ?_ | refine JL.NeQ eqS rfl rfl rfl ?_); refine JL.finN ?_; refine JF.Branch 19 [] (xok rfl rfl rfl rfl) ?_ ?_; (focus (repeat (first | exact StF.nil | refine StF.One rfl rfl rfl ?_))); refine BrF.one rfl rfl ?_ BrF.nil; (· (first | refine JL.Q1 (xok rfl rfl rfl rfl) rfl rfl ?_ | refine JL.G1 (xok rfl rfl rfl rfl) rfl rfl rfl ?_ | refine JL.M1 (xok rfl rfl rfl rfl) rfl rfl ?_ | refine JL.M0 (xok rfl rfl rfl rfl) rfl ?_ | refine JL.Q0 (xok rfl rfl rfl rfl) rfl ?_ | refine JL.EqQ eqS rfl rfl rfl ?_ | refine JL.NeQ eqS rfl rfl rfl ?_); refine JL.finN ?_; refine JF.Done (xok rfl rfl rfl rfl) ?_ ?_; (focus (repeat (first | exact StF.nil | refine StF.One rfl rfl rfl ?_))); ((exact JW.Auto (by conv => lhs; reduce))))))))))
          · (repeat (first | refine zs rfl ?_ | refine zg rfl rfl rfl ?_ | refine zd ?_ | refine JK.fin ?_ | refine JK.ret ?_ | refine zeq eqS rfl rfl rfl ?_ | refine zne eqS rfl rfl rfl ?_ | refine zeqg eqS rfl rfl rfl rfl ?_ | refine zneg eqS rfl rfl rfl rfl ?_))
            have hlk := linkAt_eq (i := i) hZ hX
            refine JK.cond rfl (fun hg => ?_) (fun hg => ?_)
            · have hno : linkAt ev ch i = false := by rw [hlk]; exact congrArg (!·) hg
              (repeat (first | refine zs rfl ?_ | refine zg rfl rfl rfl ?_ | refine zd ?_ | refine JK.fin ?_ | refine JK.ret ?_ | refine zeq eqS rfl rfl rfl ?_ | refine zne eqS rfl rfl rfl ?_ | refine zeqg eqS rfl rfl rfl rfl ?_ | refine zneg eqS rfl rfl rfl rfl ?_))
              refine ⟨.inl rfl, _, _, rfl, trivial, ?_⟩
              rw [chainR, if_neg (by omega), if_neg hd', if_neg (by simpa using hby), if_neg (by rw [linkB_no hi' hno]; simp)]
            · have hyes : linkAt ev ch i = true := by rw [hlk]; exact congrArg (!·) hg
              have hnx : atI ch (i + 1) = z2 := congrArg (fun q : stD => q.2.1) hZ
              (repeat (first | refine zs rfl ?_ | refine zg rfl rfl rfl ?_ | refine zd ?_ | refine JK.fin ?_ | refine JK.ret ?_ | refine zeq eqS rfl rfl rfl ?_ | refine zne eqS rfl rfl rfl ?_ | refine zeqg eqS rfl rfl rfl rfl ?_ | refine zneg eqS rfl rfl rfl rfl ?_))
              refine ⟨i + 1, ?_, ⟨by omega, linkB_succ hq hyes⟩, by omega⟩
              rw [hnx]
              (exact JW.Auto (by conv => lhs; reduce))
        · (simp only [↓bif_or, ↓bif_and, ↓Bool.or_eq_true, ↓Bool.or_eq_false_iff, ↓Bool.and_eq_true, ↓Bool.and_eq_false_iff, ↓Bool.not_eq_true', ↓Bool.not_eq_false', ↓decide_eq_true_eq, ↓decide_eq_false_iff_not, ↓beq_iff_eq, ↓bne_iff_ne, ↓bne_eq_false_iff_eq, ↓ne_eq, ↓beq_eq_false_iff_ne, ↓Bool.not_eq_true] at hf; try simp only [Ty.dflt, Int.toNat_natCast] at hf)
          obtain rfl : i = ch.length := by omega
          (repeat (first | refine zs rfl ?_ | refine zg rfl rfl rfl ?_ | refine zd ?_ | refine JK.fin ?_ | refine JK.ret ?_ | refine zeq eqS rfl rfl rfl ?_ | refine zne eqS rfl rfl rfl ?_ | refine zeqg eqS rfl rfl rfl rfl ?_ | refine zneg eqS rfl rfl rfl rfl ?_))
          refine ⟨.inl rfl, _, _, rfl, trivial, ?_⟩
          rw [chainR, if_neg (by omega), if_neg hd', if_neg (by simpa using hby), if_pos hq]
          obtain ⟨m, hm⟩ : ∃ m, ch.length = m + 1 := ⟨ch.length - 1, by omega⟩
          rw [hm]; rfl
end Go.Proofs.Ytdmfofjaknngnaa

namespace Go.Proofs.Ytdmfofjaknngnaa
open Go Go.RowKit Ox Ox.Two
attribute [local irreducible] JC JL JK JW

theorem fn20 (n : Int) (ev : List evD) (ch : List stD) : Ox.Fn Go.Proofs.Try.prog 20 (.acons (vC n ev) (.acons (vSs ch) .anil)) (· = vI (clashR n ev ch)) := by
  refine Ox.Fn.intro xok Go.Proofs.Try.func20 rfl Go.Proofs.Try.call20 (Nat.le_of_ble_eq_true rfl) (fun E M0 up => ?_)
  refine JK.start ?_
  have hcl : clashR n ev ch = if (chainR n ev ch).2.2 ≠ 0 then (chainR n ev ch).2.2 else if (chainR n ev ch).1 = (chainR n ev ch).2.1 ∧ ch.any (fun z => decide (z.2.1 = -(chainR n ev ch).1)) = true then 0 else 14 := rfl
  rw [hcl]
  have hcf := chain_from (n := n) (ev := ev) (ch := ch)
  have h16 := fn16 n ev ch
  generalize chainR n ev ch = c at hcf h16 ⊢
  obtain ⟨fr, to, e⟩ := c
  dsimp only at hcf h16 ⊢
  (repeat (first | refine zs rfl ?_ | refine zg rfl rfl rfl ?_ | refine zd ?_ | refine JK.fin ?_ | refine JK.ret ?_ | refine zc rfl (h16) rfl rfl ?_ | refine ze rfl (h16) rfl ?_ | refine zk rfl rfl (fun _ => h16) rfl rfl ?_))
  refine JK.cond rfl (fun hd => ?_) (fun hd => ?_)
  · (simp only [↓bif_or, ↓bif_and, ↓Bool.or_eq_true, ↓Bool.or_eq_false_iff, ↓Bool.and_eq_true, ↓Bool.and_eq_false_iff, ↓Bool.not_eq_true', ↓Bool.not_eq_false', ↓decide_eq_true_eq, ↓decide_eq_false_iff_not, ↓beq_iff_eq, ↓bne_iff_ne, ↓bne_eq_false_iff_eq, ↓ne_eq, ↓beq_eq_false_iff_ne, ↓Bool.not_eq_true] at hd; try simp only [Ty.dflt, Int.toNat_natCast] at hd)
    (repeat (first | refine zs rfl ?_ | refine zg rfl rfl rfl ?_ | refine zd ?_ | refine JK.fin ?_ | refine JK.ret ?_))
    refine ⟨.inl rfl, _, _, rfl, trivial, ?_⟩
    rw [if_pos hd]
  · (simp only [↓bif_or, ↓bif_and, ↓Bool.or_eq_true, ↓Bool.or_eq_false_iff, ↓Bool.and_eq_true, ↓Bool.and_eq_false_iff, ↓Bool.not_eq_true', ↓Bool.not_eq_false', ↓decide_eq_true_eq, ↓decide_eq_false_iff_not, ↓beq_iff_eq, ↓bne_iff_ne, ↓bne_eq_false_iff_eq, ↓ne_eq, ↓beq_eq_false_iff_ne, ↓Bool.not_eq_true] at hd; try simp only [Ty.dflt, Int.toNat_natCast] at hd)
    have hok := hcf (by omega)
    have hn := case_ok hok.1
    have hfr : -1000 ≤ fr ∧ fr ≤ 1000 := by have := hok.2.2; unfold isSay at this; omega
    rw [if_neg (by omega)]
    have h54 := fn54 ch (fun z => decide (z.2.1 = -fr)) (fun z _ => fn63 fr z hfr)
    generalize (ch.any fun z => decide (z.2.1 = -fr)) = b at h54 ⊢
    (repeat (first | refine zs rfl ?_ | refine zg rfl rfl rfl ?_ | refine zd ?_ | refine JK.fin ?_ | refine JK.ret ?_ | refine zc rfl (h54) rfl rfl ?_ | refine ze rfl (h54) rfl ?_ | refine zk rfl rfl (fun _ => h54) rfl rfl ?_))
    refine JK.cond rfl (fun he => ?_) (fun he => ?_)
    · have he' : ¬ (fr = to ∧ b = true) := by rintro ⟨h1, h2⟩; subst h1; subst h2; simp at he
      (repeat (first | refine zs rfl ?_ | refine zg rfl rfl rfl ?_ | refine zd ?_ | refine JK.fin ?_ | refine JK.ret ?_))
      refine ⟨.inl rfl, _, _, rfl, trivial, ?_⟩
      rw [if_neg he']
    · have he' : fr = to ∧ b = true := by
        revert he; cases b <;> by_cases h : fr = to <;> simp [h]
      (repeat (first | refine zs rfl ?_ | refine zg rfl rfl rfl ?_ | refine zd ?_ | refine JK.fin ?_ | refine JK.ret ?_))
      refine ⟨.inl rfl, _, _, rfl, trivial, ?_⟩
      rw [if_pos he']
end Go.Proofs.Ytdmfofjaknngnaa

namespace Go.Proofs.Ytdmfofjaknngnaa
open Go Go.RowKit Ox Ox.Two
attribute [local irreducible] JC JL JK JW

abbrev deT : Ty := .cons caT (.cons (.arr 24 (.int .i64)) .nil)
abbrev vDe (n : Int) (ev : List evD) (t : List Int) : AV := .val (.ptr deT) (some ((n, ev, ()), t, ()))
theorem fn61 (n : Nat) (ev : List evD) (t : List Int) (a b : Int) (hn : n ≤ 12) (ht : tabOk t) (ha : isSay n a) (hb : isSay n b) : Ox.Fn Go.Proofs.Try.prog 61 (.acons (vDe n ev t) (.acons (vI a) (.acons (vI b) .anil))) (· = vB (follows t a b)) := by
  refine Ox.Fn.intro xok Go.Proofs.Try.func61 rfl Go.Proofs.Try.call61 (Nat.le_of_ble_eq_true rfl) (fun E M0 up => ?_)
  refine JK.start ?_
  have h1 := keyI_bd ha
  have h2 := keyI_bd hb
  have hka := fn89 a (by unfold isSay at ha; omega)
  have hkb := fn89 b (by unfold isSay at hb; omega)
  have hg := ht.get (keyI a).toNat
  have hq : 0 ≤ t.getD (keyI a).toNat 0 / 2 ^ (keyI b).toNat ∧ t.getD (keyI a).toNat 0 / 2 ^ (keyI b).toNat < 16777216 :=
    ⟨Int.ediv_nonneg hg.1 (Int.le_of_lt (Int.pow_pos (by omega))), Int.lt_of_le_of_lt (Int.ediv_le_self _ hg.1) hg.2⟩
  have hl := ht.1
  (repeat (first | refine zs rfl ?_ | refine zg rfl rfl rfl ?_ | refine zd ?_ | refine JK.fin ?_ | refine JK.ret ?_ | refine zc rfl (hka) rfl rfl ?_ | refine ze rfl (hka) rfl ?_ | refine zk rfl rfl (fun _ => hka) rfl rfl ?_ | refine zc rfl (hkb) rfl rfl ?_ | refine ze rfl (hkb) rfl ?_ | refine zk rfl rfl (fun _ => hkb) rfl rfl ?_))
  refine ⟨.inl rfl, _, _, rfl, trivial, ?_⟩
  refine congrArg vB ?_
  show _ = Nat.testBit (t.getD (keyI a).toNat 0).toNat (keyI b).toNat
  rw [Nat.testBit_eq_decide_div_mod_eq]
  change ((((t.getD (keyI a).toNat 0 / 2 ^ (keyI b).toNat).toNat &&& 1 : Nat) : Int) == 1) = _
  clear hq
  generalize t.getD (keyI a).toNat 0 = v at hg ⊢
  obtain ⟨w, rfl⟩ := Int.eq_ofNat_of_zero_le hg.1
  have e : ((w : Int) / 2 ^ (keyI b).toNat) = ((w / 2 ^ (keyI b).toNat : Nat) : Int) := by push_cast; rfl
  rw [e, Int.toNat_natCast, Int.toNat_natCast, Nat.and_one_is_mod, Bool.eq_iff_iff]
  simp only [beq_iff_eq, decide_eq_true_eq]
  omega
theorem fn99 (n : Int) (ev : List evD) (t : List Int) (bits : Nat) (hb : bits < 16777216) : Ox.Fn Go.Proofs.Try.prog 99 (.acons (vDe n ev t) (.acons (vI bits) .anil)) (· = vB (freeB bits)) := by
  refine Ox.Fn.intro xok Go.Proofs.Try.func99 rfl Go.Proofs.Try.call99 (Nat.le_of_ble_eq_true rfl) (fun E M0 up => ?_)
  refine JK.start ?_
  have h1 : bits &&& Int.toNat 5592405 ≤ 5592405 := Nat.and_le_right
  have hq : 0 ≤ (bits : Int) / 2 ^ Int.toNat 1 ∧ (bits : Int) / 2 ^ Int.toNat 1 ≤ 16777216 := by
    show 0 ≤ (bits : Int) / 2 ∧ (bits : Int) / 2 ≤ 16777216; omega
  (repeat (first | refine zs rfl ?_ | refine zg rfl rfl rfl ?_ | refine zd ?_ | refine JK.fin ?_ | refine JK.ret ?_))
  refine ⟨.inl rfl, _, _, rfl, trivial, ?_⟩
  refine congrArg vB ?_
  have e : ((bits : Int) / 2).toNat = bits / 2 := by omega
  change (((((bits &&& 5592405 : Nat) : Int).toNat &&& ((bits : Int) / 2).toNat : Nat) : Int) == 0) = freeB bits
  rw [e, Int.toNat_natCast, freeB, Bool.eq_iff_iff]
  simp only [beq_iff_eq]
  omega
def meansB (t : List Int) (a b : Int) : Bool := follows t a b || follows t a (-a) || follows t (-b) b
theorem fn69 (n : Nat) (ev : List evD) (t : List Int) (a b : Int) (hn : n ≤ 12) (ht : tabOk t) (ha : isSay n a) (hb : isSay n b) : Ox.Fn Go.Proofs.Try.prog 69 (.acons (vDe n ev t) (.acons (vI a) (.acons (vI b) .anil))) (· = vB (meansB t a b)) := by
  refine Ox.Fn.intro xok Go.Proofs.Try.func69 rfl Go.Proofs.Try.call69 (Nat.le_of_ble_eq_true rfl) (fun E M0 up => ?_)
  refine JK.start ?_
  have ba : -1000 ≤ a ∧ a ≤ 1000 := by unfold isSay at ha; omega
  have bb : -1000 ≤ b ∧ b ≤ 1000 := by unfold isSay at hb; omega
  have c1 := fn61 n ev t a b hn ht ha hb
  have c2 := fn61 n ev t a (0 - a) hn ht ha (by rw [Int.zero_sub]; exact ha.neg)
  have c3 := fn61 n ev t (0 - b) b hn ht (by rw [Int.zero_sub]; exact hb.neg) hb
  (repeat (first | refine zs rfl ?_ | refine zg rfl rfl rfl ?_ | refine zd ?_ | refine JK.fin ?_ | refine JK.ret ?_ | refine zc rfl (c1) rfl rfl ?_ | refine ze rfl (c1) rfl ?_ | refine zk rfl rfl (fun _ => c1) rfl rfl ?_ | refine zc rfl (c2) rfl rfl ?_ | refine ze rfl (c2) rfl ?_ | refine zk rfl rfl (fun _ => c2) rfl rfl ?_ | refine zc rfl (c3) rfl rfl ?_ | refine ze rfl (c3) rfl ?_ | refine zk rfl rfl (fun _ => c3) rfl rfl ?_))
  refine ⟨.inl rfl, _, _, rfl, trivial, ?_⟩
  refine congrArg vB ?_
  rw [meansB, Int.zero_sub, Int.zero_sub]
  cases follows t a b <;> cases follows t a (-a) <;> rfl
end Go.Proofs.Ytdmfofjaknngnaa

namespace Go.Proofs.Ytdmfofjaknngnaa
open Go Go.RowKit Ox Ox.Two
attribute [local irreducible] JC JL JK JW

/-- A claim whose sayings follow from each other. -/
def clashAt (t : List Int) (k : Nat) : Bool := follows t ((k : Int) + 1) (-1 - (k : Int)) && follows t (-1 - (k : Int)) ((k : Int) + 1)
def clashF (t : List Int) : Nat → Nat → Int
  | _, 0 => -1
  | i, f + 1 => if clashAt t i = true then (i : Int) else clashF t (i + 1) f
theorem clashF_step (t : List Int) {i n : Nat} (hi : i < n) : clashF t i (n - i) = if (follows t ((i : Int) + 1) (-1 - (i : Int)) && follows t (-1 - (i : Int)) ((i : Int) + 1)) = true then (i : Int) else clashF t (i + 1) (n - (i + 1)) := by
  rw [show n - i = (n - (i + 1)) + 1 by omega]; rfl
set_option maxRecDepth 8000 in
theorem fn77 (n : Nat) (ev : List evD) (t : List Int) (hn : n ≤ 12) (ht : tabOk t) : Ox.Fn Go.Proofs.Try.prog 77 (.acons (vDe n ev t) .anil) (· = vI (clashF t 0 n)) := by
  refine Ox.Fn.intro xok Go.Proofs.Try.func77 rfl Go.Proofs.Try.call77 (Nat.le_of_ble_eq_true rfl) (fun E M0 up => ?_)
  refine JK.start ?_
  (repeat (first | refine zs rfl ?_ | refine zg rfl rfl rfl ?_ | refine zd ?_ | refine JK.fin ?_ | refine JK.ret ?_))
  refine JK.loop (fun i : Nat => ⟨[(3, vI (-1)), (4, .fn 61 (.acons (vDe n ev t) .anil) .anil), (12, vI n), (13, vI (i : Int))], [], 0⟩) (fun i => i ≤ n ∧ clashF t 0 n = clashF t i (n - i)) (fun i => n - i) 0 ⟨Nat.zero_le _, rfl⟩ (by (exact JW.Auto (by conv => lhs; reduce))) fun i ⟨hi, hr⟩ => ?_
  (repeat (first | refine zs rfl ?_ | refine zg rfl rfl rfl ?_ | refine zd ?_ | refine JK.fin ?_ | refine JK.ret ?_))
  refine JK.cond rfl (fun hc => ?_) (fun hc => ?_)
  · (simp only [↓bif_or, ↓bif_and, ↓Bool.or_eq_true, ↓Bool.or_eq_false_iff, ↓Bool.and_eq_true, ↓Bool.and_eq_false_iff, ↓Bool.not_eq_true', ↓Bool.not_eq_false', ↓decide_eq_true_eq, ↓decide_eq_false_iff_not, ↓beq_iff_eq, ↓bne_iff_ne, ↓bne_eq_false_iff_eq, ↓ne_eq, ↓beq_eq_false_iff_ne, ↓Bool.not_eq_true] at hc; try simp only [Ty.dflt, Int.toNat_natCast] at hc)
    have hi' : i < n := by omega
    have c1 := fn61 n ev t ((i : Int) + 1) (-1 - (i : Int)) hn ht (.inl ⟨by omega, by omega⟩) (.inr ⟨by omega, by omega⟩)
    have c2 := fn61 n ev t (-1 - (i : Int)) ((i : Int) + 1) hn ht (.inr ⟨by omega, by omega⟩) (.inl ⟨by omega, by omega⟩)
    rw [clashF_step t hi'] at hr
    generalize follows t ((i : Int) + 1) (-1 - (i : Int)) = b1 at c1 hr ⊢
    generalize follows t (-1 - (i : Int)) ((i : Int) + 1) = b2 at c2 hr ⊢
    (repeat (first | refine zs rfl ?_ | refine zg rfl rfl rfl ?_ | refine zd ?_ | refine JK.fin ?_ | refine JK.ret ?_ | refine zc rfl (c1) rfl rfl ?_ | refine ze rfl (c1) rfl ?_ | refine zk rfl rfl (fun _ => c1) rfl rfl ?_ | refine zc rfl (c2) rfl rfl ?_ | refine ze rfl (c2) rfl ?_ | refine zk rfl rfl (fun _ => c2) rfl rfl ?_))
    refine JK.cond rfl (fun hd => ?_) (fun hd => ?_)
    · rw [if_pos (by revert hd; cases b1 <;> simp)] at hr
      (repeat (first | refine zs rfl ?_ | refine zg rfl rfl rfl ?_ | refine zd ?_ | refine JK.fin ?_ | refine JK.ret ?_))
      refine ⟨.inl rfl, _, _, rfl, trivial, ?_⟩
      rw [hr]
    · rw [if_neg (by revert hd; cases b1 <;> simp)] at hr
      (repeat (first | refine zs rfl ?_ | refine zg rfl rfl rfl ?_ | refine zd ?_ | refine JK.fin ?_ | refine JK.ret ?_))
      exact ⟨i + 1, by (exact JW.Auto (by conv => lhs; reduce)), ⟨by omega, hr⟩, by omega⟩
  · (simp only [↓bif_or, ↓bif_and, ↓Bool.or_eq_true, ↓Bool.or_eq_false_iff, ↓Bool.and_eq_true, ↓Bool.and_eq_false_iff, ↓Bool.not_eq_true', ↓Bool.not_eq_false', ↓decide_eq_true_eq, ↓decide_eq_false_iff_not, ↓beq_iff_eq, ↓bne_iff_ne, ↓bne_eq_false_iff_eq, ↓ne_eq, ↓beq_eq_false_iff_ne, ↓Bool.not_eq_true] at hc; try simp only [Ty.dflt, Int.toNat_natCast] at hc)
    (repeat (first | refine zs rfl ?_ | refine zg rfl rfl rfl ?_ | refine zd ?_ | refine JK.fin ?_ | refine JK.ret ?_))
    refine ⟨.inl rfl, _, _, rfl, trivial, ?_⟩
    obtain rfl : i = n := by omega
    rw [hr, Nat.sub_self]; rfl
end Go.Proofs.Ytdmfofjaknngnaa

namespace Go.Proofs.Ytdmfofjaknngnaa
open Go Go.RowKit Ox Ox.Two
attribute [local irreducible] JC JL JK JW

theorem sayL_succ (n : Nat) : sayL (n + 1) = sayL n ++ [(n : Int) + 1, -1 - (n : Int)] := by
  unfold sayL; rw [List.range_succ, List.flatMap_append]; simp
theorem sayL_split {n k : Nat} (h : k < n) : ∃ post, sayL n = sayL k ++ ((k : Int) + 1) :: (-1 - (k : Int)) :: post := by
  induction n with
  | zero => omega
  | succ n ih =>
    by_cases e : k = n
    · subst e; exact ⟨[], sayL_succ k⟩
    · obtain ⟨p, hp⟩ := ih (by omega)
      exact ⟨p ++ [(n : Int) + 1, -1 - (n : Int)], by rw [sayL_succ, hp]; simp⟩
variable {E : World} {Mx M0 : Mem} {nX : Nat} {rdX : Option Nat} {up : Nat → Nat → Value} {dp lab : Nat} {r : List Fr} {QA : Exit → S → Prop}
theorem say_it (n : Nat) (hn : n ≤ 12) (K : List Int → List (Nat × HO))
    (hY : ∀ pre s post, sayL n = pre ++ s :: post → YO ⟨Go.Proofs.Try.prog, tys, ets, mts, E, Mx, nX, rdX, up, dp⟩ 25 lab (.acons (vI s) .anil) (K pre) 100 true (K (pre ++ [s])) 100)
    (k : ∀ L, JK ⟨Go.Proofs.Try.prog, tys, ets, mts, E, M0, 25, none, up, dp⟩ r QA ⟨L, K (sayL n), 100⟩) :
    JK ⟨Go.Proofs.Try.prog, tys, ets, mts, E, M0, 25, none, up, dp⟩ (.code (lpC Go.Proofs.Try.f92.body) :: .blk 0 :: r) QA ⟨[(0, .lf (.yld lab)), (8, vI n), (9, vI 0)], K [], 100⟩ := by
  refine JK.loop (fun i : Nat => ⟨[(0, .lf (.yld lab)), (8, vI n), (9, vI (i : Int))], K (sayL i), 100⟩) (fun i => i ≤ n) (fun i => n - i) 0 (Nat.zero_le _) (JW.refl _) fun i hi => ?_
  (repeat (first | refine zs rfl ?_ | refine zg rfl rfl rfl ?_ | refine zd ?_ | refine JK.fin ?_ | refine JK.ret ?_))
  refine JK.cond rfl (fun hc => ?_) (fun hc => ?_)
  · (simp only [↓bif_or, ↓bif_and, ↓Bool.or_eq_true, ↓Bool.or_eq_false_iff, ↓Bool.and_eq_true, ↓Bool.and_eq_false_iff, ↓Bool.not_eq_true', ↓Bool.not_eq_false', ↓decide_eq_true_eq, ↓decide_eq_false_iff_not, ↓beq_iff_eq, ↓bne_iff_ne, ↓bne_eq_false_iff_eq, ↓ne_eq, ↓beq_eq_false_iff_ne, ↓Bool.not_eq_true] at hc; try simp only [Ty.dflt, Int.toNat_natCast] at hc)
    have hi' : i < n := by omega
    obtain ⟨post, hp⟩ := sayL_split hi'
    have y1 := hY (sayL i) _ _ hp
    have y2 := hY (sayL i ++ [(i : Int) + 1]) (-1 - (i : Int)) post (by rw [hp]; simp)
    rw [show sayL i ++ [(i : Int) + 1] ++ [-1 - (i : Int)] = sayL (i + 1) by rw [sayL_succ]; simp] at y2
    (repeat (first | refine zs rfl ?_ | refine zg rfl rfl rfl ?_ | refine zd ?_ | refine JK.fin ?_ | refine JK.ret ?_))
    refine JK.yieldO (X := ⟨Go.Proofs.Try.prog, tys, ets, mts, E, Mx, nX, rdX, up, dp⟩) [0, 3, 8, 9] y1 rfl rfl rfl (by simp [stayL, stayB, svL, lk]) trivial ?_
    (repeat (first | refine zt rfl rfl ?_ | refine zs rfl ?_))
    refine JK.yieldO (X := ⟨Go.Proofs.Try.prog, tys, ets, mts, E, Mx, nX, rdX, up, dp⟩) [0, 3, 8, 9, 17] y2 rfl rfl rfl (by simp [stayL, stayB, svL, lk]) trivial ?_
    (repeat (first | refine zs rfl ?_ | refine zg rfl rfl rfl ?_ | refine zd ?_ | refine JK.fin ?_ | refine JK.ret ?_))
    refine JK.cond rfl (fun h => by cases h) (fun _ => ?_)
    (repeat (first | refine zs rfl ?_ | refine zg rfl rfl rfl ?_ | refine zd ?_ | refine JK.fin ?_ | refine JK.ret ?_))
    exact ⟨i + 1, JW.same ⟨rfl, rfl, rfl, trivial⟩, by omega, by omega⟩
  · (simp only [↓bif_or, ↓bif_and, ↓Bool.or_eq_true, ↓Bool.or_eq_false_iff, ↓Bool.and_eq_true, ↓Bool.and_eq_false_iff, ↓Bool.not_eq_true', ↓Bool.not_eq_false', ↓decide_eq_true_eq, ↓decide_eq_false_iff_not, ↓beq_iff_eq, ↓bne_iff_ne, ↓bne_eq_false_iff_eq, ↓ne_eq, ↓beq_eq_false_iff_ne, ↓Bool.not_eq_true] at hc; try simp only [Ty.dflt, Int.toNat_natCast] at hc)
    obtain rfl : i = n := by omega
    (repeat (first | refine zs rfl ?_ | refine zg rfl rfl rfl ?_ | refine zd ?_ | refine JK.fin ?_ | refine JK.ret ?_))
    exact k _
theorem stepsF_drop (s : Int) (ev : List evD) (i : Nat) (hi : i < ev.length) : stepsF s i (ev.drop i) = (if ev[i].1 = -s then [(s, ev[i].2.1, (i : Int), ())] else []) ++ ((if ev[i].2.1 = -s then [(s, ev[i].1, (i : Int), ())] else []) ++ stepsF s (i + 1) (ev.drop (i + 1))) := by
  rw [List.drop_eq_getElem_cons hi, stepsF]
theorem steps_it (ev : List evD) (s : Int) (hs : -1000 ≤ s ∧ s ≤ 1000) (hl : ev.length ≤ 40) (K : List stD → List (Nat × HO)) (hb : ∀ pre, bdH 100 (K pre)) (hlab : lab < 100)
    (hY : ∀ pre z post, stepsL ev s = pre ++ z :: post → YO ⟨Go.Proofs.Try.prog, tys, ets, mts, E, Mx, nX, rdX, up, dp⟩ 48 lab (.acons (vS z) .anil) (K pre) 100 true (K (pre ++ [z])) 100)
    (k : ∀ L, JK ⟨Go.Proofs.Try.prog, tys, ets, mts, E, M0, 48, none, up, dp⟩ r QA ⟨L, K (stepsL ev s), 100⟩) :
    JK ⟨Go.Proofs.Try.prog, tys, ets, mts, E, M0, 48, none, up, dp⟩ (.code (lpC Go.Proofs.Try.f98.body) :: .blk 0 :: r) QA ⟨[(0, .lf (.yld lab)), (2, pI s), (10, vEs ev), (11, vI ev.length), (12, vI 0)], K [], 100⟩ := by
  refine JK.loop (fun q : Nat × List stD => ⟨[(0, .lf (.yld lab)), (2, pI s), (10, vEs ev), (11, vI ev.length), (12, vI (q.1 : Int))], K q.2, 100⟩) (fun q => q.1 ≤ ev.length ∧ q.2 ++ stepsF s q.1 (ev.drop q.1) = stepsL ev s) (fun q => ev.length - q.1) (0, []) ⟨Nat.zero_le _, rfl⟩ (JW.refl _) fun ⟨i, pre⟩ ⟨hi, hpre⟩ => ?_
  dsimp only at hi hpre ⊢
  (repeat (first | refine zs rfl ?_ | refine zg rfl rfl rfl ?_ | refine zd ?_ | refine JK.fin ?_ | refine JK.ret ?_))
  refine JK.cond rfl (fun hc => ?_) (fun hc => ?_)
  · (simp only [↓bif_or, ↓bif_and, ↓Bool.or_eq_true, ↓Bool.or_eq_false_iff, ↓Bool.and_eq_true, ↓Bool.and_eq_false_iff, ↓Bool.not_eq_true', ↓Bool.not_eq_false', ↓decide_eq_true_eq, ↓decide_eq_false_iff_not, ↓beq_iff_eq, ↓bne_iff_ne, ↓bne_eq_false_iff_eq, ↓ne_eq, ↓beq_eq_false_iff_ne, ↓Bool.not_eq_true] at hc; try simp only [Ty.dflt, Int.toNat_natCast] at hc)
    have hi' : i < ev.length := by omega
    rw [stepsF_drop s ev i hi'] at hpre
    have eX : ev.getD ((i : Int)).toNat evT.dflt = ev[i] := getD_nat ev hi' _
    (repeat (first | refine zu rfl ?_ | refine zg rfl rfl rfl ?_ | refine zd ?_ | refine JK.fin ?_ | refine JK.ret ?_))
    rw [eX]
    generalize ev[i] = X at hpre ⊢
    obtain ⟨x, y, u⟩ := X
    dsimp only at hpre
    refine JK.frzPC 100 5 rfl rfl (L' := [(0, .lf (.yld lab)), (2, pI s), (4, vI (i : Int)), (10, vEs ev), (11, vI ev.length), (12, vI (i : Int))]) ⟨rfl, rfl, rfl, rfl, rfl, rfl, trivial⟩ ((subH.refl _).cons (hb _) (Nat.le_refl _)) (bdH_none (hb _) (Nat.le_refl _)) ⟨hlab, trivial, trivial, trivial, trivial, trivial, trivial⟩ (hb _) ?_
    refine JK.cut (fun q : List stD => ⟨[(5, .val (.ptr evT) (some (x, y, u))), (0, .lf (.yld lab)), (2, pI s), (4, vI (i : Int)), (10, vEs ev), (11, vI ev.length), (12, vI (i : Int))], K q, 100⟩)
      (fun q => q ++ ((if y = -s then [(s, x, (i : Int), ())] else []) ++ stepsF s (i + 1) (ev.drop (i + 1))) = stepsL ev s) ?_ (fun q hq => ?_)
    · by_cases h1 : x = -s
      · have h1' : (x == 0 - s) = true := by simp; omega
        have y1 := hY pre _ _ (by rw [← hpre, if_pos h1]; rfl)
        rw [if_pos h1] at hpre
        (repeat (first | refine zs rfl ?_ | refine zt rfl (by show wantB true (x == 0 - s) = true; rw [h1']; rfl) ?_ ))
        refine JK.yieldO (X := ⟨Go.Proofs.Try.prog, tys, ets, mts, E, Mx, nX, rdX, up, dp⟩) [0, 2, 4, 5, 10, 11, 12, 22] y1 rfl rfl rfl (by simp [stayL, stayB, svL, lk]) (by (first | exact trivial | (try dsimp only [allP, inK, idxC, loC, lohiC, fullC, underG, List.append, List.nil_append, List.cons_append, Ty.den, Ty.dflt, Int.toNat_natCast, List.length_cons, List.length_nil] at *); first | omega | ((repeat' (first | exact trivial | assumption | refine And.intro ?_ ?_ | exact fun h => h | (intro hpk; first | exact hpk | simp only [wantB, hpk, Bool.not_false, Bool.not_true]))) <;> omega) | fail)) ?_
        (repeat (first | refine zs rfl ?_ | refine zt rfl (by show wantB true (x == 0 - s) = true; rw [h1']; rfl) ?_ ))
        refine JK.cond rfl (fun h => by revert h; cases (x == 0 - s) <;> simp) (fun _ => ?_)
        (repeat (first | refine zs rfl ?_ | refine zg rfl rfl rfl ?_ | refine zd ?_ | refine JK.fin ?_ | refine JK.ret ?_))
        exact ⟨_, JW.same ⟨rfl, rfl, rfl, rfl, rfl, rfl, rfl, trivial⟩, by rw [← hpre]; simp⟩
      · have h1' : (x == 0 - s) = false := by simp; omega
        rw [if_neg h1] at hpre
        (repeat (first | refine zs rfl ?_ | refine zfl rfl (by show wantB true (x == 0 - s) = false; rw [h1']; rfl) rfl ?_ ))
        refine JK.pickF rfl h1' rfl rfl trivial trivial ?_
        (repeat (first | refine zs rfl ?_ | refine zg rfl rfl rfl ?_ | refine zd ?_ | refine JK.fin ?_ | refine JK.ret ?_))
        refine JK.cond rfl (fun h => by cases h) (fun _ => ?_)
        (repeat (first | refine zs rfl ?_ | refine zg rfl rfl rfl ?_ | refine zd ?_ | refine JK.fin ?_ | refine JK.ret ?_))
        exact ⟨pre, JW.same ⟨rfl, rfl, rfl, rfl, rfl, rfl, rfl, trivial⟩, hpre⟩
    · clear hpre
      by_cases h1 : y = -s
      · have h1' : (y == 0 - s) = true := by simp; omega
        have y1 := hY q _ _ (by rw [← hq, if_pos h1]; rfl)
        rw [if_pos h1] at hq
        (repeat (first | refine zs rfl ?_ | refine zt rfl (by show wantB true (y == 0 - s) = true; rw [h1']; rfl) ?_ ))
        refine JK.yieldO (X := ⟨Go.Proofs.Try.prog, tys, ets, mts, E, Mx, nX, rdX, up, dp⟩) [0, 2, 4, 5, 10, 11, 12, 37] y1 rfl rfl rfl (by simp [stayL, stayB, svL, lk]) (by (first | exact trivial | (try dsimp only [allP, inK, idxC, loC, lohiC, fullC, underG, List.append, List.nil_append, List.cons_append, Ty.den, Ty.dflt, Int.toNat_natCast, List.length_cons, List.length_nil] at *); first | omega | ((repeat' (first | exact trivial | assumption | refine And.intro ?_ ?_ | exact fun h => h | (intro hpk; first | exact hpk | simp only [wantB, hpk, Bool.not_false, Bool.not_true]))) <;> omega) | fail)) ?_
        (repeat (first | refine zs rfl ?_ | refine zt rfl (by show wantB true (y == 0 - s) = true; rw [h1']; rfl) ?_ ))
        refine JK.cond rfl (fun h => by revert h; cases (y == 0 - s) <;> simp) (fun _ => ?_)
        (repeat (first | refine zs rfl ?_ | refine zg rfl rfl rfl ?_ | refine zd ?_ | refine JK.fin ?_ | refine JK.ret ?_))
        exact ⟨(i + 1, _), JW.same ⟨rfl, rfl, rfl, rfl, rfl, trivial⟩, ⟨by omega, by rw [← hq]; simp⟩, by dsimp only; omega⟩
      · have h1' : (y == 0 - s) = false := by simp; omega
        rw [if_neg h1] at hq
        (repeat (first | refine zs rfl ?_ | refine zfl rfl (by show wantB true (y == 0 - s) = false; rw [h1']; rfl) rfl ?_ ))
        refine JK.pickF rfl h1' rfl rfl trivial trivial ?_
        (repeat (first | refine zs rfl ?_ | refine zg rfl rfl rfl ?_ | refine zd ?_ | refine JK.fin ?_ | refine JK.ret ?_))
        refine JK.cond rfl (fun h => by cases h) (fun _ => ?_)
        (repeat (first | refine zs rfl ?_ | refine zg rfl rfl rfl ?_ | refine zd ?_ | refine JK.fin ?_ | refine JK.ret ?_))
        exact ⟨(i + 1, q), JW.same ⟨rfl, rfl, rfl, rfl, rfl, trivial⟩, ⟨by omega, hq⟩, by dsimp only; omega⟩
  · (simp only [↓bif_or, ↓bif_and, ↓Bool.or_eq_true, ↓Bool.or_eq_false_iff, ↓Bool.and_eq_true, ↓Bool.and_eq_false_iff, ↓Bool.not_eq_true', ↓Bool.not_eq_false', ↓decide_eq_true_eq, ↓decide_eq_false_iff_not, ↓beq_iff_eq, ↓bne_iff_ne, ↓bne_eq_false_iff_eq, ↓ne_eq, ↓beq_eq_false_iff_ne, ↓Bool.not_eq_true] at hc; try simp only [Ty.dflt, Int.toNat_natCast] at hc)
    obtain rfl : i = ev.length := by omega
    rw [List.drop_length, stepsF, List.append_nil] at hpre
    subst hpre
    (repeat (first | refine zs rfl ?_ | refine zg rfl rfl rfl ?_ | refine zd ?_ | refine JK.fin ?_ | refine JK.ret ?_))
    exact k _
end Go.Proofs.Ytdmfofjaknngnaa
