/- A statement of the seat, proved: see the last theorem. Texts of the proof, part 5 of 5.
  A range over all orders.
  Kind: the program.
  The law's best.
  The engine, part RF: in a drawn region, an operation whose guard is known to be true and that looks at no world comes first.
  Works.
  Plain laws of orders: begun elsewhere, shifted, turned round.
  Plain laws of groups.
  Plain laws of orders: a part less, one more, a longer one; parts side by side.
  Plain laws of wastes, of parts side by side.
  The law SeamEither.
  The law SeamKinded.
  The engine, part ZT: from a function's contract to the row of a law: arguments that are plain data. -/
import Derived.Test.YtinehlphcckkmaaPkd
import Derived.ProofKit
import Derived.OpenShut
import Derived.Carry
import Derived.JoinedOf
set_option linter.all false
set_option maxHeartbeats 2000000
namespace Go.Proofs.Ytinehlphcckkmaa
open Go Go.RowKit Ox Ox.Sh Ox.Se
attribute [local irreducible] JC JL JK JW
attribute [local irreducible] ovA stA pkV
theorem fn82 (P : Int) (l : List Pt) : Ox.Fn Try.prog 82 (.acons (vH P l) .anil) (· = .fn 102 .anil (.acons (ppH P l) .anil)) := by
  refine Ox.Fn.intro xok Try.func82 rfl Try.call82 (Nat.le_of_ble_eq_true rfl) (fun E M0 up => ?_)
  refine JK.start ?_
  (repeat (first | refine znf ?_ | refine zs rfl ?_ | refine JK.ret ?_))
  refine ⟨.inl rfl, _, _, rfl, trivial, ?_⟩
  rfl
variable {E : World} {Mx M0 : Mem} {nX : Nat} {rdX : Option Nat} {up : Nat → Nat → Value} {dp lab : Nat} {r : List Fr} {QA : Exit → S → Prop}
theorem free_succ (row : List Nat) (k : Nat) : Sh.freeL (k + 1) row = Sh.freeL k row ++ if k ∈ row then [] else [k] := by
  unfold Sh.freeL
  rw [List.range_succ, List.filter_append]
  congr 1
  by_cases h : k ∈ row <;> simp [h]
def partD (N f : Nat) (row : List Nat) (j : Nat) : List (List Nat) := (Sh.freeL j row).flatMap fun n => dfsL N f (row ++ [n])
theorem partD_succ (N f : Nat) (row : List Nat) (j : Nat) : partD N f row (j + 1) = partD N f row j ++ if j ∈ row then [] else dfsL N f (row ++ [j]) := by
  unfold partD
  rw [free_succ, List.flatMap_append]
  by_cases h : j ∈ row
  · rw [if_pos h, if_pos h]; rfl
  · rw [if_neg h, if_neg h]; simp
theorem partD_all (N f : Nat) (row : List Nat) : partD N f row N = dfsL N (f + 1) row := rfl
theorem partD_split (N f : Nat) (row : List Nat) {j : Nat} (hj : j ≤ N) : ∃ post, dfsL N (f + 1) row = partD N f row j ++ post := by
  have key : ∀ M, j ≤ M → ∃ rest, Sh.freeL M row = Sh.freeL j row ++ rest := by
    intro M
    induction M with
    | zero => intro h; exact ⟨[], by rw [show j = 0 by omega]; simp⟩
    | succ M ih =>
      intro h
      rcases Nat.lt_or_ge M j with e | e
      · exact ⟨[], by rw [show j = M + 1 by omega]; simp⟩
      · obtain ⟨rest, hr⟩ := ih e
        exact ⟨_, by rw [free_succ, hr, List.append_assoc]⟩
  obtain ⟨rest, hr⟩ := key N hj
  exact ⟨rest.flatMap fun n => dfsL N f (row ++ [n]), by rw [dfsL, hr, List.flatMap_append]; rfl⟩
theorem ext_fo (i m : Nat) (hdp : dp ≠ 0) (P : Int) (l : List Pt) (h8 : l.length ≤ 8) (all : List (List Nat)) (K : List (List Nat) → List (Nat × HO)) (hb : ∀ pre, bdH 100 (K pre)) (hlab : lab < 100) (hk : ∀ pre, hasY i m lab (K pre))
    (hY : ∀ pre z post, all = pre ++ z :: post → YO ⟨Try.prog, tys, ets, mts, E, Mx, nX, rdX, up, dp⟩ 49 lab (.acons (vL (iL z)) .anil) (K pre) 100 true (K (pre ++ [z])) 100) :
    ∀ (f : Nat) (row : List Nat) (pre post : List (List Nat)), row.length + f = l.length → all = pre ++ dfsL l.length f row ++ post →
      FO ⟨Try.prog, tys, ets, mts, E, Mx, nX, rdX, up, dp⟩ 103 (.acons (vH P l) (.acons (vL (iL row)) (.acons (.lf (.yld lab)) .anil))) (K pre) 100
        (fun z H nx => nx = 100 ∧ z = vB true ∧ H = K (pre ++ dfsL l.length f row)) := by
  intro f
  induction f with
  | zero =>
    intro row pre post hlen hall
    have hil : (iL row).length = row.length := by rw [List.length_map]
    refine FO.intro (fn := Try.f103) Try.func103 rfl (Nat.le_of_ble_eq_true rfl) hdp fun M1 => JK.start ?_
    (repeat (first | refine zs rfl ?_ | refine zg rfl rfl rfl ?_ | refine zd ?_ | refine JK.fin ?_ | refine JK.ret ?_))
    refine JK.cond rfl (fun hc => ?_) (fun hc => ?_)
    · (simp only [↓cdL] at hc; try simp only [Ty.dflt, Int.toNat_natCast] at hc)
      have y := hY pre row post (by rw [hall]; simp [dfsL])
      (repeat (first | refine zs rfl ?_ | refine zg rfl rfl rfl ?_ | refine zd ?_ | refine JK.fin ?_ | refine JK.ret ?_))
      refine JK.yieldO (X := ⟨Try.prog, tys, ets, mts, E, Mx, nX, rdX, up, dp⟩) [0] y rfl rfl rfl rfl trivial ?_
      (repeat (first | refine zs rfl ?_ | refine zg rfl rfl rfl ?_ | refine zd ?_ | refine JK.fin ?_ | refine JK.ret ?_))
      refine foQ.ret _ (JW.refl _) rfl ⟨rfl, rfl, ?_⟩
      show K _ = K _; rw [dfsL]
    · (simp only [↓cdL] at hc; try simp only [Ty.dflt, Int.toNat_natCast] at hc)
      exact absurd (by omega) hc
  | succ f ih =>
    intro row pre post hlen hall
    have hil : (iL row).length = row.length := by rw [List.length_map]
    refine FO.intro (fn := Try.f103) Try.func103 rfl (Nat.le_of_ble_eq_true rfl) hdp fun M1 => JK.start ?_
    (repeat (first | refine zs rfl ?_ | refine zg rfl rfl rfl ?_ | refine zd ?_ | refine JK.fin ?_ | refine JK.ret ?_))
    refine JK.cond rfl (fun hc => ?_) (fun hc => ?_)
    · (simp only [↓cdL] at hc; try simp only [Ty.dflt, Int.toNat_natCast] at hc)
      exact absurd hc (by omega)
    · (simp only [↓cdL] at hc; try simp only [Ty.dflt, Int.toNat_natCast] at hc)
      (repeat (first | refine zs rfl ?_ | refine zg rfl rfl rfl ?_ | refine zd ?_ | refine JK.fin ?_ | refine JK.ret ?_))
      refine JK.loop (fun j : Nat => ⟨[(0, vH P l), (1, vL (iL row)), (2, .lf (.yld lab)), (25, vI l.length), (26, vI (j : Int))], K (pre ++ partD l.length f row j), 100⟩) (fun j => j ≤ l.length) (fun j => l.length - j) 0 (Nat.zero_le _) ?_ fun j hj => ?_
      · rw [show pre ++ partD l.length f row ((0 : Nat)) = pre by simp [partD, Sh.freeL]]
        exact JW.same ⟨rfl, rfl, rfl, rfl, rfl, trivial⟩
      have hpt := partD_succ l.length f row j
      have hpa := partD_all l.length f row
      (repeat (first | refine zs rfl ?_ | refine zg rfl rfl rfl ?_ | refine zd ?_ | refine JK.fin ?_ | refine JK.ret ?_))
      refine JK.cond rfl (fun hd => ?_) (fun hd => ?_)
      · (simp only [↓cdL] at hd; try simp only [Ty.dflt, Int.toNat_natCast] at hd)
        have hj' : j < l.length := by omega
        obtain ⟨post1, hp1⟩ := partD_split l.length f row (j := j + 1) hj'
        have c1 := fn107 (iL row) (j : Int)
        have hmi : decide ((j : Int) ∈ iL row) = decide (j ∈ row) := decide_eq_decide.2 mem_iL
        rw [hmi] at c1
        have hlt : (List.take (iL row).length (iL row)).length ≤ 8 := by rw [List.length_take]; omega
        by_cases hm : j ∈ row
        · rw [decide_eq_true hm] at c1
          rw [if_pos hm, List.append_nil] at hpt
          (repeat (first | refine zfl rfl rfl rfl ?_ | refine zs rfl ?_ | refine zc rfl (c1) rfl rfl ?_))
          refine JK.pickF rfl rfl rfl rfl trivial trivial ?_
          (repeat (first | refine zs rfl ?_ | refine zg rfl rfl rfl ?_ | refine zd ?_ | refine JK.fin ?_ | refine JK.ret ?_))
          refine JK.cond rfl (fun h => by cases h) (fun _ => ?_)
          (repeat (first | refine zs rfl ?_ | refine zg rfl rfl rfl ?_ | refine zd ?_ | refine JK.fin ?_ | refine JK.ret ?_))
          refine ⟨j + 1, ?_, by omega, by omega⟩
          rw [hpt]
          exact JW.same ⟨rfl, rfl, rfl, rfl, rfl, trivial⟩
        · rw [decide_eq_false hm] at c1
          rw [if_neg hm] at hpt
          rw [hpt] at hp1
          rw [hp1] at hall
          generalize partD l.length f row j = pj at hpt hp1 hall ⊢
          have q := ih (row ++ [j]) (pre ++ pj) (post1 ++ post) (by simp; omega) (by rw [hall]; simp)
          rw [iL_snoc] at q
          (repeat (first | refine zt rfl rfl ?_ | refine zs rfl ?_ | refine zc rfl (c1) rfl rfl ?_))
          have e1 : List.take (((iL row).length : Int)).toNat (iL row) ++ [(j : Int)] = iL row ++ [(j : Int)] := by rw [Int.toNat_natCast, List.take_length]
          refine JK.frzR 101 43 (eid := 3) (e := .int .i64) (xs := iL row ++ [(j : Int)]) (congrArg (fun z => some (HO.sl 3 (.int .i64) z)) e1) rfl (L' := [(0, vH P l), (1, vL (iL row)), (2, .lf (.yld lab)), (25, vI l.length), (26, vI (j : Int)), (33, vB true), (34, vH P l), (44, .lf (.yld lab))]) ⟨rfl, rfl, rfl, rfl, rfl, rfl, rfl, rfl, trivial⟩ (H' := K (pre ++ pj)) (nx' := 100) (((subH.refl _).cons (hb _) (Nat.le_of_ble_eq_true rfl)).cons (hb _) (Nat.le_of_ble_eq_true rfl)) (bdH_none (hb _) (Nat.le_of_ble_eq_true rfl)) ⟨trivial, trivial, hlab, trivial, trivial, trivial, trivial, hlab, trivial⟩ (hb _) ?_
          refine JK.callO [0, 1, 2, 25, 26, 33] i m lab rfl rfl Try.call103 rfl (hk _) (by simp [stayL, stayB, svL, lk]) q trivial ?_
          rintro z H' nx' ⟨rfl, rfl, rfl⟩
          refine ⟨hk _, ?_⟩
          (repeat (first | refine zt rfl rfl ?_ | refine zs rfl ?_))
          refine JK.cond rfl (fun he => by cases he) (fun _ => ?_)
          (repeat (first | refine zs rfl ?_ | refine zg rfl rfl rfl ?_ | refine zd ?_ | refine JK.fin ?_ | refine JK.ret ?_))
          refine ⟨j + 1, ?_, by omega, by omega⟩
          rw [hpt, ← List.append_assoc]
          exact JW.same ⟨rfl, rfl, rfl, rfl, rfl, trivial⟩
      · (simp only [↓cdL] at hd; try simp only [Ty.dflt, Int.toNat_natCast] at hd)
        have hj2 : j = l.length := by omega
        rw [hj2] at hpt ⊢
        (repeat (first | refine zs rfl ?_ | refine zg rfl rfl rfl ?_ | refine zd ?_ | refine JK.fin ?_ | refine JK.ret ?_))
        refine foQ.ret _ (JW.refl _) rfl ⟨rfl, rfl, ?_⟩
        show K _ = K _
        rw [hpa]
theorem or_it (i m : Nat) (hdp : dp ≠ 0) (P : Int) (l : List Pt) (h1 : 1 ≤ l.length) (h8 : l.length ≤ 8) (K : List (List Nat) → List (Nat × HO)) (hb : ∀ pre, bdH 100 (K pre)) (hlab : lab < 100) (hk : ∀ pre, hasY i m lab (K pre))
    (hY : ∀ pre z post, allO l.length = pre ++ z :: post → YO ⟨Try.prog, tys, ets, mts, E, Mx, nX, rdX, up, dp⟩ 49 lab (.acons (vL (iL z)) .anil) (K pre) 100 true (K (pre ++ [z])) 100)
    (k : ∀ L, QA .normal ⟨L, K (allO l.length), 100⟩) :
    JK ⟨Try.prog, tys, ets, mts, E, M0, 7, none, up, dp⟩ [.code (Try.f102.body.getD .skip)] QA ⟨[(0, .lf (.yld lab)), (1, ppH P l)], K [], 100⟩ := by
  have q := ext_fo (Mx := Mx) (nX := nX) (rdX := rdX) i m hdp P l h8 (allO l.length) K hb hlab hk hY (l.length - 1) [0] [] [] (by simp; omega) (by simp [allO])
  rw [List.nil_append] at q
  change FO _ 103 (.acons (vH P l) (.acons (vL [0]) (.acons (.lf (.yld lab)) .anil))) (K []) 100 (fun z H nx => nx = 100 ∧ z = vB true ∧ H = K (allO l.length)) at q
  (repeat (first | refine zs rfl ?_ | refine zg rfl rfl rfl ?_ | refine zd ?_ | refine JK.fin ?_ | refine JK.ret ?_))
  refine JK.frzR 100 4 (eid := 3) (e := .int .i64) (xs := [0]) rfl rfl (L' := [(0, .lf (.yld lab)), (3, vH P l), (5, .lf (.yld lab))]) ⟨rfl, rfl, rfl, trivial⟩ (H' := K []) (nx' := 100) ((subH.refl _).cons (hb _) (Nat.le_of_ble_eq_true rfl)) (bdH_none (hb _) (Nat.le_of_ble_eq_true rfl)) ⟨hlab, trivial, hlab, trivial⟩ (hb _) ?_
  refine JK.callO [0] i m lab rfl rfl Try.call103 rfl (hk _) (by simp [stayL, stayB, svL, lk]) q trivial ?_
  rintro z H' nx' ⟨rfl, rfl, rfl⟩
  refine ⟨hk _, ?_⟩
  (repeat (first | refine zs rfl ?_ | refine zg rfl rfl rfl ?_ | refine zd ?_ | refine JK.fin ?_ | refine JK.ret ?_))
  exact JK.done (k _)
end Go.Proofs.Ytinehlphcckkmaa

namespace Go.Proofs.Ytinehlphcckkmaa
open Go Go.RowKit Ox Ox.Sh Ox.Se
attribute [local irreducible] JC JL JK JW
attribute [local irreducible] ovA stA pkV
theorem idxB_nat {o : List Nat} {a : Nat} : ∀ {k : Nat}, a ∈ o → idxB (fun x => decide ((a : Int) = x)) (iL o) k = ((k + o.idxOf a : Nat) : Int) := by
  induction o with
  | nil => intro k h; cases h
  | cons x r ih =>
    intro k h
    show (if decide ((a : Int) = (x : Int)) = true then ((k : Nat) : Int) else idxB _ (iL r) (k + 1)) = _
    by_cases e : a = x
    · subst e
      rw [if_pos (by simp), List.idxOf_cons_self, Nat.add_zero]
    · rw [if_neg (by simp; omega), ih ((List.mem_cons.1 h).resolve_left e)]
      have e2 : (x == a) = false := beq_eq_false_iff_ne.2 (fun h => e h.symm)
      rw [List.idxOf_cons, e2, cond_false]
      congr 1; omega
theorem fol_idx {o : List Nat} {a b : Nat} (hn : o.Nodup) (ha : a ∈ o) : folB o a b = decide (nx1 o (o.idxOf a) = b) := by
  have hil := List.idxOf_lt_length_of_mem ha
  have hg : o.getD (o.idxOf a) 0 = a := by rw [getD_nat o hil]; exact List.getElem_idxOf hil
  unfold folB
  rw [Bool.eq_iff_iff, List.any_eq_true, decide_eq_true_iff]
  constructor
  · rintro ⟨i, hi, h⟩
    rw [Bool.and_eq_true, decide_eq_true_iff, decide_eq_true_iff] at h
    have hi' := List.mem_range.1 hi
    have : i = o.idxOf a := by
      rw [getD_nat o hi'] at h
      rw [getD_nat o hil] at hg
      have h2 : o[i] = o[o.idxOf a] := h.1.trans hg.symm
      exact (List.getElem_inj hn).1 h2
    rw [← this]; exact h.2
  · intro h
    refine ⟨o.idxOf a, List.mem_range.2 hil, ?_⟩
    rw [decide_eq_true hg, decide_eq_true h]; rfl
theorem dfs_nd (N : Nat) : ∀ (f : Nat) (row : List Nat), (dfsL N f row).Nodup
  | 0, row => by simp [dfsL]
  | f + 1, row => by
    show List.Pairwise (· ≠ ·) _
    rw [dfsL, List.pairwise_flatMap]
    refine ⟨fun n _ => dfs_nd N f _, ?_⟩
    have hn : (Sh.freeL N row).Nodup := List.nodup_range.filter _
    refine hn.imp fun {x y} hxy p hp q hq e => hxy ?_
    obtain ⟨z1, e1, _⟩ := mem_dfsL.1 hp
    obtain ⟨z2, e2, _⟩ := mem_dfsL.1 hq
    rw [e1, e2, List.append_assoc, List.append_assoc] at e
    exact (List.cons.inj (List.append_cancel_left e)).1
theorem allO_nd (N : Nat) : (allO N).Nodup := dfs_nd N _ _
def bsA (P : Int) (l : List Pt) (L : List (List Nat)) : List (List Nat) := L.filter fun o => decide (rdL P l o = leR P l)
theorem bsA_mem {P : Int} {l : List Pt} (h1 : 1 ≤ l.length) {o : List Nat} : o ∈ bsA P l (allO l.length) ↔ o ∈ bestsL P l := by
  unfold bsA
  rw [List.mem_filter, mem_bests h1, decide_eq_true_iff]
theorem kind_cnt {P : Int} {l : List Pt} (h1 : 1 ≤ l.length) (a b : Nat) : kindV P l a b = if ((((bsA P l (allO l.length)).filter (folB · a b)).length : Nat) : Int) = 0 then 0 else if ((((bsA P l (allO l.length)).filter (folB · a b)).length : Nat) : Int) = (bsA P l (allO l.length)).length then 2 else 1 := by
  have hne := bests_ne (P := P) h1
  have hm : ∀ o, o ∈ bsA P l (allO l.length) ↔ o ∈ bestsL P l := fun o => bsA_mem h1
  unfold kindV
  generalize bestsL P l = B at hne hm
  generalize bsA P l (allO l.length) = L at hm
  have h1 : B.all (folB · a b) = true ↔ (L.filter (folB · a b)).length = L.length := by
    rw [List.length_filter_eq_length_iff, List.all_eq_true]
    exact ⟨fun h x hx => h x ((hm x).1 hx), fun h x hx => h x ((hm x).2 hx)⟩
  have h2 : B.any (folB · a b) = true ↔ ¬ (L.filter (folB · a b)).length = 0 := by
    rw [List.length_eq_zero_iff, List.filter_eq_nil_iff, List.any_eq_true]
    constructor
    · rintro ⟨x, hx, h⟩ h'; exact h' x ((hm x).2 hx) h
    · intro h
      refine Classical.byContradiction fun hn => h fun x hx hb => hn ⟨x, (hm x).1 hx, hb⟩
  have h3 : L.length ≠ 0 := fun e => by
    have e2 := List.length_eq_zero_iff.1 e
    obtain ⟨x, r, hx⟩ := List.exists_cons_of_ne_nil hne
    have := (hm x).2 (by rw [hx]; exact List.mem_cons_self)
    rw [e2] at this; cases this
  by_cases c1 : (L.filter (folB · a b)).length = 0
  · rw [if_neg (fun h => by have := h1.1 h; omega), if_neg (fun h => h2.1 h c1), if_pos (by omega)]
  · rw [if_neg (by omega : ¬ ((L.filter (folB · a b)).length : Int) = 0)]
    by_cases c2 : (L.filter (folB · a b)).length = L.length
    · rw [if_pos (h1.2 c2), if_pos (by omega)]
    · rw [if_neg (fun h => c2 (h1.1 h)), if_pos (h2.2 c1), if_neg (by omega)]
def K46 (a b : Code) (P : Int) (l : List Pt) (one two le n w : Int) : List (Nat × HO) :=
  [(8, .fr 0 [(73, .lf (.yld 7)), (4, .lf (.optr 1 [])), (5, .lf (.optr 2 [])), (8, .lf (.optr 3 [])), (10, .lf (.optr 4 [])), (11, .lf (.optr 5 [])), (12, .lf (.optr 6 []))]),
   (7, .loop .ready none #[45] a b 73 [(4, .lf (.optr 1 [])), (5, .lf (.optr 2 [])), (8, .lf (.optr 3 [])), (10, .lf (.optr 4 [])), (11, .lf (.optr 5 [])), (12, .lf (.optr 6 []))]),
   (1, .cell (.int .i64) (vI one)), (2, .cell (.int .i64) (vI two)), (3, .cell (.ptr shT) (vH P l)), (4, .cell (.int .i64) (vI le)), (5, .cell (.int .i64) (vI n)), (6, .cell (.int .i64) (vI w))]
set_option maxHeartbeats 8000000 in
theorem fn46 (P : Int) (l : List Pt) (one two : Int) : Ox.Fn Try.prog 46 (.acons (vS P l) (.acons (vI one) (.acons (vI two) .anil))) (· = vT2 (kindI P l one two) (kindE P l one two)) := by
  refine Ox.Fn.intro xok Try.func46 rfl Try.call46 (Nat.le_of_ble_eq_true rfl) (fun E M0 up => ?_)
  refine JK.start ?_
  have c61 := fn61 P l
  unfold vOp at c61
  by_cases hz : seE P l = 0
  · obtain ⟨hP, h1, h8, hl⟩ := se_ok.1 hz
    rw [if_pos hz, hz] at c61
    have c64a := fn64 P l one
    have c64b := fn64 P l two
    (repeat (first | refine zs rfl ?_ | refine zg rfl rfl rfl ?_ | refine zd ?_ | refine JK.fin ?_ | refine JK.ret ?_ | refine zc rfl (c61) rfl rfl ?_ | refine ze rfl (c61) rfl ?_ | refine zk rfl rfl (fun _ => c61) rfl rfl ?_))
    refine JK.cond rfl (fun h => absurd h (by decide)) (fun _ => ?_)
    (repeat (first | refine zs rfl ?_ | refine zg rfl rfl rfl ?_ | refine zd ?_ | refine JK.fin ?_ | refine JK.ret ?_ | refine zc rfl (c64a) rfl rfl ?_ | refine ze rfl (c64a) rfl ?_ | refine zk rfl rfl (fun _ => c64a) rfl rfl ?_ | refine zc rfl (c64b) rfl rfl ?_ | refine ze rfl (c64b) rfl ?_ | refine zk rfl rfl (fun _ => c64b) rfl rfl ?_))
    refine JK.cond rfl (fun hd => ?_) (fun hd => ?_)
    · have hno : ¬ ((0 ≤ one ∧ one < (l.length : Int)) ∧ (0 ≤ two ∧ two < (l.length : Int)) ∧ one ≠ two) := by
        rintro ⟨q1, q2, q3⟩
        have hd2 : (bif (bif !decide (0 ≤ one ∧ one < (l.length : Int)) then true else !decide (0 ≤ two ∧ two < (l.length : Int))) then true else one == two) = true := hd
        rw [decide_eq_true q1, decide_eq_true q2] at hd2
        exact q3 (beq_iff_eq.1 hd2)
      have e2 : kindE P l one two = 2 := by unfold kindE; rw [if_neg (by omega), if_neg hno]
      have e1 : kindI P l one two = 0 := by unfold kindI; rw [if_neg (by rw [e2]; decide)]
      rw [e1, e2]
      (repeat (first | refine zs rfl ?_ | refine zg rfl rfl rfl ?_ | refine zd ?_ | refine JK.fin ?_ | refine JK.ret ?_))
      refine ⟨.inl rfl, _, _, rfl, trivial, ?_⟩
      rfl
    · have hyes : (0 ≤ one ∧ one < (l.length : Int)) ∧ (0 ≤ two ∧ two < (l.length : Int)) ∧ one ≠ two := by
        have hd2 : (bif (bif !decide (0 ≤ one ∧ one < (l.length : Int)) then true else !decide (0 ≤ two ∧ two < (l.length : Int))) then true else one == two) = false := hd
        by_cases q : 0 ≤ one ∧ one < (l.length : Int)
        · rw [decide_eq_true q] at hd2
          by_cases r : 0 ≤ two ∧ two < (l.length : Int)
          · rw [decide_eq_true r] at hd2
            exact ⟨q, r, fun e => by rw [e] at hd2; simp at hd2⟩
          · rw [decide_eq_false r] at hd2; cases hd2
        · rw [decide_eq_false q] at hd2; cases hd2
      have hz2 : kindE P l one two = 0 := kind_ok.2 ⟨hz, hyes⟩
      obtain ⟨⟨q1, q2⟩, ⟨q3, q4⟩, q5⟩ := hyes
      have e1 : kindI P l one two = kindV P l one.toNat two.toNat := by unfold kindI; rw [if_pos hz2]
      rw [e1, hz2]
      obtain ⟨a, rfl⟩ : ∃ a : Nat, one = (a : Int) := ⟨one.toNat, by omega⟩
      obtain ⟨b, rfl⟩ : ∃ b : Nat, two = (b : Int) := ⟨two.toNat, by omega⟩
      rw [Int.toNat_natCast, Int.toNat_natCast, kind_cnt h1]
      have c74 := fn74 P l hz
      obtain ⟨b1, b2, b3, b4⟩ := best_has hP.1 h1 h8
      have c71 := fn71 P l (bestO P l) hz b2 (by omega)
      rw [← rdL_eq b3, b4] at c71
      generalize iL (bestO P l) = B at c74 c71
      have halen : (allO l.length).length ≤ 5040 := by
        have := List.Perm.length_eq ((List.perm_ext_iff_of_nodup (allO_nd l.length) (inO_nodup (l.length - 1))).2 fun o => (inO_allO h1).symm)
        rw [this]; exact inO_bd _ (by omega)
      (repeat (first | refine zs rfl ?_ | refine zg rfl rfl rfl ?_ | refine JK.fin ?_ | refine JK.ret ?_))
      refine JK.drawTo xk (Try.f46.body.getD .skip) ⟨[(4, .lf (.optr 1 [])), (5, .lf (.optr 2 [])), (8, .lf (.optr 3 [])), (10, .lf (.optr 4 [])), (11, .lf (.optr 5 [])), (12, .lf (.optr 6 []))], [(1, .cell (.int .i64) (vI a)), (2, .cell (.int .i64) (vI b)), (3, .cell (.ptr shT) (vH P l)), (4, .cell (.int .i64) (vI (leR P l))), (5, .cell (.int .i64) (vI 0)), (6, .cell (.int .i64) (vI 0))], 7⟩ rfl 10 rfl ?_ ?_
      · (refine JF.Float 0 xk rfl rfl ?_; refine JF.Float 1 xk rfl rfl ?_; refine JF.Branch 2 [4, 5, 6] xk ?_ ?_; (focus (repeat (first | exact StF.nil | refine StF.One rfl rfl rfl ?_))); refine (BrF.one rfl rfl ?_ (BrF.one rfl rfl ?_ (BrF.one rfl rfl ?_ (BrF.one rfl rfl ?_ BrF.nil)))); (· (first | refine JL.S1 rfl (c74) rfl trivial rfl ?_ | refine JL.T1 rfl (c74) rfl rfl ?_ | (refine JL.C1 rfl (c74) rfl (fun r hr => ?_); subst hr) | refine JL.S1 rfl (c71) rfl trivial rfl ?_ | refine JL.T1 rfl (c71) rfl rfl ?_ | (refine JL.C1 rfl (c71) rfl (fun r hr => ?_); subst hr)); refine JL.finN ?_; refine JF.Branch 3 [4, 5, 6] xk ?_ ?_; (focus (repeat (first | exact StF.nil | refine StF.One rfl rfl rfl ?_))); refine (BrF.one rfl rfl ?_ (BrF.one rfl rfl ?_ (BrF.one rfl rfl ?_ (BrF.one rfl rfl ?_ BrF.nil)))); (· (first | refine JL.S1 rfl (c74) rfl trivial rfl ?_ | refine JL.T1 rfl (c74) rfl rfl ?_ | (refine JL.C1 rfl (c74) rfl (fun r hr => ?_); subst hr) | refine JL.S1 rfl (c71) rfl trivial rfl ?_ | refine JL.T1 rfl (c71) rfl rfl ?_ | (refine JL.C1 rfl (c71) rfl (fun r hr => ?_); subst hr)); refine JL.finN ?_; refine JF.Branch 4 [5, 6] xk StF.nil (BrF.one rfl rfl ?_ (BrF.one rfl rfl ?_ (BrF.one rfl rfl ?_ BrF.nil))); (· (refine JL.M1 xk rfl rfl ?_); refine JL.finN ?_; refine JF.Branch 5 [6] xk StF.nil (BrF.one rfl rfl ?_ (BrF.one rfl rfl ?_ BrF.nil)); (· (refine JL.M1 xk rfl rfl ?_); refine JL.finN ?_; refine JF.Branch 6 [] xk StF.nil (BrF.one rfl rfl ?_ BrF.nil); (· (refine JL.M1 xk rfl rfl ?_); refine JL.finN ?_; refine JF.Branch 7 [] xk StF.nil (BrF.one rfl rfl ?_ BrF.nil); (· (first | refine JL.M0 xk rfl ?_ | refine JL.Q0 xk rfl ?_); refine JL.finN ?_; refine JF.Branch 8 [] xk StF.nil (BrF.one rfl rfl ?_ BrF.nil); (· (first | refine JL.M0 xk rfl ?_ | refine JL.Q0 xk rfl ?_); refine JL.finN ?_; refine JF.Branch 9 [] xk StF.nil (BrF.one rfl rfl ?_ BrF.nil); (· (first | refine JL.M0 xk rfl ?_ | refine JL.Q0 xk rfl ?_); refine JL.finN ?_; refine JF.Done xk StF.nil ?_; ((exact JW.Auto (by conv => lhs; reduce)))))))); (· (refine JL.M1 xk rfl rfl ?_); refine JL.finN ?_; refine JF.Branch 5 [] xk StF.nil (BrF.one rfl rfl ?_ BrF.nil); (· (refine JL.M1 xk rfl rfl ?_); refine JL.finN ?_; refine JF.Branch 7 [] xk StF.nil (BrF.one rfl rfl ?_ BrF.nil); (· (first | refine JL.M0 xk rfl ?_ | refine JL.Q0 xk rfl ?_); refine JL.finN ?_; refine JF.Branch 8 [] xk StF.nil (BrF.one rfl rfl ?_ BrF.nil); (· (first | refine JL.M0 xk rfl ?_ | refine JL.Q0 xk rfl ?_); refine JL.finN ?_; refine JF.Branch 9 [] xk StF.nil (BrF.one rfl rfl ?_ BrF.nil); (· (first | refine JL.M0 xk rfl ?_ | refine JL.Q0 xk rfl ?_); refine JL.finN ?_; refine JF.Done xk StF.nil ?_; ((exact JW.Auto (by conv => lhs; reduce))))))))); (· (refine JL.M1 xk rfl rfl ?_); refine JL.finN ?_; refine JF.Branch 4 [6] xk StF.nil (BrF.one rfl rfl ?_ (BrF.one rfl rfl ?_ BrF.nil)); (· (refine JL.M1 xk rfl rfl ?_); refine JL.finN ?_; refine JF.Branch 6 [] xk StF.nil (BrF.one rfl rfl ?_ BrF.nil); (· (refine JL.M1 xk rfl rfl ?_); refine JL.finN ?_; refine JF.Branch 7 [] xk StF.nil (BrF.one rfl rfl ?_ BrF.nil); (· (first | refine JL.M0 xk rfl ?_ | refine JL.Q0 xk rfl ?_); refine JL.finN ?_; refine JF.Branch 8 [] xk StF.nil (BrF.one rfl rfl ?_ BrF.nil); (· (first | refine JL.M0 xk rfl ?_ | refine JL.Q0 xk rfl ?_); refine JL.finN ?_; refine JF.Branch 9 [] xk StF.nil (BrF.one rfl rfl ?_ BrF.nil); (· (first | refine JL.M0 xk rfl ?_ | refine JL.Q0 xk rfl ?_); refine JL.finN ?_; refine JF.Done xk StF.nil ?_; ((exact JW.Auto (by conv => lhs; reduce)))))))); (· (refine JL.M1 xk rfl rfl ?_); refine JL.finN ?_; refine JF.Branch 4 [] xk StF.nil (BrF.one rfl rfl ?_ BrF.nil); (· (refine JL.M1 xk rfl rfl ?_); refine JL.finN ?_; refine JF.Branch 7 [] xk StF.nil (BrF.one rfl rfl ?_ BrF.nil); (· (first | refine JL.M0 xk rfl ?_ | refine JL.Q0 xk rfl ?_); refine JL.finN ?_; refine JF.Branch 8 [] xk StF.nil (BrF.one rfl rfl ?_ BrF.nil); (· (first | refine JL.M0 xk rfl ?_ | refine JL.Q0 xk rfl ?_); refine JL.finN ?_; refine JF.Branch 9 [] xk StF.nil (BrF.one rfl rfl ?_ BrF.nil); (· (first | refine JL.M0 xk rfl ?_ | refine JL.Q0 xk rfl ?_); refine JL.finN ?_; refine JF.Done xk StF.nil ?_; ((exact JW.Auto (by conv => lhs; reduce))))))))); (· (refine JL.M1 xk rfl rfl ?_); refine JL.finN ?_; refine JF.Branch 4 [5] xk StF.nil (BrF.one rfl rfl ?_ (BrF.one rfl rfl ?_ BrF.nil)); (· (refine JL.M1 xk rfl rfl ?_); refine JL.finN ?_; refine JF.Branch 5 [] xk StF.nil (BrF.one rfl rfl ?_ BrF.nil); (· (refine JL.M1 xk rfl rfl ?_); refine JL.finN ?_; refine JF.Branch 7 [] xk StF.nil (BrF.one rfl rfl ?_ BrF.nil); (· (first | refine JL.M0 xk rfl ?_ | refine JL.Q0 xk rfl ?_); refine JL.finN ?_; refine JF.Branch 8 [] xk StF.nil (BrF.one rfl rfl ?_ BrF.nil); (· (first | refine JL.M0 xk rfl ?_ | refine JL.Q0 xk rfl ?_); refine JL.finN ?_; refine JF.Branch 9 [] xk StF.nil (BrF.one rfl rfl ?_ BrF.nil); (· (first | refine JL.M0 xk rfl ?_ | refine JL.Q0 xk rfl ?_); refine JL.finN ?_; refine JF.Done xk StF.nil ?_; ((exact JW.Auto (by conv => lhs; reduce)))))))); (· (refine JL.M1 xk rfl rfl ?_); refine JL.finN ?_; refine JF.Branch 4 [] xk StF.nil (BrF.one rfl rfl ?_ BrF.nil); (· (refine JL.M1 xk rfl rfl ?_); refine JL.finN ?_; refine JF.Branch 7 [] xk StF.nil (BrF.one rfl rfl ?_ BrF.nil); (· (first | refine JL.M0 xk rfl ?_ | refine JL.Q0 xk rfl ?_); refine JL.finN ?_; refine JF.Branch 8 [] xk StF.nil (BrF.one rfl rfl ?_ BrF.nil); (· (first | refine JL.M0 xk rfl ?_ | refine JL.Q0 xk rfl ?_); refine JL.finN ?_; refine JF.Branch 9 [] xk StF.nil (BrF.one rfl rfl ?_ BrF.nil); (· (first | refine JL.M0 xk rfl ?_ | refine JL.Q0 xk rfl ?_); refine JL.finN ?_; refine JF.Done xk StF.nil ?_; ((exact JW.Auto (by conv => lhs; reduce)))))))))); (· (refine JL.M1 xk rfl rfl ?_); refine JL.finN ?_; refine JF.Branch 3 [5, 6] xk ?_ ?_; (focus (repeat (first | exact StF.nil | refine StF.One rfl rfl rfl ?_))); refine (BrF.one rfl rfl ?_ (BrF.one rfl rfl ?_ (BrF.one rfl rfl ?_ BrF.nil))); (· (first | refine JL.S1 rfl (c74) rfl trivial rfl ?_ | refine JL.T1 rfl (c74) rfl rfl ?_ | (refine JL.C1 rfl (c74) rfl (fun r hr => ?_); subst hr) | refine JL.S1 rfl (c71) rfl trivial rfl ?_ | refine JL.T1 rfl (c71) rfl rfl ?_ | (refine JL.C1 rfl (c71) rfl (fun r hr => ?_); subst hr)); refine JL.finN ?_; refine JF.Branch 5 [6] xk StF.nil (BrF.one rfl rfl ?_ (BrF.one rfl rfl ?_ BrF.nil)); (· (refine JL.M1 xk rfl rfl ?_); refine JL.finN ?_; refine JF.Branch 6 [] xk StF.nil (BrF.one rfl rfl ?_ BrF.nil); (· (refine JL.M1 xk rfl rfl ?_); refine JL.finN ?_; refine JF.Branch 7 [] xk StF.nil (BrF.one rfl rfl ?_ BrF.nil); (· (first | refine JL.M0 xk rfl ?_ | refine JL.Q0 xk rfl ?_); refine JL.finN ?_; refine JF.Branch 8 [] xk StF.nil (BrF.one rfl rfl ?_ BrF.nil); (· (first | refine JL.M0 xk rfl ?_ | refine JL.Q0 xk rfl ?_); refine JL.finN ?_; refine JF.Branch 9 [] xk StF.nil (BrF.one rfl rfl ?_ BrF.nil); (· (first | refine JL.M0 xk rfl ?_ | refine JL.Q0 xk rfl ?_); refine JL.finN ?_; refine JF.Done xk StF.nil ?_; ((exact JW.Auto (by conv => lhs; reduce)))))))); (· (refine JL.M1 xk rfl rfl ?_); refine JL.finN ?_; refine JF.Branch 5 [] xk StF.nil (BrF.one rfl rfl ?_ BrF.nil); (· (refine JL.M1 xk rfl rfl ?_); refine JL.finN ?_; refine JF.Branch 7 [] xk StF.nil (BrF.one rfl rfl ?_ BrF.nil); (· (first | refine JL.M0 xk rfl ?_ | refine JL.Q0 xk rfl ?_); refine JL.finN ?_; refine JF.Branch 8 [] xk StF.nil (BrF.one rfl rfl ?_ BrF.nil); (· (first | refine JL.M0 xk rfl ?_ | refine JL.Q0 xk rfl ?_); refine JL.finN ?_; refine JF.Branch 9 [] xk StF.nil (BrF.one rfl rfl ?_ BrF.nil); (· (first | refine JL.M0 xk rfl ?_ | refine JL.Q0 xk rfl ?_); refine JL.finN ?_; refine JF.Done xk StF.nil ?_; ((exact JW.Auto (by conv => lhs; reduce))))))))); (· (refine JL.M1 xk rfl rfl ?_); refine JL.finN ?_; refine JF.Branch 3 [6] xk ?_ ?_; (focus (repeat (first | exact StF.nil | refine StF.One rfl rfl rfl ?_))); refine (BrF.one rfl rfl ?_ (BrF.one rfl rfl ?_ BrF.nil)); (· (first | refine JL.S1 rfl (c74) rfl trivial rfl ?_ | refine JL.T1 rfl (c74) rfl rfl ?_ | (refine JL.C1 rfl (c74) rfl (fun r hr => ?_); subst hr) | refine JL.S1 rfl (c71) rfl trivial rfl ?_ | refine JL.T1 rfl (c71) rfl rfl ?_ | (refine JL.C1 rfl (c71) rfl (fun r hr => ?_); subst hr)); refine JL.finN ?_; refine JF.Branch 6 [] xk StF.nil (BrF.one rfl rfl ?_ BrF.nil); (· (refine JL.M1 xk rfl rfl ?_); refine JL.finN ?_; refine JF.Branch 7 [] xk StF.nil (BrF.one rfl rfl ?_ BrF.nil); (· (first | refine JL.M0 xk rfl ?_ | refine JL.Q0 xk rfl ?_); refine JL.finN ?_; refine JF.Branch 8 [] xk StF.nil (BrF.one rfl rfl ?_ BrF.nil); (· (first | refine JL.M0 xk rfl ?_ | refine JL.Q0 xk rfl ?_); refine JL.finN ?_; refine JF.Branch 9 [] xk StF.nil (BrF.one rfl rfl ?_ BrF.nil); (· (first | refine JL.M0 xk rfl ?_ | refine JL.Q0 xk rfl ?_); refine JL.finN ?_; refine JF.Done xk StF.nil ?_; ((exact JW.Auto (by conv => lhs; reduce)))))))); (· (refine JL.M1 xk rfl rfl ?_); refine JL.finN ?_; refine JF.Branch 3 [] xk ?_ ?_; (focus (repeat (first | exact StF.nil | refine StF.One rfl rfl rfl ?_))); refine (BrF.one rfl rfl ?_ BrF.nil); (· (first | refine JL.S1 rfl (c74) rfl trivial rfl ?_ | refine JL.T1 rfl (c74) rfl rfl ?_ | (refine JL.C1 rfl (c74) rfl (fun r hr => ?_); subst hr) | refine JL.S1 rfl (c71) rfl trivial rfl ?_ | refine JL.T1 rfl (c71) rfl rfl ?_ | (refine JL.C1 rfl (c71) rfl (fun r hr => ?_); subst hr)); refine JL.finN ?_; refine JF.Branch 7 [] xk StF.nil (BrF.one rfl rfl ?_ BrF.nil); (· (first | refine JL.M0 xk rfl ?_ | refine JL.Q0 xk rfl ?_); refine JL.finN ?_; refine JF.Branch 8 [] xk StF.nil (BrF.one rfl rfl ?_ BrF.nil); (· (first | refine JL.M0 xk rfl ?_ | refine JL.Q0 xk rfl ?_); refine JL.finN ?_; refine JF.Branch 9 [] xk StF.nil (BrF.one rfl rfl ?_ BrF.nil); (· (first | refine JL.M0 xk rfl ?_ | refine JL.Q0 xk rfl ?_); refine JL.finN ?_; refine JF.Done xk StF.nil ?_; ((exact JW.Auto (by conv => lhs; reduce))))))))); (· (refine JL.M1 xk rfl rfl ?_); refine JL.finN ?_; refine JF.Branch 3 [5] xk ?_ ?_; (focus (repeat (first | exact StF.nil | refine StF.One rfl rfl rfl ?_))); refine (BrF.one rfl rfl ?_ (BrF.one rfl rfl ?_ BrF.nil)); (· (first | refine JL.S1 rfl (c74) rfl trivial rfl ?_ | refine JL.T1 rfl (c74) rfl rfl ?_ | (refine JL.C1 rfl (c74) rfl (fun r hr => ?_); subst hr) | refine JL.S1 rfl (c71) rfl trivial rfl ?_ | refine JL.T1 rfl (c71) rfl rfl ?_ | (refine JL.C1 rfl (c71) rfl (fun r hr => ?_); subst hr)); refine JL.finN ?_; refine JF.Branch 5 [] xk StF.nil (BrF.one rfl rfl ?_ BrF.nil); (· (refine JL.M1 xk rfl rfl ?_); refine JL.finN ?_; refine JF.Branch 7 [] xk StF.nil (BrF.one rfl rfl ?_ BrF.nil); (· (first | refine JL.M0 xk rfl ?_ | refine JL.Q0 xk rfl ?_); refine JL.finN ?_; refine JF.Branch 8 [] xk StF.nil (BrF.one rfl rfl ?_ BrF.nil); (· (first | refine JL.M0 xk rfl ?_ | refine JL.Q0 xk rfl ?_); refine JL.finN ?_; refine JF.Branch 9 [] xk StF.nil (BrF.one rfl rfl ?_ BrF.nil); (· (first | refine JL.M0 xk rfl ?_ | refine JL.Q0 xk rfl ?_); refine JL.finN ?_; refine JF.Done xk StF.nil ?_; ((exact JW.Auto (by conv => lhs; reduce)))))))); (· (refine JL.M1 xk rfl rfl ?_); refine JL.finN ?_; refine JF.Branch 3 [] xk ?_ ?_; (focus (repeat (first | exact StF.nil | refine StF.One rfl rfl rfl ?_))); refine (BrF.one rfl rfl ?_ BrF.nil); (· (first | refine JL.S1 rfl (c74) rfl trivial rfl ?_ | refine JL.T1 rfl (c74) rfl rfl ?_ | (refine JL.C1 rfl (c74) rfl (fun r hr => ?_); subst hr) | refine JL.S1 rfl (c71) rfl trivial rfl ?_ | refine JL.T1 rfl (c71) rfl rfl ?_ | (refine JL.C1 rfl (c71) rfl (fun r hr => ?_); subst hr)); refine JL.finN ?_; refine JF.Branch 7 [] xk StF.nil (BrF.one rfl rfl ?_ BrF.nil); (· (first | refine JL.M0 xk rfl ?_ | refine JL.Q0 xk rfl ?_); refine JL.finN ?_; refine JF.Branch 8 [] xk StF.nil (BrF.one rfl rfl ?_ BrF.nil); (· (first | refine JL.M0 xk rfl ?_ | refine JL.Q0 xk rfl ?_); refine JL.finN ?_; refine JF.Branch 9 [] xk StF.nil (BrF.one rfl rfl ?_ BrF.nil); (· (first | refine JL.M0 xk rfl ?_ | refine JL.Q0 xk rfl ?_); refine JL.finN ?_; refine JF.Done xk StF.nil ?_; ((exact JW.Auto (by conv => lhs; reduce)))))))))); (· (refine JL.M1 xk rfl rfl ?_); refine JL.finN ?_; refine JF.Branch 3 [4, 6] xk ?_ ?_; (focus (repeat (first | exact StF.nil | refine StF.One rfl rfl rfl ?_))); refine (BrF.one rfl rfl ?_ (BrF.one rfl rfl ?_ (BrF.one rfl rfl ?_ BrF.nil))); (· (first | refine JL.S1 rfl (c74) rfl trivial rfl ?_ | refine JL.T1 rfl (c74) rfl rfl ?_ | (refine JL.C1 rfl (c74) rfl (fun r hr => ?_); subst hr) | refine JL.S1 rfl (c71) rfl trivial rfl ?_ | refine JL.T1 rfl (c71) rfl rfl ?_ | (refine JL.C1 rfl (c71) rfl (fun r hr => ?_); subst hr)); refine JL.finN ?_; refine JF.Branch 4 [6] xk StF.nil (BrF.one rfl rfl ?_ (BrF.one rfl rfl ?_ BrF.nil)); (· (refine JL.M1 xk rfl rfl ?_); refine JL.finN ?_; refine JF.Branch 6 [] xk StF.nil (BrF.one rfl rfl ?_ BrF.nil); (· (refine JL.M1 xk rfl rfl ?_); refine JL.finN ?_; refine JF.Branch 7 [] xk StF.nil (BrF.one rfl rfl ?_ BrF.nil); (· (first | refine JL.M0 xk rfl ?_ | refine JL.Q0 xk rfl ?_); refine JL.finN ?_; refine JF.Branch 8 [] xk StF.nil (BrF.one rfl rfl ?_ BrF.nil); (· (first | refine JL.M0 xk rfl ?_ | refine JL.Q0 xk rfl ?_); refine JL.finN ?_; refine JF.Branch 9 [] xk StF.nil (BrF.one rfl rfl ?_ BrF.nil); (· (first | refine JL.M0 xk rfl ?_ | refine JL.Q0 xk rfl ?_); refine JL.finN ?_; refine JF.Done xk StF.nil ?_; ((exact JW.Auto (by conv => lhs; reduce)))))))); (· (refine JL.M1 xk rfl rfl ?_); refine JL.finN ?_; refine JF.Branch 4 [] xk StF.nil (BrF.one rfl rfl ?_ BrF.nil); (· (refine JL.M1 xk rfl rfl ?_); refine JL.finN ?_; refine JF.Branch 7 [] xk StF.nil (BrF.one rfl rfl ?_ BrF.nil); (· (first | refine JL.M0 xk rfl ?_ | refine JL.Q0 xk rfl ?_); refine JL.finN ?_; refine JF.Branch 8 [] xk StF.nil (BrF.one rfl rfl ?_ BrF.nil); (· (first | refine JL.M0 xk rfl ?_ | refine JL.Q0 xk rfl ?_); refine JL.finN ?_; refine JF.Branch 9 [] xk StF.nil (BrF.one rfl rfl ?_ BrF.nil); (· (first | refine JL.M0 xk rfl ?_ | refine JL.Q0 xk rfl ?_); refine JL.finN ?_; refine JF.Done xk StF.nil ?_; ((exact JW.Auto (by conv => lhs; reduce))))))))); (· (refine JL.M1 xk rfl rfl ?_); refine JL.finN ?_; refine JF.Branch 3 [6] xk ?_ ?_; (focus (repeat (first | exact StF.nil | refine StF.One rfl rfl rfl ?_))); refine (BrF.one rfl rfl ?_ (BrF.one rfl rfl ?_ BrF.nil)); (· (first | refine JL.S1 rfl (c74) rfl trivial rfl ?_ | refine JL.T1 rfl (c74) rfl rfl ?_ | (refine JL.C1 rfl (c74) rfl (fun r hr => ?_); subst hr) | refine JL.S1 rfl (c71) rfl trivial rfl ?_ | refine JL.T1 rfl (c71) rfl rfl ?_ | (refine JL.C1 rfl (c71) rfl (fun r hr => ?_); subst hr)); refine JL.finN ?_; refine JF.Branch 6 [] xk StF.nil (BrF.one rfl rfl ?_ BrF.nil); (· (refine JL.M1 xk rfl rfl ?_); refine JL.finN ?_; refine JF.Branch 7 [] xk StF.nil (BrF.one rfl rfl ?_ BrF.nil); (· (first | refine JL.M0 xk rfl ?_ | refine JL.Q0 xk rfl ?_); refine JL.finN ?_; refine JF.Branch 8 [] xk StF.nil (BrF.one rfl rfl ?_ BrF.nil); (· (first | refine JL.M0 xk rfl ?_ | refine JL.Q0 xk rfl ?_); refine JL.finN ?_; refine JF.Branch 9 [] xk StF.nil (BrF.one rfl rfl ?_ BrF.nil); (· (first | refine JL.M0 xk rfl ?_ | refine JL.Q0 xk rfl ?_); refine JL.finN ?_; refine JF.Done xk StF.nil ?_; ((exact JW.Auto (by conv => lhs; reduce)))))))); (· (refine JL.M1 xk rfl rfl ?_); refine JL.finN ?_; refine JF.Branch 3 [] xk ?_ ?_; (focus (repeat (first | exact StF.nil | refine StF.One rfl rfl rfl ?_))); refine (BrF.one rfl rfl ?_ BrF.nil); (· (first | refine JL.S1 rfl (c74) rfl trivial rfl ?_ | refine JL.T1 rfl (c74) rfl rfl ?_ | (refine JL.C1 rfl (c74) rfl (fun r hr => ?_); subst hr) | refine JL.S1 rfl (c71) rfl trivial rfl ?_ | refine JL.T1 rfl (c71) rfl rfl ?_ | (refine JL.C1 rfl (c71) rfl (fun r hr => ?_); subst hr)); refine JL.finN ?_; refine JF.Branch 7 [] xk StF.nil (BrF.one rfl rfl ?_ BrF.nil); (· (first | refine JL.M0 xk rfl ?_ | refine JL.Q0 xk rfl ?_); refine JL.finN ?_; refine JF.Branch 8 [] xk StF.nil (BrF.one rfl rfl ?_ BrF.nil); (· (first | refine JL.M0 xk rfl ?_ | refine JL.Q0 xk rfl ?_); refine JL.finN ?_; refine JF.Branch 9 [] xk StF.nil (BrF.one rfl rfl ?_ BrF.nil); (· (first | refine JL.M0 xk rfl ?_ | refine JL.Q0 xk rfl ?_); refine JL.finN ?_; refine JF.Done xk StF.nil ?_; ((exact JW.Auto (by conv => lhs; reduce))))))))); (· (refine JL.M1 xk rfl rfl ?_); refine JL.finN ?_; refine JF.Branch 3 [4] xk ?_ ?_; (focus (repeat (first | exact StF.nil | refine StF.One rfl rfl rfl ?_))); refine (BrF.one rfl rfl ?_ (BrF.one rfl rfl ?_ BrF.nil)); (· (first | refine JL.S1 rfl (c74) rfl trivial rfl ?_ | refine JL.T1 rfl (c74) rfl rfl ?_ | (refine JL.C1 rfl (c74) rfl (fun r hr => ?_); subst hr) | refine JL.S1 rfl (c71) rfl trivial rfl ?_ | refine JL.T1 rfl (c71) rfl rfl ?_ | (refine JL.C1 rfl (c71) rfl (fun r hr => ?_); subst hr)); refine JL.finN ?_; refine JF.Branch 4 [] xk StF.nil (BrF.one rfl rfl ?_ BrF.nil); (· (refine JL.M1 xk rfl rfl ?_); refine JL.finN ?_; refine JF.Branch 7 [] xk StF.nil (BrF.one rfl rfl ?_ BrF.nil); (· (first | refine JL.M0 xk rfl ?_ | refine JL.Q0 xk rfl ?_); refine JL.finN ?_; refine JF.Branch 8 [] xk StF.nil (BrF.one rfl rfl ?_ BrF.nil); (· (first | refine JL.M0 xk rfl ?_ | refine JL.Q0 xk rfl ?_); refine JL.finN ?_; refine JF.Branch 9 [] xk StF.nil (BrF.one rfl rfl ?_ BrF.nil); (· (first | refine JL.M0 xk rfl ?_ | refine JL.Q0 xk rfl ?_); refine JL.finN ?_; refine JF.Done xk StF.nil ?_; ((exact JW.Auto (by conv => lhs; reduce)))))))); (· (refine JL.M1 xk rfl rfl ?_); refine JL.finN ?_; refine JF.Branch 3 [] xk ?_ ?_; (focus (repeat (first | exact StF.nil | refine StF.One rfl rfl rfl ?_))); refine (BrF.one rfl rfl ?_ BrF.nil); (· (first | refine JL.S1 rfl (c74) rfl trivial rfl ?_ | refine JL.T1 rfl (c74) rfl rfl ?_ | (refine JL.C1 rfl (c74) rfl (fun r hr => ?_); subst hr) | refine JL.S1 rfl (c71) rfl trivial rfl ?_ | refine JL.T1 rfl (c71) rfl rfl ?_ | (refine JL.C1 rfl (c71) rfl (fun r hr => ?_); subst hr)); refine JL.finN ?_; refine JF.Branch 7 [] xk StF.nil (BrF.one rfl rfl ?_ BrF.nil); (· (first | refine JL.M0 xk rfl ?_ | refine JL.Q0 xk rfl ?_); refine JL.finN ?_; refine JF.Branch 8 [] xk StF.nil (BrF.one rfl rfl ?_ BrF.nil); (· (first | refine JL.M0 xk rfl ?_ | refine JL.Q0 xk rfl ?_); refine JL.finN ?_; refine JF.Branch 9 [] xk StF.nil (BrF.one rfl rfl ?_ BrF.nil); (· (first | refine JL.M0 xk rfl ?_ | refine JL.Q0 xk rfl ?_); refine JL.finN ?_; refine JF.Done xk StF.nil ?_; ((exact JW.Auto (by conv => lhs; reduce)))))))))); (· (refine JL.M1 xk rfl rfl ?_); refine JL.finN ?_; refine JF.Branch 3 [4, 5] xk ?_ ?_; (focus (repeat (first | exact StF.nil | refine StF.One rfl rfl rfl ?_))); refine (BrF.one rfl rfl ?_ (BrF.one rfl rfl ?_ (BrF.one rfl rfl ?_ BrF.nil))); (· (first | refine JL.S1 rfl (c74) rfl trivial rfl ?_ | refine JL.T1 rfl (c74) rfl rfl ?_ | (refine JL.C1 rfl (c74) rfl (fun r hr => ?_); subst hr) | refine JL.S1 rfl (c71) rfl trivial rfl ?_ | refine JL.T1 rfl (c71) rfl rfl ?_ | (refine JL.C1 rfl (c71) rfl (fun r hr => ?_); subst hr)); refine JL.finN ?_; refine JF.Branch 4 [5] xk StF.nil (BrF.one rfl rfl ?_ (BrF.one rfl rfl ?_ BrF.nil)); (· (refine JL.M1 xk rfl rfl ?_); refine JL.finN ?_; refine JF.Branch 5 [] xk StF.nil (BrF.one rfl rfl ?_ BrF.nil); (· (refine JL.M1 xk rfl rfl ?_); refine JL.finN ?_; refine JF.Branch 7 [] xk StF.nil (BrF.one rfl rfl ?_ BrF.nil); (· (first | refine JL.M0 xk rfl ?_ | refine JL.Q0 xk rfl ?_); refine JL.finN ?_; refine JF.Branch 8 [] xk StF.nil (BrF.one rfl rfl ?_ BrF.nil); (· (first | refine JL.M0 xk rfl ?_ | refine JL.Q0 xk rfl ?_); refine JL.finN ?_; refine JF.Branch 9 [] xk StF.nil (BrF.one rfl rfl ?_ BrF.nil); (· (first | refine JL.M0 xk rfl ?_ | refine JL.Q0 xk rfl ?_); refine JL.finN ?_; refine JF.Done xk StF.nil ?_; ((exact JW.Auto (by conv => lhs; reduce)))))))); (· (refine JL.M1 xk rfl rfl ?_); refine JL.finN ?_; refine JF.Branch 4 [] xk StF.nil (BrF.one rfl rfl ?_ BrF.nil); (· (refine JL.M1 xk rfl rfl ?_); refine JL.finN ?_; refine JF.Branch 7 [] xk StF.nil (BrF.one rfl rfl ?_ BrF.nil); (· (first | refine JL.M0 xk rfl ?_ | refine JL.Q0 xk rfl ?_); refine JL.finN ?_; refine JF.Branch 8 [] xk StF.nil (BrF.one rfl rfl ?_ BrF.nil); (· (first | refine JL.M0 xk rfl ?_ | refine JL.Q0 xk rfl ?_); refine JL.finN ?_; refine JF.Branch 9 [] xk StF.nil (BrF.one rfl rfl ?_ BrF.nil); (· (first | refine JL.M0 xk rfl ?_ | refine JL.Q0 xk rfl ?_); refine JL.finN ?_; refine JF.Done xk StF.nil ?_; ((exact JW.Auto (by conv => lhs; reduce))))))))); (· (refine JL.M1 xk rfl rfl ?_); refine JL.finN ?_; refine JF.Branch 3 [5] xk ?_ ?_; (focus (repeat (first | exact StF.nil | refine StF.One rfl rfl rfl ?_))); refine (BrF.one rfl rfl ?_ (BrF.one rfl rfl ?_ BrF.nil)); (· (first | refine JL.S1 rfl (c74) rfl trivial rfl ?_ | refine JL.T1 rfl (c74) rfl rfl ?_ | (refine JL.C1 rfl (c74) rfl (fun r hr => ?_); subst hr) | refine JL.S1 rfl (c71) rfl trivial rfl ?_ | refine JL.T1 rfl (c71) rfl rfl ?_ | (refine JL.C1 rfl (c71) rfl (fun r hr => ?_); subst hr)); refine JL.finN ?_; refine JF.Branch 5 [] xk StF.nil (BrF.one rfl rfl ?_ BrF.nil); (· (refine JL.M1 xk rfl rfl ?_); refine JL.finN ?_; refine JF.Branch 7 [] xk StF.nil (BrF.one rfl rfl ?_ BrF.nil); (· (first | refine JL.M0 xk rfl ?_ | refine JL.Q0 xk rfl ?_); refine JL.finN ?_; refine JF.Branch 8 [] xk StF.nil (BrF.one rfl rfl ?_ BrF.nil); (· (first | refine JL.M0 xk rfl ?_ | refine JL.Q0 xk rfl ?_); refine JL.finN ?_; refine JF.Branch 9 [] xk StF.nil (BrF.one rfl rfl ?_ BrF.nil); (· (first | refine JL.M0 xk rfl ?_ | refine JL.Q0 xk rfl ?_); refine JL.finN ?_; refine JF.Done xk StF.nil ?_; ((exact JW.Auto (by conv => lhs; reduce)))))))); (· (refine JL.M1 xk rfl rfl ?_); refine JL.finN ?_; refine JF.Branch 3 [] xk ?_ ?_; (focus (repeat (first | exact StF.nil | refine StF.One rfl rfl rfl ?_))); refine (BrF.one rfl rfl ?_ BrF.nil); (· (first | refine JL.S1 rfl (c74) rfl trivial rfl ?_ | refine JL.T1 rfl (c74) rfl rfl ?_ | (refine JL.C1 rfl (c74) rfl (fun r hr => ?_); subst hr) | refine JL.S1 rfl (c71) rfl trivial rfl ?_ | refine JL.T1 rfl (c71) rfl rfl ?_ | (refine JL.C1 rfl (c71) rfl (fun r hr => ?_); subst hr)); refine JL.finN ?_; refine JF.Branch 7 [] xk StF.nil (BrF.one rfl rfl ?_ BrF.nil); (· (first | refine JL.M0 xk rfl ?_ | refine JL.Q0 xk rfl ?_); refine JL.finN ?_; refine JF.Branch 8 [] xk StF.nil (BrF.one rfl rfl ?_ BrF.nil); (· (first | refine JL.M0 xk rfl ?_ | refine JL.Q0 xk rfl ?_); refine JL.finN ?_; refine JF.Branch 9 [] xk StF.nil (BrF.one rfl rfl ?_ BrF.nil); (· (first | refine JL.M0 xk rfl ?_ | refine JL.Q0 xk rfl ?_); refine JL.finN ?_; refine JF.Done xk StF.nil ?_; ((exact JW.Auto (by conv => lhs; reduce))))))))); (· (refine JL.M1 xk rfl rfl ?_); refine JL.finN ?_; refine JF.Branch 3 [4] xk ?_ ?_; (focus (repeat (first | exact StF.nil | refine StF.One rfl rfl rfl ?_))); refine (BrF.one rfl rfl ?_ (BrF.one rfl rfl ?_ BrF.nil)); (· (first | refine JL.S1 rfl (c74) rfl trivial rfl ?_ | refine JL.T1 rfl (c74) rfl rfl ?_ | (refine JL.C1 rfl (c74) rfl (fun r hr => ?_); subst hr) | refine JL.S1 rfl (c71) rfl trivial rfl ?_ | refine JL.T1 rfl (c71) rfl rfl ?_ | (refine JL.C1 rfl (c71) rfl (fun r hr => ?_); subst hr)); refine JL.finN ?_; refine JF.Branch 4 [] xk StF.nil (BrF.one rfl rfl ?_ BrF.nil); (· (refine JL.M1 xk rfl rfl ?_); refine JL.finN ?_; refine JF.Branch 7 [] xk StF.nil (BrF.one rfl rfl ?_ BrF.nil); (· (first | refine JL.M0 xk rfl ?_ | refine JL.Q0 xk rfl ?_); refine JL.finN ?_; refine JF.Branch 8 [] xk StF.nil (BrF.one rfl rfl ?_ BrF.nil); (· (first | refine JL.M0 xk rfl ?_ | refine JL.Q0 xk rfl ?_); refine JL.finN ?_; refine JF.Branch 9 [] xk StF.nil (BrF.one rfl rfl ?_ BrF.nil); (· (first | refine JL.M0 xk rfl ?_ | refine JL.Q0 xk rfl ?_); refine JL.finN ?_; refine JF.Done xk StF.nil ?_; ((exact JW.Auto (by conv => lhs; reduce)))))))); (· (refine JL.M1 xk rfl rfl ?_); refine JL.finN ?_; refine JF.Branch 3 [] xk ?_ ?_; (focus (repeat (first | exact StF.nil | refine StF.One rfl rfl rfl ?_))); refine (BrF.one rfl rfl ?_ BrF.nil); (· (first | refine JL.S1 rfl (c74) rfl trivial rfl ?_ | refine JL.T1 rfl (c74) rfl rfl ?_ | (refine JL.C1 rfl (c74) rfl (fun r hr => ?_); subst hr) | refine JL.S1 rfl (c71) rfl trivial rfl ?_ | refine JL.T1 rfl (c71) rfl rfl ?_ | (refine JL.C1 rfl (c71) rfl (fun r hr => ?_); subst hr)); refine JL.finN ?_; refine JF.Branch 7 [] xk StF.nil (BrF.one rfl rfl ?_ BrF.nil); (· (first | refine JL.M0 xk rfl ?_ | refine JL.Q0 xk rfl ?_); refine JL.finN ?_; refine JF.Branch 8 [] xk StF.nil (BrF.one rfl rfl ?_ BrF.nil); (· (first | refine JL.M0 xk rfl ?_ | refine JL.Q0 xk rfl ?_); refine JL.finN ?_; refine JF.Branch 9 [] xk StF.nil (BrF.one rfl rfl ?_ BrF.nil); (· (first | refine JL.M0 xk rfl ?_ | refine JL.Q0 xk rfl ?_); refine JL.finN ?_; refine JF.Done xk StF.nil ?_; ((exact JW.Auto (by conv => lhs; reduce))))))))))); (· (refine JL.M1 xk rfl rfl ?_); refine JL.finN ?_; refine JF.Branch 2 [5, 6] xk ?_ ?_; (focus (repeat (first | exact StF.nil | refine StF.One rfl rfl rfl ?_))); refine (BrF.one rfl rfl ?_ (BrF.one rfl rfl ?_ (BrF.one rfl rfl ?_ BrF.nil))); (· (first | refine JL.S1 rfl (c74) rfl trivial rfl ?_ | refine JL.T1 rfl (c74) rfl rfl ?_ | (refine JL.C1 rfl (c74) rfl (fun r hr => ?_); subst hr) | refine JL.S1 rfl (c71) rfl trivial rfl ?_ | refine JL.T1 rfl (c71) rfl rfl ?_ | (refine JL.C1 rfl (c71) rfl (fun r hr => ?_); subst hr)); refine JL.finN ?_; refine JF.Branch 3 [5, 6] xk ?_ ?_; (focus (repeat (first | exact StF.nil | refine StF.One rfl rfl rfl ?_))); refine (BrF.one rfl rfl ?_ (BrF.one rfl rfl ?_ (BrF.one rfl rfl ?_ BrF.nil))); (· (first | refine JL.S1 rfl (c74) rfl trivial rfl ?_ | refine JL.T1 rfl (c74) rfl rfl ?_ | (refine JL.C1 rfl (c74) rfl (fun r hr => ?_); subst hr) | refine JL.S1 rfl (c71) rfl trivial rfl ?_ | refine JL.T1 rfl (c71) rfl rfl ?_ | (refine JL.C1 rfl (c71) rfl (fun r hr => ?_); subst hr)); refine JL.finN ?_; refine JF.Branch 5 [6] xk StF.nil (BrF.one rfl rfl ?_ (BrF.one rfl rfl ?_ BrF.nil)); (· (refine JL.M1 xk rfl rfl ?_); refine JL.finN ?_; refine JF.Branch 6 [] xk StF.nil (BrF.one rfl rfl ?_ BrF.nil); (· (refine JL.M1 xk rfl rfl ?_); refine JL.finN ?_; refine JF.Branch 7 [] xk StF.nil (BrF.one rfl rfl ?_ BrF.nil); (· (first | refine JL.M0 xk rfl ?_ | refine JL.Q0 xk rfl ?_); refine JL.finN ?_; refine JF.Branch 8 [] xk StF.nil (BrF.one rfl rfl ?_ BrF.nil); (· (first | refine JL.M0 xk rfl ?_ | refine JL.Q0 xk rfl ?_); refine JL.finN ?_; refine JF.Branch 9 [] xk StF.nil (BrF.one rfl rfl ?_ BrF.nil); (· (first | refine JL.M0 xk rfl ?_ | refine JL.Q0 xk rfl ?_); refine JL.finN ?_; refine JF.Done xk StF.nil ?_; ((exact JW.Auto (by conv => lhs; reduce)))))))); (· (refine JL.M1 xk rfl rfl ?_); refine JL.finN ?_; refine JF.Branch 5 [] xk StF.nil (BrF.one rfl rfl ?_ BrF.nil); (· (refine JL.M1 xk rfl rfl ?_); refine JL.finN ?_; refine JF.Branch 7 [] xk StF.nil (BrF.one rfl rfl ?_ BrF.nil); (· (first | refine JL.M0 xk rfl ?_ | refine JL.Q0 xk rfl ?_); refine JL.finN ?_; refine JF.Branch 8 [] xk StF.nil (BrF.one rfl rfl ?_ BrF.nil); (· (first | refine JL.M0 xk rfl ?_ | refine JL.Q0 xk rfl ?_); refine JL.finN ?_; refine JF.Branch 9 [] xk StF.nil (BrF.one rfl rfl ?_ BrF.nil); (· (first | refine JL.M0 xk rfl ?_ | refine JL.Q0 xk rfl ?_); refine JL.finN ?_; refine JF.Done xk StF.nil ?_; ((exact JW.Auto (by conv => lhs; reduce))))))))); (· (refine JL.M1 xk rfl rfl ?_); refine JL.finN ?_; refine JF.Branch 3 [6] xk ?_ ?_; (focus (repeat (first | exact StF.nil | refine StF.One rfl rfl rfl ?_))); refine (BrF.one rfl rfl ?_ (BrF.one rfl rfl ?_ BrF.nil)); (· (first | refine JL.S1 rfl (c74) rfl trivial rfl ?_ | refine JL.T1 rfl (c74) rfl rfl ?_ | (refine JL.C1 rfl (c74) rfl (fun r hr => ?_); subst hr) | refine JL.S1 rfl (c71) rfl trivial rfl ?_ | refine JL.T1 rfl (c71) rfl rfl ?_ | (refine JL.C1 rfl (c71) rfl (fun r hr => ?_); subst hr)); refine JL.finN ?_; refine JF.Branch 6 [] xk StF.nil (BrF.one rfl rfl ?_ BrF.nil); (· (refine JL.M1 xk rfl rfl ?_); refine JL.finN ?_; refine JF.Branch 7 [] xk StF.nil (BrF.one rfl rfl ?_ BrF.nil); (· (first | refine JL.M0 xk rfl ?_ | refine JL.Q0 xk rfl ?_); refine JL.finN ?_; refine JF.Branch 8 [] xk StF.nil (BrF.one rfl rfl ?_ BrF.nil); (· (first | refine JL.M0 xk rfl ?_ | refine JL.Q0 xk rfl ?_); refine JL.finN ?_; refine JF.Branch 9 [] xk StF.nil (BrF.one rfl rfl ?_ BrF.nil); (· (first | refine JL.M0 xk rfl ?_ | refine JL.Q0 xk rfl ?_); refine JL.finN ?_; refine JF.Done xk StF.nil ?_; ((exact JW.Auto (by conv => lhs; reduce)))))))); (· (refine JL.M1 xk rfl rfl ?_); refine JL.finN ?_; refine JF.Branch 3 [] xk ?_ ?_; (focus (repeat (first | exact StF.nil | refine StF.One rfl rfl rfl ?_))); refine (BrF.one rfl rfl ?_ BrF.nil); (· (first | refine JL.S1 rfl (c74) rfl trivial rfl ?_ | refine JL.T1 rfl (c74) rfl rfl ?_ | (refine JL.C1 rfl (c74) rfl (fun r hr => ?_); subst hr) | refine JL.S1 rfl (c71) rfl trivial rfl ?_ | refine JL.T1 rfl (c71) rfl rfl ?_ | (refine JL.C1 rfl (c71) rfl (fun r hr => ?_); subst hr)); refine JL.finN ?_; refine JF.Branch 7 [] xk StF.nil (BrF.one rfl rfl ?_ BrF.nil); (· (first | refine JL.M0 xk rfl ?_ | refine JL.Q0 xk rfl ?_); refine JL.finN ?_; refine JF.Branch 8 [] xk StF.nil (BrF.one rfl rfl ?_ BrF.nil); (· (first | refine JL.M0 xk rfl ?_ | refine JL.Q0 xk rfl ?_); refine JL.finN ?_; refine JF.Branch 9 [] xk StF.nil (BrF.one rfl rfl ?_ BrF.nil); (· (first | refine JL.M0 xk rfl ?_ | refine JL.Q0 xk rfl ?_); refine JL.finN ?_; refine JF.Done xk StF.nil ?_; ((exact JW.Auto (by conv => lhs; reduce))))))))); (· (refine JL.M1 xk rfl rfl ?_); refine JL.finN ?_; refine JF.Branch 3 [5] xk ?_ ?_; (focus (repeat (first | exact StF.nil | refine StF.One rfl rfl rfl ?_))); refine (BrF.one rfl rfl ?_ (BrF.one rfl rfl ?_ BrF.nil)); (· (first | refine JL.S1 rfl (c74) rfl trivial rfl ?_ | refine JL.T1 rfl (c74) rfl rfl ?_ | (refine JL.C1 rfl (c74) rfl (fun r hr => ?_); subst hr) | refine JL.S1 rfl (c71) rfl trivial rfl ?_ | refine JL.T1 rfl (c71) rfl rfl ?_ | (refine JL.C1 rfl (c71) rfl (fun r hr => ?_); subst hr)); refine JL.finN ?_; refine JF.Branch 5 [] xk StF.nil (BrF.one rfl rfl ?_ BrF.nil); (· (refine JL.M1 xk rfl rfl ?_); refine JL.finN ?_; refine JF.Branch 7 [] xk StF.nil (BrF.one rfl rfl ?_ BrF.nil); (· (first | refine JL.M0 xk rfl ?_ | refine JL.Q0 xk rfl ?_); refine JL.finN ?_; refine JF.Branch 8 [] xk StF.nil (BrF.one rfl rfl ?_ BrF.nil); (· (first | refine JL.M0 xk rfl ?_ | refine JL.Q0 xk rfl ?_); refine JL.finN ?_; refine JF.Branch 9 [] xk StF.nil (BrF.one rfl rfl ?_ BrF.nil); (· (first | refine JL.M0 xk rfl ?_ | refine JL.Q0 xk rfl ?_); refine JL.finN ?_; refine JF.Done xk StF.nil ?_; ((exact JW.Auto (by conv => lhs; reduce)))))))); (· (refine JL.M1 xk rfl rfl ?_); refine JL.finN ?_; refine JF.Branch 3 [] xk ?_ ?_; (focus (repeat (first | exact StF.nil | refine StF.One rfl rfl rfl ?_))); refine (BrF.one rfl rfl ?_ BrF.nil); (· (first | refine JL.S1 rfl (c74) rfl trivial rfl ?_ | refine JL.T1 rfl (c74) rfl rfl ?_ | (refine JL.C1 rfl (c74) rfl (fun r hr => ?_); subst hr) | refine JL.S1 rfl (c71) rfl trivial rfl ?_ | refine JL.T1 rfl (c71) rfl rfl ?_ | (refine JL.C1 rfl (c71) rfl (fun r hr => ?_); subst hr)); refine JL.finN ?_; refine JF.Branch 7 [] xk StF.nil (BrF.one rfl rfl ?_ BrF.nil); (· (first | refine JL.M0 xk rfl ?_ | refine JL.Q0 xk rfl ?_); refine JL.finN ?_; refine JF.Branch 8 [] xk StF.nil (BrF.one rfl rfl ?_ BrF.nil); (· (first | refine JL.M0 xk rfl ?_ | refine JL.Q0 xk rfl ?_); refine JL.finN ?_; refine JF.Branch 9 [] xk StF.nil (BrF.one rfl rfl ?_ BrF.nil); (· (first | refine JL.M0 xk rfl ?_ | refine JL.Q0 xk rfl ?_); refine JL.finN ?_; refine JF.Done xk StF.nil ?_; ((exact JW.Auto (by conv => lhs; reduce)))))))))); (· (refine JL.M1 xk rfl rfl ?_); refine JL.finN ?_; refine JF.Branch 2 [6] xk ?_ ?_; (focus (repeat (first | exact StF.nil | refine StF.One rfl rfl rfl ?_))); refine (BrF.one rfl rfl ?_ (BrF.one rfl rfl ?_ BrF.nil)); (· (first | refine JL.S1 rfl (c74) rfl trivial rfl ?_ | refine JL.T1 rfl (c74) rfl rfl ?_ | (refine JL.C1 rfl (c74) rfl (fun r hr => ?_); subst hr) | refine JL.S1 rfl (c71) rfl trivial rfl ?_ | refine JL.T1 rfl (c71) rfl rfl ?_ | (refine JL.C1 rfl (c71) rfl (fun r hr => ?_); subst hr)); refine JL.finN ?_; refine JF.Branch 3 [6] xk ?_ ?_; (focus (repeat (first | exact StF.nil | refine StF.One rfl rfl rfl ?_))); refine (BrF.one rfl rfl ?_ (BrF.one rfl rfl ?_ BrF.nil)); (· (first | refine JL.S1 rfl (c74) rfl trivial rfl ?_ | refine JL.T1 rfl (c74) rfl rfl ?_ | (refine JL.C1 rfl (c74) rfl (fun r hr => ?_); subst hr) | refine JL.S1 rfl (c71) rfl trivial rfl ?_ | refine JL.T1 rfl (c71) rfl rfl ?_ | (refine JL.C1 rfl (c71) rfl (fun r hr => ?_); subst hr)); refine JL.finN ?_; refine JF.Branch 6 [] xk StF.nil (BrF.one rfl rfl ?_ BrF.nil); (· (refine JL.M1 xk rfl rfl ?_); refine JL.finN ?_; refine JF.Branch 7 [] xk StF.nil (BrF.one rfl rfl ?_ BrF.nil); (· (first | refine JL.M0 xk rfl ?_ | refine JL.Q0 xk rfl ?_); refine JL.finN ?_; refine JF.Branch 8 [] xk StF.nil (BrF.one rfl rfl ?_ BrF.nil); (· (first | refine JL.M0 xk rfl ?_ | refine JL.Q0 xk rfl ?_); refine JL.finN ?_; refine JF.Branch 9 [] xk StF.nil (BrF.one rfl rfl ?_ BrF.nil); (· (first | refine JL.M0 xk rfl ?_ | refine JL.Q0 xk rfl ?_); refine JL.finN ?_; refine JF.Done xk StF.nil ?_; ((exact JW.Auto (by conv => lhs; reduce)))))))); (· (refine JL.M1 xk rfl rfl ?_); refine JL.finN ?_; refine JF.Branch 3 [] xk ?_ ?_; (focus (repeat (first | exact StF.nil | refine StF.One rfl rfl rfl ?_))); refine (BrF.one rfl rfl ?_ BrF.nil); (· (first | refine JL.S1 rfl (c74) rfl trivial rfl ?_ | refine JL.T1 rfl (c74) rfl rfl ?_ | (refine JL.C1 rfl (c74) rfl (fun r hr => ?_); subst hr) | refine JL.S1 rfl (c71) rfl trivial rfl ?_ | refine JL.T1 rfl (c71) rfl rfl ?_ | (refine JL.C1 rfl (c71) rfl (fun r hr => ?_); subst hr)); refine JL.finN ?_; refine JF.Branch 7 [] xk StF.nil (BrF.one rfl rfl ?_ BrF.nil); (· (first | refine JL.M0 xk rfl ?_ | refine JL.Q0 xk rfl ?_); refine JL.finN ?_; refine JF.Branch 8 [] xk StF.nil (BrF.one rfl rfl ?_ BrF.nil); (· (first | refine JL.M0 xk rfl ?_ | refine JL.Q0 xk rfl ?_); refine JL.finN ?_; refine JF.Branch 9 [] xk StF.nil (BrF.one rfl rfl ?_ BrF.nil); (· (first | refine JL.M0 xk rfl ?_ | refine JL.Q0 xk rfl ?_); refine JL.finN ?_; refine JF.Done xk StF.nil ?_; ((exact JW.Auto (by conv => lhs; reduce))))))))); (· (refine JL.M1 xk rfl rfl ?_); refine JL.finN ?_; refine JF.Branch 2 [] xk ?_ ?_; (focus (repeat (first | exact StF.nil | refine StF.One rfl rfl rfl ?_))); refine (BrF.one rfl rfl ?_ BrF.nil); (· (first | refine JL.S1 rfl (c74) rfl trivial rfl ?_ | refine JL.T1 rfl (c74) rfl rfl ?_ | (refine JL.C1 rfl (c74) rfl (fun r hr => ?_); subst hr) | refine JL.S1 rfl (c71) rfl trivial rfl ?_ | refine JL.T1 rfl (c71) rfl rfl ?_ | (refine JL.C1 rfl (c71) rfl (fun r hr => ?_); subst hr)); refine JL.finN ?_; refine JF.Branch 3 [] xk ?_ ?_; (focus (repeat (first | exact StF.nil | refine StF.One rfl rfl rfl ?_))); refine (BrF.one rfl rfl ?_ BrF.nil); (· (first | refine JL.S1 rfl (c74) rfl trivial rfl ?_ | refine JL.T1 rfl (c74) rfl rfl ?_ | (refine JL.C1 rfl (c74) rfl (fun r hr => ?_); subst hr) | refine JL.S1 rfl (c71) rfl trivial rfl ?_ | refine JL.T1 rfl (c71) rfl rfl ?_ | (refine JL.C1 rfl (c71) rfl (fun r hr => ?_); subst hr)); refine JL.finN ?_; refine JF.Branch 7 [] xk StF.nil (BrF.one rfl rfl ?_ BrF.nil); (· (first | refine JL.M0 xk rfl ?_ | refine JL.Q0 xk rfl ?_); refine JL.finN ?_; refine JF.Branch 8 [] xk StF.nil (BrF.one rfl rfl ?_ BrF.nil); (· (first | refine JL.M0 xk rfl ?_ | refine JL.Q0 xk rfl ?_); refine JL.finN ?_; refine JF.Branch 9 [] xk StF.nil (BrF.one rfl rfl ?_ BrF.nil); (· (first | refine JL.M0 xk rfl ?_ | refine JL.Q0 xk rfl ?_); refine JL.finN ?_; refine JF.Done xk StF.nil ?_; ((exact JW.Auto (by conv => lhs; reduce)))))))))); (· (refine JL.M1 xk rfl rfl ?_); refine JL.finN ?_; refine JF.Branch 2 [5] xk ?_ ?_; (focus (repeat (first | exact StF.nil | refine StF.One rfl rfl rfl ?_))); refine (BrF.one rfl rfl ?_ (BrF.one rfl rfl ?_ BrF.nil)); (· (first | refine JL.S1 rfl (c74) rfl trivial rfl ?_ | refine JL.T1 rfl (c74) rfl rfl ?_ | (refine JL.C1 rfl (c74) rfl (fun r hr => ?_); subst hr) | refine JL.S1 rfl (c71) rfl trivial rfl ?_ | refine JL.T1 rfl (c71) rfl rfl ?_ | (refine JL.C1 rfl (c71) rfl (fun r hr => ?_); subst hr)); refine JL.finN ?_; refine JF.Branch 3 [5] xk ?_ ?_; (focus (repeat (first | exact StF.nil | refine StF.One rfl rfl rfl ?_))); refine (BrF.one rfl rfl ?_ (BrF.one rfl rfl ?_ BrF.nil)); (· (first | refine JL.S1 rfl (c74) rfl trivial rfl ?_ | refine JL.T1 rfl (c74) rfl rfl ?_ | (refine JL.C1 rfl (c74) rfl (fun r hr => ?_); subst hr) | refine JL.S1 rfl (c71) rfl trivial rfl ?_ | refine JL.T1 rfl (c71) rfl rfl ?_ | (refine JL.C1 rfl (c71) rfl (fun r hr => ?_); subst hr)); refine JL.finN ?_; refine JF.Branch 5 [] xk StF.nil (BrF.one rfl rfl ?_ BrF.nil); (· (refine JL.M1 xk rfl rfl ?_); refine JL.finN ?_; refine JF.Branch 7 [] xk StF.nil (BrF.one rfl rfl ?_ BrF.nil); (· (first | refine JL.M0 xk rfl ?_ | refine JL.Q0 xk rfl ?_); refine JL.finN ?_; refine JF.Branch 8 [] xk StF.nil (BrF.one rfl rfl ?_ BrF.nil); (· (first | refine JL.M0 xk rfl ?_ | refine JL.Q0 xk rfl ?_); refine JL.finN ?_; refine JF.Branch 9 [] xk StF.nil (BrF.one rfl rfl ?_ BrF.nil); (· (first | refine JL.M0 xk rfl ?_ | refine JL.Q0 xk rfl ?_); refine JL.finN ?_; refine JF.Done xk StF.nil ?_; ((exact JW.Auto (by conv => lhs; reduce)))))))); (· (refine JL.M1 xk rfl rfl ?_); refine JL.finN ?_; refine JF.Branch 3 [] xk ?_ ?_; (focus (repeat (first | exact StF.nil | refine StF.One rfl rfl rfl ?_))); refine (BrF.one rfl rfl ?_ BrF.nil); (· (first | refine JL.S1 rfl (c74) rfl trivial rfl ?_ | refine JL.T1 rfl (c74) rfl rfl ?_ | (refine JL.C1 rfl (c74) rfl (fun r hr => ?_); subst hr) | refine JL.S1 rfl (c71) rfl trivial rfl ?_ | refine JL.T1 rfl (c71) rfl rfl ?_ | (refine JL.C1 rfl (c71) rfl (fun r hr => ?_); subst hr)); refine JL.finN ?_; refine JF.Branch 7 [] xk StF.nil (BrF.one rfl rfl ?_ BrF.nil); (· (first | refine JL.M0 xk rfl ?_ | refine JL.Q0 xk rfl ?_); refine JL.finN ?_; refine JF.Branch 8 [] xk StF.nil (BrF.one rfl rfl ?_ BrF.nil); (· (first | refine JL.M0 xk rfl ?_ | refine JL.Q0 xk rfl ?_); refine JL.finN ?_; refine JF.Branch 9 [] xk StF.nil (BrF.one rfl rfl ?_ BrF.nil); (· (first | refine JL.M0 xk rfl ?_ | refine JL.Q0 xk rfl ?_); refine JL.finN ?_; refine JF.Done xk StF.nil ?_; ((exact JW.Auto (by conv => lhs; reduce))))))))); (· (refine JL.M1 xk rfl rfl ?_); refine JL.finN ?_; refine JF.Branch 2 [] xk ?_ ?_; (focus (repeat (first | exact StF.nil | refine StF.One rfl rfl rfl ?_))); refine (BrF.one rfl rfl ?_ BrF.nil); (· (first | refine JL.S1 rfl (c74) rfl trivial rfl ?_ | refine JL.T1 rfl (c74) rfl rfl ?_ | (refine JL.C1 rfl (c74) rfl (fun r hr => ?_); subst hr) | refine JL.S1 rfl (c71) rfl trivial rfl ?_ | refine JL.T1 rfl (c71) rfl rfl ?_ | (refine JL.C1 rfl (c71) rfl (fun r hr => ?_); subst hr)); refine JL.finN ?_; refine JF.Branch 3 [] xk ?_ ?_; (focus (repeat (first | exact StF.nil | refine StF.One rfl rfl rfl ?_))); refine (BrF.one rfl rfl ?_ BrF.nil); (· (first | refine JL.S1 rfl (c74) rfl trivial rfl ?_ | refine JL.T1 rfl (c74) rfl rfl ?_ | (refine JL.C1 rfl (c74) rfl (fun r hr => ?_); subst hr) | refine JL.S1 rfl (c71) rfl trivial rfl ?_ | refine JL.T1 rfl (c71) rfl rfl ?_ | (refine JL.C1 rfl (c71) rfl (fun r hr => ?_); subst hr)); refine JL.finN ?_; refine JF.Branch 7 [] xk StF.nil (BrF.one rfl rfl ?_ BrF.nil); (· (first | refine JL.M0 xk rfl ?_ | refine JL.Q0 xk rfl ?_); refine JL.finN ?_; refine JF.Branch 8 [] xk StF.nil (BrF.one rfl rfl ?_ BrF.nil); (· (first | refine JL.M0 xk rfl ?_ | refine JL.Q0 xk rfl ?_); refine JL.finN ?_; refine JF.Branch 9 [] xk StF.nil (BrF.one rfl rfl ?_ BrF.nil); (· (first | refine JL.M0 xk rfl ?_ | refine JL.Q0 xk rfl ?_); refine JL.finN ?_; refine JF.Done xk StF.nil ?_; ((exact JW.Auto (by conv => lhs; reduce))))))))))); (· (refine JL.M1 xk rfl rfl ?_); refine JL.finN ?_; refine JF.Branch 2 [4, 6] xk ?_ ?_; (focus (repeat (first | exact StF.nil | refine StF.One rfl rfl rfl ?_))); refine (BrF.one rfl rfl ?_ (BrF.one rfl rfl ?_ (BrF.one rfl rfl ?_ BrF.nil))); (· (first | refine JL.S1 rfl (c74) rfl trivial rfl ?_ | refine JL.T1 rfl (c74) rfl rfl ?_ | (refine JL.C1 rfl (c74) rfl (fun r hr => ?_); subst hr) | refine JL.S1 rfl (c71) rfl trivial rfl ?_ | refine JL.T1 rfl (c71) rfl rfl ?_ | (refine JL.C1 rfl (c71) rfl (fun r hr => ?_); subst hr)); refine JL.finN ?_; refine JF.Branch 3 [4, 6] xk ?_ ?_; (focus (repeat (first | exact StF.nil | refine StF.One rfl rfl rfl ?_))); refine (BrF.one rfl rfl ?_ (BrF.one rfl rfl ?_ (BrF.one rfl rfl ?_ BrF.nil))); (· (first | refine JL.S1 rfl (c74) rfl trivial rfl ?_ | refine JL.T1 rfl (c74) rfl rfl ?_ | (refine JL.C1 rfl (c74) rfl (fun r hr => ?_); subst hr) | refine JL.S1 rfl (c71) rfl trivial rfl ?_ | refine JL.T1 rfl (c71) rfl rfl ?_ | (refine JL.C1 rfl (c71) rfl (fun r hr => ?_); subst hr)); refine JL.finN ?_; refine JF.Branch 4 [6] xk StF.nil (BrF.one rfl rfl ?_ (BrF.one rfl rfl ?_ BrF.nil)); (· (refine JL.M1 xk rfl rfl ?_); refine JL.finN ?_; refine JF.Branch 6 [] xk StF.nil (BrF.one rfl rfl ?_ BrF.nil); (· (refine JL.M1 xk rfl rfl ?_); refine JL.finN ?_; refine JF.Branch 7 [] xk StF.nil (BrF.one rfl rfl ?_ BrF.nil); (· (first | refine JL.M0 xk rfl ?_ | refine JL.Q0 xk rfl ?_); refine JL.finN ?_; refine JF.Branch 8 [] xk StF.nil (BrF.one rfl rfl ?_ BrF.nil); (· (first | refine JL.M0 xk rfl ?_ | refine JL.Q0 xk rfl ?_); refine JL.finN ?_; refine JF.Branch 9 [] xk StF.nil (BrF.one rfl rfl ?_ BrF.nil); (· (first | refine JL.M0 xk rfl ?_ | refine JL.Q0 xk rfl ?_); refine JL.finN ?_; refine JF.Done xk StF.nil ?_; ((exact JW.Auto (by conv => lhs; reduce)))))))); (· (refine JL.M1 xk rfl rfl ?_); refine JL.finN ?_; refine JF.Branch 4 [] xk StF.nil (BrF.one rfl rfl ?_ BrF.nil); (· (refine JL.M1 xk rfl rfl ?_); refine JL.finN ?_; refine JF.Branch 7 [] xk StF.nil (BrF.one rfl rfl ?_ BrF.nil); (· (first | refine JL.M0 xk rfl ?_ | refine JL.Q0 xk rfl ?_); refine JL.finN ?_; refine JF.Branch 8 [] xk StF.nil (BrF.one rfl rfl ?_ BrF.nil); (· (first | refine JL.M0 xk rfl ?_ | refine JL.Q0 xk rfl ?_); refine JL.finN ?_; refine JF.Branch 9 [] xk StF.nil (BrF.one rfl rfl ?_ BrF.nil); (· (first | refine JL.M0 xk rfl ?_ | refine JL.Q0 xk rfl ?_); refine JL.finN ?_; refine JF.Done xk StF.nil ?_; ((exact JW.Auto (by conv => lhs; reduce))))))))); (· (refine JL.M1 xk rfl rfl ?_); refine JL.finN ?_; refine JF.Branch 3 [6] xk ?_ ?_; (focus (repeat (first | exact StF.nil | refine StF.One rfl rfl rfl ?_))); refine (BrF.one rfl rfl ?_ (BrF.one rfl rfl ?_ BrF.nil)); (· (first | refine JL.S1 rfl (c74) rfl trivial rfl ?_ | refine JL.T1 rfl (c74) rfl rfl ?_ | (refine JL.C1 rfl (c74) rfl (fun r hr => ?_); subst hr) | refine JL.S1 rfl (c71) rfl trivial rfl ?_ | refine JL.T1 rfl (c71) rfl rfl ?_ | (refine JL.C1 rfl (c71) rfl (fun r hr => ?_); subst hr)); refine JL.finN ?_; refine JF.Branch 6 [] xk StF.nil (BrF.one rfl rfl ?_ BrF.nil); (· (refine JL.M1 xk rfl rfl ?_); refine JL.finN ?_; refine JF.Branch 7 [] xk StF.nil (BrF.one rfl rfl ?_ BrF.nil); (· (first | refine JL.M0 xk rfl ?_ | refine JL.Q0 xk rfl ?_); refine JL.finN ?_; refine JF.Branch 8 [] xk StF.nil (BrF.one rfl rfl ?_ BrF.nil); (· (first | refine JL.M0 xk rfl ?_ | refine JL.Q0 xk rfl ?_); refine JL.finN ?_; refine JF.Branch 9 [] xk StF.nil (BrF.one rfl rfl ?_ BrF.nil); (· (first | refine JL.M0 xk rfl ?_ | refine JL.Q0 xk rfl ?_); refine JL.finN ?_; refine JF.Done xk StF.nil ?_; ((exact JW.Auto (by conv => lhs; reduce)))))))); (· (refine JL.M1 xk rfl rfl ?_); refine JL.finN ?_; refine JF.Branch 3 [] xk ?_ ?_; (focus (repeat (first | exact StF.nil | refine StF.One rfl rfl rfl ?_))); refine (BrF.one rfl rfl ?_ BrF.nil); (· (first | refine JL.S1 rfl (c74) rfl trivial rfl ?_ | refine JL.T1 rfl (c74) rfl rfl ?_ | (refine JL.C1 rfl (c74) rfl (fun r hr => ?_); subst hr) | refine JL.S1 rfl (c71) rfl trivial rfl ?_ | refine JL.T1 rfl (c71) rfl rfl ?_ | (refine JL.C1 rfl (c71) rfl (fun r hr => ?_); subst hr)); refine JL.finN ?_; refine JF.Branch 7 [] xk StF.nil (BrF.one rfl rfl ?_ BrF.nil); (· (first | refine JL.M0 xk rfl ?_ | refine JL.Q0 xk rfl ?_); refine JL.finN ?_; refine JF.Branch 8 [] xk StF.nil (BrF.one rfl rfl ?_ BrF.nil); (· (first | refine JL.M0 xk rfl ?_ | refine JL.Q0 xk rfl ?_); refine JL.finN ?_; refine JF.Branch 9 [] xk StF.nil (BrF.one rfl rfl ?_ BrF.nil); (· (first | refine JL.M0 xk rfl ?_ | refine JL.Q0 xk rfl ?_); refine JL.finN ?_; refine JF.Done xk StF.nil ?_; ((exact JW.Auto (by conv => lhs; reduce))))))))); (· (refine JL.M1 xk rfl rfl ?_); refine JL.finN ?_; refine JF.Branch 3 [4] xk ?_ ?_; (focus (repeat (first | exact StF.nil | refine StF.One rfl rfl rfl ?_))); refine (BrF.one rfl rfl ?_ (BrF.one rfl rfl ?_ BrF.nil)); (· (first | refine JL.S1 rfl (c74) rfl trivial rfl ?_ | refine JL.T1 rfl (c74) rfl rfl ?_ | (refine JL.C1 rfl (c74) rfl (fun r hr => ?_); subst hr) | refine JL.S1 rfl (c71) rfl trivial rfl ?_ | refine JL.T1 rfl (c71) rfl rfl ?_ | (refine JL.C1 rfl (c71) rfl (fun r hr => ?_); subst hr)); refine JL.finN ?_; refine JF.Branch 4 [] xk StF.nil (BrF.one rfl rfl ?_ BrF.nil); (· (refine JL.M1 xk rfl rfl ?_); refine JL.finN ?_; refine JF.Branch 7 [] xk StF.nil (BrF.one rfl rfl ?_ BrF.nil); (· (first | refine JL.M0 xk rfl ?_ | refine JL.Q0 xk rfl ?_); refine JL.finN ?_; refine JF.Branch 8 [] xk StF.nil (BrF.one rfl rfl ?_ BrF.nil); (· (first | refine JL.M0 xk rfl ?_ | refine JL.Q0 xk rfl ?_); refine JL.finN ?_; refine JF.Branch 9 [] xk StF.nil (BrF.one rfl rfl ?_ BrF.nil); (· (first | refine JL.M0 xk rfl ?_ | refine JL.Q0 xk rfl ?_); refine JL.finN ?_; refine JF.Done xk StF.nil ?_; ((exact JW.Auto (by conv => lhs; reduce)))))))); (· (refine JL.M1 xk rfl rfl ?_); refine JL.finN ?_; refine JF.Branch 3 [] xk ?_ ?_; (focus (repeat (first | exact StF.nil | refine StF.One rfl rfl rfl ?_))); refine (BrF.one rfl rfl ?_ BrF.nil); (· (first | refine JL.S1 rfl (c74) rfl trivial rfl ?_ | refine JL.T1 rfl (c74) rfl rfl ?_ | (refine JL.C1 rfl (c74) rfl (fun r hr => ?_); subst hr) | refine JL.S1 rfl (c71) rfl trivial rfl ?_ | refine JL.T1 rfl (c71) rfl rfl ?_ | (refine JL.C1 rfl (c71) rfl (fun r hr => ?_); subst hr)); refine JL.finN ?_; refine JF.Branch 7 [] xk StF.nil (BrF.one rfl rfl ?_ BrF.nil); (· (first | refine JL.M0 xk rfl ?_ | refine JL.Q0 xk rfl ?_); refine JL.finN ?_; refine JF.Branch 8 [] xk StF.nil (BrF.one rfl rfl ?_ BrF.nil); (· (first | refine JL.M0 xk rfl ?_ | refine JL.Q0 xk rfl ?_); refine JL.finN ?_; refine JF.Branch 9 [] xk StF.nil (BrF.one rfl rfl ?_ BrF.nil); (· (first | refine JL.M0 xk rfl ?_ | refine JL.Q0 xk rfl ?_); refine JL.finN ?_; refine JF.Done xk StF.nil ?_; ((exact JW.Auto (by conv => lhs; reduce)))))))))); (· (refine JL.M1 xk rfl rfl ?_); refine JL.finN ?_; refine JF.Branch 2 [6] xk ?_ ?_; (focus (repeat (first | exact StF.nil | refine StF.One rfl rfl rfl ?_))); refine (BrF.one rfl rfl ?_ (BrF.one rfl rfl ?_ BrF.nil)); (· (first | refine JL.S1 rfl (c74) rfl trivial rfl ?_ | refine JL.T1 rfl (c74) rfl rfl ?_ | (refine JL.C1 rfl (c74) rfl (fun r hr => ?_); subst hr) | refine JL.S1 rfl (c71) rfl trivial rfl ?_ | refine JL.T1 rfl (c71) rfl rfl ?_ | (refine JL.C1 rfl (c71) rfl (fun r hr => ?_); subst hr)); refine JL.finN ?_; refine JF.Branch 3 [6] xk ?_ ?_; (focus (repeat (first | exact StF.nil | refine StF.One rfl rfl rfl ?_))); refine (BrF.one rfl rfl ?_ (BrF.one rfl rfl ?_ BrF.nil)); (· (first | refine JL.S1 rfl (c74) rfl trivial rfl ?_ | refine JL.T1 rfl (c74) rfl rfl ?_ | (refine JL.C1 rfl (c74) rfl (fun r hr => ?_); subst hr) | refine JL.S1 rfl (c71) rfl trivial rfl ?_ | refine JL.T1 rfl (c71) rfl rfl ?_ | (refine JL.C1 rfl (c71) rfl (fun r hr => ?_); subst hr)); refine JL.finN ?_; refine JF.Branch 6 [] xk StF.nil (BrF.one rfl rfl ?_ BrF.nil); (· (refine JL.M1 xk rfl rfl ?_); refine JL.finN ?_; refine JF.Branch 7 [] xk StF.nil (BrF.one rfl rfl ?_ BrF.nil); (· (first | refine JL.M0 xk rfl ?_ | refine JL.Q0 xk rfl ?_); refine JL.finN ?_; refine JF.Branch 8 [] xk StF.nil (BrF.one rfl rfl ?_ BrF.nil); (· (first | refine JL.M0 xk rfl ?_ | refine JL.Q0 xk rfl ?_); refine JL.finN ?_; refine JF.Branch 9 [] xk StF.nil (BrF.one rfl rfl ?_ BrF.nil); (· (first | refine JL.M0 xk rfl ?_ | refine JL.Q0 xk rfl ?_); refine JL.finN ?_; refine JF.Done xk StF.nil ?_; ((exact JW.Auto (by conv => lhs; reduce)))))))); (· (refine JL.M1 xk rfl rfl ?_); refine JL.finN ?_; refine JF.Branch 3 [] xk ?_ ?_; (focus (repeat (first | exact StF.nil | refine StF.One rfl rfl rfl ?_))); refine (BrF.one rfl rfl ?_ BrF.nil); (· (first | refine JL.S1 rfl (c74) rfl trivial rfl ?_ | refine JL.T1 rfl (c74) rfl rfl ?_ | (refine JL.C1 rfl (c74) rfl (fun r hr => ?_); subst hr) | refine JL.S1 rfl (c71) rfl trivial rfl ?_ | refine JL.T1 rfl (c71) rfl rfl ?_ | (refine JL.C1 rfl (c71) rfl (fun r hr => ?_); subst hr)); refine JL.finN ?_; refine JF.Branch 7 [] xk StF.nil (BrF.one rfl rfl ?_ BrF.nil); (· (first | refine JL.M0 xk rfl ?_ | refine JL.Q0 xk rfl ?_); refine JL.finN ?_; refine JF.Branch 8 [] xk StF.nil (BrF.one rfl rfl ?_ BrF.nil); (· (first | refine JL.M0 xk rfl ?_ | refine JL.Q0 xk rfl ?_); refine JL.finN ?_; refine JF.Branch 9 [] xk StF.nil (BrF.one rfl rfl ?_ BrF.nil); (· (first | refine JL.M0 xk rfl ?_ | refine JL.Q0 xk rfl ?_); refine JL.finN ?_; refine JF.Done xk StF.nil ?_; ((exact JW.Auto (by conv => lhs; reduce))))))))); (· (refine JL.M1 xk rfl rfl ?_); refine JL.finN ?_; refine JF.Branch 2 [] xk ?_ ?_; (focus (repeat (first | exact StF.nil | refine StF.One rfl rfl rfl ?_))); refine (BrF.one rfl rfl ?_ BrF.nil); (· (first | refine JL.S1 rfl (c74) rfl trivial rfl ?_ | refine JL.T1 rfl (c74) rfl rfl ?_ | (refine JL.C1 rfl (c74) rfl (fun r hr => ?_); subst hr) | refine JL.S1 rfl (c71) rfl trivial rfl ?_ | refine JL.T1 rfl (c71) rfl rfl ?_ | (refine JL.C1 rfl (c71) rfl (fun r hr => ?_); subst hr)); refine JL.finN ?_; refine JF.Branch 3 [] xk ?_ ?_; (focus (repeat (first | exact StF.nil | refine StF.One rfl rfl rfl ?_))); refine (BrF.one rfl rfl ?_ BrF.nil); (· (first | refine JL.S1 rfl (c74) rfl trivial rfl ?_ | refine JL.T1 rfl (c74) rfl rfl ?_ | (refine JL.C1 rfl (c74) rfl (fun r hr => ?_); subst hr) | refine JL.S1 rfl (c71) rfl trivial rfl ?_ | refine JL.T1 rfl (c71) rfl rfl ?_ | (refine JL.C1 rfl (c71) rfl (fun r hr => ?_); subst hr)); refine JL.finN ?_; refine JF.Branch 7 [] xk StF.nil (BrF.one rfl rfl ?_ BrF.nil); (· (first | refine JL.M0 xk rfl ?_ | refine JL.Q0 xk rfl ?_); refine JL.finN ?_; refine JF.Branch 8 [] xk StF.nil (BrF.one rfl rfl ?_ BrF.nil); (· (first | refine JL.M0 xk rfl ?_ | refine JL.Q0 xk rfl ?_); refine JL.finN ?_; refine JF.Branch 9 [] xk StF.nil (BrF.one rfl rfl ?_ BrF.nil); (· (first | refine JL.M0 xk rfl ?_ | refine JL.Q0 xk rfl ?_); refine JL.finN ?_; refine JF.Done xk StF.nil ?_; ((exact JW.Auto (by conv => lhs; reduce)))))))))); (· (refine JL.M1 xk rfl rfl ?_); refine JL.finN ?_; refine JF.Branch 2 [4] xk ?_ ?_; (focus (repeat (first | exact StF.nil | refine StF.One rfl rfl rfl ?_))); refine (BrF.one rfl rfl ?_ (BrF.one rfl rfl ?_ BrF.nil)); (· (first | refine JL.S1 rfl (c74) rfl trivial rfl ?_ | refine JL.T1 rfl (c74) rfl rfl ?_ | (refine JL.C1 rfl (c74) rfl (fun r hr => ?_); subst hr) | refine JL.S1 rfl (c71) rfl trivial rfl ?_ | refine JL.T1 rfl (c71) rfl rfl ?_ | (refine JL.C1 rfl (c71) rfl (fun r hr => ?_); subst hr)); refine JL.finN ?_; refine JF.Branch 3 [4] xk ?_ ?_; (focus (repeat (first | exact StF.nil | refine StF.One rfl rfl rfl ?_))); refine (BrF.one rfl rfl ?_ (BrF.one rfl rfl ?_ BrF.nil)); (· (first | refine JL.S1 rfl (c74) rfl trivial rfl ?_ | refine JL.T1 rfl (c74) rfl rfl ?_ | (refine JL.C1 rfl (c74) rfl (fun r hr => ?_); subst hr) | refine JL.S1 rfl (c71) rfl trivial rfl ?_ | refine JL.T1 rfl (c71) rfl rfl ?_ | (refine JL.C1 rfl (c71) rfl (fun r hr => ?_); subst hr)); refine JL.finN ?_; refine JF.Branch 4 [] xk StF.nil (BrF.one rfl rfl ?_ BrF.nil); (· (refine JL.M1 xk rfl rfl ?_); refine JL.finN ?_; refine JF.Branch 7 [] xk StF.nil (BrF.one rfl rfl ?_ BrF.nil); (· (first | refine JL.M0 xk rfl ?_ | refine JL.Q0 xk rfl ?_); refine JL.finN ?_; refine JF.Branch 8 [] xk StF.nil (BrF.one rfl rfl ?_ BrF.nil); (· (first | refine JL.M0 xk rfl ?_ | refine JL.Q0 xk rfl ?_); refine JL.finN ?_; refine JF.Branch 9 [] xk StF.nil (BrF.one rfl rfl ?_ BrF.nil); (· (first | refine JL.M0 xk rfl ?_ | refine JL.Q0 xk rfl ?_); refine JL.finN ?_; refine JF.Done xk StF.nil ?_; ((exact JW.Auto (by conv => lhs; reduce)))))))); (· (refine JL.M1 xk rfl rfl ?_); refine JL.finN ?_; refine JF.Branch 3 [] xk ?_ ?_; (focus (repeat (first | exact StF.nil | refine StF.One rfl rfl rfl ?_))); refine (BrF.one rfl rfl ?_ BrF.nil); (· (first | refine JL.S1 rfl (c74) rfl trivial rfl ?_ | refine JL.T1 rfl (c74) rfl rfl ?_ | (refine JL.C1 rfl (c74) rfl (fun r hr => ?_); subst hr) | refine JL.S1 rfl (c71) rfl trivial rfl ?_ | refine JL.T1 rfl (c71) rfl rfl ?_ | (refine JL.C1 rfl (c71) rfl (fun r hr => ?_); subst hr)); refine JL.finN ?_; refine JF.Branch 7 [] xk StF.nil (BrF.one rfl rfl ?_ BrF.nil); (· (first | refine JL.M0 xk rfl ?_ | refine JL.Q0 xk rfl ?_); refine JL.finN ?_; refine JF.Branch 8 [] xk StF.nil (BrF.one rfl rfl ?_ BrF.nil); (· (first | refine JL.M0 xk rfl ?_ | refine JL.Q0 xk rfl ?_); refine JL.finN ?_; refine JF.Branch 9 [] xk StF.nil (BrF.one rfl rfl ?_ BrF.nil); (· (first | refine JL.M0 xk rfl ?_ | refine JL.Q0 xk rfl ?_); refine JL.finN ?_; refine JF.Done xk StF.nil ?_; ((exact JW.Auto (by conv => lhs; reduce))))))))); (· (refine JL.M1 xk rfl rfl ?_); refine JL.finN ?_; refine JF.Branch 2 [] xk ?_ ?_; (focus (repeat (first | exact StF.nil | refine StF.One rfl rfl rfl ?_))); refine (BrF.one rfl rfl ?_ BrF.nil); (· (first | refine JL.S1 rfl (c74) rfl trivial rfl ?_ | refine JL.T1 rfl (c74) rfl rfl ?_ | (refine JL.C1 rfl (c74) rfl (fun r hr => ?_); subst hr) | refine JL.S1 rfl (c71) rfl trivial rfl ?_ | refine JL.T1 rfl (c71) rfl rfl ?_ | (refine JL.C1 rfl (c71) rfl (fun r hr => ?_); subst hr)); refine JL.finN ?_; refine JF.Branch 3 [] xk ?_ ?_; (focus (repeat (first | exact StF.nil | refine StF.One rfl rfl rfl ?_))); refine (BrF.one rfl rfl ?_ BrF.nil); (· (first | refine JL.S1 rfl (c74) rfl trivial rfl ?_ | refine JL.T1 rfl (c74) rfl rfl ?_ | (refine JL.C1 rfl (c74) rfl (fun r hr => ?_); subst hr) | refine JL.S1 rfl (c71) rfl trivial rfl ?_ | refine JL.T1 rfl (c71) rfl rfl ?_ | (refine JL.C1 rfl (c71) rfl (fun r hr => ?_); subst hr)); refine JL.finN ?_; refine JF.Branch 7 [] xk StF.nil (BrF.one rfl rfl ?_ BrF.nil); (· (first | refine JL.M0 xk rfl ?_ | refine JL.Q0 xk rfl ?_); refine JL.finN ?_; refine JF.Branch 8 [] xk StF.nil (BrF.one rfl rfl ?_ BrF.nil); (· (first | refine JL.M0 xk rfl ?_ | refine JL.Q0 xk rfl ?_); refine JL.finN ?_; refine JF.Branch 9 [] xk StF.nil (BrF.one rfl rfl ?_ BrF.nil); (· (first | refine JL.M0 xk rfl ?_ | refine JL.Q0 xk rfl ?_); refine JL.finN ?_; refine JF.Done xk StF.nil ?_; ((exact JW.Auto (by conv => lhs; reduce))))))))))); (· (refine JL.M1 xk rfl rfl ?_); refine JL.finN ?_; refine JF.Branch 2 [4, 5] xk ?_ ?_; (focus (repeat (first | exact StF.nil | refine StF.One rfl rfl rfl ?_))); refine (BrF.one rfl rfl ?_ (BrF.one rfl rfl ?_ (BrF.one rfl rfl ?_ BrF.nil))); (· (first | refine JL.S1 rfl (c74) rfl trivial rfl ?_ | refine JL.T1 rfl (c74) rfl rfl ?_ | (refine JL.C1 rfl (c74) rfl (fun r hr => ?_); subst hr) | refine JL.S1 rfl (c71) rfl trivial rfl ?_ | refine JL.T1 rfl (c71) rfl rfl ?_ | (refine JL.C1 rfl (c71) rfl (fun r hr => ?_); subst hr)); refine JL.finN ?_; refine JF.Branch 3 [4, 5] xk ?_ ?_; (focus (repeat (first | exact StF.nil | refine StF.One rfl rfl rfl ?_))); refine (BrF.one rfl rfl ?_ (BrF.one rfl rfl ?_ (BrF.one rfl rfl ?_ BrF.nil))); (· (first | refine JL.S1 rfl (c74) rfl trivial rfl ?_ | refine JL.T1 rfl (c74) rfl rfl ?_ | (refine JL.C1 rfl (c74) rfl (fun r hr => ?_); subst hr) | refine JL.S1 rfl (c71) rfl trivial rfl ?_ | refine JL.T1 rfl (c71) rfl rfl ?_ | (refine JL.C1 rfl (c71) rfl (fun r hr => ?_); subst hr)); refine JL.finN ?_; refine JF.Branch 4 [5] xk StF.nil (BrF.one rfl rfl ?_ (BrF.one rfl rfl ?_ BrF.nil)); (· (refine JL.M1 xk rfl rfl ?_); refine JL.finN ?_; refine JF.Branch 5 [] xk StF.nil (BrF.one rfl rfl ?_ BrF.nil); (· (refine JL.M1 xk rfl rfl ?_); refine JL.finN ?_; refine JF.Branch 7 [] xk StF.nil (BrF.one rfl rfl ?_ BrF.nil); (· (first | refine JL.M0 xk rfl ?_ | refine JL.Q0 xk rfl ?_); refine JL.finN ?_; refine JF.Branch 8 [] xk StF.nil (BrF.one rfl rfl ?_ BrF.nil); (· (first | refine JL.M0 xk rfl ?_ | refine JL.Q0 xk rfl ?_); refine JL.finN ?_; refine JF.Branch 9 [] xk StF.nil (BrF.one rfl rfl ?_ BrF.nil); (· (first | refine JL.M0 xk rfl ?_ | refine JL.Q0 xk rfl ?_); refine JL.finN ?_; refine JF.Done xk StF.nil ?_; ((exact JW.Auto (by conv => lhs; reduce)))))))); (· (refine JL.M1 xk rfl rfl ?_); refine JL.finN ?_; refine JF.Branch 4 [] xk StF.nil (BrF.one rfl rfl ?_ BrF.nil); (· (refine JL.M1 xk rfl rfl ?_); refine JL.finN ?_; refine JF.Branch 7 [] xk StF.nil (BrF.one rfl rfl ?_ BrF.nil); (· (first | refine JL.M0 xk rfl ?_ | refine JL.Q0 xk rfl ?_); refine JL.finN ?_; refine JF.Branch 8 [] xk StF.nil (BrF.one rfl rfl ?_ BrF.nil); (· (first | refine JL.M0 xk rfl ?_ | refine JL.Q0 xk rfl ?_); refine JL.finN ?_; refine JF.Branch 9 [] xk StF.nil (BrF.one rfl rfl ?_ BrF.nil); (· (first | refine JL.M0 xk rfl ?_ | refine JL.Q0 xk rfl ?_); refine JL.finN ?_; refine JF.Done xk StF.nil ?_; ((exact JW.Auto (by conv => lhs; reduce))))))))); (· (refine JL.M1 xk rfl rfl ?_); refine JL.finN ?_; refine JF.Branch 3 [5] xk ?_ ?_; (focus (repeat (first | exact StF.nil | refine StF.One rfl rfl rfl ?_))); refine (BrF.one rfl rfl ?_ (BrF.one rfl rfl ?_ BrF.nil)); (· (first | refine JL.S1 rfl (c74) rfl trivial rfl ?_ | refine JL.T1 rfl (c74) rfl rfl ?_ | (refine JL.C1 rfl (c74) rfl (fun r hr => ?_); subst hr) | refine JL.S1 rfl (c71) rfl trivial rfl ?_ | refine JL.T1 rfl (c71) rfl rfl ?_ | (refine JL.C1 rfl (c71) rfl (fun r hr => ?_); subst hr)); refine JL.finN ?_; refine JF.Branch 5 [] xk StF.nil (BrF.one rfl rfl ?_ BrF.nil); (· (refine JL.M1 xk rfl rfl ?_); refine JL.finN ?_; refine JF.Branch 7 [] xk StF.nil (BrF.one rfl rfl ?_ BrF.nil); (· (first | refine JL.M0 xk rfl ?_ | refine JL.Q0 xk rfl ?_); refine JL.finN ?_; refine JF.Branch 8 [] xk StF.nil (BrF.one rfl rfl ?_ BrF.nil); (· (first | refine JL.M0 xk rfl ?_ | refine JL.Q0 xk rfl ?_); refine JL.finN ?_; refine JF.Branch 9 [] xk StF.nil (BrF.one rfl rfl ?_ BrF.nil); (· (first | refine JL.M0 xk rfl ?_ | refine JL.Q0 xk rfl ?_); refine JL.finN ?_; refine JF.Done xk StF.nil ?_; ((exact JW.Auto (by conv => lhs; reduce)))))))); (· (refine JL.M1 xk rfl rfl ?_); refine JL.finN ?_; refine JF.Branch 3 [] xk ?_ ?_; (focus (repeat (first | exact StF.nil | refine StF.One rfl rfl rfl ?_))); refine (BrF.one rfl rfl ?_ BrF.nil); (· (first | refine JL.S1 rfl (c74) rfl trivial rfl ?_ | refine JL.T1 rfl (c74) rfl rfl ?_ | (refine JL.C1 rfl (c74) rfl (fun r hr => ?_); subst hr) | refine JL.S1 rfl (c71) rfl trivial rfl ?_ | refine JL.T1 rfl (c71) rfl rfl ?_ | (refine JL.C1 rfl (c71) rfl (fun r hr => ?_); subst hr)); refine JL.finN ?_; refine JF.Branch 7 [] xk StF.nil (BrF.one rfl rfl ?_ BrF.nil); (· (first | refine JL.M0 xk rfl ?_ | refine JL.Q0 xk rfl ?_); refine JL.finN ?_; refine JF.Branch 8 [] xk StF.nil (BrF.one rfl rfl ?_ BrF.nil); (· (first | refine JL.M0 xk rfl ?_ | refine JL.Q0 xk rfl ?_); refine JL.finN ?_; refine JF.Branch 9 [] xk StF.nil (BrF.one rfl rfl ?_ BrF.nil); (· (first | refine JL.M0 xk rfl ?_ | refine JL.Q0 xk rfl ?_); refine JL.finN ?_; refine JF.Done xk StF.nil ?_; ((exact JW.Auto (by conv => lhs; reduce))))))))); (· (refine JL.M1 xk rfl rfl ?_); refine JL.finN ?_; refine JF.Branch 3 [4] xk ?_ ?_; (focus (repeat (first | exact StF.nil | refine StF.One rfl rfl rfl ?_))); refine (BrF.one rfl rfl ?_ (BrF.one rfl rfl ?_ BrF.nil)); (· (first | refine JL.S1 rfl (c74) rfl trivial rfl ?_ | refine JL.T1 rfl (c74) rfl rfl ?_ | (refine JL.C1 rfl (c74) rfl (fun r hr => ?_); subst hr) | refine JL.S1 rfl (c71) rfl trivial rfl ?_ | refine JL.T1 rfl (c71) rfl rfl ?_ | (refine JL.C1 rfl (c71) rfl (fun r hr => ?_); subst hr)); refine JL.finN ?_; refine JF.Branch 4 [] xk StF.nil (BrF.one rfl rfl ?_ BrF.nil); (· (refine JL.M1 xk rfl rfl ?_); refine JL.finN ?_; refine JF.Branch 7 [] xk StF.nil (BrF.one rfl rfl ?_ BrF.nil); (· (first | refine JL.M0 xk rfl ?_ | refine JL.Q0 xk rfl ?_); refine JL.finN ?_; refine JF.Branch 8 [] xk StF.nil (BrF.one rfl rfl ?_ BrF.nil); (· (first | refine JL.M0 xk rfl ?_ | refine JL.Q0 xk rfl ?_); refine JL.finN ?_; refine JF.Branch 9 [] xk StF.nil (BrF.one rfl rfl ?_ BrF.nil); (· (first | refine JL.M0 xk rfl ?_ | refine JL.Q0 xk rfl ?_); refine JL.finN ?_; refine JF.Done xk StF.nil ?_; ((exact JW.Auto (by conv => lhs; reduce)))))))); (· (refine JL.M1 xk rfl rfl ?_); refine JL.finN ?_; refine JF.Branch 3 [] xk ?_ ?_; (focus (repeat (first | exact StF.nil | refine StF.One rfl rfl rfl ?_))); refine (BrF.one rfl rfl ?_ BrF.nil); (· (first | refine JL.S1 rfl (c74) rfl trivial rfl ?_ | refine JL.T1 rfl (c74) rfl rfl ?_ | (refine JL.C1 rfl (c74) rfl (fun r hr => ?_); subst hr) | refine JL.S1 rfl (c71) rfl trivial rfl ?_ | refine JL.T1 rfl (c71) rfl rfl ?_ | (refine JL.C1 rfl (c71) rfl (fun r hr => ?_); subst hr)); refine JL.finN ?_; refine JF.Branch 7 [] xk StF.nil (BrF.one rfl rfl ?_ BrF.nil); (· (first | refine JL.M0 xk rfl ?_ | refine JL.Q0 xk rfl ?_); refine JL.finN ?_; refine JF.Branch 8 [] xk StF.nil (BrF.one rfl rfl ?_ BrF.nil); (· (first | refine JL.M0 xk rfl ?_ | refine JL.Q0 xk rfl ?_); refine JL.finN ?_; refine JF.Branch 9 [] xk StF.nil (BrF.one rfl rfl ?_ BrF.nil); (· (first | refine JL.M0 xk rfl ?_ | refine JL.Q0 xk rfl ?_); refine JL.finN ?_; refine JF.Done xk StF.nil ?_; ((exact JW.Auto (by conv => lhs; reduce)))))))))); (· (refine JL.M1 xk rfl rfl ?_); refine JL.finN ?_; refine JF.Branch 2 [5] xk ?_ ?_; (focus (repeat (first | exact StF.nil | refine StF.One rfl rfl rfl ?_))); refine (BrF.one rfl rfl ?_ (BrF.one rfl rfl ?_ BrF.nil)); (· (first | refine JL.S1 rfl (c74) rfl trivial rfl ?_ | refine JL.T1 rfl (c74) rfl rfl ?_ | (refine JL.C1 rfl (c74) rfl (fun r hr => ?_); subst hr) | refine JL.S1 rfl (c71) rfl trivial rfl ?_ | refine JL.T1 rfl (c71) rfl rfl ?_ | (refine JL.C1 rfl (c71) rfl (fun r hr => ?_); subst hr)); refine JL.finN ?_; refine JF.Branch 3 [5] xk ?_ ?_; (focus (repeat (first | exact StF.nil | refine StF.One rfl rfl rfl ?_))); refine (BrF.one rfl rfl ?_ (BrF.one rfl rfl ?_ BrF.nil)); (· (first | refine JL.S1 rfl (c74) rfl trivial rfl ?_ | refine JL.T1 rfl (c74) rfl rfl ?_ | (refine JL.C1 rfl (c74) rfl (fun r hr => ?_); subst hr) | refine JL.S1 rfl (c71) rfl trivial rfl ?_ | refine JL.T1 rfl (c71) rfl rfl ?_ | (refine JL.C1 rfl (c71) rfl (fun r hr => ?_); subst hr)); refine JL.finN ?_; refine JF.Branch 5 [] xk StF.nil (BrF.one rfl rfl ?_ BrF.nil); (· (refine JL.M1 xk rfl rfl ?_); refine JL.finN ?_; refine JF.Branch 7 [] xk StF.nil (BrF.one rfl rfl ?_ BrF.nil); (· (first | refine JL.M0 xk rfl ?_ | refine JL.Q0 xk rfl ?_); refine JL.finN ?_; refine JF.Branch 8 [] xk StF.nil (BrF.one rfl rfl ?_ BrF.nil); (· (first | refine JL.M0 xk rfl ?_ | refine JL.Q0 xk rfl ?_); refine JL.finN ?_; refine JF.Branch 9 [] xk StF.nil (BrF.one rfl rfl ?_ BrF.nil); (· (first | refine JL.M0 xk rfl ?_ | refine JL.Q0 xk rfl ?_); refine JL.finN ?_; refine JF.Done xk StF.nil ?_; ((exact JW.Auto (by conv => lhs; reduce)))))))); (· (refine JL.M1 xk rfl rfl ?_); refine JL.finN ?_; refine JF.Branch 3 [] xk ?_ ?_; (focus (repeat (first | exact StF.nil | refine StF.One rfl rfl rfl ?_))); refine (BrF.one rfl rfl ?_ BrF.nil); (· (first | refine JL.S1 rfl (c74) rfl trivial rfl ?_ | refine JL.T1 rfl (c74) rfl rfl ?_ | (refine JL.C1 rfl (c74) rfl (fun r hr => ?_); subst hr) | refine JL.S1 rfl (c71) rfl trivial rfl ?_ | refine JL.T1 rfl (c71) rfl rfl ?_ | (refine JL.C1 rfl (c71) rfl (fun r hr => ?_); subst hr)); refine JL.finN ?_; refine JF.Branch 7 [] xk StF.nil (BrF.one rfl rfl ?_ BrF.nil); (· (first | refine JL.M0 xk rfl ?_ | refine JL.Q0 xk rfl ?_); refine JL.finN ?_; refine JF.Branch 8 [] xk StF.nil (BrF.one rfl rfl ?_ BrF.nil); (· (first | refine JL.M0 xk rfl ?_ | refine JL.Q0 xk rfl ?_); refine JL.finN ?_; refine JF.Branch 9 [] xk StF.nil (BrF.one rfl rfl ?_ BrF.nil); (· (first | refine JL.M0 xk rfl ?_ | refine JL.Q0 xk rfl ?_); refine JL.finN ?_; refine JF.Done xk StF.nil ?_; ((exact JW.Auto (by conv => lhs; reduce))))))))); (· (refine JL.M1 xk rfl rfl ?_); refine JL.finN ?_; refine JF.Branch 2 [] xk ?_ ?_; (focus (repeat (first | exact StF.nil | refine StF.One rfl rfl rfl ?_))); refine (BrF.one rfl rfl ?_ BrF.nil); (· (first | refine JL.S1 rfl (c74) rfl trivial rfl ?_ | refine JL.T1 rfl (c74) rfl rfl ?_ | (refine JL.C1 rfl (c74) rfl (fun r hr => ?_); subst hr) | refine JL.S1 rfl (c71) rfl trivial rfl ?_ | refine JL.T1 rfl (c71) rfl rfl ?_ | (refine JL.C1 rfl (c71) rfl (fun r hr => ?_); subst hr)); refine JL.finN ?_; refine JF.Branch 3 [] xk ?_ ?_; (focus (repeat (first | exact StF.nil | refine StF.One rfl rfl rfl ?_))); refine (BrF.one rfl rfl ?_ BrF.nil); (· (first | refine JL.S1 rfl (c74) rfl trivial rfl ?_ | refine JL.T1 rfl (c74) rfl rfl ?_ | (refine JL.C1 rfl (c74) rfl (fun r hr => ?_); subst hr) | refine JL.S1 rfl (c71) rfl trivial rfl ?_ | refine JL.T1 rfl (c71) rfl rfl ?_ | (refine JL.C1 rfl (c71) rfl (fun r hr => ?_); subst hr)); refine JL.finN ?_; refine JF.Branch 7 [] xk StF.nil (BrF.one rfl rfl ?_ BrF.nil); (· (first | refine JL.M0 xk rfl ?_ | refine JL.Q0 xk rfl ?_); refine JL.finN ?_; refine JF.Branch 8 [] xk StF.nil (BrF.one rfl rfl ?_ BrF.nil); (· (first | refine JL.M0 xk rfl ?_ | refine JL.Q0 xk rfl ?_); refine JL.finN ?_; refine JF.Branch 9 [] xk StF.nil (BrF.one rfl rfl ?_ BrF.nil); (· (first | refine JL.M0 xk rfl ?_ | refine JL.Q0 xk rfl ?_); refine JL.finN ?_; refine JF.Done xk StF.nil ?_; ((exact JW.Auto (by conv => lhs; reduce)))))))))); (· (refine JL.M1 xk rfl rfl ?_); refine JL.finN ?_; refine JF.Branch 2 [4] xk ?_ ?_; (focus (repeat (first | exact StF.nil | refine StF.One rfl rfl rfl ?_))); refine (BrF.one rfl rfl ?_ (BrF.one rfl rfl ?_ BrF.nil)); (· (first | refine JL.S1 rfl (c74) rfl trivial rfl ?_ | refine JL.T1 rfl (c74) rfl rfl ?_ | (refine JL.C1 rfl (c74) rfl (fun r hr => ?_); subst hr) | refine JL.S1 rfl (c71) rfl trivial rfl ?_ | refine JL.T1 rfl (c71) rfl rfl ?_ | (refine JL.C1 rfl (c71) rfl (fun r hr => ?_); subst hr)); refine JL.finN ?_; refine JF.Branch 3 [4] xk ?_ ?_; (focus (repeat (first | exact StF.nil | refine StF.One rfl rfl rfl ?_))); refine (BrF.one rfl rfl ?_ (BrF.one rfl rfl ?_ BrF.nil)); (· (first | refine JL.S1 rfl (c74) rfl trivial rfl ?_ | refine JL.T1 rfl (c74) rfl rfl ?_ | (refine JL.C1 rfl (c74) rfl (fun r hr => ?_); subst hr) | refine JL.S1 rfl (c71) rfl trivial rfl ?_ | refine JL.T1 rfl (c71) rfl rfl ?_ | (refine JL.C1 rfl (c71) rfl (fun r hr => ?_); subst hr)); refine JL.finN ?_; refine JF.Branch 4 [] xk StF.nil (BrF.one rfl rfl ?_ BrF.nil); (· (refine JL.M1 xk rfl rfl ?_); refine JL.finN ?_; refine JF.Branch 7 [] xk StF.nil (BrF.one rfl rfl ?_ BrF.nil); (· (first | refine JL.M0 xk rfl ?_ | refine JL.Q0 xk rfl ?_); refine JL.finN ?_; refine JF.Branch 8 [] xk StF.nil (BrF.one rfl rfl ?_ BrF.nil); (· (first | refine JL.M0 xk rfl ?_ | refine JL.Q0 xk rfl ?_); refine JL.finN ?_; refine JF.Branch 9 [] xk StF.nil (BrF.one rfl rfl ?_ BrF.nil); (· (first | refine JL.M0 xk rfl ?_ | refine JL.Q0 xk rfl ?_); refine JL.finN ?_; refine JF.Done xk StF.nil ?_; ((exact JW.Auto (by conv => lhs; reduce)))))))); (· (refine JL.M1 xk rfl rfl ?_); refine JL.finN ?_; refine JF.Branch 3 [] xk ?_ ?_; (focus (repeat (first | exact StF.nil | refine StF.One rfl rfl rfl ?_))); refine (BrF.one rfl rfl ?_ BrF.nil); (· (first | refine JL.S1 rfl (c74) rfl trivial rfl ?_ | refine JL.T1 rfl (c74) rfl rfl ?_ | (refine JL.C1 rfl (c74) rfl (fun r hr => ?_); subst hr) | refine JL.S1 rfl (c71) rfl trivial rfl ?_ | refine JL.T1 rfl (c71) rfl rfl ?_ | (refine JL.C1 rfl (c71) rfl (fun r hr => ?_); subst hr)); refine JL.finN ?_; refine JF.Branch 7 [] xk StF.nil (BrF.one rfl rfl ?_ BrF.nil); (· (first | refine JL.M0 xk rfl ?_ | refine JL.Q0 xk rfl ?_); refine JL.finN ?_; refine JF.Branch 8 [] xk StF.nil (BrF.one rfl rfl ?_ BrF.nil); (· (first | refine JL.M0 xk rfl ?_ | refine JL.Q0 xk rfl ?_); refine JL.finN ?_; refine JF.Branch 9 [] xk StF.nil (BrF.one rfl rfl ?_ BrF.nil); (· (first | refine JL.M0 xk rfl ?_ | refine JL.Q0 xk rfl ?_); refine JL.finN ?_; refine JF.Done xk StF.nil ?_; ((exact JW.Auto (by conv => lhs; reduce))))))))); (· (refine JL.M1 xk rfl rfl ?_); refine JL.finN ?_; refine JF.Branch 2 [] xk ?_ ?_; (focus (repeat (first | exact StF.nil | refine StF.One rfl rfl rfl ?_))); refine (BrF.one rfl rfl ?_ BrF.nil); (· (first | refine JL.S1 rfl (c74) rfl trivial rfl ?_ | refine JL.T1 rfl (c74) rfl rfl ?_ | (refine JL.C1 rfl (c74) rfl (fun r hr => ?_); subst hr) | refine JL.S1 rfl (c71) rfl trivial rfl ?_ | refine JL.T1 rfl (c71) rfl rfl ?_ | (refine JL.C1 rfl (c71) rfl (fun r hr => ?_); subst hr)); refine JL.finN ?_; refine JF.Branch 3 [] xk ?_ ?_; (focus (repeat (first | exact StF.nil | refine StF.One rfl rfl rfl ?_))); refine (BrF.one rfl rfl ?_ BrF.nil); (· (first | refine JL.S1 rfl (c74) rfl trivial rfl ?_ | refine JL.T1 rfl (c74) rfl rfl ?_ | (refine JL.C1 rfl (c74) rfl (fun r hr => ?_); subst hr) | refine JL.S1 rfl (c71) rfl trivial rfl ?_ | refine JL.T1 rfl (c71) rfl rfl ?_ | (refine JL.C1 rfl (c71) rfl (fun r hr => ?_); subst hr)); refine JL.finN ?_; refine JF.Branch 7 [] xk StF.nil (BrF.one rfl rfl ?_ BrF.nil); (· (first | refine JL.M0 xk rfl ?_ | refine JL.Q0 xk rfl ?_); refine JL.finN ?_; refine JF.Branch 8 [] xk StF.nil (BrF.one rfl rfl ?_ BrF.nil); (· (first | refine JL.M0 xk rfl ?_ | refine JL.Q0 xk rfl ?_); refine JL.finN ?_; refine JF.Branch 9 [] xk StF.nil (BrF.one rfl rfl ?_ BrF.nil); (· (first | refine JL.M0 xk rfl ?_ | refine JL.Q0 xk rfl ?_); refine JL.finN ?_; refine JF.Done xk StF.nil ?_; ((exact JW.Auto (by conv => lhs; reduce))))))))))))
      have c82 := fn82 P l
      (repeat (first | refine zs rfl ?_ | refine zg rfl rfl rfl ?_ | refine zd ?_ | refine JK.fin ?_ | refine JK.ret ?_ | refine zc rfl (c82) rfl rfl ?_ | refine ze rfl (c82) rfl ?_ | refine zk rfl rfl (fun _ => c82) rfl rfl ?_))
      refine JK.rangeG [4, 5, 8, 10, 11, 12] rfl rfl rfl Try.func102 rfl Try.call102 (Nat.le_of_ble_eq_true rfl) trivial fun M2 up2 a0 b0 ha0 hb0 => ?_
      refine JK.weak (s' := ⟨[(0, .lf (.yld 7)), (1, ppH P l)], K46 a0 b0 P l a b (leR P l) 0 0, 100⟩) (by (exact JW.Auto (by conv => lhs; reduce))) ?_
      refine or_it (Mx := M2) (nX := 7) (rdX := none) 0 73 (by simp) P l h1 h8 (fun pre => K46 a0 b0 P l a b (leR P l) (bsA P l pre).length ((bsA P l pre).filter (folB · a b)).length) ?_ (by omega) ?_ ?_ ?_
      · intro pre; (repeat' (first | exact trivial | exact rfl | refine And.intro ?_ ?_ | exact Nat.le_of_ble_eq_true rfl | refine HO.bdF ?_ | refine HO.bdP ?_ | (refine congrArg (fun z : Int => some (AV.val (.int .i64) z)) ?_; push_cast; omega)))
      · intro pre; exact ⟨8, _, rfl, rfl⟩
      · intro pre o post hp
        have hoL : o ∈ allO l.length := by rw [hp]; simp
        obtain ⟨m1, m2, m3, m4⟩ := allO_has h1 hoL
        have hpl : pre.length < 5040 := by
          have := congrArg List.length hp
          rw [List.length_append, List.length_cons] at this
          omega
        have hbl : (bsA P l pre).length ≤ pre.length := List.length_filter_le _ _
        have hcl : ((bsA P l pre).filter (folB · a b)).length ≤ (bsA P l pre).length := List.length_filter_le _ _
        have hao : a ∈ o := by
          obtain ⟨z, rfl, hpm⟩ := (mem_allO h1).1 hoL
          exact hpm.mem_iff.2 (List.mem_range.2 (by omega))
        have hle := leR_all (P := P) hoL
        have hb2 : bsA P l (pre ++ [o]) = bsA P l pre ++ if rdL P l o = leR P l then [o] else [] := by
          unfold bsA
          rw [List.filter_append]; by_cases h : rdL P l o = leR P l <;> simp [h]
        have hc2 : ∀ h : rdL P l o = leR P l, ((bsA P l (pre ++ [o])).filter (folB · a b)).length = ((bsA P l pre).filter (folB · a b)).length + (if folB o a b = true then 1 else 0) := fun h => by
          rw [hb2, if_pos h, List.filter_append, List.length_append]
          by_cases h : folB o a b = true <;> simp [h]
        have c71o := fn71 P l o hz m2 (by omega)
        rw [← rdL_eq m3] at c71o
        have c83 := fn83 (iL o) (a : Int)
        rw [idxB_nat (k := 0) hao, Nat.zero_add] at c83
        have hfi := fol_idx (b := b) m4 hao
        have hil := List.idxOf_lt_length_of_mem hao
        have hio := iL_len o
        have hnx := nx1_term o (o.idxOf a)
        have hmx := mod_ix hil
        rw [← hio] at hmx
        generalize hn2 : ((bsA P l pre).filter (folB · a b)).length = n2 at hcl hc2 ⊢
        generalize hn1 : (bsA P l pre).length = n1 at hbl hcl ⊢
        refine YO.intro 0 73 (ps := #[45]) (assign := a0) (body := b0) (nO := 73) (LO := [(4, .lf (.optr 1 [])), (5, .lf (.optr 2 [])), (8, .lf (.optr 3 [])), (10, .lf (.optr 4 [])), (11, .lf (.optr 5 [])), (12, .lf (.optr 6 []))]) (L0 := [(45, vL (iL o)), (4, .lf (.optr 1 [])), (5, .lf (.optr 2 [])), (8, .lf (.optr 3 [])), (10, .lf (.optr 4 [])), (11, .lf (.optr 5 [])), (12, .lf (.optr 6 []))]) rfl rfl rfl ⟨8, _, rfl, rfl⟩ ⟨8, _, rfl, rfl⟩ fun M3 M4 up4 bl hup => JK.start (JK.codeEq ha0 ?_)
        (repeat (first | refine zs rfl ?_ | refine zg rfl rfl rfl ?_ | refine zd ?_ | refine JK.fin ?_ | refine JK.ret ?_))
        refine JK.done (asgQ.nor rfl rfl rfl rfl (JK.start (JK.codeEq hb0 ?_)))
        (repeat (first | refine zs rfl ?_ | refine zg rfl rfl rfl ?_ | refine zd ?_ | refine JK.fin ?_ | refine JK.ret ?_ | refine zc rfl (c71o) rfl rfl ?_ | refine ze rfl (c71o) rfl ?_ | refine zk rfl rfl (fun _ => c71o) rfl rfl ?_))
        refine JK.cond rfl (fun hd => ?_) (fun hd => ?_)
        · (simp only [↓cdL] at hd; try simp only [Ty.dflt, Int.toNat_natCast] at hd)
          rw [if_neg (by omega), List.append_nil] at hb2
          (repeat (first | refine zs rfl ?_ | refine zg rfl rfl rfl ?_ | refine zd ?_ | refine JK.fin ?_ | refine JK.ret ?_))
          refine JK.done (bodyQ.of rfl rfl rfl rfl rfl rfl ⟨rfl, ?_⟩)
          show JW _ ⟨[], K46 a0 b0 P l a b (leR P l) (bsA P l (pre ++ [o])).length ((bsA P l (pre ++ [o])).filter (folB · a b)).length, 100⟩ _
          rw [hb2, hn1, hn2]
          (exact JW.Auto (by conv => lhs; reduce))
        · (simp only [↓cdL] at hd; try simp only [Ty.dflt, Int.toNat_natCast] at hd)
          have hbest : rdL P l o = leR P l := by omega
          have hL1 : (((bsA P l (pre ++ [o])).length : Nat) : Int) = (n1 : Int) + 1 := by rw [hb2, if_pos hbest, List.length_append, hn1]; rfl
          have hL2 := hc2 hbest
          generalize o.idxOf a = ix at *
          (repeat (first | refine zs rfl ?_ | refine zg rfl rfl rfl ?_ | refine zd ?_ | refine JK.fin ?_ | refine JK.ret ?_ | refine zc rfl (c83) rfl rfl ?_ | refine ze rfl (c83) rfl ?_ | refine zk rfl rfl (fun _ => c83) rfl rfl ?_))
          refine JK.cond rfl (fun he => ?_) (fun he => ?_)
          · have he2 : ((iL o).getD (((ix : Int) + 1) % ((iL o).length : Int)).toNat 0 == (b : Int)) = true := he
            rw [← hnx, beq_iff_eq] at he2
            rw [if_pos (by rw [hfi]; exact decide_eq_true (Int.ofNat_inj.1 he2))] at hL2
            (repeat (first | refine zs rfl ?_ | refine zg rfl rfl rfl ?_ | refine zd ?_ | refine JK.fin ?_ | refine JK.ret ?_))
            refine JK.done (bodyQ.of rfl rfl rfl rfl rfl rfl ⟨rfl, ?_⟩)
            show JW _ ⟨[], K46 a0 b0 P l a b (leR P l) (bsA P l (pre ++ [o])).length ((bsA P l (pre ++ [o])).filter (folB · a b)).length, 100⟩ _
            rw [hL1, hL2, Int.natCast_add]
            (exact JW.Auto (by conv => lhs; reduce))
          · have he2 : ((iL o).getD (((ix : Int) + 1) % ((iL o).length : Int)).toNat 0 == (b : Int)) = false := he
            rw [← hnx, beq_eq_false_iff_ne] at he2
            rw [if_neg (by rw [hfi]; exact fun h => he2 (by rw [of_decide_eq_true h]))] at hL2
            (repeat (first | refine zs rfl ?_ | refine zg rfl rfl rfl ?_ | refine zd ?_ | refine JK.fin ?_ | refine JK.ret ?_))
            refine JK.done (bodyQ.of rfl rfl rfl rfl rfl rfl ⟨rfl, ?_⟩)
            show JW _ ⟨[], K46 a0 b0 P l a b (leR P l) (bsA P l (pre ++ [o])).length ((bsA P l (pre ++ [o])).filter (folB · a b)).length, 100⟩ _
            rw [hL1, hL2]
            (exact JW.Auto (by conv => lhs; reduce))
      · intro L
        show rngQ _ _ _ _ ⟨L, K46 a0 b0 P l a b (leR P l) (bsA P l (allO l.length)).length ((bsA P l (allO l.length)).filter (folB · a b)).length, 100⟩
        generalize ((bsA P l (allO l.length)).filter (folB · a b)).length = nB
        generalize (bsA P l (allO l.length)).length = nA
        refine rngQ.of (.inr rfl) rfl rfl rfl rfl rfl rfl rfl (endJ.kn ?_)
        (repeat (first | refine zs rfl ?_ | refine zg rfl rfl rfl ?_ | refine zd ?_ | refine JK.fin ?_ | refine JK.ret ?_))
        refine JK.cond rfl (fun he => ?_) (fun he => ?_)
        · have he' : (nB : Int) = 0 := beq_iff_eq.1 he
          rw [if_pos he']
          (repeat (first | refine zs rfl ?_ | refine zg rfl rfl rfl ?_ | refine zd ?_ | refine JK.fin ?_ | refine JK.ret ?_))
          refine ⟨.inl rfl, _, _, rfl, trivial, ?_⟩
          rfl
        · have he' : ¬ (nB : Int) = 0 := beq_eq_false_iff_ne.1 he
          rw [if_neg he']
          (repeat (first | refine zs rfl ?_ | refine zg rfl rfl rfl ?_ | refine zd ?_ | refine JK.fin ?_ | refine JK.ret ?_))
          refine JK.cond rfl (fun hf => ?_) (fun hf => ?_)
          · have hf' : (nB : Int) = (nA : Int) := beq_iff_eq.1 hf
            rw [if_pos hf']
            (repeat (first | refine zs rfl ?_ | refine zg rfl rfl rfl ?_ | refine zd ?_ | refine JK.fin ?_ | refine JK.ret ?_))
            refine ⟨.inl rfl, _, _, rfl, trivial, ?_⟩
            rfl
          · have hf' : ¬ (nB : Int) = (nA : Int) := beq_eq_false_iff_ne.1 hf
            rw [if_neg hf']
            (repeat (first | refine zs rfl ?_ | refine zg rfl rfl rfl ?_ | refine zd ?_ | refine JK.fin ?_ | refine JK.ret ?_))
            refine ⟨.inl rfl, _, _, rfl, trivial, ?_⟩
            rfl
  · have e : kindE P l one two = seE P l := by unfold kindE; rw [if_pos hz]
    have e1 : kindI P l one two = 0 := by unfold kindI; rw [if_neg (by rw [e]; exact hz)]
    rw [e1, e]
    rw [if_neg hz] at c61
    generalize seE P l = z at hz c61 ⊢
    (repeat (first | refine zs rfl ?_ | refine zg rfl rfl rfl ?_ | refine zd ?_ | refine JK.fin ?_ | refine JK.ret ?_ | refine zc rfl (c61) rfl rfl ?_ | refine ze rfl (c61) rfl ?_ | refine zk rfl rfl (fun _ => c61) rfl rfl ?_))
    refine JK.cond rfl (fun _ => ?_) (fun h => ?_)
    · (repeat (first | refine zs rfl ?_ | refine zg rfl rfl rfl ?_ | refine zd ?_ | refine JK.fin ?_ | refine JK.ret ?_))
      refine ⟨.inl rfl, _, _, rfl, trivial, ?_⟩
      rfl
    · (simp only [↓cdL] at h; try simp only [Ty.dflt, Int.toNat_natCast] at h)
      omega
end Go.Proofs.Ytinehlphcckkmaa

namespace Go.Proofs.Ytinehlphcckkmaa
open Go Go.RowKit Ox Ox.Sh Ox.Se
attribute [local irreducible] JC JL JK JW
attribute [local irreducible] ovA stA pkV
abbrev vIB (a : Int) (b : Bool) : AV := .tup (.acons (vI a) (.acons (vB b) .anil))
theorem best_ord {P : Int} {l : List Pt} (hz : seE P l = 0) : ordE P l (iL (bestO P l)) = 0 ∧ rdI P l (iL (bestO P l)) = leR P l := by
  obtain ⟨hP, h1, h8, hl⟩ := se_ok.1 hz
  obtain ⟨b1, b2, b3, b4⟩ := best_has hP.1 h1 h8
  have hn := (allO_has h1 ((mem_bests h1).1 (best_in hP.1 h1 h8)).1).2.2.2
  have ho : ordE P l (iL (bestO P l)) = 0 := ordE_ok.2 ⟨hz, ord_of b1 b2 hn⟩
  refine ⟨ho, ?_⟩
  unfold rdI
  rw [if_pos ho, nat_iL, b4]
theorem fn51 (P : Int) (l : List Pt) : Ox.Fn Try.prog 51 (.acons (vS P l) .anil) (· = vIB (lstI P l) (decide (seE P l = 0))) := by
  refine Ox.Fn.intro xok Try.func51 rfl Try.call51 (Nat.le_of_ble_eq_true rfl) (fun E M0 up => ?_)
  refine JK.start ?_
  have c36 := fn36 P l
  by_cases hz : seE P l = 0
  · obtain ⟨hP, h1, h8, hl⟩ := se_ok.1 hz
    obtain ⟨o1, o2⟩ := best_ord hz
    obtain ⟨b1, b2, b3, b4⟩ := best_has hP.1 h1 h8
    have e1 : bstI P l = iL (bestO P l) := by unfold bstI; rw [if_pos hz]
    have e2 : lstI P l = leR P l := by unfold lstI; rw [if_pos hz]
    rw [e1, e2, hz] at c36
    rw [e2, hz]
    have c31 := fn31 P l (iL (bestO P l))
    rw [o1, o2] at c31
    have hil : (iL (bestO P l)).length = l.length := by rw [iL_len]; exact b1
    have h0 : (iL (bestO P l)).getD (Int.toNat 0) 0 = 0 := by
      obtain ⟨z, hz2, _⟩ := (mem_allO h1).1 ((mem_bests h1).1 (best_in hP.1 h1 h8)).1
      rw [hz2]; rfl
    generalize iL (bestO P l) = B at c36 c31 hil h0
    generalize leR P l = R at c36 c31 ⊢
    (repeat (first | refine zs rfl ?_ | refine zg rfl rfl rfl ?_ | refine zd ?_ | refine JK.fin ?_ | refine JK.ret ?_ | refine zc rfl (c36) rfl rfl ?_ | refine ze rfl (c36) rfl ?_ | refine zk rfl rfl (fun _ => c36) rfl rfl ?_))
    refine JK.cond rfl (fun h => absurd h (by decide)) (fun _ => ?_)
    (repeat (first | refine zs rfl ?_ | refine zg rfl rfl rfl ?_ | refine zd ?_ | refine JK.fin ?_ | refine JK.ret ?_ | refine zc rfl (c31) rfl rfl ?_ | refine ze rfl (c31) rfl ?_ | refine zk rfl rfl (fun _ => c31) rfl rfl ?_))
    refine ⟨.inl rfl, _, _, rfl, trivial, ?_⟩
    show vIB R (bif (bif ((0 : Int) == 0) then (R == R) else false) then (B.getD (Int.toNat 0) 0 == 0) else false) = _
    rw [h0]
    simp
  · have e2 : lstI P l = 0 := by unfold lstI; rw [if_neg hz]
    rw [e2, decide_eq_false hz]
    generalize bstI P l = B at c36
    rw [e2] at c36
    generalize seE P l = z at hz c36
    (repeat (first | refine zs rfl ?_ | refine zg rfl rfl rfl ?_ | refine zd ?_ | refine JK.fin ?_ | refine JK.ret ?_ | refine zc rfl (c36) rfl rfl ?_ | refine ze rfl (c36) rfl ?_ | refine zk rfl rfl (fun _ => c36) rfl rfl ?_))
    refine JK.cond rfl (fun _ => ?_) (fun h => ?_)
    · (repeat (first | refine zs rfl ?_ | refine zg rfl rfl rfl ?_ | refine zd ?_ | refine JK.fin ?_ | refine JK.ret ?_))
      refine ⟨.inl rfl, _, _, rfl, trivial, ?_⟩
      rfl
    · (simp only [↓cdL] at h; try simp only [Ty.dflt, Int.toNat_natCast] at h)
      omega
end Go.Proofs.Ytinehlphcckkmaa

namespace Ox
open Go Go.RowKit
variable {X : Ctx} {s : S} {M : Mem} {ρ : Env} {a a' : Act} {w w' : World} {QA : Exit → S → Prop} {K : S → Prop} {ops : List Oper} {ls fl fr : List Nat} {fuel : Nat}
theorem JF.firstG (i : Nat) {d : Nat} {op : Op} {ty : TypeId} {ps : String} {af : Array Edge} {gg : Nat × Bool} {g : Bool} {cs : List Prop} {v : AV} {L : List (Nat × AV)} {H : List (Nat × HO)} {nx : Nat}
    (hX : XOK X) (hf : fsB ops ls fl i = true) (ho : ops[i]? = some ⟨some d, op, ty, ps, af, some gg⟩) (hg : gOf ops L (some gg) = some g) (hgt : g = true) (e3 : isLoad op = false)
    (h : evq X.T op ⟨L, H, nx⟩ = some (cs, v)) (hd : ltB d X.n = true) (hc : allP cs) (k : JF X ops K fl fuel (i :: ls) ⟨(d, v) :: L, H, nx⟩) : JF X ops K fl (fuel + 1) ls ⟨L, H, nx⟩ := by
  intro M ρ a a' w l fr hsub hnd hl hp h1 h2
  simp only [fsB, Bool.and_eq_true, Bool.not_eq_true'] at hf
  obtain ⟨⟨⟨⟨hnl, hnf⟩, hf⟩, hap⟩, hs, hnd0⟩ := hf
  simp only [frB, ho, Bool.and_eq_true, Bool.not_eq_true'] at hf
  obtain ⟨⟨_, h4⟩, e4⟩ := hf
  have hlt : i < ops.length := (List.getElem?_eq_some_iff.1 ho).1
  have hif : i ∉ fr := fun hc => by simp at hnf; exact hnf (hsub i hc)
  have hed := edgesL_spec.1 h4
  have hapf : ∀ g ∈ fr, ∀ q, ops[g]? = some q → halfB ops q (⟨some d, op, ty, ps, af, some gg⟩ : Oper) = true := by
    intro g hg q hq
    simp only [apB, ho] at hap
    have := List.all_eq_true.1 hap g (hsub g hg)
    rw [hq] at this
    simp only [Bool.or_eq_true] at this
    refine this.resolve_left fun hw => ?_
    obtain ⟨e, he, hb, rfl⟩ := waits_spec.1 hw
    have := (hed e (by simpa using he) hb).2
    rw [sure_mem] at this
    simp [hsub _ hg] at this
  obtain ⟨hb, z, hz, hrun⟩ := evq_soundA hX.t (o := ⟨some d, op, ty, ps, af, some gg⟩) e3 h hc h1 h2
  have hsel : ∀ (j : Nat) (o : Oper) cs b, ops.toArray[j]? = some o → o.op ≠ .select cs b := Region.noSelect_spec hs
  obtain ⟨hx1, hx2⟩ := PutsR.exec (o := ⟨some d, op, ty, ps, af, some gg⟩) (hsel i _ · · (by simpa using ho)) hp fun g hg q hq => (halfB_spec (hapf g hg q hq)).1
  have hw := (gOf_sound (o := ⟨some d, op, ty, ps, af, some gg⟩) hg h2).trans hgt
  rw [show fuel + 1 + fr.length = (fuel + fr.length) + 1 by omega]
  refine wpAny_firstA (fun _ _ _ h => conc_qN h) (i := i) (oi := ⟨some d, op, ty, ps, af, some gg⟩) (v := z) (by simpa using ho) hsel (ndAll_spec hnd0) (fuel + fr.length) l a w ?_ ?_ (.inl ⟨hx2.symm.trans hw, by rw [← hx1]; exact hrun⟩) ?_
  · intro j oj hj hne hun hno
    have hjl : j < ops.length := by have := (Array.getElem?_eq_some_iff.1 hj).1; simpa using this
    refine freeL_spec e4 j oj (by simpa using hj) (by omega) ?_ hno
    rw [hl.getT hjl] at hun
    rw [Nat.zero_add, sure_mem]
    cases hc : ls.contains j with
    | false => rfl
    | true =>
      rw [hc] at hun
      simp at hun
      simp [hsub _ hun]
  · refine mem_ready.2 ⟨by rw [hl.getT hlt, hnl]; rfl, _, by simpa using ho, fun e he hb => ?_⟩
    obtain ⟨e1, e2⟩ := hed e (by simpa using he) hb
    rw [sure_mem, Bool.and_eq_true] at e2
    rw [hl.getT e1, e2.1]
    have : e.on ∉ fr := fun hc => by have := e2.2; simp [hsub _ hc] at this
    simp [this]
  · exact k M ρ _ (a'.put (some d) z) w _ fr hsub hnd (hl.setNew hlt hif) (PutsR.put (d := some d) hp fun f hf o ho' e he hde => (halfB_spec (hapf f hf o ho')).2 e he hde)
      (putS_sat (d := some d) (v := v) h1) (h2.putO (d := some d) (dstOk.spec (ltB_lt hd)) hb hz)
theorem JF.FirstG (i : Nat) {d : Nat} {op : Op} {ty : TypeId} {ps : String} {af : Array Edge} {gg : Nat × Bool} {g : Bool} {cs : List Prop} {v : AV} {L : List (Nat × AV)} {H : List (Nat × HO)} {nx : Nat}
    (hX : XOK X) (ho : ops[i]? = some ⟨some d, op, ty, ps, af, some gg⟩) (hg : gOf ops L (some gg) = some g) (hgt : g = true) (h : evq X.T op ⟨L, H, nx⟩ = some (cs, v)) (k : JF X ops K fl fuel (i :: ls) ⟨(d, v) :: L, H, nx⟩)
    (hf : fsB ops ls fl i = true := by decide +kernel) (e3 : isLoad op = false := by rfl) (hd : ltB d X.n = true := by rfl) (hc : allP cs := by (first | exact trivial | (try dsimp only [allP, inK, idxC, loC, lohiC, fullC, underG, List.append, List.nil_append, List.cons_append, Ty.den, Ty.dflt, Int.toNat_natCast, List.length_cons, List.length_nil] at *); first | omega | ((repeat' (first | exact trivial | assumption | refine And.intro ?_ ?_ | exact fun h => h | (intro hpk; first | exact hpk | simp only [wantB, hpk, Bool.not_false, Bool.not_true]))) <;> omega) | fail)) :
    JF X ops K fl (fuel + 1) ls ⟨L, H, nx⟩ := JF.firstG i hX hf ho hg hgt e3 h hd hc k
end Ox

namespace Go.Proofs.Ytinehlphcckkmaa
open Go Go.RowKit Ox Ox.Sh Ox.Se
attribute [local irreducible] JC JL JK JW
attribute [local irreducible] ovA stA pkV
theorem wf1 : seE 10 exT = 0 := by decide +kernel
theorem wf2 : seE 10 exU = 0 := by decide +kernel
def exS : List Pt := [(7, 5, ()), (2, 8, ()), (0, 3, ())]
theorem wf3 : seE 10 (sdL 10 7 [5, 8, 3]) = 0 := by decide +kernel
theorem wf4 : sdL 10 7 [5, 8, 3] = exS := by decide +kernel
abbrev vT1s (a : AV) : AV := .tup (.acons a (.acons (vI 0) .anil))
set_option maxHeartbeats 80000000 in
theorem fn18 : Ox.Fn Try.prog 18 .anil (· = vB true) := by
  refine Ox.Fn.intro xok Try.func18 rfl Try.call18 (Nat.le_of_ble_eq_true rfl) (fun E M0 up => ?_)
  refine JK.start ?_
  have d56 := fn56
  have d26 : Ox.Fn Try.prog 26 (.acons (vS 10 exT) (.acons (vI 7) .anil)) (· = vT2 2 0) := by
    have := fn26 10 exT 7; rwa [show overI 10 exT 7 = 2 by decide +kernel, show overE 10 exT 7 = 0 by decide +kernel] at this
  have d28 : Ox.Fn Try.prog 28 (.acons (vS 10 exT) .anil) (· = .tup (.acons (vI 2) (.acons (vI 2) (.acons (vI 0) .anil)))) := by
    have := fn28 10 exT; rwa [show pkI 10 exT = 2 by decide +kernel, show paI 10 exT = 2 by decide +kernel, wf1] at this
  have d30 : Ox.Fn Try.prog 30 (.acons (vS 10 exT) (.acons (vL [0, 1, 2, 3]) .anil)) (· = vT2 3 0) := by
    have := fn30 10 exT [0, 1, 2, 3]; rwa [show rdI 10 exT [0, 1, 2, 3] = 3 by decide +kernel, show ordE 10 exT [0, 1, 2, 3] = 0 by decide +kernel] at this
  have d32 : Ox.Fn Try.prog 32 (.acons (vS 10 exT) (.acons (vL [0, 1, 3, 2]) .anil)) (· = vTL [0, 4, 3, 0] 0) := by
    have := fn32 10 exT [0, 1, 3, 2]; rwa [show wasI 10 exT [0, 1, 3, 2] = [0, 4, 3, 0] by decide +kernel, show ordE 10 exT [0, 1, 3, 2] = 0 by decide +kernel] at this
  have d36 : Ox.Fn Try.prog 36 (.acons (vS 10 exT) .anil) (· = vB3 (iL (bestO 10 exT)) 2 0) := by
    have := fn36 10 exT; rwa [show bstI 10 exT = iL (bestO 10 exT) by (unfold bstI; rw [if_pos wf1]), show lstI 10 exT = 2 by decide +kernel, wf1] at this
  have d36u : Ox.Fn Try.prog 36 (.acons (vS 10 exU) .anil) (· = vB3 (bstI 10 exU) 3 0) := by
    have := fn36 10 exU; rwa [show lstI 10 exU = 3 by decide +kernel, wf2] at this
  have d40 : Ox.Fn Try.prog 40 (.acons (vS 10 exU) .anil) (· = vTLL [[0], [1]] 0) := by
    have := fn40 10 exU; rwa [show gpI 10 exU = [[0], [1]] by decide +kernel, wf2] at this
  have d38u : Ox.Fn Try.prog 38 (.acons (vS 10 exU) .anil) (· = vTL [0] 0) := by
    have := fn38 10 exU; rwa [show apI 10 exU = [0] by decide +kernel, show apE 10 exU = 0 by decide +kernel] at this
  have d38 : Ox.Fn Try.prog 38 (.acons (vS 10 exT) .anil) (· = vTL [] 5) := by
    have := fn38 10 exT; rwa [show apI 10 exT = [] by decide +kernel, show apE 10 exT = 5 by decide +kernel] at this
  have d44 : Ox.Fn Try.prog 44 (.acons (vS 10 exU) (.acons (vL [1]) .anil)) (· = vI 0) := by
    have := fn44 10 exU [1]; rwa [show apcE 10 exU [1] = 0 by decide +kernel] at this
  have d46 : Ox.Fn Try.prog 46 (.acons (vS 10 exT) (.acons (vI 0) (.acons (vI 1) .anil))) (· = vT2 1 0) := by
    have := fn46 10 exT 0 1; rwa [show kindI 10 exT 0 1 = 1 by decide +kernel, show kindE 10 exT 0 1 = 0 by decide +kernel] at this
  have d48 : Ox.Fn Try.prog 48 (.acons (vS 10 exT) .anil) (· = vT2 2 0) := by
    have := fn48 10 exT; rwa [show countI 10 exT = 2 by decide +kernel, wf1] at this
  have d19 : Ox.Fn Try.prog 19 (.acons (vI 10) (.acons (vI 7) (.acons (vL [5, 8, 3]) .anil))) (· = vT1s (vS 10 exS)) := by
    have := fn19 10 7 [5, 8, 3] (by decide)
    unfold vSe at this
    rwa [wf3, if_pos rfl, wf4] at this
  have d24 : Ox.Fn Try.prog 24 (.acons (vS 10 exT) (.acons (vL [0, 2]) .anil)) (· = vI 20) := by
    have := fn24 10 exT [0, 2]; rwa [show conE 10 exT [0, 2] = 20 by decide +kernel] at this
  have d31 : Ox.Fn Try.prog 31 (.acons (vS 10 exT) (.acons (vL (iL (bestO 10 exT))) .anil)) (· = vT2 2 0) := by
    have := fn31 10 exT (iL (bestO 10 exT)); rwa [(best_ord wf1).2, (best_ord wf1).1, show leR 10 exT = 2 by decide +kernel] at this
  have d57 : Ox.Fn Try.prog 57 (.acons (vI 10) (.acons (vL [7, 5, 2, 8, 0, 3]) .anil)) (· = vS 10 exS) := by
    have e : setN ([7, 5, 2, 8, 0, 3] : List Int) (([7, 5, 2, 8, 0, 3] : List Int).length / 2) = exS := by decide +kernel
    have := fn57 10 [7, 5, 2, 8, 0, 3] (by decide); rwa [e] at this
  have d23 := fn23 10 10 exS exS
  have d34 := fn34 [0, 4, 3, 0] [0, 4, 3, 0]
  have d43 := fn43 [[0], [1]] [[0], [1]]
  have d42 := fn42 [0] [0]
  rw [decide_eq_true ⟨rfl, rfl⟩] at d23
  rw [decide_eq_true rfl] at d34 d43 d42
  generalize exS = S3 at *
  generalize iL (bestO 10 exT) = B at d36 d31
  generalize bstI 10 exU = BU at d36u
  have hex : exT = exT := rfl
  generalize exT = T at *
  generalize exU = U at *
  (repeat (first | refine zs rfl ?_ | refine zg rfl rfl rfl ?_ | refine zd ?_ | refine JK.fin ?_ | refine JK.ret ?_ | refine zc rfl (d56) rfl rfl ?_ | refine ze rfl (d56) rfl ?_ | refine zk rfl rfl (fun _ => d56) rfl rfl ?_ | refine zc rfl (d26) rfl rfl ?_ | refine ze rfl (d26) rfl ?_ | refine zk rfl rfl (fun _ => d26) rfl rfl ?_ | refine zc rfl (d28) rfl rfl ?_ | refine ze rfl (d28) rfl ?_ | refine zk rfl rfl (fun _ => d28) rfl rfl ?_ | refine zc rfl (d30) rfl rfl ?_ | refine ze rfl (d30) rfl ?_ | refine zk rfl rfl (fun _ => d30) rfl rfl ?_))
  (refine JK.fzL [3] [1,2,3,4,5,6,7,8,9,53,54] rfl ?_)
  (repeat (first | refine zs rfl ?_ | refine zg rfl rfl rfl ?_ | refine zd ?_ | refine JK.fin ?_ | refine JK.ret ?_ | refine zc rfl (d32) rfl rfl ?_ | refine ze rfl (d32) rfl ?_ | refine zk rfl rfl (fun _ => d32) rfl rfl ?_ | refine zc rfl (d36) rfl rfl ?_ | refine ze rfl (d36) rfl ?_ | refine zk rfl rfl (fun _ => d36) rfl rfl ?_ | refine zc rfl (d36u) rfl rfl ?_ | refine ze rfl (d36u) rfl ?_ | refine zk rfl rfl (fun _ => d36u) rfl rfl ?_ | refine zc rfl (d40) rfl rfl ?_ | refine ze rfl (d40) rfl ?_ | refine zk rfl rfl (fun _ => d40) rfl rfl ?_ | refine zc rfl (d38u) rfl rfl ?_ | refine ze rfl (d38u) rfl ?_ | refine zk rfl rfl (fun _ => d38u) rfl rfl ?_ | refine zc rfl (d38) rfl rfl ?_ | refine ze rfl (d38) rfl ?_ | refine zk rfl rfl (fun _ => d38) rfl rfl ?_ | refine zc rfl (d44) rfl rfl ?_ | refine ze rfl (d44) rfl ?_ | refine zk rfl rfl (fun _ => d44) rfl rfl ?_ | refine zc rfl (d46) rfl rfl ?_ | refine ze rfl (d46) rfl ?_ | refine zk rfl rfl (fun _ => d46) rfl rfl ?_ | refine zc rfl (d48) rfl rfl ?_ | refine ze rfl (d48) rfl ?_ | refine zk rfl rfl (fun _ => d48) rfl rfl ?_))
  refine JK.cond rfl (fun h => absurd h (by decide)) (fun _ => ?_)
  (repeat (first | refine zs rfl ?_ | refine zg rfl rfl rfl ?_ | refine zd ?_ | refine JK.fin ?_ | refine JK.ret ?_))
  (refine JK.fzL [5] [1,2,3,5,6,8,10,12,13,16,18,20,25,27,145] rfl ?_)
  (repeat (first | refine zs rfl ?_ | refine zg rfl rfl rfl ?_ | refine JK.fin ?_ | refine JK.ret ?_ | refine zc rfl (d19) rfl rfl ?_ | refine ze rfl (d19) rfl ?_ | refine zk rfl rfl (fun _ => d19) rfl rfl ?_ | refine zc rfl (d24) rfl rfl ?_ | refine ze rfl (d24) rfl ?_ | refine zk rfl rfl (fun _ => d24) rfl rfl ?_ | refine zc rfl (d31) rfl rfl ?_ | refine ze rfl (d31) rfl ?_ | refine zk rfl rfl (fun _ => d31) rfl rfl ?_))
  clear d56 d26 d28 d30 d32 d36 d36u d40 d38u d38 d44 d46 d48 d19 d24 d31
  refine JK.drawP xk (Try.f18.body.getD .skip) rfl 70 rfl ?_
  (refine JF.First 0 xk rfl rfl ?_; refine JF.First 1 xk rfl rfl ?_; refine JF.First 2 xk rfl rfl ?_; refine JF.FirstG 3 xk rfl rfl rfl rfl ?_; refine JF.FirstG 4 xk rfl rfl rfl rfl ?_; refine JF.First 5 xk rfl rfl ?_; refine JF.First 6 xk rfl rfl ?_; refine JF.FirstG 7 xk rfl rfl rfl rfl ?_; refine JF.FirstG 8 xk rfl rfl rfl rfl ?_; refine JF.First 9 xk rfl rfl ?_; refine JF.First 10 xk rfl rfl ?_; refine JF.Branch 11 [12] xk StF.nil (BrF.one rfl rfl ?_ (BrF.one rfl rfl ?_ BrF.nil)); (· (refine JL.G1 xk rfl rfl rfl ?_); refine JL.finN ?_; refine JF.Branch 12 [] xk StF.nil (BrF.one rfl rfl ?_ BrF.nil); (· ((refine JL.gT rfl rfl ?_ ; refine JL.M1 xk rfl rfl ?_)); refine JL.finN ?_; refine JF.Branch 13 [] xk StF.nil (BrF.one rfl rfl ?_ BrF.nil); (· (first | (refine JL.frz (8 :: List.nil) (3 :: 5 :: 6 :: 8 :: 10 :: 13 :: 16 :: 18 :: 20 :: 25 :: 27 :: 29 :: 30 :: 168 :: 169 :: 170 :: List.nil) rfl (by (first | exact trivial | (try dsimp only [allP, inK, idxC, loC, lohiC, fullC, underG, List.append, List.nil_append, List.cons_append, Ty.den, Ty.dflt, Int.toNat_natCast, List.length_cons, List.length_nil] at *); first | omega | ((repeat' (first | exact trivial | assumption | refine And.intro ?_ ?_ | exact fun h => h | (intro hpk; first | exact hpk | simp only [wantB, hpk, Bool.not_false, Bool.not_true]))) <;> omega) | fail)) ?_ ; refine JL.gT rfl rfl ?_ ; refine JL.C1 rfl d57 rfl (fun r hr => ?_) ; subst hr) | (refine JL.frz (8 :: List.nil) (3 :: 5 :: 6 :: 8 :: 10 :: 13 :: 16 :: 18 :: 20 :: 25 :: 27 :: 29 :: 30 :: 168 :: 170 :: List.nil) rfl (by (first | exact trivial | (try dsimp only [allP, inK, idxC, loC, lohiC, fullC, underG, List.append, List.nil_append, List.cons_append, Ty.den, Ty.dflt, Int.toNat_natCast, List.length_cons, List.length_nil] at *); first | omega | ((repeat' (first | exact trivial | assumption | refine And.intro ?_ ?_ | exact fun h => h | (intro hpk; first | exact hpk | simp only [wantB, hpk, Bool.not_false, Bool.not_true]))) <;> omega) | fail)) ?_ ; refine JL.gT rfl rfl ?_ ; refine JL.C1 rfl d57 rfl (fun r hr => ?_) ; subst hr)); refine JL.finN ?_; refine JF.Branch 14 [] xk StF.nil (BrF.one rfl rfl ?_ BrF.nil); (· (refine JL.S1g rfl rfl (fun hgd => d23) rfl trivial rfl ?_); refine JL.finN ?_; refine JF.First 15 xk rfl rfl ?_; refine JF.First 16 xk rfl rfl ?_; refine JF.FirstG 17 xk rfl rfl rfl rfl ?_; refine JF.FirstG 18 xk rfl rfl rfl rfl ?_; refine JF.First 19 xk rfl rfl ?_; refine JF.First 20 xk rfl rfl ?_; refine JF.FirstG 21 xk rfl rfl rfl rfl ?_; refine JF.FirstG 22 xk rfl rfl rfl rfl ?_; refine JF.First 23 xk rfl rfl ?_; refine JF.First 24 xk rfl rfl ?_; refine JF.FirstG 25 xk rfl rfl rfl rfl ?_; refine JF.FirstG 26 xk rfl rfl rfl rfl ?_; refine JF.First 27 xk rfl rfl ?_; refine JF.First 28 xk rfl rfl ?_; refine JF.FirstG 29 xk rfl rfl rfl rfl ?_; refine JF.FirstG 30 xk rfl rfl rfl rfl ?_; refine JF.First 31 xk rfl rfl ?_; refine JF.First 32 xk rfl rfl ?_; refine JF.FirstG 33 xk rfl rfl rfl rfl ?_; refine JF.FirstG 34 xk rfl rfl rfl rfl ?_; refine JF.First 35 xk rfl rfl ?_; refine JF.First 36 xk rfl rfl ?_; refine JF.FirstG 37 xk rfl rfl rfl rfl ?_; refine JF.Branch 38 [] xk StF.nil (BrF.one rfl rfl ?_ BrF.nil); (· ((refine JL.gT rfl rfl ?_ ; refine JL.M1 xk rfl rfl ?_)); refine JL.finN ?_; refine JF.Branch 39 [] xk StF.nil (BrF.one rfl rfl ?_ BrF.nil); (· (refine JL.S1g rfl rfl (fun hgd => d34) rfl trivial rfl ?_); refine JL.finN ?_; refine JF.First 40 xk rfl rfl ?_; refine JF.First 41 xk rfl rfl ?_; refine JF.FirstG 42 xk rfl rfl rfl rfl ?_; refine JF.FirstG 43 xk rfl rfl rfl rfl ?_; refine JF.First 44 xk rfl rfl ?_; refine JF.First 45 xk rfl rfl ?_; refine JF.FirstG 46 xk rfl rfl rfl rfl ?_; refine JF.FirstG 47 xk rfl rfl rfl rfl ?_; refine JF.First 48 xk rfl rfl ?_; refine JF.First 49 xk rfl rfl ?_; refine JF.FirstG 50 xk rfl rfl rfl rfl ?_; refine JF.Branch 51 [52] xk StF.nil (BrF.one rfl rfl ?_ (BrF.one rfl rfl ?_ BrF.nil)); (· ((refine JL.gT rfl rfl ?_ ; refine JL.M1 xk rfl rfl ?_)); refine JL.finN ?_; refine JF.Branch 52 [] xk StF.nil (BrF.one rfl rfl ?_ BrF.nil); (· ((refine JL.gT rfl rfl ?_ ; refine JL.M1 xk rfl rfl ?_)); refine JL.finN ?_; refine JF.Branch 53 [] xk StF.nil (BrF.one rfl rfl ?_ BrF.nil); (· ((refine JL.frz (10 :: 11 :: List.nil) (3 :: 5 :: 6 :: 8 :: 10 :: 13 :: 16 :: 18 :: 20 :: 25 :: 27 :: 29 :: 30 :: 207 :: 208 :: 209 :: 210 :: List.nil) rfl (by (first | exact trivial | (try dsimp only [allP, inK, idxC, loC, lohiC, fullC, underG, List.append, List.nil_append, List.cons_append, Ty.den, Ty.dflt, Int.toNat_natCast, List.length_cons, List.length_nil] at *); first | omega | ((repeat' (first | exact trivial | assumption | refine And.intro ?_ ?_ | exact fun h => h | (intro hpk; first | exact hpk | simp only [wantB, hpk, Bool.not_false, Bool.not_true]))) <;> omega) | fail)) ?_ ; refine JL.gT rfl rfl ?_ ; refine JL.M1 xk rfl rfl ?_)); refine JL.finN ?_; refine JF.Branch 54 [] xk StF.nil (BrF.one rfl rfl ?_ BrF.nil); (· (refine JL.S1g rfl rfl (fun hgd => d43) rfl trivial rfl ?_); refine JL.finN ?_; refine JF.First 55 xk rfl rfl ?_; refine JF.First 56 xk rfl rfl ?_; refine JF.FirstG 57 xk rfl rfl rfl rfl ?_; refine JF.Branch 58 [] xk StF.nil (BrF.one rfl rfl ?_ BrF.nil); (· ((refine JL.gT rfl rfl ?_ ; refine JL.M1 xk rfl rfl ?_)); refine JL.finN ?_; refine JF.Branch 59 [] xk StF.nil (BrF.one rfl rfl ?_ BrF.nil); (· (refine JL.S1g rfl rfl (fun hgd => d42) rfl trivial rfl ?_); refine JL.finN ?_; refine JF.First 60 xk rfl rfl ?_; refine JF.First 61 xk rfl rfl ?_; refine JF.FirstG 62 xk rfl rfl rfl rfl ?_; refine JF.FirstG 63 xk rfl rfl rfl rfl ?_; refine JF.First 64 xk rfl rfl ?_; refine JF.First 65 xk rfl rfl ?_; refine JF.FirstG 66 xk rfl rfl rfl rfl ?_; refine JF.FirstG 67 xk rfl rfl rfl rfl ?_; refine JF.First 68 xk rfl rfl ?_; refine JF.First 69 xk rfl rfl ?_; refine JF.Done xk StF.nil ?_; (((repeat (first | refine zs rfl ?_ | refine zg rfl rfl rfl ?_ | refine zd ?_ | refine JK.fin ?_ | refine JK.ret ?_)); refine ⟨.inl rfl, _, _, rfl, trivial, ?_⟩; rfl)))))))); (· ((refine JL.gT rfl rfl ?_ ; refine JL.M1 xk rfl rfl ?_)); refine JL.finN ?_; refine JF.Branch 51 [] xk StF.nil (BrF.one rfl rfl ?_ BrF.nil); (· ((refine JL.gT rfl rfl ?_ ; refine JL.M1 xk rfl rfl ?_)); refine JL.finN ?_; refine JF.Branch 53 [] xk StF.nil (BrF.one rfl rfl ?_ BrF.nil); (· ((refine JL.frz (10 :: 11 :: List.nil) (3 :: 5 :: 6 :: 8 :: 10 :: 13 :: 16 :: 18 :: 20 :: 25 :: 27 :: 29 :: 30 :: 207 :: 208 :: 209 :: 210 :: List.nil) rfl (by (first | exact trivial | (try dsimp only [allP, inK, idxC, loC, lohiC, fullC, underG, List.append, List.nil_append, List.cons_append, Ty.den, Ty.dflt, Int.toNat_natCast, List.length_cons, List.length_nil] at *); first | omega | ((repeat' (first | exact trivial | assumption | refine And.intro ?_ ?_ | exact fun h => h | (intro hpk; first | exact hpk | simp only [wantB, hpk, Bool.not_false, Bool.not_true]))) <;> omega) | fail)) ?_ ; refine JL.gT rfl rfl ?_ ; refine JL.M1 xk rfl rfl ?_)); refine JL.finN ?_; refine JF.Branch 54 [] xk StF.nil (BrF.one rfl rfl ?_ BrF.nil); (· (refine JL.S1g rfl rfl (fun hgd => d43) rfl trivial rfl ?_); refine JL.finN ?_; refine JF.First 55 xk rfl rfl ?_; refine JF.First 56 xk rfl rfl ?_; refine JF.FirstG 57 xk rfl rfl rfl rfl ?_; refine JF.Branch 58 [] xk StF.nil (BrF.one rfl rfl ?_ BrF.nil); (· ((refine JL.gT rfl rfl ?_ ; refine JL.M1 xk rfl rfl ?_)); refine JL.finN ?_; refine JF.Branch 59 [] xk StF.nil (BrF.one rfl rfl ?_ BrF.nil); (· (refine JL.S1g rfl rfl (fun hgd => d42) rfl trivial rfl ?_); refine JL.finN ?_; refine JF.First 60 xk rfl rfl ?_; refine JF.First 61 xk rfl rfl ?_; refine JF.FirstG 62 xk rfl rfl rfl rfl ?_; refine JF.FirstG 63 xk rfl rfl rfl rfl ?_; refine JF.First 64 xk rfl rfl ?_; refine JF.First 65 xk rfl rfl ?_; refine JF.FirstG 66 xk rfl rfl rfl rfl ?_; refine JF.FirstG 67 xk rfl rfl rfl rfl ?_; refine JF.First 68 xk rfl rfl ?_; refine JF.First 69 xk rfl rfl ?_; refine JF.Done xk StF.nil ?_; (((repeat (first | refine zs rfl ?_ | refine zg rfl rfl rfl ?_ | refine zd ?_ | refine JK.fin ?_ | refine JK.ret ?_)); refine ⟨.inl rfl, _, _, rfl, trivial, ?_⟩; rfl)))))))))))))); (· ((refine JL.gT rfl rfl ?_ ; refine JL.M1 xk rfl rfl ?_)); refine JL.finN ?_; refine JF.Branch 11 [13] xk StF.nil (BrF.one rfl rfl ?_ (BrF.one rfl rfl ?_ BrF.nil)); (· (refine JL.G1 xk rfl rfl rfl ?_); refine JL.finN ?_; refine JF.Branch 13 [] xk StF.nil (BrF.one rfl rfl ?_ BrF.nil); (· (first | (refine JL.frz (8 :: List.nil) (3 :: 5 :: 6 :: 8 :: 10 :: 13 :: 16 :: 18 :: 20 :: 25 :: 27 :: 29 :: 30 :: 168 :: 169 :: 170 :: List.nil) rfl (by (first | exact trivial | (try dsimp only [allP, inK, idxC, loC, lohiC, fullC, underG, List.append, List.nil_append, List.cons_append, Ty.den, Ty.dflt, Int.toNat_natCast, List.length_cons, List.length_nil] at *); first | omega | ((repeat' (first | exact trivial | assumption | refine And.intro ?_ ?_ | exact fun h => h | (intro hpk; first | exact hpk | simp only [wantB, hpk, Bool.not_false, Bool.not_true]))) <;> omega) | fail)) ?_ ; refine JL.gT rfl rfl ?_ ; refine JL.C1 rfl d57 rfl (fun r hr => ?_) ; subst hr) | (refine JL.frz (8 :: List.nil) (3 :: 5 :: 6 :: 8 :: 10 :: 13 :: 16 :: 18 :: 20 :: 25 :: 27 :: 29 :: 30 :: 168 :: 170 :: List.nil) rfl (by (first | exact trivial | (try dsimp only [allP, inK, idxC, loC, lohiC, fullC, underG, List.append, List.nil_append, List.cons_append, Ty.den, Ty.dflt, Int.toNat_natCast, List.length_cons, List.length_nil] at *); first | omega | ((repeat' (first | exact trivial | assumption | refine And.intro ?_ ?_ | exact fun h => h | (intro hpk; first | exact hpk | simp only [wantB, hpk, Bool.not_false, Bool.not_true]))) <;> omega) | fail)) ?_ ; refine JL.gT rfl rfl ?_ ; refine JL.C1 rfl d57 rfl (fun r hr => ?_) ; subst hr)); refine JL.finN ?_; refine JF.Branch 14 [] xk StF.nil (BrF.one rfl rfl ?_ BrF.nil); (· (refine JL.S1g rfl rfl (fun hgd => d23) rfl trivial rfl ?_); refine JL.finN ?_; refine JF.First 15 xk rfl rfl ?_; refine JF.First 16 xk rfl rfl ?_; refine JF.FirstG 17 xk rfl rfl rfl rfl ?_; refine JF.FirstG 18 xk rfl rfl rfl rfl ?_; refine JF.First 19 xk rfl rfl ?_; refine JF.First 20 xk rfl rfl ?_; refine JF.FirstG 21 xk rfl rfl rfl rfl ?_; refine JF.FirstG 22 xk rfl rfl rfl rfl ?_; refine JF.First 23 xk rfl rfl ?_; refine JF.First 24 xk rfl rfl ?_; refine JF.FirstG 25 xk rfl rfl rfl rfl ?_; refine JF.FirstG 26 xk rfl rfl rfl rfl ?_; refine JF.First 27 xk rfl rfl ?_; refine JF.First 28 xk rfl rfl ?_; refine JF.FirstG 29 xk rfl rfl rfl rfl ?_; refine JF.FirstG 30 xk rfl rfl rfl rfl ?_; refine JF.First 31 xk rfl rfl ?_; refine JF.First 32 xk rfl rfl ?_; refine JF.FirstG 33 xk rfl rfl rfl rfl ?_; refine JF.FirstG 34 xk rfl rfl rfl rfl ?_; refine JF.First 35 xk rfl rfl ?_; refine JF.First 36 xk rfl rfl ?_; refine JF.FirstG 37 xk rfl rfl rfl rfl ?_; refine JF.Branch 38 [] xk StF.nil (BrF.one rfl rfl ?_ BrF.nil); (· ((refine JL.gT rfl rfl ?_ ; refine JL.M1 xk rfl rfl ?_)); refine JL.finN ?_; refine JF.Branch 39 [] xk StF.nil (BrF.one rfl rfl ?_ BrF.nil); (· (refine JL.S1g rfl rfl (fun hgd => d34) rfl trivial rfl ?_); refine JL.finN ?_; refine JF.First 40 xk rfl rfl ?_; refine JF.First 41 xk rfl rfl ?_; refine JF.FirstG 42 xk rfl rfl rfl rfl ?_; refine JF.FirstG 43 xk rfl rfl rfl rfl ?_; refine JF.First 44 xk rfl rfl ?_; refine JF.First 45 xk rfl rfl ?_; refine JF.FirstG 46 xk rfl rfl rfl rfl ?_; refine JF.FirstG 47 xk rfl rfl rfl rfl ?_; refine JF.First 48 xk rfl rfl ?_; refine JF.First 49 xk rfl rfl ?_; refine JF.FirstG 50 xk rfl rfl rfl rfl ?_; refine JF.Branch 51 [52] xk StF.nil (BrF.one rfl rfl ?_ (BrF.one rfl rfl ?_ BrF.nil)); (· ((refine JL.gT rfl rfl ?_ ; refine JL.M1 xk rfl rfl ?_)); refine JL.finN ?_; refine JF.Branch 52 [] xk StF.nil (BrF.one rfl rfl ?_ BrF.nil); (· ((refine JL.gT rfl rfl ?_ ; refine JL.M1 xk rfl rfl ?_)); refine JL.finN ?_; refine JF.Branch 53 [] xk StF.nil (BrF.one rfl rfl ?_ BrF.nil); (· ((refine JL.frz (10 :: 11 :: List.nil) (3 :: 5 :: 6 :: 8 :: 10 :: 13 :: 16 :: 18 :: 20 :: 25 :: 27 :: 29 :: 30 :: 207 :: 208 :: 209 :: 210 :: List.nil) rfl (by (first | exact trivial | (try dsimp only [allP, inK, idxC, loC, lohiC, fullC, underG, List.append, List.nil_append, List.cons_append, Ty.den, Ty.dflt, Int.toNat_natCast, List.length_cons, List.length_nil] at *); first | omega | ((repeat' (first | exact trivial | assumption | refine And.intro ?_ ?_ | exact fun h => h | (intro hpk; first | exact hpk | simp only [wantB, hpk, Bool.not_false, Bool.not_true]))) <;> omega) | fail)) ?_ ; refine JL.gT rfl rfl ?_ ; refine JL.M1 xk rfl rfl ?_)); refine JL.finN ?_; refine JF.Branch 54 [] xk StF.nil (BrF.one rfl rfl ?_ BrF.nil); (· (refine JL.S1g rfl rfl (fun hgd => d43) rfl trivial rfl ?_); refine JL.finN ?_; refine JF.First 55 xk rfl rfl ?_; refine JF.First 56 xk rfl rfl ?_; refine JF.FirstG 57 xk rfl rfl rfl rfl ?_; refine JF.Branch 58 [] xk StF.nil (BrF.one rfl rfl ?_ BrF.nil); (· ((refine JL.gT rfl rfl ?_ ; refine JL.M1 xk rfl rfl ?_)); refine JL.finN ?_; refine JF.Branch 59 [] xk StF.nil (BrF.one rfl rfl ?_ BrF.nil); (· (refine JL.S1g rfl rfl (fun hgd => d42) rfl trivial rfl ?_); refine JL.finN ?_; refine JF.First 60 xk rfl rfl ?_; refine JF.First 61 xk rfl rfl ?_; refine JF.FirstG 62 xk rfl rfl rfl rfl ?_; refine JF.FirstG 63 xk rfl rfl rfl rfl ?_; refine JF.First 64 xk rfl rfl ?_; refine JF.First 65 xk rfl rfl ?_; refine JF.FirstG 66 xk rfl rfl rfl rfl ?_; refine JF.FirstG 67 xk rfl rfl rfl rfl ?_; refine JF.First 68 xk rfl rfl ?_; refine JF.First 69 xk rfl rfl ?_; refine JF.Done xk StF.nil ?_; (((repeat (first | refine zs rfl ?_ | refine zg rfl rfl rfl ?_ | refine zd ?_ | refine JK.fin ?_ | refine JK.ret ?_)); refine ⟨.inl rfl, _, _, rfl, trivial, ?_⟩; rfl)))))))); (· ((refine JL.gT rfl rfl ?_ ; refine JL.M1 xk rfl rfl ?_)); refine JL.finN ?_; refine JF.Branch 51 [] xk StF.nil (BrF.one rfl rfl ?_ BrF.nil); (· ((refine JL.gT rfl rfl ?_ ; refine JL.M1 xk rfl rfl ?_)); refine JL.finN ?_; refine JF.Branch 53 [] xk StF.nil (BrF.one rfl rfl ?_ BrF.nil); (· ((refine JL.frz (10 :: 11 :: List.nil) (3 :: 5 :: 6 :: 8 :: 10 :: 13 :: 16 :: 18 :: 20 :: 25 :: 27 :: 29 :: 30 :: 207 :: 208 :: 209 :: 210 :: List.nil) rfl (by (first | exact trivial | (try dsimp only [allP, inK, idxC, loC, lohiC, fullC, underG, List.append, List.nil_append, List.cons_append, Ty.den, Ty.dflt, Int.toNat_natCast, List.length_cons, List.length_nil] at *); first | omega | ((repeat' (first | exact trivial | assumption | refine And.intro ?_ ?_ | exact fun h => h | (intro hpk; first | exact hpk | simp only [wantB, hpk, Bool.not_false, Bool.not_true]))) <;> omega) | fail)) ?_ ; refine JL.gT rfl rfl ?_ ; refine JL.M1 xk rfl rfl ?_)); refine JL.finN ?_; refine JF.Branch 54 [] xk StF.nil (BrF.one rfl rfl ?_ BrF.nil); (· (refine JL.S1g rfl rfl (fun hgd => d43) rfl trivial rfl ?_); refine JL.finN ?_; refine JF.First 55 xk rfl rfl ?_; refine JF.First 56 xk rfl rfl ?_; refine JF.FirstG 57 xk rfl rfl rfl rfl ?_; refine JF.Branch 58 [] xk StF.nil (BrF.one rfl rfl ?_ BrF.nil); (· ((refine JL.gT rfl rfl ?_ ; refine JL.M1 xk rfl rfl ?_)); refine JL.finN ?_; refine JF.Branch 59 [] xk StF.nil (BrF.one rfl rfl ?_ BrF.nil); (· (refine JL.S1g rfl rfl (fun hgd => d42) rfl trivial rfl ?_); refine JL.finN ?_; refine JF.First 60 xk rfl rfl ?_; refine JF.First 61 xk rfl rfl ?_; refine JF.FirstG 62 xk rfl rfl rfl rfl ?_; refine JF.FirstG 63 xk rfl rfl rfl rfl ?_; refine JF.First 64 xk rfl rfl ?_; refine JF.First 65 xk rfl rfl ?_; refine JF.FirstG 66 xk rfl rfl rfl rfl ?_; refine JF.FirstG 67 xk rfl rfl rfl rfl ?_; refine JF.First 68 xk rfl rfl ?_; refine JF.First 69 xk rfl rfl ?_; refine JF.Done xk StF.nil ?_; (((repeat (first | refine zs rfl ?_ | refine zg rfl rfl rfl ?_ | refine zd ?_ | refine JK.fin ?_ | refine JK.ret ?_)); refine ⟨.inl rfl, _, _, rfl, trivial, ?_⟩; rfl))))))))))))); (· (first | (refine JL.frz (8 :: List.nil) (3 :: 5 :: 6 :: 8 :: 10 :: 13 :: 16 :: 18 :: 20 :: 25 :: 27 :: 29 :: 30 :: 168 :: 169 :: 170 :: List.nil) rfl (by (first | exact trivial | (try dsimp only [allP, inK, idxC, loC, lohiC, fullC, underG, List.append, List.nil_append, List.cons_append, Ty.den, Ty.dflt, Int.toNat_natCast, List.length_cons, List.length_nil] at *); first | omega | ((repeat' (first | exact trivial | assumption | refine And.intro ?_ ?_ | exact fun h => h | (intro hpk; first | exact hpk | simp only [wantB, hpk, Bool.not_false, Bool.not_true]))) <;> omega) | fail)) ?_ ; refine JL.gT rfl rfl ?_ ; refine JL.C1 rfl d57 rfl (fun r hr => ?_) ; subst hr) | (refine JL.frz (8 :: List.nil) (3 :: 5 :: 6 :: 8 :: 10 :: 13 :: 16 :: 18 :: 20 :: 25 :: 27 :: 29 :: 30 :: 168 :: 170 :: List.nil) rfl (by (first | exact trivial | (try dsimp only [allP, inK, idxC, loC, lohiC, fullC, underG, List.append, List.nil_append, List.cons_append, Ty.den, Ty.dflt, Int.toNat_natCast, List.length_cons, List.length_nil] at *); first | omega | ((repeat' (first | exact trivial | assumption | refine And.intro ?_ ?_ | exact fun h => h | (intro hpk; first | exact hpk | simp only [wantB, hpk, Bool.not_false, Bool.not_true]))) <;> omega) | fail)) ?_ ; refine JL.gT rfl rfl ?_ ; refine JL.C1 rfl d57 rfl (fun r hr => ?_) ; subst hr)); refine JL.finN ?_; refine JF.Branch 11 [] xk StF.nil (BrF.one rfl rfl ?_ BrF.nil); (· (refine JL.G1 xk rfl rfl rfl ?_); refine JL.finN ?_; refine JF.Branch 14 [] xk StF.nil (BrF.one rfl rfl ?_ BrF.nil); (· (refine JL.S1g rfl rfl (fun hgd => d23) rfl trivial rfl ?_); refine JL.finN ?_; refine JF.First 15 xk rfl rfl ?_; refine JF.First 16 xk rfl rfl ?_; refine JF.FirstG 17 xk rfl rfl rfl rfl ?_; refine JF.FirstG 18 xk rfl rfl rfl rfl ?_; refine JF.First 19 xk rfl rfl ?_; refine JF.First 20 xk rfl rfl ?_; refine JF.FirstG 21 xk rfl rfl rfl rfl ?_; refine JF.FirstG 22 xk rfl rfl rfl rfl ?_; refine JF.First 23 xk rfl rfl ?_; refine JF.First 24 xk rfl rfl ?_; refine JF.FirstG 25 xk rfl rfl rfl rfl ?_; refine JF.FirstG 26 xk rfl rfl rfl rfl ?_; refine JF.First 27 xk rfl rfl ?_; refine JF.First 28 xk rfl rfl ?_; refine JF.FirstG 29 xk rfl rfl rfl rfl ?_; refine JF.FirstG 30 xk rfl rfl rfl rfl ?_; refine JF.First 31 xk rfl rfl ?_; refine JF.First 32 xk rfl rfl ?_; refine JF.FirstG 33 xk rfl rfl rfl rfl ?_; refine JF.FirstG 34 xk rfl rfl rfl rfl ?_; refine JF.First 35 xk rfl rfl ?_; refine JF.First 36 xk rfl rfl ?_; refine JF.FirstG 37 xk rfl rfl rfl rfl ?_; refine JF.Branch 38 [] xk StF.nil (BrF.one rfl rfl ?_ BrF.nil); (· ((refine JL.gT rfl rfl ?_ ; refine JL.M1 xk rfl rfl ?_)); refine JL.finN ?_; refine JF.Branch 39 [] xk StF.nil (BrF.one rfl rfl ?_ BrF.nil); (· (refine JL.S1g rfl rfl (fun hgd => d34) rfl trivial rfl ?_); refine JL.finN ?_; refine JF.First 40 xk rfl rfl ?_; refine JF.First 41 xk rfl rfl ?_; refine JF.FirstG 42 xk rfl rfl rfl rfl ?_; refine JF.FirstG 43 xk rfl rfl rfl rfl ?_; refine JF.First 44 xk rfl rfl ?_; refine JF.First 45 xk rfl rfl ?_; refine JF.FirstG 46 xk rfl rfl rfl rfl ?_; refine JF.FirstG 47 xk rfl rfl rfl rfl ?_; refine JF.First 48 xk rfl rfl ?_; refine JF.First 49 xk rfl rfl ?_; refine JF.FirstG 50 xk rfl rfl rfl rfl ?_; refine JF.Branch 51 [52] xk StF.nil (BrF.one rfl rfl ?_ (BrF.one rfl rfl ?_ BrF.nil)); (· ((refine JL.gT rfl rfl ?_ ; refine JL.M1 xk rfl rfl ?_)); refine JL.finN ?_; refine JF.Branch 52 [] xk StF.nil (BrF.one rfl rfl ?_ BrF.nil); (· ((refine JL.gT rfl rfl ?_ ; refine JL.M1 xk rfl rfl ?_)); refine JL.finN ?_; refine JF.Branch 53 [] xk StF.nil (BrF.one rfl rfl ?_ BrF.nil); (· ((refine JL.frz (10 :: 11 :: List.nil) (3 :: 5 :: 6 :: 8 :: 10 :: 13 :: 16 :: 18 :: 20 :: 25 :: 27 :: 29 :: 30 :: 207 :: 208 :: 209 :: 210 :: List.nil) rfl (by (first | exact trivial | (try dsimp only [allP, inK, idxC, loC, lohiC, fullC, underG, List.append, List.nil_append, List.cons_append, Ty.den, Ty.dflt, Int.toNat_natCast, List.length_cons, List.length_nil] at *); first | omega | ((repeat' (first | exact trivial | assumption | refine And.intro ?_ ?_ | exact fun h => h | (intro hpk; first | exact hpk | simp only [wantB, hpk, Bool.not_false, Bool.not_true]))) <;> omega) | fail)) ?_ ; refine JL.gT rfl rfl ?_ ; refine JL.M1 xk rfl rfl ?_)); refine JL.finN ?_; refine JF.Branch 54 [] xk StF.nil (BrF.one rfl rfl ?_ BrF.nil); (· (refine JL.S1g rfl rfl (fun hgd => d43) rfl trivial rfl ?_); refine JL.finN ?_; refine JF.First 55 xk rfl rfl ?_; refine JF.First 56 xk rfl rfl ?_; refine JF.FirstG 57 xk rfl rfl rfl rfl ?_; refine JF.Branch 58 [] xk StF.nil (BrF.one rfl rfl ?_ BrF.nil); (· ((refine JL.gT rfl rfl ?_ ; refine JL.M1 xk rfl rfl ?_)); refine JL.finN ?_; refine JF.Branch 59 [] xk StF.nil (BrF.one rfl rfl ?_ BrF.nil); (· (refine JL.S1g rfl rfl (fun hgd => d42) rfl trivial rfl ?_); refine JL.finN ?_; refine JF.First 60 xk rfl rfl ?_; refine JF.First 61 xk rfl rfl ?_; refine JF.FirstG 62 xk rfl rfl rfl rfl ?_; refine JF.FirstG 63 xk rfl rfl rfl rfl ?_; refine JF.First 64 xk rfl rfl ?_; refine JF.First 65 xk rfl rfl ?_; refine JF.FirstG 66 xk rfl rfl rfl rfl ?_; refine JF.FirstG 67 xk rfl rfl rfl rfl ?_; refine JF.First 68 xk rfl rfl ?_; refine JF.First 69 xk rfl rfl ?_; refine JF.Done xk StF.nil ?_; (((repeat (first | refine zs rfl ?_ | refine zg rfl rfl rfl ?_ | refine zd ?_ | refine JK.fin ?_ | refine JK.ret ?_)); refine ⟨.inl rfl, _, _, rfl, trivial, ?_⟩; rfl)))))))); (· ((refine JL.gT rfl rfl ?_ ; refine JL.M1 xk rfl rfl ?_)); refine JL.finN ?_; refine JF.Branch 51 [] xk StF.nil (BrF.one rfl rfl ?_ BrF.nil); (· ((refine JL.gT rfl rfl ?_ ; refine JL.M1 xk rfl rfl ?_)); refine JL.finN ?_; refine JF.Branch 53 [] xk StF.nil (BrF.one rfl rfl ?_ BrF.nil); (· ((refine JL.frz (10 :: 11 :: List.nil) (3 :: 5 :: 6 :: 8 :: 10 :: 13 :: 16 :: 18 :: 20 :: 25 :: 27 :: 29 :: 30 :: 207 :: 208 :: 209 :: 210 :: List.nil) rfl (by (first | exact trivial | (try dsimp only [allP, inK, idxC, loC, lohiC, fullC, underG, List.append, List.nil_append, List.cons_append, Ty.den, Ty.dflt, Int.toNat_natCast, List.length_cons, List.length_nil] at *); first | omega | ((repeat' (first | exact trivial | assumption | refine And.intro ?_ ?_ | exact fun h => h | (intro hpk; first | exact hpk | simp only [wantB, hpk, Bool.not_false, Bool.not_true]))) <;> omega) | fail)) ?_ ; refine JL.gT rfl rfl ?_ ; refine JL.M1 xk rfl rfl ?_)); refine JL.finN ?_; refine JF.Branch 54 [] xk StF.nil (BrF.one rfl rfl ?_ BrF.nil); (· (refine JL.S1g rfl rfl (fun hgd => d43) rfl trivial rfl ?_); refine JL.finN ?_; refine JF.First 55 xk rfl rfl ?_; refine JF.First 56 xk rfl rfl ?_; refine JF.FirstG 57 xk rfl rfl rfl rfl ?_; refine JF.Branch 58 [] xk StF.nil (BrF.one rfl rfl ?_ BrF.nil); (· ((refine JL.gT rfl rfl ?_ ; refine JL.M1 xk rfl rfl ?_)); refine JL.finN ?_; refine JF.Branch 59 [] xk StF.nil (BrF.one rfl rfl ?_ BrF.nil); (· (refine JL.S1g rfl rfl (fun hgd => d42) rfl trivial rfl ?_); refine JL.finN ?_; refine JF.First 60 xk rfl rfl ?_; refine JF.First 61 xk rfl rfl ?_; refine JF.FirstG 62 xk rfl rfl rfl rfl ?_; refine JF.FirstG 63 xk rfl rfl rfl rfl ?_; refine JF.First 64 xk rfl rfl ?_; refine JF.First 65 xk rfl rfl ?_; refine JF.FirstG 66 xk rfl rfl rfl rfl ?_; refine JF.FirstG 67 xk rfl rfl rfl rfl ?_; refine JF.First 68 xk rfl rfl ?_; refine JF.First 69 xk rfl rfl ?_; refine JF.Done xk StF.nil ?_; (((repeat (first | refine zs rfl ?_ | refine zg rfl rfl rfl ?_ | refine zd ?_ | refine JK.fin ?_ | refine JK.ret ?_)); refine ⟨.inl rfl, _, _, rfl, trivial, ?_⟩; rfl)))))))))))))))
end Go.Proofs.Ytinehlphcckkmaa

namespace Go.Proofs.Ytinehlphcckkmaa
open Go Go.RowKit Ox Ox.Sh Ox.Se
variable {P : Int} {l m : List Pt}
abbrev rotL {α : Type} (o : List α) (k : Nat) : List α := o.drop k ++ o.take k
theorem rot_len {α : Type} (o : List α) (k : Nat) : (rotL o k).length = o.length := by
  rw [List.length_append, List.length_drop, List.length_take]; omega
theorem rot_get {α : Type} (o : List α) (d : α) {k i : Nat} (hk : k < o.length) (hi : i < o.length) : (rotL o k).getD i d = o.getD ((i + k) % o.length) d := by
  have hm : (i + k) % o.length < o.length := Nat.mod_lt _ (by omega)
  rw [getD_nat _ (by rw [rot_len]; exact hi), getD_nat _ hm]
  by_cases h : i + k < o.length
  · rw [List.getElem_append_left (by rw [List.length_drop]; omega), List.getElem_drop]
    congr 1
    rw [Nat.mod_eq_of_lt h]; omega
  · rw [List.getElem_append_right (by rw [List.length_drop]; omega), List.getElem_take]
    congr 1
    rw [List.length_drop, Nat.mod_eq_sub_mod (by omega), Nat.mod_eq_of_lt (by omega)]; omega
theorem rot_rd (o : List Nat) {k : Nat} (hk : k < o.length) : rdL P l (rotL o k) = rdL P l o := by
  cases k with
  | zero => rw [rotL, List.drop_zero, List.take_zero, List.append_nil]
  | succ k =>
    cases o with
    | nil => cases hk
    | cons h t =>
      have hk' : k < t.length := by simpa using hk
      have e1 : t = t.take k ++ t[k] :: t.drop (k + 1) := by rw [← List.drop_eq_getElem_cons hk', List.take_append_drop]
      have e2 : rotL (h :: t) (k + 1) = t[k] :: (t.drop (k + 1) ++ h :: t.take k) := by
        rw [rotL, List.drop_succ_cons, List.take_succ_cons, List.drop_eq_getElem_cons hk', List.cons_append]
      rw [e2]
      have := tot_rot (P := P) (l := l) h t[k] (t.take k) (t.drop (k + 1))
      rw [← e1] at this
      show tot P l _ _ / P = tot P l h t / P
      rw [this]
theorem rot_perm' {α : Type} (o : List α) (k : Nat) : (rotL o k).Perm o := by
  have h : o.Perm (o.take k ++ o.drop k) := by rw [List.take_append_drop]
  exact (List.perm_append_comm).trans h.symm
theorem mod_two {n i k : Nat} (hn : 0 < n) : ((i + 1) % n + k) % n = ((i + k) % n + 1) % n := by
  rw [Nat.mod_add_mod, Nat.mod_add_mod]; congr 1; omega
theorem nx1_rot (o : List Nat) {k i : Nat} (hk : k < o.length) (hi : i < o.length) : nx1 (rotL o k) i = nx1 o ((i + k) % o.length) := by
  unfold nx1
  rw [rot_len, rot_get o 0 hk (Nat.mod_lt _ (by omega)), mod_two (by omega)]
theorem folB_iff {o : List Nat} {a b : Nat} : folB o a b = true ↔ ∃ i, i < o.length ∧ o.getD i 0 = a ∧ nx1 o i = b := by
  unfold folB
  rw [List.any_eq_true]
  constructor
  · rintro ⟨i, hi, h⟩
    rw [Bool.and_eq_true, decide_eq_true_iff, decide_eq_true_iff] at h
    exact ⟨i, List.mem_range.1 hi, h.1, h.2⟩
  · rintro ⟨i, hi, h1, h2⟩
    exact ⟨i, List.mem_range.2 hi, by rw [decide_eq_true h1, decide_eq_true h2]; rfl⟩
theorem folB_rot {o : List Nat} {k a b : Nat} (hk : k < o.length) : folB (rotL o k) a b = folB o a b := by
  rw [Bool.eq_iff_iff, folB_iff, folB_iff]
  constructor
  · rintro ⟨i, hi, h1, h2⟩
    rw [rot_len] at hi
    rw [rot_get o 0 hk hi] at h1
    rw [nx1_rot o hk hi] at h2
    exact ⟨_, Nat.mod_lt _ (by omega), h1, h2⟩
  · rintro ⟨i, hi, h1, h2⟩
    have e : ((i + o.length - k) % o.length + k) % o.length = i := by
      rw [Nat.mod_add_mod, show i + o.length - k + k = i + o.length by omega, Nat.add_mod_right, Nat.mod_eq_of_lt hi]
    have hj : (i + o.length - k) % o.length < o.length := Nat.mod_lt _ (by omega)
    refine ⟨(i + o.length - k) % o.length, by rw [rot_len]; exact hj, ?_, ?_⟩
    · rw [rot_get o 0 hk hj, e]; exact h1
    · rw [nx1_rot o hk hj, e]; exact h2
theorem rot_zero {o : List Nat} (h1 : 1 ≤ l.length) (hp : o.Perm (List.range l.length)) : ∃ k, k < o.length ∧ rotL o k ∈ allO l.length := by
  have h0 : 0 ∈ o := hp.mem_iff.2 (List.mem_range.2 (by omega))
  obtain ⟨u, v, rfl⟩ := List.append_of_mem h0
  refine ⟨u.length, by simp, (mem_allO h1).2 ⟨v ++ u, ?_, ?_⟩⟩
  · simp [rotL]
  · have := rot_perm' (u ++ 0 :: v) u.length
    have e : rotL (u ++ 0 :: v) u.length = 0 :: (v ++ u) := by simp [rotL]
    rw [e] at this
    exact this.trans hp
theorem any_kind (h1 : 1 ≤ l.length) {o : List Nat} (hp : o.Perm (List.range l.length)) (hb : rdL P l o = leR P l) (a b : Nat) :
    (kindV P l a b = 2 → folB o a b = true) ∧ (kindV P l a b = 0 → folB o a b = false) := by
  obtain ⟨k, hk, ha⟩ := rot_zero h1 hp
  have hB : rotL o k ∈ bestsL P l := (mem_bests h1).2 ⟨ha, by rw [rot_rd o hk]; exact hb⟩
  rw [← folB_rot hk]
  unfold kindV
  constructor
  · intro h
    by_cases c : (bestsL P l).all (folB · a b) = true
    · exact List.all_eq_true.1 c _ hB
    · rw [if_neg c] at h; split at h <;> omega
  · intro h
    by_cases c : (bestsL P l).all (folB · a b) = true
    · rw [if_pos c] at h; omega
    · rw [if_neg c] at h
      by_cases d : (bestsL P l).any (folB · a b) = true
      · rw [if_pos d] at h; omega
      · cases e : folB (rotL o k) a b with
        | false => rfl
        | true => exact absurd (List.any_eq_true.2 ⟨_, hB, e⟩) d
theorem kind_range (a b : Nat) : 0 ≤ kindV P l a b ∧ kindV P l a b ≤ 2 := by
  unfold kindV; split
  · omega
  · split <;> omega
theorem wst_same {N : Nat} (hg : ∀ i j, i < N → j < N → gp P m i j = gp P l i j) : ∀ (t : List Nat) (h : Nat), h < N → (∀ x ∈ t, x < N) → wst P m h t = wst P l h t
  | [], _, _, _ => rfl
  | y :: t, h, hh, ht => by
    have hy := ht y List.mem_cons_self
    rw [wst, wst, hg h y hh hy, wst_same hg t y hy fun x hx => ht x (List.mem_cons_of_mem _ hx)]
theorem rd_same {N : Nat} (hg : ∀ i j, i < N → j < N → gp P m i j = gp P l i j) (hL : ∀ i, i < N → lO m i = lO l i) {o : List Nat} (ho : ∀ x ∈ o, x < N) : rdL P m o = rdL P l o := by
  cases o with
  | nil => rfl
  | cons h t =>
    show tot P m h t / P = tot P l h t / P
    unfold tot
    have hh := ho h List.mem_cons_self
    rw [wst_same hg _ h hh, sm_cong fun n hn => hL n (ho n hn)]
    intro x hx
    rcases List.mem_append.1 hx with hx | hx
    · exact ho x (List.mem_cons_of_mem _ hx)
    · rw [List.mem_singleton.1 hx]; exact hh
theorem le_same (h1 : 1 ≤ l.length) (hlen : m.length = l.length) (h : ∀ o, (∀ x ∈ o, x < l.length) → rdL P m o = rdL P l o) : leR P m = leR P l := by
  unfold leR
  rw [hlen, h _ (fun x hx => List.mem_range.1 hx), List.map_congr_left fun o ho => h o (allO_has h1 ho).2.1]
theorem bests_same (h1 : 1 ≤ l.length) (hlen : m.length = l.length) (h : ∀ o, (∀ x ∈ o, x < l.length) → rdL P m o = rdL P l o) : bestsL P m = bestsL P l := by
  unfold bestsL
  rw [hlen, le_same h1 hlen h]
  refine List.filter_congr fun o ho => ?_
  rw [h o (allO_has h1 ((inO_allO h1).1 ho)).2.1]
def shL (P q : Int) (l : List Pt) : List Pt := l.map fun p => ((p.1 + q) % P, p.2.1, ())
theorem shL_len (P q : Int) (l : List Pt) : (shL P q l).length = l.length := List.length_map _
theorem getD_map {α β : Type} (f : α → β) (l : List α) {n : Nat} (h : n < l.length) (a : α) (b : β) : (l.map f).getD n b = f (l.getD n a) := by
  rw [getD_nat _ (by rw [List.length_map]; exact h), getD_nat _ h, List.getElem_map]
theorem shL_at {q : Int} {n : Nat} (h : n < l.length) : aT (shL P q l) n = (aT l n + q) % P ∧ lO (shL P q l) n = lO l n := by
  unfold aT lO shL
  rw [getD_map _ l h zP zP]
  exact ⟨rfl, rfl⟩
theorem sub_mod (a b q : Int) : ((a + q) % P - (b + q) % P) % P = (a - b) % P := by
  rw [← Int.sub_emod]; congr 1; omega
theorem shL_end {q : Int} {n : Nat} (h : n < l.length) : eN P (shL P q l) n = (eN P l n + q) % P := by
  unfold eN
  rw [(shL_at h).1, (shL_at h).2, Int.emod_add_emod, Int.emod_add_emod]; congr 1; omega
theorem shL_gp {q : Int} {i j : Nat} (hi : i < l.length) (hj : j < l.length) : gp P (shL P q l) i j = gp P l i j := by
  unfold gp
  rw [(shL_at hj).1, shL_end hi, sub_mod]
theorem shL_rd {q : Int} {o : List Nat} (ho : ∀ x ∈ o, x < l.length) : rdL P (shL P q l) o = rdL P l o := rd_same (fun i j hi hj => shL_gp hi hj) (fun i hi => (shL_at hi).2) ho
theorem shL_ok {q : Int} (hP : 1 ≤ P) (hl : okP P l) : okP P (shL P q l) := fun s hs => by
  obtain ⟨p, hp, rfl⟩ := List.mem_map.1 hs
  exact ⟨mod_bd hP _, (hl p hp).2⟩
theorem se_of (hP : 1 ≤ P ∧ P ≤ 1000) (h1 : 1 ≤ l.length) (h8 : l.length ≤ 8) (hl : okP P l) : seE P l = 0 := se_ok.2 ⟨hP, h1, h8, hl⟩
theorem shL_se {q : Int} (hz : seE P l = 0) : seE P (shL P q l) = 0 := by
  obtain ⟨hP, h1, h8, hl⟩ := se_ok.1 hz
  exact se_of hP (by rw [shL_len]; exact h1) (by rw [shL_len]; exact h8) (shL_ok hP.1 hl)
def bkL (P : Int) (l : List Pt) : List Pt := (List.range l.length).map fun n => ((P - eN P l n) % P, lO l n, ())
theorem bkL_len (P : Int) (l : List Pt) : (bkL P l).length = l.length := by unfold bkL; rw [List.length_map, List.length_range]
theorem bkL_at {n : Nat} (h : n < l.length) : aT (bkL P l) n = (P - eN P l n) % P ∧ lO (bkL P l) n = lO l n := by
  unfold aT lO bkL
  rw [getD_map _ (List.range l.length) (by rw [List.length_range]; exact h) 0 zP, getD_nat _ (by rw [List.length_range]; exact h), List.getElem_range]
  exact ⟨rfl, rfl⟩
theorem bkL_ok (hP : 1 ≤ P) (hl : okP P l) : okP P (bkL P l) := fun s hs => by
  obtain ⟨n, hn, rfl⟩ := List.mem_map.1 hs
  exact ⟨mod_bd hP _, (hl.get (List.mem_range.1 hn)).2⟩
theorem bkL_se (hz : seE P l = 0) : seE P (bkL P l) = 0 := by
  obtain ⟨hP, h1, h8, hl⟩ := se_ok.1 hz
  exact se_of hP (by rw [bkL_len]; exact h1) (by rw [bkL_len]; exact h8) (bkL_ok hP.1 hl)
theorem bkL_gp {i j : Nat} (hi : i < l.length) (hj : j < l.length) : gp P (bkL P l) i j = gp P l j i := by
  unfold gp
  have e : eN P (bkL P l) i = (P - aT l i) % P := by
    show (aT _ i + lO _ i) % P = _
    rw [(bkL_at hi).1, (bkL_at hi).2, Int.emod_add_emod]
    have e2 : P - eN P l i + lO l i = (P + lO l i) - eN P l i := by omega
    unfold eN at e2 ⊢
    rw [e2, Int.sub_emod, Int.emod_emod_of_dvd _ (Int.dvd_refl P), ← Int.sub_emod]
    congr 1; omega
  rw [(bkL_at hj).1, e, ← Int.sub_emod]
  congr 1; omega
theorem wst_rev {N : Nat} (hg : ∀ i j, i < N → j < N → gp P m i j = gp P l j i) : ∀ (t : List Nat) (a b : Nat), a < N → b < N → (∀ x ∈ t, x < N) → wst P m b (t.reverse ++ [a]) = wst P l a (t ++ [b])
  | [], a, b, ha, hb, _ => by
    show gp P m b a + 0 = gp P l a b + 0
    rw [hg b a hb ha]
  | y :: t, a, b, ha, hb, ht => by
    have hy := ht y List.mem_cons_self
    rw [List.reverse_cons, List.append_assoc, List.singleton_append, wst_app, wst_rev hg t y b hy hb fun x hx => ht x (List.mem_cons_of_mem _ hx)]
    show _ + (gp P m y a + 0) = gp P l a y + wst P l y (t ++ [b])
    rw [hg y a hy ha]; omega
def tnO : List Nat → List Nat
  | [] => []
  | h :: t => h :: t.reverse
theorem tnO_inv : ∀ o : List Nat, tnO (tnO o) = o
  | [] => rfl
  | h :: t => by show h :: t.reverse.reverse = _; rw [List.reverse_reverse]
theorem tnO_perm : ∀ o : List Nat, (tnO o).Perm o
  | [] => .nil
  | h :: t => .cons h (List.reverse_perm t)
theorem tnO_len (o : List Nat) : (tnO o).length = o.length := (tnO_perm o).length_eq
theorem tnO_all {N : Nat} (h1 : 1 ≤ N) {o : List Nat} (h : o ∈ allO N) : tnO o ∈ allO N := by
  obtain ⟨z, rfl, hp⟩ := (mem_allO h1).1 h
  exact (mem_allO h1).2 ⟨z.reverse, rfl, (tnO_perm (0 :: z)).trans hp⟩
theorem bk_rd {o : List Nat} (ho : ∀ x ∈ o, x < l.length) : rdL P (bkL P l) (tnO o) = rdL P l o := by
  cases o with
  | nil => rfl
  | cons h t =>
    show tot P _ h t.reverse / P = tot P l h t / P
    have hh := ho h List.mem_cons_self
    have ht : ∀ x ∈ t, x < l.length := fun x hx => ho x (List.mem_cons_of_mem _ hx)
    unfold tot
    rw [wst_rev (fun i j hi hj => bkL_gp hi hj) t h h hh hh ht]
    have e : sm (lO (bkL P l)) (h :: t.reverse) = sm (lO l) (h :: t) := by
      rw [sm_perm (a := h :: t.reverse) (b := h :: t) (tnO_perm (h :: t))]
      exact sm_cong fun n hn => (bkL_at (ho n hn)).2
    rw [e]
theorem bk_rd' {o : List Nat} (ho : ∀ x ∈ o, x < l.length) : rdL P (bkL P l) o.reverse = rdL P l o := by
  rw [← bk_rd ho]
  cases o with
  | nil => rfl
  | cons h t =>
    cases e : t.reverse with
    | nil =>
      have : t = [] := List.reverse_eq_nil_iff.1 e
      subst this; rfl
    | cons x v =>
      rw [List.reverse_cons, e]
      show tot P _ x (v ++ h :: []) / P = tot P _ h t.reverse / P
      rw [tot_rot, e]; rfl
theorem bk_le (h1 : 1 ≤ l.length) : leR P (bkL P l) = leR P l := by
  have hb1 : 1 ≤ (bkL P l).length := by rw [bkL_len]; exact h1
  obtain ⟨o, ho, e⟩ := leR_mem (P := P) (l := l) (fun e => by rw [e] at h1; simp at h1)
  obtain ⟨q, hq, f⟩ := leR_mem (P := P) (l := bkL P l) (fun e => by rw [e] at hb1; simp at hb1)
  rw [bkL_len] at hq
  have a := leR_all (P := P) (l := bkL P l) (o := tnO o) (by rw [bkL_len]; exact tnO_all h1 ho)
  rw [bk_rd (allO_has h1 ho).2.1, e] at a
  have b := leR_all (P := P) (l := l) (o := tnO q) (tnO_all h1 hq)
  rw [← bk_rd (allO_has h1 (tnO_all h1 hq)).2.1, tnO_inv, f] at b
  omega
theorem bk_best (h1 : 1 ≤ l.length) {o : List Nat} : tnO o ∈ bestsL P (bkL P l) ↔ o ∈ bestsL P l := by
  rw [mem_bests (by rw [bkL_len]; exact h1), mem_bests h1, bkL_len, bk_le h1]
  constructor
  · rintro ⟨a, b⟩
    have a' := tnO_all h1 a
    rw [tnO_inv] at a'
    rw [bk_rd (allO_has h1 a').2.1] at b
    exact ⟨a', b⟩
  · rintro ⟨a, b⟩
    exact ⟨tnO_all h1 a, by rw [bk_rd (allO_has h1 a).2.1]; exact b⟩
theorem tnO_inj {a b : List Nat} (h : tnO a = tnO b) : a = b := by rw [← tnO_inv a, h, tnO_inv]
theorem bests_nd (P : Int) (l : List Pt) : (bestsL P l).Nodup := (inO_nodup _).filter _
theorem bk_count (h1 : 1 ≤ l.length) : (bestsL P (bkL P l)).length = (bestsL P l).length := by
  have key : ((bestsL P l).map tnO).Perm (bestsL P (bkL P l)) := by
    refine (List.perm_ext_iff_of_nodup (by rw [List.Nodup, List.pairwise_map]; exact (bests_nd P l).imp fun hab e => hab (tnO_inj e)) (bests_nd _ _)).2 fun x => ?_
    rw [List.mem_map]
    constructor
    · rintro ⟨o, ho, rfl⟩; exact (bk_best h1).2 ho
    · intro hx
      exact ⟨tnO x, (bk_best h1).1 (by rw [tnO_inv]; exact hx), tnO_inv x⟩
  rw [← key.length_eq, List.length_map]
theorem tn_get {o : List Nat} {i : Nat} (hi : i < o.length) : (tnO o).getD i 0 = o.getD ((o.length - i) % o.length) 0 := by
  cases o with
  | nil => cases hi
  | cons h t =>
    cases i with
    | zero => rw [Nat.sub_zero, Nat.mod_self]; rfl
    | succ i =>
      have hi' : i < t.length := by simpa using hi
      rw [List.length_cons, Nat.mod_eq_of_lt (by omega)]
      show t.reverse.getD i 0 = _
      rw [getD_nat _ (by rw [List.length_reverse]; exact hi'), List.getElem_reverse, show t.length + 1 - (i + 1) = (t.length - 1 - i) + 1 by omega, List.getD_cons_succ, getD_nat]
theorem tn_fol' {o : List Nat} {a b : Nat} (h : folB o a b = true) : folB (tnO o) b a = true := by
  obtain ⟨i, hi, h1, h2⟩ := folB_iff.1 h
  unfold nx1 at h2
  refine folB_iff.2 ?_
  rw [tnO_len]
  have hn : 0 < o.length := by omega
  have e1 : (o.length - (o.length - (i + 1) % o.length) % o.length) % o.length = (i + 1) % o.length := by
    by_cases c : i + 1 < o.length
    · rw [Nat.mod_eq_of_lt c, Nat.mod_eq_of_lt (a := o.length - (i + 1)) (by omega), Nat.mod_eq_of_lt (by omega)]; omega
    · rw [show i + 1 = o.length by omega, Nat.mod_self, Nat.sub_zero, Nat.mod_self, Nat.sub_zero, Nat.mod_self]
  have e2 : (o.length - ((o.length - (i + 1) % o.length) % o.length + 1) % o.length) % o.length = i := by
    by_cases c : i + 1 < o.length
    · rw [Nat.mod_eq_of_lt c, Nat.mod_eq_of_lt (a := o.length - (i + 1)) (by omega)]
      by_cases d : i = 0
      · subst d
        rw [show o.length - (0 + 1) + 1 = o.length by omega, Nat.mod_self, Nat.sub_zero, Nat.mod_self]
      · rw [Nat.mod_eq_of_lt (a := o.length - (i + 1) + 1) (by omega), Nat.mod_eq_of_lt (by omega)]; omega
    · rw [show i + 1 = o.length by omega, Nat.mod_self, Nat.sub_zero, Nat.mod_self, Nat.zero_add]
      by_cases d : o.length = 1
      · rw [d]; omega
      · rw [Nat.mod_eq_of_lt (a := 1) (by omega), Nat.mod_eq_of_lt (by omega)]; omega
  refine ⟨(o.length - (i + 1) % o.length) % o.length, Nat.mod_lt _ hn, ?_, ?_⟩
  · rw [tn_get (Nat.mod_lt _ hn), e1]; exact h2
  · unfold nx1
    rw [tnO_len, tn_get (Nat.mod_lt _ hn), e2]; exact h1
theorem tn_fol {o : List Nat} {a b : Nat} : folB (tnO o) b a = folB o a b := by
  rw [Bool.eq_iff_iff]
  exact ⟨fun h => by have := tn_fol' h; rwa [tnO_inv] at this, tn_fol'⟩
theorem bk_kind (h1 : 1 ≤ l.length) (a b : Nat) : kindV P (bkL P l) b a = kindV P l a b := by
  have e1 : (bestsL P (bkL P l)).all (folB · b a) = (bestsL P l).all (folB · a b) := by
    rw [Bool.eq_iff_iff, List.all_eq_true, List.all_eq_true]
    constructor
    · intro h o ho
      have := h _ ((bk_best h1).2 ho)
      rwa [tn_fol] at this
    · intro h o ho
      have := h (tnO o) ((bk_best h1).1 (by rw [tnO_inv]; exact ho))
      rwa [← tn_fol, tnO_inv] at this
  have e2 : (bestsL P (bkL P l)).any (folB · b a) = (bestsL P l).any (folB · a b) := by
    rw [Bool.eq_iff_iff, List.any_eq_true, List.any_eq_true]
    constructor
    · rintro ⟨o, ho, h⟩
      exact ⟨tnO o, (bk_best h1).1 (by rw [tnO_inv]; exact ho), by rw [← tn_fol, tnO_inv]; exact h⟩
    · rintro ⟨o, ho, h⟩
      exact ⟨tnO o, (bk_best h1).2 ho, by rw [tn_fol]; exact h⟩
  unfold kindV
  rw [e1, e2]
abbrev W18 : Prop := Ox.Fn Try.prog 18 .anil (· = .val .bool true)
end Go.Proofs.Ytinehlphcckkmaa

namespace Go.Proofs.Ytinehlphcckkmaa
open Go Go.RowKit Ox Ox.Sh Ox.Se
variable {P : Int} {l m : List Pt}
theorem cmp_sorted (P : Int) (l : List Pt) (n : Nat) : (cmpL P l n).Pairwise (· < ·) := List.pairwise_lt_range.filter _
def wholeB (xs g : List Int) : Bool := decide (g.countP (fun x => decide (x ∈ xs)) = 0) || decide (g.countP (fun x => decide (x ∈ xs)) = g.length)
def op2 (P : Int) (l : List Pt) (p q : Int) : Prop := ∀ k : Nat, (k : Int) < (q - p) % P → ov P l (p + k) < pkV P l
theorem ov_mod (hP : 1 ≤ P) (u : Int) : ov P l (u % P) = ov P l u := by
  unfold ov
  refine sm_cong fun n _ => ?_
  unfold ov1
  rw [Int.sub_emod, Int.emod_emod_of_dvd _ (Int.dvd_refl P), ← Int.sub_emod]
theorem arc_key (hP : 1 ≤ P) {p q : Int} {c : Int} (hc : 0 ≤ c ∧ c < P) (hv : ov P l c = pkV P l) :
    op2 P l p q → ∀ z, Min.min ((p - c - 1) % P) ((q - c - 1) % P) ≤ z → z < Max.max ((p - c - 1) % P) ((q - c - 1) % P) → opn P l c z := by
  intro h z h1 h2
  have hx := mod_bd hP (p - c - 1)
  have hy := mod_bd hP (q - c - 1)
  have ex := Int.emod_add_mul_ediv (p - c - 1) P
  have ed : (q - p) % P = ((q - c - 1) % P - (p - c - 1) % P) % P := by rw [← Int.sub_emod]; congr 1; omega
  unfold opn
  rw [hv]
  generalize (p - c - 1) % P = x at *
  generalize (q - c - 1) % P = y at *
  generalize (p - c - 1) / P = d at *
  rcases Int.le_total x y with hxy | hxy
  · rw [Int.emod_eq_of_lt (a := y - x) (by omega) (by omega)] at ed
    have := h (z - x).toNat (by omega)
    rw [Int.toNat_of_nonneg (by omega), ← ov_mod hP] at this
    have e : (z + c + 1) % P = (p + (z - x)) % P := by
      have e2 : p + (z - x) = z + c + 1 + P * d := by omega
      rw [e2, Int.add_mul_emod_self_left]
    rw [e]; exact this
  · exfalso
    have e3 : y < x := by omega
    have e4 : (y - x) % P = y - x + P := by rw [← Int.add_emod_right, Int.emod_eq_of_lt (by omega) (by omega)]
    rw [e4] at ed
    have := h (P - 1 - x).toNat (by omega)
    rw [Int.toNat_of_nonneg (by omega), ← ov_mod hP] at this
    have e5 : p + (P - 1 - x) = c + P * (d + 1) := by rw [Int.mul_add, Int.mul_one]; omega
    rw [e5, Int.add_mul_emod_self_left, Int.emod_eq_of_lt hc.1 hc.2, hv] at this
    omega
theorem arc_of (hP : 1 ≤ P) {p q : Int} {c : Int} (hv : ov P l c = pkV P l) (hxy : (p - c - 1) % P ≤ (q - c - 1) % P)
    (h : ∀ z, Min.min ((p - c - 1) % P) ((q - c - 1) % P) ≤ z → z < Max.max ((p - c - 1) % P) ((q - c - 1) % P) → opn P l c z) : op2 P l p q := by
  intro k hk
  have hx := mod_bd hP (p - c - 1)
  have hy := mod_bd hP (q - c - 1)
  have ex := Int.emod_add_mul_ediv (p - c - 1) P
  have ed : (q - p) % P = ((q - c - 1) % P - (p - c - 1) % P) % P := by rw [← Int.sub_emod]; congr 1; omega
  unfold opn at h
  rw [hv] at h
  generalize (p - c - 1) % P = x at *
  generalize (q - c - 1) % P = y at *
  generalize (p - c - 1) / P = d at *
  rw [Int.emod_eq_of_lt (a := y - x) (by omega) (by omega)] at ed
  have := h (x + k) (by omega) (by omega)
  have e2 : p + k = x + k + c + 1 + P * d := by omega
  rw [← ov_mod hP, e2, Int.add_mul_emod_self_left]; exact this
theorem tB_arc (hP : 1 ≤ P) (hl : okP P l) {i k : Nat} (hi : i < l.length) (hk : k < l.length) :
    tB P l i k = true ↔ ∃ p q, (p = aT l i ∨ p = eN P l i) ∧ (q = aT l k ∨ q = eN P l k) ∧ (op2 P l p q ∨ op2 P l q p) := by
  have hc := (pk_full (l := l) hP).1
  rw [tB_iff, ← tch_st hP hl hi hk]
  unfold tch
  constructor
  · rintro ⟨x, y, hx, hy, h⟩
    have hx' : ∃ p, (p = aT l i ∨ p = eN P l i) ∧ x = (p - pkA P l - 1) % P := by
      rcases hx with rfl | rfl
      · exact ⟨_, Or.inl rfl, rfl⟩
      · exact ⟨_, Or.inr rfl, rfl⟩
    have hy' : ∃ q, (q = aT l k ∨ q = eN P l k) ∧ y = (q - pkA P l - 1) % P := by
      rcases hy with rfl | rfl
      · exact ⟨_, Or.inl rfl, rfl⟩
      · exact ⟨_, Or.inr rfl, rfl⟩
    obtain ⟨p, hp, rfl⟩ := hx'
    obtain ⟨q, hq, rfl⟩ := hy'
    refine ⟨p, q, hp, hq, ?_⟩
    rcases Int.le_total ((p - pkA P l - 1) % P) ((q - pkA P l - 1) % P) with hxy | hxy
    · exact Or.inl (arc_of hP rfl hxy h)
    · refine Or.inr (arc_of hP rfl hxy fun z h1 h2 => h z ?_ ?_)
      · omega
      · omega
  · rintro ⟨p, q, hp, hq, h⟩
    refine ⟨(p - pkA P l - 1) % P, (q - pkA P l - 1) % P, ?_, ?_, ?_⟩
    · rcases hp with rfl | rfl
      · exact Or.inl rfl
      · exact Or.inr rfl
    · rcases hq with rfl | rfl
      · exact Or.inl rfl
      · exact Or.inr rfl
    · rcases h with h | h
      · exact arc_key hP hc rfl h
      · intro z h1 h2
        exact arc_key hP hc rfl h z (by omega) (by omega)
theorem ov_sh (q u : Int) : ov P (shL P q l) ((u + q) % P) = ov P l u := by
  unfold ov
  rw [shL_len]
  refine sm_cong fun n hn => ?_
  have hn' := List.mem_range.1 hn
  unfold ov1
  rw [(shL_at hn').1, (shL_at hn').2, sub_mod]
theorem pk_sh (hP : 1 ≤ P) (q : Int) : pkV P (shL P q l) = pkV P l := by
  have a := pk_full (l := l) hP
  have b := pk_full (l := shL P q l) hP
  have c := b.2 ((pkA P l + q) % P) (mod_bd hP _).1 (mod_bd hP _).2
  rw [ov_sh] at c
  have d := a.2 ((pkA P (shL P q l) - q) % P) (mod_bd hP _).1 (mod_bd hP _).2
  have e := ov_sh (P := P) (l := l) q ((pkA P (shL P q l) - q) % P)
  rw [Int.emod_add_emod, show (pkA P (shL P q l) : Int) - q + q = pkA P (shL P q l) by omega, Int.emod_eq_of_lt b.1.1 b.1.2] at e
  rw [← e] at d
  have e1 : pkV P (shL P q l) = ov P (shL P q l) (pkA P (shL P q l) : Int) := rfl
  have e2 : pkV P l = ov P l (pkA P l : Int) := rfl
  omega
theorem op2_sh (hP : 1 ≤ P) (s p q : Int) : op2 P (shL P s l) ((p + s) % P) ((q + s) % P) ↔ op2 P l p q := by
  unfold op2
  rw [pk_sh hP, sub_mod]
  have e : ∀ k : Nat, ov P (shL P s l) ((p + s) % P + k) = ov P l (p + k) := fun k => by
    rw [← ov_mod hP, Int.emod_add_emod, show p + s + k = p + k + s by omega, ov_sh]
  constructor
  · intro h k hk; rw [← e]; exact h k hk
  · intro h k hk; rw [e]; exact h k hk
theorem tB_sh (hP : 1 ≤ P) (hl : okP P l) (s : Int) {i k : Nat} (hi : i < l.length) (hk : k < l.length) : tB P (shL P s l) i k = true ↔ tB P l i k = true := by
  rw [tB_arc hP hl hi hk, tB_arc hP (shL_ok hP hl) (by rw [shL_len]; exact hi) (by rw [shL_len]; exact hk), (shL_at hi).1, (shL_at hk).1, shL_end hi, shL_end hk]
  constructor
  · rintro ⟨p, q, hp, hq, h⟩
    have hp' : ∃ p', (p' = aT l i ∨ p' = eN P l i) ∧ p = (p' + s) % P := by
      rcases hp with rfl | rfl
      · exact ⟨_, Or.inl rfl, rfl⟩
      · exact ⟨_, Or.inr rfl, rfl⟩
    have hq' : ∃ p', (p' = aT l k ∨ p' = eN P l k) ∧ q = (p' + s) % P := by
      rcases hq with rfl | rfl
      · exact ⟨_, Or.inl rfl, rfl⟩
      · exact ⟨_, Or.inr rfl, rfl⟩
    obtain ⟨p', hp', rfl⟩ := hp'
    obtain ⟨q', hq', rfl⟩ := hq'
    rw [op2_sh hP, op2_sh hP] at h
    exact ⟨p', q', hp', hq', h⟩
  · rintro ⟨p, q, hp, hq, h⟩
    refine ⟨(p + s) % P, (q + s) % P, ?_, ?_, ?_⟩
    · rcases hp with rfl | rfl
      · exact Or.inl rfl
      · exact Or.inr rfl
    · rcases hq with rfl | rfl
      · exact Or.inl rfl
      · exact Or.inr rfl
    · rw [op2_sh hP, op2_sh hP]; exact h
theorem conn_same (hlen : m.length = l.length) (ht : ∀ i k, i < l.length → k < l.length → (tB P m i k = true ↔ tB P l i k = true)) {n j : Nat} (hn : n < l.length) : Conn P m n j ↔ Conn P l n j := by
  constructor
  · intro h
    induction h with
    | refl => exact .refl
    | step hj hk htb ih => exact .step ih (by omega) ((ht _ _ (ih.lt hn) (by omega)).1 htb)
  · intro h
    induction h with
    | refl => exact .refl
    | step hj hk htb ih => exact .step ih (by omega) ((ht _ _ (hj.lt hn) hk).2 htb)
theorem cmp_same (h8 : l.length ≤ 8) (hlen : m.length = l.length) (ht : ∀ i k, i < l.length → k < l.length → (tB P m i k = true ↔ tB P l i k = true)) {n : Nat} (hn : n < l.length) : cmpL P m n = cmpL P l n := by
  refine sorted_ext (cmp_sorted P m n) (cmp_sorted P l n) fun x => ?_
  rw [mem_cmp (by omega) (by omega), mem_cmp h8 hn, conn_same hlen ht hn]
theorem gpK_same (h8 : l.length ≤ 8) (hlen : m.length = l.length) (ht : ∀ i k, i < l.length → k < l.length → (tB P m i k = true ↔ tB P l i k = true)) : ∀ k, k ≤ l.length → gpK P m k = gpK P l k
  | 0, _ => rfl
  | k + 1, hk => by
    rw [gpK, gpK, gpK_same h8 hlen ht k (by omega), cmp_same h8 hlen ht (by omega)]
theorem gpI_sh (hz : seE P l = 0) (s : Int) : gpI P (shL P s l) = gpI P l := by
  obtain ⟨hP, h1, h8, hl⟩ := se_ok.1 hz
  unfold gpI
  rw [if_pos (shL_se hz), if_pos hz, shL_len, gpK_same h8 (shL_len P s l) (fun i k hi hk => tB_sh hP.1 hl s hi hk) _ (Nat.le_refl _)]
end Go.Proofs.Ytinehlphcckkmaa

namespace Go.Proofs.Ytinehlphcckkmaa
open Go Go.RowKit Ox Ox.Sh Ox.Se
variable {P : Int} {l m : List Pt}
abbrev delL (l : List Pt) (k : Nat) : List Pt := l.take k ++ l.drop (k + 1)
def upN (k i : Nat) : Nat := if i < k then i else i + 1
def dnN (k i : Nat) : Nat := if i < k then i else i - 1
theorem del_len {k : Nat} (hk : k < l.length) : (delL l k).length + 1 = l.length := by
  rw [List.length_append, List.length_take, List.length_drop]; omega
theorem del_get {k i : Nat} (hk : k < l.length) : (delL l k).getD i zP = l.getD (upN k i) zP := by
  rw [List.getD_eq_getElem?_getD, List.getD_eq_getElem?_getD]
  congr 1
  unfold upN
  by_cases h : i < k
  · rw [if_pos h, List.getElem?_append_left (by rw [List.length_take]; omega), List.getElem?_take, if_pos h]
  · rw [if_neg h, List.getElem?_append_right (by rw [List.length_take]; omega), List.getElem?_drop, List.length_take]
    congr 1; omega
theorem del_gp {k : Nat} (hk : k < l.length) (i j : Nat) : gp P (delL l k) i j = gp P l (upN k i) (upN k j) := by
  unfold gp eN aT lO
  rw [del_get hk, del_get hk]
theorem del_lO {k : Nat} (hk : k < l.length) (i : Nat) : lO (delL l k) i = lO l (upN k i) := by
  unfold lO; rw [del_get hk]
theorem del_wst {k : Nat} (hk : k < l.length) : ∀ (t : List Nat) (h : Nat), wst P (delL l k) h t = wst P l (upN k h) (t.map (upN k))
  | [], _ => rfl
  | y :: t, h => by
    rw [List.map_cons, wst, wst, del_gp hk, del_wst hk t y]
theorem sm_map (f : Nat → Int) (g : Nat → Nat) : ∀ o : List Nat, sm f (o.map g) = sm (fun n => f (g n)) o
  | [] => rfl
  | x :: o => by rw [List.map_cons, sm_cons, sm_cons, sm_map f g o]
theorem del_tot {k : Nat} (hk : k < l.length) (h : Nat) (t : List Nat) : tot P (delL l k) h t = tot P l (upN k h) (t.map (upN k)) := by
  unfold tot
  rw [del_wst hk, List.map_append, ← List.map_cons, sm_map]
  rw [sm_cong fun n _ => del_lO hk n]; rfl
theorem gp_tri (hP : 1 ≤ P) (hl : okP P l) {i k j : Nat} (hk : k < l.length) : gp P l i j ≤ gp P l i k + lO l k + gp P l k j := by
  have h1 := (gp_bd (l := l) hP i k).1
  have h2 := (gp_bd (l := l) hP k j).1
  have h3 := (hl.get hk).2.1
  have e : gp P l i j = (gp P l i k + lO l k + gp P l k j) % P := by
    have ht := Int.emod_add_mul_ediv (aT l k + lO l k) P
    have hek : eN P l k = (aT l k + lO l k) % P := rfl
    rw [← hek] at ht
    unfold gp
    rw [show (aT l k - eN P l i) % P + lO l k + (aT l j - eN P l k) % P = (aT l j - eN P l k) % P + ((aT l k - eN P l i) % P + lO l k) by omega, Int.emod_add_emod,
      show aT l j - eN P l k + ((aT l k - eN P l i) % P + lO l k) = (aT l k - eN P l i) % P + (lO l k + (aT l j - eN P l k)) by omega, Int.emod_add_emod,
      show aT l k - eN P l i + (lO l k + (aT l j - eN P l k)) = aT l j - eN P l i + P * ((aT l k + lO l k) / P) by omega, Int.add_mul_emod_self_left]
  rw [e]
  have hx0 : 0 ≤ gp P l i k + lO l k + gp P l k j := by omega
  generalize gp P l i k + lO l k + gp P l k j = x at hx0 ⊢
  have hx := Int.emod_add_mul_ediv x P
  have hd : 0 ≤ x / P := Int.ediv_nonneg (by omega) (by omega)
  have := Int.mul_nonneg (by omega : 0 ≤ P) hd
  omega
theorem ord_head {h : Nat} {t : List Nat} {k : Nat} (hk : k ∈ h :: t) : ∃ w, (k :: w).Perm (h :: t) ∧ tot P l k w = tot P l h t := by
  rcases List.mem_cons.1 hk with rfl | hk
  · exact ⟨t, .refl _, rfl⟩
  · obtain ⟨u, v, rfl⟩ := List.append_of_mem hk
    exact ⟨v ++ h :: u, rot_perm h k u v, tot_rot h k u v⟩
theorem up_dn {k i : Nat} (h : i ≠ k) : upN k (dnN k i) = i := by
  unfold upN dnN
  by_cases c : i < k
  · rw [if_pos c, if_pos c]
  · rw [if_neg c, if_neg (by omega)]; omega
theorem dn_inj {k i j : Nat} (hi : i ≠ k) (hj : j ≠ k) (h : dnN k i = dnN k j) : i = j := by rw [← up_dn hi, h, up_dn hj]
theorem less_le (hP : 1 ≤ P) (hl : okP P l) {k : Nat} (hk : k < l.length) (h2 : 2 ≤ l.length) : leR P (delL l k) ≤ leR P l := by
  obtain ⟨z, hz, he⟩ := leR_ex (P := P) (l := l) (fun e => by rw [e] at hk; cases hk)
  obtain ⟨w, hw, ht⟩ := ord_head (P := P) (l := l) (hz.mem_iff.2 (List.mem_range.2 hk))
  have hw2 := hw.trans hz
  have hlw : w.length + 1 = l.length := by have := hw2.length_eq; rwa [List.length_range, List.length_cons] at this
  cases w with
  | nil => simp at hlw; omega
  | cons x v =>
    have hnd := hw2.nodup_iff.2 List.nodup_range
    obtain ⟨n1, n2⟩ := List.nodup_cons.1 hnd
    have hne : ∀ y ∈ x :: v, y ≠ k := fun y hy e => n1 (e ▸ hy)
    have hlt : ∀ y ∈ x :: v, y < l.length := fun y hy => List.mem_range.1 (hw2.mem_iff.1 (List.mem_cons_of_mem _ hy))
    have hdl := del_len hk
    have hord : (dnN k x :: v.map (dnN k)).Perm (List.range (delL l k).length) := by
      rw [← List.map_cons]
      refine perm_sub ?_ List.nodup_range (fun y hy => ?_) (by rw [List.length_range, List.length_map]; omega)
      · rw [List.Nodup, List.pairwise_map]
        exact n2.imp_of_mem fun ha hb hab e => hab (dn_inj (hne _ ha) (hne _ hb) e)
      · obtain ⟨i, hi, rfl⟩ := List.mem_map.1 hy
        have h1 := hlt i hi
        have h3 := hne i hi
        rw [List.mem_range]
        unfold dnN; split <;> omega
    have hle := leR_le (P := P) (l := delL l k) (b := (dnN k x, v.map (dnN k))) (fun e => by rw [e] at hdl; simp at hdl; omega) hord
    refine Int.le_trans hle ?_
    rw [← he]
    show tot P (delL l k) _ _ / P ≤ tot P l 0 z / P
    refine Int.ediv_le_ediv (by omega) ?_
    rw [← ht, del_tot hk, List.map_map, up_dn (hne x List.mem_cons_self)]
    have em : v.map (upN k ∘ dnN k) = v := by
      have : v.map (upN k ∘ dnN k) = v.map id := List.map_congr_left fun y hy => up_dn (hne y (List.mem_cons_of_mem _ hy))
      rw [this, List.map_id]
    rw [em]
    unfold tot
    have a := wst_last (P := P) (l := l) v x x
    have b := wst_last (P := P) (l := l) v x k
    rw [sm_cons (lO l) k, List.cons_append, wst, a, b]
    have := gp_tri hP hl (i := lastN x v) (j := x) hk
    omega
theorem add_get {p : Pt} {i : Nat} (hi : i < l.length) : (l ++ [p]).getD i zP = l.getD i zP := by
  rw [List.getD_eq_getElem?_getD, List.getD_eq_getElem?_getD, List.getElem?_append_left hi]
theorem add_del (p : Pt) : delL (l ++ [p]) l.length = l := by
  rw [delL, List.take_left' rfl, List.drop_eq_nil_iff.2 (by simp), List.append_nil]
theorem more_ge (hP : 1 ≤ P) {p : Pt} (hl : okP P (l ++ [p])) (h1 : 1 ≤ l.length) : leR P l ≤ leR P (l ++ [p]) := by
  have := less_le hP hl (k := l.length) (by simp) (by simp; omega)
  rwa [add_del] at this
theorem more_le (hP : 1 ≤ P) {p : Pt} (h1 : 1 ≤ l.length) : leR P (l ++ [p]) ≤ leR P l + (p.2.1 + P - 1) / P + 1 := by
  obtain ⟨z, hz, he⟩ := leR_ex (P := P) (l := l) (fun e => by rw [e] at h1; simp at h1)
  have hlt : ∀ x ∈ 0 :: z, x < l.length := fun x hx => List.mem_range.1 (hz.mem_iff.1 hx)
  have hg : ∀ i j, i < l.length → j < l.length → gp P (l ++ [p]) i j = gp P l i j := fun i j hi hj => by
    unfold gp eN aT lO
    rw [add_get hi, add_get hj]
  have hL : ∀ i, i < l.length → lO (l ++ [p]) i = lO l i := fun i hi => by unfold lO; rw [add_get hi]
  have hord : (0 :: (z ++ [l.length])).Perm (List.range (l ++ [p]).length) := by
    rw [List.length_append, List.length_singleton, List.range_succ, ← List.cons_append]
    exact hz.append_right _
  have hle := leR_le (P := P) (l := l ++ [p]) (b := (0, z ++ [l.length])) (by simp) hord
  have ho1 : isO (l ++ [p]) 0 (z ++ [l.length]) := hord
  have t1 := tot_rd (P := P) hP ho1
  have t2 := tot_rd (P := P) hP hz
  have hx : tot P (l ++ [p]) 0 (z ++ [l.length]) ≤ tot P l 0 z + p.2.1 + 2 * P - 2 := by
    unfold tot
    have hlp : lO (l ++ [p]) l.length = p.2.1 := by
      unfold lO
      rw [List.getD_eq_getElem?_getD, List.getElem?_append_right (Nat.le_refl _), Nat.sub_self]; rfl
    have e1 : sm (lO (l ++ [p])) (0 :: (z ++ [l.length])) = sm (lO l) (0 :: z) + p.2.1 := by
      rw [← List.cons_append, sm_app, sm_cong fun n hn => hL n (hlt n hn)]
      show _ + (lO (l ++ [p]) l.length + 0) = _
      rw [hlp]; omega
    have e2 := wst_last (P := P) (l := l ++ [p]) (z ++ [l.length]) 0 0
    have e3 := wst_last (P := P) (l := l ++ [p]) z 0 l.length
    have e4 := wst_last (P := P) (l := l) z 0 0
    rw [wst_same hg z 0 (by omega) fun x hx => hlt x (List.mem_cons_of_mem _ hx)] at e3
    rw [e1, e2, e3, e4]
    have g1 := gp_bd (l := l ++ [p]) hP (lastN 0 z) l.length
    have g2 := gp_bd (l := l ++ [p]) hP (lastN 0 (z ++ [l.length])) 0
    have g3 := gp_bd (l := l) hP (lastN 0 z) 0
    omega
  have hle' : leR P (l ++ [p]) ≤ rd P (l ++ [p]) 0 (z ++ [l.length]) := hle
  rw [t1, t2, he] at hx
  generalize rd P (l ++ [p]) 0 (z ++ [l.length]) = r at hx hle'
  generalize leR P l = q at hx ⊢
  have hd : (r - q - 1) * P ≤ p.2.1 + P - 1 := by
    rw [Int.sub_mul, Int.sub_mul, Int.one_mul, Int.mul_comm r, Int.mul_comm q]; omega
  have := (Int.le_ediv_iff_mul_le (a := r - q - 1) (b := p.2.1 + P - 1) (c := P) (by omega)).2 hd
  omega
def lgL (P : Int) (l : List Pt) (k : Nat) : List Pt := l.set k ((l.getD k zP).1, (l.getD k zP).2.1 + P, ())
theorem lg_len (k : Nat) : (lgL P l k).length = l.length := List.length_set
theorem lg_get {k i : Nat} (hk : k < l.length) : (lgL P l k).getD i zP = if i = k then ((l.getD k zP).1, (l.getD k zP).2.1 + P, ()) else l.getD i zP := getD_set l k i _ _ hk
theorem lg_at {k i : Nat} (hk : k < l.length) : aT (lgL P l k) i = aT l i ∧ lO (lgL P l k) i = lO l i + if i = k then P else 0 := by
  unfold aT lO
  rw [lg_get hk]
  by_cases c : i = k
  · subst c; rw [if_pos rfl, if_pos rfl]; exact ⟨rfl, rfl⟩
  · rw [if_neg c, if_neg c, Int.add_zero]; exact ⟨rfl, rfl⟩
theorem lg_gp {k : Nat} (hk : k < l.length) (i j : Nat) : gp P (lgL P l k) i j = gp P l i j := by
  unfold gp eN
  rw [(lg_at hk).1, (lg_at hk).1, (lg_at hk).2]
  by_cases c : i = k
  · rw [if_pos c, ← Int.add_assoc, Int.add_emod_right]
  · rw [if_neg c, Int.add_zero]
theorem sm_one (k : Nat) (x : Int) : ∀ N, sm (fun i => if i = k then x else 0) (List.range N) = if k < N then x else 0
  | 0 => by simp [sm]
  | N + 1 => by
    rw [sm_range, sm_one k x N]
    by_cases c : N = k
    · rw [if_neg (by omega), if_pos c, if_pos (by omega)]; omega
    · rw [if_neg c]
      by_cases d : k < N
      · rw [if_pos d, if_pos (by omega)]; omega
      · rw [if_neg d, if_neg (by omega)]; omega
theorem lg_rd (hP : 1 ≤ P) {k : Nat} (hk : k < l.length) {o : List Nat} (ho : o.Perm (List.range l.length)) : rdL P (lgL P l k) o = rdL P l o + 1 := by
  cases o with
  | nil => have := ho.length_eq; rw [List.length_range] at this; simp at this; omega
  | cons h t =>
    show tot P _ h t / P = tot P l h t / P + 1
    have e : tot P (lgL P l k) h t = tot P l h t + P := by
      unfold tot
      rw [sm_ext (fun n => (lg_at hk).2), sm_add (lO l) (fun i => if i = k then P else 0), sm_perm (f := fun i => if i = k then P else 0) ho, sm_one, if_pos hk]
      have : wst P (lgL P l k) h (t ++ [h]) = wst P l h (t ++ [h]) := by
        have key : ∀ (s : List Nat) (a : Nat), wst P (lgL P l k) a s = wst P l a s := by
          intro s
          induction s with
          | nil => intro a; rfl
          | cons y s ih => intro a; rw [wst, wst, lg_gp hk, ih]
        exact key _ _
      rw [this]; omega
    rw [e, Int.add_ediv_of_dvd_right (Int.dvd_refl P), Int.ediv_self (by omega)]
theorem all_perm {N : Nat} (h1 : 1 ≤ N) {o : List Nat} (h : o ∈ allO N) : o.Perm (List.range N) := by
  obtain ⟨z, rfl, hp⟩ := (mem_allO h1).1 h
  exact hp
theorem lg_le (hP : 1 ≤ P) {k : Nat} (hk : k < l.length) : leR P (lgL P l k) = leR P l + 1 := by
  have h1 : 1 ≤ l.length := by omega
  have hne : l ≠ [] := fun e => by rw [e] at hk; cases hk
  have hne2 : lgL P l k ≠ [] := fun e => by have := lg_len (P := P) (l := l) k; rw [e] at this; simp at this; omega
  obtain ⟨o, ho, e⟩ := leR_mem (P := P) hne
  obtain ⟨q, hq, f⟩ := leR_mem (P := P) hne2
  rw [lg_len] at hq
  have a := leR_all (P := P) (l := lgL P l k) (o := o) (by rw [lg_len]; exact ho)
  rw [lg_rd hP hk (all_perm h1 ho), e] at a
  have b := leR_all (P := P) (l := l) (o := q) hq
  rw [lg_rd hP hk (all_perm h1 hq)] at f
  omega
theorem sdP_snd (P a : Int) (xs : List Int) {k i : Nat} (hi : i < k) : (sdP P a xs k).2.getD i zP = ((sdP P a xs i).1, xs.getD i 0, ()) := by
  induction k with
  | zero => cases hi
  | succ k ih =>
    have e : (sdP P a xs (k + 1)).2 = (sdP P a xs k).2 ++ [((sdP P a xs k).1, xs.getD k 0, ())] := rfl
    rw [e]
    have hl := sdP_len P a xs k
    by_cases c : i < k
    · rw [add_get (by rw [hl]; exact c), ih c]
    · have : i = k := by omega
      subst this
      rw [List.getD_eq_getElem?_getD, List.getElem?_append_right (by rw [hl]; exact Nat.le_refl _), hl, Nat.sub_self]; rfl
end Go.Proofs.Ytinehlphcckkmaa

namespace Go.Proofs.Ytinehlphcckkmaa
open Go Go.RowKit Ox Ox.Sh Ox.Se
variable {P : Int} {l m : List Pt}
theorem perm_ord {o : List Nat} (hp : o.Perm (List.range l.length)) : Ord l.length (iL o) :=
  ord_of (by rw [hp.length_eq, List.length_range]) (fun n hn => List.mem_range.1 (hp.mem_iff.1 hn)) (hp.nodup_iff.2 List.nodup_range)
theorem ord_facts (hz : seE P l = 0) {o : List Nat} (hp : o.Perm (List.range l.length)) : ordE P l (iL o) = 0 ∧ rdI P l (iL o) = rdL P l o ∧ wasI P l (iL o) = wasL P l o o.length := by
  have h : ordE P l (iL o) = 0 := ordE_ok.2 ⟨hz, perm_ord hp⟩
  refine ⟨h, ?_, ?_⟩
  · unfold rdI; rw [if_pos h, nat_iL]
  · unfold wasI; rw [if_pos h, nat_iL]
theorem iL_rot (o : List Nat) (k : Nat) : iL (rotL o k) = rotL (iL o) k := by
  simp [rotL, List.map_drop, List.map_take]
theorem wasL_get (P : Int) (l : List Pt) (o : List Nat) {k i : Nat} (h : i < k) : (wasL P l o k).getD i 0 = gp P l (o.getD i 0) (nx1 o i) := by
  rw [getD_nat _ (by rw [wasL_len]; exact h)]
  simp [wasL]
theorem was_rot (o : List Nat) {k i : Nat} (hk : k < o.length) (hi : i < o.length) : (wasL P l (rotL o k) (rotL o k).length).getD i 0 = (wasL P l o o.length).getD ((i + k) % o.length) 0 := by
  rw [wasL_get _ _ _ (by rw [rot_len]; exact hi), wasL_get _ _ _ (Nat.mod_lt _ (by omega)), rot_get o 0 hk hi, nx1_rot o hk hi]
theorem con_two (hz : seE P l = 0) {a b : Nat} (ha : a < l.length) (hb : b < l.length) : conE P l [(a : Int), (b : Int)] = if gp P l a b = 0 then 0 else 20 := by
  unfold conE
  have hi : inB l [(a : Int), (b : Int)] = true := inB_iff.2 fun x hx => by
    simp only [List.mem_cons, List.not_mem_nil, or_false] at hx
    rcases hx with rfl | rfl <;> omega
  rw [if_neg (by rw [hz]; simp), if_neg (by rw [hi]; simp)]
  have e : conB P l [(a : Int), (b : Int)] ([(a : Int), (b : Int)].length - 1) = decide (gp P l a b = 0) := by
    show conB P l [(a : Int), (b : Int)] 1 = _
    unfold conB
    simp
  rw [e]
  by_cases h : gp P l a b = 0
  · rw [if_pos h, decide_eq_true h, if_neg (by simp)]
  · rw [if_neg h, decide_eq_false h, if_pos rfl]
theorem tot_all (hP : 1 ≤ P) {o : List Nat} (h1 : 1 ≤ l.length) (hp : o.Perm (List.range l.length)) : totK P l o o.length = rdL P l o * P := by
  cases o with
  | nil => have := hp.length_eq; rw [List.length_range] at this; simp at this; omega
  | cons h t =>
    rw [totK_tot]
    have := tot_rd (P := P) hP (h := h) (t := t) hp
    rw [this, Int.mul_comm]; rfl
theorem sd_in (hP : 1 ≤ P ∧ P ≤ 1000) {a : Int} (ha : 0 ≤ a ∧ a < P) {xs : List Int} (hx : ∀ x ∈ xs, 1 ≤ x ∧ x ≤ 10000) : ∀ k, k ≤ xs.length → 0 ≤ (sdP P a xs k).1 ∧ (sdP P a xs k).1 < P
  | 0, _ => ha
  | k + 1, hk => by
    show 0 ≤ sdN P _ _ ∧ sdN P _ _ < P
    have ih := sd_in hP ha hx k (by omega)
    unfold sdN
    split
    · exact mod_bd hP.1 _
    · exact ih
theorem sd_step (hP : 1 ≤ P ∧ P ≤ 1000) {a : Int} (ha : 0 ≤ a ∧ a < P) {xs : List Int} (hx : ∀ x ∈ xs, 1 ≤ x ∧ x ≤ 10000) {k : Nat} (hk : k < xs.length) : (sdP P a xs (k + 1)).1 = ((sdP P a xs k).1 + xs.getD k 0) % P := by
  show sdN P _ _ = _
  have ih := sd_in hP ha hx k (by omega)
  have hxk := hx _ (by rw [getD_nat xs hk]; exact List.getElem_mem hk : xs.getD k 0 ∈ xs)
  unfold sdN
  rw [if_pos ⟨hP, ⟨ih.1, by omega⟩, hxk⟩]
theorem sdL_len (P a : Int) (xs : List Int) : (sdL P a xs).length = xs.length := sdP_len P a xs _
theorem sd_at {a : Int} {xs : List Int} {i : Nat} (hi : i < xs.length) : (sdL P a xs).getD i zP = ((sdP P a xs i).1, xs.getD i 0, ()) := sdP_snd P a xs hi
theorem sd_lO {a : Int} {xs : List Int} {i : Nat} (hi : i < xs.length) : lO (sdL P a xs) i = xs.getD i 0 := by unfold lO; rw [sd_at hi]
theorem sd_se (hP : 1 ≤ P ∧ P ≤ 1000) {a : Int} (ha : 0 ≤ a ∧ a < P) {xs : List Int} (hx : ∀ x ∈ xs, 1 ≤ x ∧ x ≤ 10000) (h1 : 1 ≤ xs.length) (h8 : xs.length ≤ 8) : seE P (sdL P a xs) = 0 := by
  refine se_of hP (by rw [sdL_len]; exact h1) (by rw [sdL_len]; exact h8) fun s hs => ?_
  obtain ⟨i, hi, rfl⟩ := List.getElem_of_mem hs
  have hi' : i < xs.length := by rwa [sdL_len] at hi
  have e := sd_at (P := P) (a := a) hi'
  rw [getD_nat _ hi] at e
  rw [e]
  exact ⟨sd_in hP ha hx i (by omega), hx _ (by rw [getD_nat xs hi']; exact List.getElem_mem hi')⟩
theorem sd_gp (hP : 1 ≤ P ∧ P ≤ 1000) {a : Int} (ha : 0 ≤ a ∧ a < P) {xs : List Int} (hx : ∀ x ∈ xs, 1 ≤ x ∧ x ≤ 10000) {i : Nat} (hi : i + 1 < xs.length) : gp P (sdL P a xs) i (i + 1) = 0 := by
  unfold gp eN aT lO
  rw [sd_at hi, sd_at (by omega : i < xs.length), sd_step hP ha hx (by omega : i < xs.length)]
  rw [Int.sub_self]; rfl
theorem getD_range {n i : Nat} (h : i < n) : (List.range n).getD i 0 = i := by
  rw [getD_nat _ (by rw [List.length_range]; exact h), List.getElem_range]
theorem nx1_range {n i : Nat} (h : i < n) : nx1 (List.range n) i = (i + 1) % n := by
  unfold nx1
  rw [List.length_range, getD_range (Nat.mod_lt _ (by omega))]
theorem sd_was (hP : 1 ≤ P ∧ P ≤ 1000) {a : Int} (ha : 0 ≤ a ∧ a < P) {xs : List Int} (hx : ∀ x ∈ xs, 1 ≤ x ∧ x ≤ 10000) {i : Nat} (hi : i + 1 < xs.length) : (wasL P (sdL P a xs) (List.range xs.length) xs.length).getD i 0 = 0 := by
  rw [wasL_get _ _ _ (by omega), getD_range (by omega), nx1_range (by omega), Nat.mod_eq_of_lt hi, sd_gp hP ha hx hi]
theorem sd_con (hP : 1 ≤ P ∧ P ≤ 1000) {a : Int} (ha : 0 ≤ a ∧ a < P) {xs : List Int} (hx : ∀ x ∈ xs, 1 ≤ x ∧ x ≤ 10000) (h1 : 1 ≤ xs.length) (h8 : xs.length ≤ 8) : conE P (sdL P a xs) (iL (List.range xs.length)) = 0 := by
  unfold conE
  have hi : inB (sdL P a xs) (iL (List.range xs.length)) = true := inB_iff.2 fun x hx => by
    obtain ⟨n, hn, rfl⟩ := List.mem_map.1 hx
    have := List.mem_range.1 hn
    rw [sdL_len]; constructor <;> omega
  rw [if_neg (by rw [sd_se hP ha hx h1 h8]; simp), if_neg (by rw [hi]; simp), if_neg]
  rw [iL_len, List.length_range]
  have hc : conB P (sdL P a xs) (iL (List.range xs.length)) (xs.length - 1) = true := by
    unfold conB
    rw [List.all_eq_true]
    intro i hi
    have hi' := List.mem_range.1 hi
    rw [iL_getD, iL_getD, Int.toNat_natCast, Int.toNat_natCast, getD_range (by omega), getD_range (by omega), sd_gp hP ha hx (by omega)]
    rfl
  rw [hc]; simp
theorem sum_take (xs : List Int) {i : Nat} (h : i < xs.length) : (xs.take (i + 1)).sum = (xs.take i).sum + xs.getD i 0 := by
  rw [take_snoc xs h 0, List.sum_append]; simp
theorem sm_sum {a : Int} {xs : List Int} : ∀ k, k ≤ xs.length → sm (lO (sdL P a xs)) (List.range k) = (xs.take k).sum
  | 0, _ => by simp [sm]
  | k + 1, hk => by rw [sm_range, sm_sum k (by omega), sum_take xs (by omega), sd_lO (by omega)]
theorem sd_rd (hP : 1 ≤ P ∧ P ≤ 1000) {a : Int} (ha : 0 ≤ a ∧ a < P) {xs : List Int} (hx : ∀ x ∈ xs, 1 ≤ x ∧ x ≤ 10000) (h1 : 1 ≤ xs.length) (h8 : xs.length ≤ 8) :
    rdL P (sdL P a xs) (List.range xs.length) = (xs.sum + P - 1) / P ∧ leR P (sdL P a xs) = (xs.sum + P - 1) / P := by
  have hne : sdL P a xs ≠ [] := fun e => by have := sdL_len P a xs; rw [e] at this; simp at this; omega
  have hsum : sm (lO (sdL P a xs)) (List.range xs.length) = xs.sum := by rw [sm_sum _ (Nat.le_refl _), List.take_length]
  have ht := tot_all (P := P) (l := sdL P a xs) hP.1 (o := List.range xs.length) (by rw [sdL_len]; exact h1) (by rw [sdL_len])
  have hk : ∀ k, k + 1 ≤ xs.length → totK P (sdL P a xs) (List.range xs.length) k = sm (lO (sdL P a xs)) (List.range k) := by
    intro k hk
    induction k with
    | zero => rfl
    | succ k ih =>
      rw [totK_succ, ih (by omega), sm_range]
      unfold stp
      rw [getD_range (by omega), nx1_range (by omega), Nat.mod_eq_of_lt hk, sd_gp hP ha hx hk]; omega
  have hg := gp_bd (l := sdL P a xs) hP.1 (xs.length - 1) 0
  have e2 : totK P (sdL P a xs) (List.range xs.length) (List.range xs.length).length = xs.sum + gp P (sdL P a xs) (xs.length - 1) 0 := by
    obtain ⟨n, hn⟩ : ∃ n, xs.length = n + 1 := ⟨xs.length - 1, by omega⟩
    rw [List.length_range, ← hsum]
    have := hk n (by omega)
    rw [hn] at this ⊢
    rw [totK_succ, this, sm_range]
    unfold stp
    rw [getD_range (by omega), nx1_range (by omega), Nat.mod_self]
    show _ = _ + gp P _ n 0
    omega
  rw [e2] at ht
  generalize gp P (sdL P a xs) (xs.length - 1) 0 = g at hg ht
  obtain ⟨z, hz, he⟩ := leR_ex (P := P) hne
  have t2 := tot_rd (P := P) hP.1 hz
  have hz' : (0 :: z).Perm (List.range (sdL P a xs).length) := hz
  have t3 : xs.sum ≤ tot P (sdL P a xs) 0 z := by
    unfold tot
    rw [sm_perm hz', sdL_len, hsum]
    have := wst_nn (l := sdL P a xs) hP.1 (z ++ [0]) 0
    omega
  rw [t2, he] at t3
  have hle := leR_all (P := P) (l := sdL P a xs) (o := List.range xs.length) (by rw [sdL_len]; exact range_all h1)
  generalize rdL P (sdL P a xs) (List.range xs.length) = r at ht hle ⊢
  generalize leR P (sdL P a xs) = q at t3 hle ⊢
  have hr : r = (xs.sum + P - 1) / P := by
    rw [show xs.sum + P - 1 = r * P + (P - 1 - g) by omega, Int.add_comm, Int.add_mul_ediv_right _ _ (by omega), Int.ediv_eq_zero_of_lt (by omega) (by omega)]
    omega
  have hq : r ≤ q := by
    refine Classical.byContradiction fun h => ?_
    have h' : q + 1 ≤ r := by omega
    have := Int.mul_le_mul_of_nonneg_left h' (by omega : 0 ≤ P)
    rw [Int.mul_add, Int.mul_one, Int.mul_comm P r] at this
    omega
  exact ⟨hr, by omega⟩
theorem fol_nx {o : List Nat} {N a b : Nat} (hp : o.Perm (List.range N)) {i : Nat} (hi : i < o.length) (ha : o.getD i 0 = a) : folB o a b = decide (nx1 o i = b) := by
  have hn := hp.nodup_iff.2 List.nodup_range
  have hm : a ∈ o := by rw [← ha, getD_nat o hi]; exact List.getElem_mem hi
  rw [fol_idx hn hm]
  have hil := List.idxOf_lt_length_of_mem hm
  have : i = o.idxOf a := by
    rw [getD_nat o hi] at ha
    have h2 : o[o.idxOf a] = a := List.getElem_idxOf hil
    exact (List.getElem_inj hn).1 (ha.trans h2.symm)
  rw [← this]
end Go.Proofs.Ytinehlphcckkmaa

namespace Go.Proofs.Ytinehlphcckkmaa
open Go Go.RowKit Ox Ox.Sh Ox.Se
attribute [local irreducible] JC JL JK JW
attribute [local irreducible] ovA stA pkV
theorem fine_of {P : Int} {l : List Pt} {u : List Int} (hc : (bif !decide (seE P l = 0) then true else decide ((u.length : Int) > 30)) = false) : seE P l = 0 ∧ u.length ≤ 30 := by
  by_cases e : seE P l = 0
  · rw [decide_eq_true e] at hc
    have := of_decide_eq_false hc
    exact ⟨e, by omega⟩
  · rw [decide_eq_false e] at hc; cases hc
end Go.Proofs.Ytinehlphcckkmaa

namespace Go.Proofs.Ytinehlphcckkmaa
open Go Go.RowKit Ox Ox.Sh Ox.Se
attribute [local irreducible] JC JL JK JW
attribute [local irreducible] ovA stA pkV
def nxT (o : List Nat) : Nat → List Int
  | 0 => List.replicate o.length 0
  | k + 1 => (nxT o k).set (o.getD k 0) ((nx1 o k : Nat) : Int)
theorem nxT_len (o : List Nat) : ∀ k, (nxT o k).length = o.length
  | 0 => List.length_replicate
  | k + 1 => by rw [nxT, List.length_set, nxT_len o k]
theorem nxT_get {o : List Nat} (hn : o.Nodup) (hb : ∀ n ∈ o, n < o.length) : ∀ k, k ≤ o.length → ∀ j, j < k → (nxT o k).getD (o.getD j 0) 0 = ((nx1 o j : Nat) : Int)
  | 0, _, j, h => by omega
  | k + 1, hk, j, hj => by
    have hok : o.getD k 0 < (nxT o k).length := by rw [nxT_len]; exact get_lt hb (by omega)
    rw [nxT, getD_set _ _ _ _ _ hok]
    by_cases e : j = k
    · subst e; rw [if_pos rfl]
    · rw [if_neg, nxT_get hn hb k (by omega) j (by omega)]
      intro h
      rw [getD_nat o (by omega), getD_nat o (by omega)] at h
      exact e ((List.getElem_inj hn).1 h)
theorem nxT_all {P : Int} {l : List Pt} (h1 : 1 ≤ l.length) {o : List Nat} (hp : o.Perm (List.range l.length)) (hb : rdL P l o = leR P l) {a : Nat} (ha : a < l.length) (b : Nat) :
    ∃ t : Nat, (nxT o o.length).getD a 0 = (t : Int) ∧ (kindV P l a b = 2 → t = b) ∧ (kindV P l a b = 0 → t ≠ b) := by
  have hn := hp.nodup_iff.2 List.nodup_range
  have hol : o.length = l.length := by rw [hp.length_eq, List.length_range]
  have hon : ∀ n ∈ o, n < o.length := fun n hn => by rw [hol]; exact List.mem_range.1 (hp.mem_iff.1 hn)
  have hm : a ∈ o := hp.mem_iff.2 (List.mem_range.2 ha)
  obtain ⟨j, hj, e⟩ := List.getElem_of_mem hm
  have e2 : o.getD j 0 = a := by rw [getD_nat o hj]; exact e
  refine ⟨nx1 o j, ?_, ?_⟩
  · have := nxT_get hn hon o.length (Nat.le_refl _) j hj
    rwa [e2] at this
  · obtain ⟨k1, k2⟩ := any_kind h1 hp hb a b
    have hf := fol_nx (b := b) hp hj e2
    exact ⟨fun h => of_decide_eq_true (hf.symm.trans (k1 h)), fun h => of_decide_eq_false (hf.symm.trans (k2 h))⟩
set_option maxHeartbeats 8000000 in
theorem law15 (w : W18) (P : Int) (l : List Pt) (u : List Int) (hu : ∀ x ∈ u, 0 ≤ x ∧ x ≤ 255) : Ox.Fn Try.prog 15 (.acons (vS P l) (.acons (vU u) .anil)) (· = vB true) := by
  refine Ox.Fn.intro xok Try.func15 rfl Try.call15 (Nat.le_of_ble_eq_true rfl) (fun E M0 up => ?_)
  refine JK.start ?_
  (repeat (first | refine zs rfl ?_ | refine zg rfl rfl rfl ?_ | refine zd ?_ | refine JK.fin ?_ | refine JK.ret ?_ | refine zc rfl (fn50 P l) rfl rfl ?_ | refine ze rfl (fn50 P l) rfl ?_ | refine zk rfl rfl (fun _ => fn50 P l) rfl rfl ?_ | refine zc rfl (fn35 P l) rfl rfl ?_ | refine ze rfl (fn35 P l) rfl ?_ | refine zk rfl rfl (fun _ => fn35 P l) rfl rfl ?_))
  refine JK.cond rfl (fun hc => ?_) (fun hc => ?_)
  · (repeat (first | refine zs rfl ?_ | refine zg rfl rfl rfl ?_ | refine zd ?_ | refine JK.fin ?_ | refine JK.ret ?_ | refine zc rfl (w) rfl rfl ?_ | refine ze rfl (w) rfl ?_ | refine zk rfl rfl (fun _ => w) rfl rfl ?_))
    refine ⟨.inl rfl, _, _, rfl, trivial, ?_⟩
    rfl
  · have hc2 : (bif bif bif !decide (seE P l = 0) then true else decide (seE P l = 0 ∧ l.length > 6) then true else decide ((l.length : Int) < 2) then true else decide ((u.length : Int) > 30)) = false := hc
    have hz : seE P l = 0 ∧ 2 ≤ l.length ∧ l.length ≤ 6 ∧ u.length ≤ 30 := by
      by_cases e : seE P l = 0
      · rw [decide_eq_true e] at hc2
        by_cases e2 : seE P l = 0 ∧ l.length > 6
        · rw [decide_eq_true e2] at hc2; cases hc2
        · rw [decide_eq_false e2] at hc2
          by_cases e3 : (l.length : Int) < 2
          · rw [decide_eq_true e3] at hc2; cases hc2
          · rw [decide_eq_false e3] at hc2
            have := of_decide_eq_false hc2
            exact ⟨e, by omega, by omega, by omega⟩
      · rw [decide_eq_false e] at hc2; cases hc2
    obtain ⟨hz, h2, h6, hul⟩ := hz
    obtain ⟨hP, h1, h8, hl⟩ := se_ok.1 hz
    obtain ⟨bo1, bo2⟩ := best_ord hz
    obtain ⟨b1, b2, b3, b4⟩ := best_has hP.1 h1 h8
    have hbp : (bestO P l).Perm (List.range l.length) := all_perm h1 ((mem_bests h1).1 (best_in hP.1 h1 h8)).1
    have c36 := fn36 P l
    rw [show bstI P l = iL (bestO P l) by unfold bstI; rw [if_pos hz], show lstI P l = leR P l by unfold lstI; rw [if_pos hz], hz] at c36
    have c55 := fn55 P l (iL (bestO P l))
    obtain ⟨bt, hbt⟩ : ∃ b, b = true := ⟨_, rfl⟩
    rw [decide_eq_true (ordE_ok.1 bo1).2, ← hbt] at c55
    have hbl := iL_len (bestO P l)
    rw [b1] at hbl
    have hp := ordR_perm u l.length
    have c52 := fn52 P l u (by omega) hu (by omega)
    generalize ordR u l.length = o at hp c52
    obtain ⟨o1, o2, _⟩ := ord_facts hz hp
    have c30 := fn30 P l (iL o)
    rw [o1, o2] at c30
    have hB : ∃ q : List Nat, iL (bestO P l) = iL q ∧ q.Perm (List.range l.length) ∧ rdL P l q = leR P l := ⟨_, rfl, hbp, b4⟩
    have hX : rdL P l o = leR P l → ∃ q : List Nat, iL o = iL q ∧ q.Perm (List.range l.length) ∧ rdL P l q = leR P l := fun e => ⟨_, rfl, hp, e⟩
    have hxl : (iL o).length = l.length := by rw [iL_len, hp.length_eq, List.length_range]
    generalize iL (bestO P l) = B at c36 c55 hbl hB
    generalize iL o = X at c52 c30 hX hxl
    generalize rdL P l o = R at c30 hX
    (repeat (first | refine zs rfl ?_ | refine zg rfl rfl rfl ?_ | refine zd ?_ | refine JK.fin ?_ | refine JK.ret ?_ | refine zc rfl (c36) rfl rfl ?_ | refine ze rfl (c36) rfl ?_ | refine zk rfl rfl (fun _ => c36) rfl rfl ?_ | refine zc rfl (c55) rfl rfl ?_ | refine ze rfl (c55) rfl ?_ | refine zk rfl rfl (fun _ => c55) rfl rfl ?_))
    refine JK.cond rfl (fun h => ?_) (fun _ => ?_)
    · exfalso
      have h2 : (bif ((0 : Int) != 0) then true else !bt) = true := h
      rw [hbt] at h2; simp at h2
    (repeat (first | refine zs rfl ?_ | refine zg rfl rfl rfl ?_ | refine zd ?_ | refine JK.fin ?_ | refine JK.ret ?_ | refine zc rfl (c52) rfl rfl ?_ | refine ze rfl (c52) rfl ?_ | refine zk rfl rfl (fun _ => c52) rfl rfl ?_ | refine zc rfl (c30) rfl rfl ?_ | refine ze rfl (c30) rfl ?_ | refine zk rfl rfl (fun _ => c30) rfl rfl ?_))
    refine JK.cond rfl (fun h => absurd h (by decide)) (fun _ => ?_)
    (repeat (first | refine zu rfl ?_ | refine zg rfl rfl rfl ?_ | refine zd ?_ | refine JK.fin ?_ | refine JK.ret ?_))
    refine JK.cut (σ := List (List Int)) (fun OS => ⟨[(2, .lf (.optr 0 [])), (5, vL B), (10, .lf (.osl 1))], [(0, .cell seT (vS P l)), (1, .sl 26 (.slice (.int .i64)) OS)], 2⟩) (fun OS => OS.length ≤ 2 ∧ OS.flatten.length ≤ 16 ∧ ∀ X ∈ OS, ∃ q : List Nat, X = iL q ∧ q.Perm (List.range l.length) ∧ rdL P l q = leR P l) ?_ (fun OS hOS => ?_)
    · (repeat (first | refine zs rfl ?_ | refine zg rfl rfl rfl ?_ | refine zd ?_ | refine JK.fin ?_ | refine JK.ret ?_))
      refine JK.cond rfl (fun hf => ?_) (fun hf => ?_)
      · have hRe : R = leR P l := beq_iff_eq.1 hf
        (repeat (first | refine zs rfl ?_ | refine zg rfl rfl rfl ?_ | refine zd ?_ | refine JK.fin ?_ | refine JK.ret ?_))
        refine ⟨[B, X], by (exact JW.Auto (by conv => lhs; reduce)), ⟨by simp, by simp; omega, fun Y hY => ?_⟩⟩
        simp only [List.mem_cons, List.not_mem_nil, or_false] at hY
        rcases hY with rfl | rfl
        · exact hB
        · exact hX hRe
      · (repeat (first | refine zs rfl ?_ | refine zg rfl rfl rfl ?_ | refine zd ?_ | refine JK.fin ?_ | refine JK.ret ?_))
        refine ⟨[B], by (exact JW.Auto (by conv => lhs; reduce)), ⟨by simp, by simp; omega, fun Y hY => ?_⟩⟩
        rw [List.mem_singleton.1 hY]
        exact hB
    · obtain ⟨hO1, hO2, hO3⟩ := hOS
      clear hB hX c30 c52 c36 c55 hxl hp bo1 bo2 o1 o2 hbp
      (refine JK.fz [1] [2,5,10] rfl ?_)
      (repeat (first | refine zs rfl ?_ | refine zg rfl rfl rfl ?_ | refine zd ?_ | refine JK.fin ?_ | refine JK.ret ?_))
      refine JK.loop (fun i : Nat => ⟨[(2, .lf (.optr 0 [])), (5, vL B), (10, vLL OS), (11, vI (i : Int))], [(0, .cell seT (vS P l))], 2⟩) (fun i => i ≤ OS.length) (fun i => OS.length - i) 0 (Nat.zero_le _) (by (exact JW.Auto (by conv => lhs; reduce))) fun i hi => ?_
      (repeat (first | refine zs rfl ?_ | refine zg rfl rfl rfl ?_ | refine zd ?_ | refine JK.fin ?_ | refine JK.ret ?_))
      refine JK.cond rfl (fun hd => ?_) (fun hd => ?_)
      · (simp only [↓cdL] at hd; try simp only [Ty.dflt, Int.toNat_natCast] at hd)
        have hi' : i < OS.length := by omega
        obtain ⟨q, hq1, hq2, hq3⟩ := hO3 (OS.getD i []) (by rw [getD_nat OS hi']; exact List.getElem_mem hi')
        have hql : q.length = l.length := by rw [hq2.length_eq, List.length_range]
        have hqn : ∀ n ∈ q, n < l.length := fun n hn => List.mem_range.1 (hq2.mem_iff.1 hn)
        have hXl : (OS.getD i []).length = l.length := by rw [hq1, iL_len]; exact hql
        have hrep : (List.replicate ((B.length : Int)).toNat (Ty.dflt (.int .i64))).length = B.length := by simp
        (repeat (first | refine zs rfl ?_ | refine zg rfl rfl rfl ?_ | refine zd ?_ | refine JK.fin ?_ | refine JK.ret ?_))
        have hst0 : nxT q 0 = List.replicate ((B.length : Int)).toNat (Ty.dflt (.int .i64)) := by rw [nxT, Int.toNat_natCast, hql, hbl]; rfl
        refine JK.loop (fun k : Nat => ⟨[(2, .lf (.optr 0 [])), (5, vL B), (10, vLL OS), (11, vI (i : Int)), (12, .lf (.osl 2)), (13, vI (k : Int))], [(0, .cell seT (vS P l)), (2, .sl 3 (.int .i64) (nxT q k))], 3⟩) (fun k => k ≤ l.length) (fun k => l.length - k) 0 (Nat.zero_le _) (by rw [hst0]; (exact JW.Auto (by conv => lhs; reduce))) fun k hk => ?_
        have hTl := nxT_len q k
        have hfin : k = l.length → nxT q k = nxT q q.length := fun e => by rw [e, hql]
        have hsn : ∀ T, nxT q k = T → nxT q (k + 1) = T.set ((OS.getD i []).getD k 0).toNat ((OS.getD i []).getD (((k : Int) + 1) % (B.length : Int)).toNat 0) := fun T hT => by
          have e1 : ((OS.getD i []).getD k 0).toNat = q.getD k 0 := by rw [hq1, iL_getD, Int.toNat_natCast]
          have e2 : (OS.getD i []).getD (((k : Int) + 1) % (B.length : Int)).toNat 0 = ((nx1 q k : Nat) : Int) := by
            rw [nx1_term, hq1, iL_len, hql, hbl]
          rw [nxT, hT, e1, e2]
        replace hsn := hsn _ rfl
        generalize nxT q k = T at hTl hfin hsn ⊢
        (repeat (first | refine zs rfl ?_ | refine zg rfl rfl rfl ?_ | refine zd ?_ | refine JK.fin ?_ | refine JK.ret ?_))
        refine JK.cond rfl (fun he => ?_) (fun he => ?_)
        · (simp only [↓cdL] at he; try simp only [Ty.dflt, Int.toNat_natCast] at he)
          have hk' : k < l.length := by omega
          have hgk : 0 ≤ (OS.getD i []).getD k 0 ∧ (OS.getD i []).getD k 0 < (l.length : Int) := by
            rw [hq1, iL_getD]; have := get_lt hqn (i := k) (by omega); omega
          have hmk : 0 ≤ ((k : Int) + 1) % (B.length : Int) ∧ ((k : Int) + 1) % (B.length : Int) < (B.length : Int) := mod_ix (by omega)
          have hsl : (T.set ((OS.getD i []).getD k 0).toNat ((OS.getD i []).getD (((k : Int) + 1) % (B.length : Int)).toNat 0)).length = T.length := List.length_set
          (repeat (first | refine zs rfl ?_ | refine zg rfl rfl rfl ?_ | refine JK.fin ?_ | refine JK.ret ?_))
          refine JK.drawB xk (Try.f15.body.getD .skip) ⟨[(2, .lf (.optr 0 [])), (5, vL B), (10, vLL OS), (11, vI (i : Int)), (12, .lf (.osl 2)), (13, vI (k : Int))], [(0, .cell seT (vS P l)), (2, .sl 3 (.int .i64) (nxT q (k + 1)))], 3⟩ rfl 21 rfl ?_ ?_
          · rw [hsn]
            (refine JF.First 0 xk rfl rfl ?_; refine JF.First 1 xk rfl rfl ?_; refine JF.First 2 xk rfl rfl ?_; refine JF.First 3 xk rfl rfl ?_; refine JF.First 5 xk rfl rfl ?_; refine JF.First 8 xk rfl rfl ?_; refine JF.First 9 xk rfl rfl ?_; refine JF.First 10 xk rfl rfl ?_; refine JF.First 12 xk rfl rfl ?_; refine JF.First 13 xk rfl rfl ?_; refine JF.First 14 xk rfl rfl ?_; refine JF.First 15 xk rfl rfl ?_; refine JF.First 16 xk rfl rfl ?_; refine JF.Float 4 xk rfl rfl ?_; refine JF.Float 6 xk rfl rfl ?_; refine JF.Float 7 xk rfl rfl ?_; refine JF.Float 11 xk rfl rfl ?_; refine JF.Float 17 xk rfl rfl ?_; refine JF.Float 18 xk rfl rfl ?_; refine JF.Float 19 xk rfl rfl ?_; refine JF.Branch 20 [] xk ?_ ?_; (focus (repeat (first | exact StF.nil | refine StF.One rfl rfl rfl ?_))); refine (BrF.one rfl rfl ?_ BrF.nil); (· (first | refine JL.M0 xk rfl ?_ | refine JL.Q0 xk rfl ?_); refine JL.finN ?_; refine JF.Done xk StF.nil ?_; ((exact JW.Auto (by conv => lhs; reduce)))))
          · (repeat (first | refine zs rfl ?_ | refine zg rfl rfl rfl ?_ | refine zd ?_ | refine JK.fin ?_ | refine JK.ret ?_))
            exact ⟨k + 1, by (exact JW.Auto (by conv => lhs; reduce)), by omega, by omega⟩
        · (simp only [↓cdL] at he; try simp only [Ty.dflt, Int.toNat_natCast] at he)
          rw [hfin (by omega)]
          have hall := fun (a : Nat) (ha : a < l.length) (b : Nat) => nxT_all h1 hq2 hq3 ha b
          have hTT := nxT_len q q.length
          clear hsn hTl hfin T
          generalize nxT q q.length = T at hall hTT ⊢
          (refine JK.fz [2] [2,5,10,11,12] rfl ?_)
          (repeat (first | refine zs rfl ?_ | refine zg rfl rfl rfl ?_ | refine zd ?_ | refine JK.fin ?_ | refine JK.ret ?_))
          refine JK.loop (fun a : Nat => ⟨[(2, .lf (.optr 0 [])), (5, vL B), (10, vLL OS), (11, vI (i : Int)), (12, vL T), (14, vI (a : Int))], [(0, .cell seT (vS P l))], 3⟩) (fun a => a ≤ l.length) (fun a => l.length - a) 0 (Nat.zero_le _) (by (exact JW.Auto (by conv => lhs; reduce))) fun a ha => ?_
          (repeat (first | refine zs rfl ?_ | refine zg rfl rfl rfl ?_ | refine zd ?_ | refine JK.fin ?_ | refine JK.ret ?_))
          refine JK.cond rfl (fun hf => ?_) (fun hf => ?_)
          · (simp only [↓cdL] at hf; try simp only [Ty.dflt, Int.toNat_natCast] at hf)
            have ha' : a < l.length := by omega
            (repeat (first | refine zs rfl ?_ | refine zg rfl rfl rfl ?_ | refine zd ?_ | refine JK.fin ?_ | refine JK.ret ?_))
            refine JK.loop (fun b : Nat => ⟨[(2, .lf (.optr 0 [])), (5, vL B), (10, vLL OS), (11, vI (i : Int)), (12, vL T), (14, vI (a : Int)), (15, vI (b : Int))], [(0, .cell seT (vS P l))], 3⟩) (fun b => b ≤ l.length) (fun b => l.length - b) 0 (Nat.zero_le _) (by (exact JW.Auto (by conv => lhs; reduce))) fun b hb => ?_
            (repeat (first | refine zs rfl ?_ | refine zg rfl rfl rfl ?_ | refine zd ?_ | refine JK.fin ?_ | refine JK.ret ?_))
            refine JK.cond rfl (fun hg => ?_) (fun hg => ?_)
            · (simp only [↓cdL] at hg; try simp only [Ty.dflt, Int.toNat_natCast] at hg)
              have hb' : b < l.length := by omega
              (repeat (first | refine zs rfl ?_ | refine zg rfl rfl rfl ?_ | refine zd ?_ | refine JK.fin ?_ | refine JK.ret ?_))
              refine JK.cond rfl (fun hh => ?_) (fun hh => ?_)
              · (repeat (first | refine zs rfl ?_ | refine zg rfl rfl rfl ?_ | refine zd ?_ | refine JK.fin ?_ | refine JK.ret ?_))
                exact ⟨b + 1, by (exact JW.Auto (by conv => lhs; reduce)), by omega, by omega⟩
              · (simp only [↓cdL] at hh; try simp only [Ty.dflt, Int.toNat_natCast] at hh)
                obtain ⟨t, ht1, ht2, ht3⟩ := hall a ha' b
                have hkr := kind_range (P := P) (l := l) a b
                have e7 : kindE P l (a : Int) (b : Int) = 0 := kind_ok.2 ⟨hz, by omega, by omega, by omega⟩
                have c46 := fn46 P l (a : Int) (b : Int)
                rw [e7, show kindI P l (a : Int) (b : Int) = kindV P l a b by unfold kindI; rw [if_pos e7, Int.toNat_natCast, Int.toNat_natCast]] at c46
                generalize kindV P l a b = Kd at c46 ht2 ht3 hkr
                have t1 : decide (Kd < 0) = false := decide_eq_false (by omega)
                have t2 : decide (Kd > 2) = false := decide_eq_false (by omega)
                have t3 : (bif (Kd == 2) then (T.getD a 0 != (b : Int)) else false) = false := by
                  by_cases e : Kd = 2
                  · rw [ht1, ht2 e, e]; simp
                  · rw [beq_eq_false_iff_ne.2 e]; rfl
                have t4 : (bif (Kd == 0) then (T.getD a 0 == (b : Int)) else false) = false := by
                  by_cases e : Kd = 0
                  · have := ht3 e
                    rw [ht1, e, beq_eq_false_iff_ne.2 (by omega : (t : Int) ≠ b)]; rfl
                  · rw [beq_eq_false_iff_ne.2 e]; rfl
                (repeat (first | refine zs rfl ?_ | refine zg rfl rfl rfl ?_ | refine zd ?_ | refine JK.fin ?_ | refine JK.ret ?_ | refine zc rfl (c46) rfl rfl ?_ | refine ze rfl (c46) rfl ?_ | refine zk rfl rfl (fun _ => c46) rfl rfl ?_))
                refine JK.cond rfl (fun h => ?_) (fun _ => ?_)
                · exfalso
                  have h2 : (bif bif bif bif ((0 : Int) != 0) then true else (bif (Kd == 2) then (T.getD a 0 != (b : Int)) else false) then true else (bif (Kd == 0) then (T.getD a 0 == (b : Int)) else false) then true else decide (Kd < 0) then true else decide (Kd > 2)) = true := h
                  rw [t1, t2, t3, t4] at h2
                  simp at h2
                · (repeat (first | refine zs rfl ?_ | refine zg rfl rfl rfl ?_ | refine zd ?_ | refine JK.fin ?_ | refine JK.ret ?_))
                  exact ⟨b + 1, by (exact JW.Auto (by conv => lhs; reduce)), by omega, by omega⟩
            · (simp only [↓cdL] at hg; try simp only [Ty.dflt, Int.toNat_natCast] at hg)
              (repeat (first | refine zs rfl ?_ | refine zg rfl rfl rfl ?_ | refine zd ?_ | refine JK.fin ?_ | refine JK.ret ?_))
              exact ⟨a + 1, by (exact JW.Auto (by conv => lhs; reduce)), by omega, by omega⟩
          · (simp only [↓cdL] at hf; try simp only [Ty.dflt, Int.toNat_natCast] at hf)
            (repeat (first | refine zs rfl ?_ | refine zg rfl rfl rfl ?_ | refine zd ?_ | refine JK.fin ?_ | refine JK.ret ?_))
            exact ⟨i + 1, by (exact JW.Auto (by conv => lhs; reduce)), by omega, by omega⟩
      · (simp only [↓cdL] at hd; try simp only [Ty.dflt, Int.toNat_natCast] at hd)
        (repeat (first | refine zs rfl ?_ | refine zg rfl rfl rfl ?_ | refine zd ?_ | refine JK.fin ?_ | refine JK.ret ?_ | refine zc rfl (w) rfl rfl ?_ | refine ze rfl (w) rfl ?_ | refine zk rfl rfl (fun _ => w) rfl rfl ?_))
        refine ⟨.inl rfl, _, _, rfl, trivial, ?_⟩
        rfl
end Go.Proofs.Ytinehlphcckkmaa

namespace Ox
open Go Go.RowKit Go.ChangeShapes Go.WideShapes Go.ChangeAt
section
variable {H : Type} {enc : TypeId × Value → H} {P : Program} {w : World} {base : Nat} {spare : Nat → Bool} {held : Bool}
def Ty.argB : Ty → Bool
  | .int _ | .bool | .nil => true
  | .slice e => e.argB && decide (0 < e.size)
  | .arr _ e => e.argB
  | .cons a b => a.argB && b.argB
  | .ptr _ => false
theorem cells?_take {b off n : Nat} {spot : Option Nat} {cs : List Value} (h : w.cells? base ⟨b, off, spot⟩ n = some cs) (hn : 0 < n) :
    spot = none ∧ ∃ c ty fz, w.heap[b]? = some (.cells c ty fz) ∧ cs = (c.toList.drop off).take n := by
  unfold World.cells? at h
  split at h
  · have hl := mapM_some_length h
    have hg := fun i (hi : i < n) => mapM_some_get h i i (by simp [hi])
    have h0 := hg 0 hn
    rw [List.length_range] at hl
    rw [List.getElem?_eq_getElem (by omega)] at h0
    simp only [Addr.add, if_true, World.cell?] at h0
    split at h0
    · rename_i c ty fz hb
      split at h0
      · cases h0
      · rename_i hs
        have hs : spot = none := by simpa using hs
        subst hs
        refine ⟨rfl, c, ty, fz, hb, ?_⟩
        apply List.ext_getElem?
        intro i
        rw [List.getElem?_take]
        by_cases hi : i < n
        · rw [if_pos hi, ← hg i hi, Addr.add_plain, cell?_block hb, List.getElem?_drop]
          simp
        · rw [if_neg hi, List.getElem?_eq_none (by omega)]
    · cases h0
  · cases h
def Ty.fit : (t : Ty) → t.den → Prop
  | .int k, n => inK k n
  | .bool, _ => True
  | .slice e, l => ∀ y ∈ l, e.fit y
  | .ptr _, _ => True
  | .arr _ e, l => ∀ y ∈ l, e.fit y
  | .nil, _ => True
  | .cons a b, y => a.fit y.1 ∧ b.fit y.2
theorem inK_wf {k : IntKind} {n : Int} (h : (Lit.int k n).wf = true) : inK k n := by
  simp only [Lit.wf, Bool.and_eq_true, decide_eq_true_eq] at h
  cases k <;> exact h
def RepA (P : Program) (t : Ty) : Prop := ∀ {H : Type} {enc : TypeId × Value → H} {w : World} {base : Nat} {spare : Nat → Bool} {held : Bool} (id : TypeId) (fuel : Nat) (cs : List Value) (x : DataW H × List MemPlace),
  TyOf P t id → t.argB = true → DataW.trod enc P w base spare held fuel id cs = some x → ∃ y, Rep (fun b => w.heap[b]?) t y cs ∧ t.fit y
def RepF (P : Program) (t : Ty) : Prop := ∀ {H : Type} {enc : TypeId × Value → H} {w : World} {base : Nat} {spare : Nat → Bool} {held : Bool} (fs : List Field) (off fuel : Nat) (cs : List Value),
  TyOf.fields P t fs off → t.argB = true → cs.length = off + t.size → (∀ (i : Nat) (f : Field), fs[i]? = some f → ∃ x, DataW.trod enc P w base spare held fuel f.type ((cs.drop f.offset).take (P.cellsOf f.type)) = some x) →
    ∃ y, Rep (fun b => w.heap[b]?) t y (cs.drop off) ∧ t.fit y
theorem list_of {α : Type} {n : Nat} {p : Nat → α → Prop} (h : ∀ i, i < n → ∃ y, p i y) : ∃ l : List α, l.length = n ∧ ∀ i (hi : i < l.length), p i (l.get ⟨i, hi⟩) := by
  induction n with
  | zero => exact ⟨[], rfl, fun i hi => absurd hi (by simp)⟩
  | succ n ih =>
    obtain ⟨l, h1, h2⟩ := ih fun i hi => h i (by omega)
    obtain ⟨y, hy⟩ := h n (by omega)
    refine ⟨l ++ [y], by simp [h1], fun i hi => ?_⟩
    simp only [List.get_eq_getElem]
    by_cases hl : i < l.length
    · rw [List.getElem_append_left hl]; exact h2 i hl
    · have : i = l.length := by simp at hi; omega
      subst this
      rw [List.getElem_append_right (Nat.le_refl _)]
      simp only [Nat.sub_self, List.getElem_cons_zero]
      rw [h1]; exact hy
theorem rep_all (P : Program) : ∀ t : Ty, RepA P t ∧ RepF P t := by
  intro t
  induction t with
  | int k =>
    refine ⟨fun id fuel cs x ht _ h => ?_, fun fs off fuel cs hf _ _ _ => by simp [TyOf.fields] at hf⟩
    simp only [TyOf] at ht
    have hu := ht.under
    cases fuel with
    | zero => simp [DataW.trod] at h
    | succ n =>
      unfold DataW.trod at h
      rw [hu] at h
      split at h <;> try (simp_all; done)
      rename_i k' q n' he
      split at h
      · rename_i hk
        injection he with he
        injection he with he
        subst he
        exact ⟨n', by simp only [Rep]; rw [hk.1], inK_wf hk.2⟩
      · cases h
  | bool =>
    refine ⟨fun id fuel cs x ht _ h => ?_, fun fs off fuel cs hf _ _ _ => by simp [TyOf.fields] at hf⟩
    simp only [TyOf] at ht
    have hu := ht.under
    cases fuel with
    | zero => simp [DataW.trod] at h
    | succ n =>
      unfold DataW.trod at h
      rw [hu] at h
      split at h <;> try (simp_all; done)
      rename_i b he
      exact ⟨b, by simp only [Rep], trivial⟩
  | slice e ih =>
    refine ⟨@fun H enc w base spare held id fuel cs x ht hb h => ?_, fun fs off fuel cs hf _ _ _ => by simp [TyOf.fields] at hf⟩
    simp only [TyOf] at ht
    obtain ⟨eid, hi, he⟩ := ht
    simp only [Ty.argB, Bool.and_eq_true, decide_eq_true_eq] at hb
    have hsz := cells_of he
    rcases DataW.trod_slice hi.under h with ⟨h0, _⟩ | ⟨a, len, cap, elems, rest, n, _, rfl, _, _, hlc, hcm, hel, hg, _⟩
    · exact ⟨[], by simp only [Rep]; exact ⟨none, 0, h0, Nat.le_refl _, Nat.zero_le _, fun _ => rfl, .inl rfl⟩, fun y hy => by cases hy⟩
    · have each : ∀ i, i < len → ∃ y : e.den, ∃ spot c ty fz, a = ⟨a.block, a.off, spot⟩ ∧ (spot = none ∨ i ≠ 0) ∧ ∃ _ : w.heap[a.block]? = some (.cells c ty fz), Rep (fun b => w.heap[b]?) e y ((c.toList.drop (a.off + i * e.size)).take e.size) ∧ e.fit y := by
        intro i hi'
        have h1 := hg i hi'
        rw [List.getElem?_eq_getElem (by omega), Option.bind_eq_some_iff, hsz] at h1
        obtain ⟨ce, h2, h3⟩ := h1
        obtain ⟨blk, off, spot⟩ := a
        by_cases h0 : i * e.size = 0
        · have hi0 : i = 0 := by
            rcases Nat.mul_eq_zero.1 h0 with h0 | h0
            · exact h0
            · omega
          subst hi0
          simp only [Nat.zero_mul, Addr.add, if_true] at h2
          obtain ⟨hs, c, ty, fz, h4, rfl⟩ := cells?_take h2 hb.2
          obtain ⟨y, hy, hyf⟩ := ih.1 eid n _ _ he hb.1 h3
          exact ⟨y, spot, c, ty, fz, rfl, .inl hs, h4, by simpa using hy, hyf⟩
        · have e1 : (Addr.add ⟨blk, off, spot⟩ (i * e.size)) = ⟨blk, off + i * e.size, none⟩ := by simp only [Addr.add, if_neg h0]
          rw [e1] at h2
          obtain ⟨hs, c, ty, fz, h4, rfl⟩ := cells?_take h2 hb.2
          obtain ⟨y, hy, hyf⟩ := ih.1 eid n _ _ he hb.1 h3
          exact ⟨y, spot, c, ty, fz, rfl, .inr (fun hi0 => h0 (by rw [hi0, Nat.zero_mul])), h4, hy, hyf⟩
      by_cases hl0 : len = 0
      · subst hl0
        exact ⟨[], by simp only [Rep]; exact ⟨some a, cap, rfl, Nat.zero_le _, hcm, (fun h => by cases h), .inl rfl⟩, fun y hy => by cases hy⟩
      · obtain ⟨y0, spot, c, ty, fz, ha, hs, hc, _⟩ := each 0 (by omega)
        have hs : spot = none := hs.resolve_right (fun h => h rfl)
        subst hs
        obtain ⟨l, hl, hr⟩ := list_of (p := fun i (y : e.den) => Rep (fun b => w.heap[b]?) e y ((c.toList.drop (a.off + i * e.size)).take e.size) ∧ e.fit y) (n := len) (fun i hi' => by
          obtain ⟨y, _, c', ty', fz', _, _, hc', hy⟩ := each i hi'
          rw [hc] at hc'
          injection hc' with hc'
          injection hc' with hc' _ _
          subst hc'
          exact ⟨y, hy⟩)
        refine ⟨l, ?_, fun y hy => by
          obtain ⟨i, hi, rfl⟩ := List.mem_iff_get.1 hy
          exact (hr i.1 i.2).2⟩
        simp only [Rep]
        refine ⟨some a, cap, by rw [hl], by rw [hl]; exact hlc, hcm, (fun h => by cases h), .inr ⟨a.block, a.off, c, ty, fz, by rw [ha], hc, fun i hi => (hr i hi).1⟩⟩
  | ptr e ih => exact ⟨fun id fuel cs x _ hb _ => by simp [Ty.argB] at hb, fun fs off fuel cs hf _ _ _ => by simp [TyOf.fields] at hf⟩
  | arr n e ih =>
    refine ⟨@fun H enc w base spare held id fuel cs x ht hb h => ?_, fun fs off fuel cs hf _ _ _ => by simp [TyOf.fields] at hf⟩
    simp only [TyOf] at ht
    obtain ⟨eid, hi, he⟩ := ht
    simp only [Ty.argB] at hb
    have hsz := cells_of he
    have hsa : P.cellsOf id = n * e.size := cells_of (t := .arr n e) ⟨eid, hi, he⟩
    obtain ⟨xs, m, _, _, hl, hxl, hg⟩ := DataW.trod_array hi.under h
    obtain ⟨l, h1, h2⟩ := list_of (p := fun i (y : e.den) => Rep (fun b => w.heap[b]?) e y ((cs.drop (i * e.size)).take e.size) ∧ e.fit y) (n := n) (fun i hi' => by
      have h3 := hg i hi'
      rw [hsz, List.getElem?_eq_getElem (by omega)] at h3
      exact ih.1 eid m _ _ he hb h3)
    exact ⟨l, by simp only [Rep]; exact ⟨h1, by rw [hl, hsa], fun i hi => (h2 i hi).1⟩, fun y hy => by
      obtain ⟨i, hi, rfl⟩ := List.mem_iff_get.1 hy
      exact (h2 i.1 i.2).2⟩
  | nil =>
    refine ⟨fun id fuel cs x ht _ _ => by simp [TyOf] at ht, fun fs off fuel cs hf _ hl _ => ⟨(), ?_, trivial⟩⟩
    simp only [Rep, Ty.size] at hl ⊢
    exact List.drop_of_length_le (by omega)
  | cons a b iha ihb =>
    have hF : RepF P (.cons a b) := by
      intro H enc w base spare held fs off fuel cs hf hb hl hg
      cases fs with
      | nil => simp [TyOf.fields] at hf
      | cons f r =>
        simp only [TyOf.fields] at hf
        obtain ⟨h1, h2, h3, h4⟩ := hf
        simp only [Ty.argB, Bool.and_eq_true] at hb
        simp only [Ty.size] at hl
        obtain ⟨x, hx⟩ := hg 0 f rfl
        rw [h1, cells_of h2] at hx
        obtain ⟨y1, hy1, hf1⟩ := iha.1 _ _ _ _ h2 hb.1 hx
        obtain ⟨y2, hy2, hf2⟩ := ihb.2 r (off + a.size) fuel cs h4 hb.2 (by omega) fun i f hf => hg (i + 1) f (by simpa using hf)
        refine ⟨(y1, y2), ?_, hf1, hf2⟩
        simp only [Rep]
        refine ⟨_, _, ?_, hy1, hy2⟩
        rw [← List.drop_drop, List.take_append_drop]
    refine ⟨@fun H enc w base spare held id fuel cs x ht hb h => ?_, hF⟩
    have hct := cells_of ht
    simp only [TyOf] at ht
    obtain ⟨fs, hi, hm⟩ := ht
    obtain ⟨xs, n, _, _, hl, hxl, hg⟩ := DataW.trod_struct hi.under h
    have hff : TyOf.fields P (.cons a b) fs.toList 0 := by
      split at hm
      · rename_i f r hfr
        rw [hfr]
        simp only [TyOf.fields]
        simpa using hm
      · exact hm.elim
    have := hF fs.toList 0 n cs hff hb (by rw [hl, hct]; omega) (held := held) (enc := enc) (w := w) (base := base) (spare := spare) fun i f hf => by
      have h1 := hg i f (by simpa using hf)
      have hlt : i < xs.length := by
        rw [hxl]
        have := (List.getElem?_eq_some_iff.1 hf).1
        simpa using this
      rw [List.getElem?_eq_getElem hlt] at h1
      exact ⟨_, h1⟩
    simpa using this
def Dat : List Ty → Type
  | [] => Unit
  | t :: ts => t.den × Dat ts
def Dat.av : {ts : List Ty} → Dat ts → AV
  | [], _ => .anil
  | t :: _, x => .acons (.val t x.1) (Dat.av x.2)
def Dat.fit : {ts : List Ty} → Dat ts → Prop
  | [], _ => True
  | t :: _, x => t.fit x.1 ∧ Dat.fit x.2
def tysB (P : Program) : List Ty → List TypeId → Bool
  | [], [] => true
  | t :: ts, i :: is => (tyB P t i && t.argB) && (P.readableRec i && decide (i < P.types.size)) && tysB P ts is
  | _, _ => false
theorem agg_of {t : Ty} {id : TypeId} (ht : TyOf P t id) (hb : t.argB = true) : (t.agg = true ∧ ((∃ fs, P.underlying id = some (.struct fs)) ∨ ∃ n e, P.underlying id = some (.array n e))) ∨
    (t.agg = false ∧ ((∃ k, P.underlying id = some (.int k)) ∨ P.underlying id = some .bool ∨ ∃ e, P.underlying id = some (.slice e))) := by
  cases t with
  | int k => simp only [TyOf] at ht; exact .inr ⟨rfl, .inl ⟨k, ht.under⟩⟩
  | bool => simp only [TyOf] at ht; exact .inr ⟨rfl, .inr (.inl ht.under)⟩
  | slice e => simp only [TyOf] at ht; obtain ⟨eid, h, _⟩ := ht; exact .inr ⟨rfl, .inr (.inr ⟨eid, h.under⟩)⟩
  | ptr e => simp [Ty.argB] at hb
  | arr n e => simp only [TyOf] at ht; obtain ⟨eid, h, _⟩ := ht; exact .inl ⟨rfl, .inr ⟨n, eid, h.under⟩⟩
  | nil => simp [TyOf] at ht
  | cons a b => simp only [TyOf] at ht; obtain ⟨fs, h, _⟩ := ht; exact .inl ⟨rfl, .inl ⟨fs, h.under⟩⟩
theorem arg_rv {ρ : Env} {t : Ty} {id : TypeId} {v : Value} {d : DataW H} {ps : List MemPlace} (ht : TyOf P t id) (hb : t.argB = true) (hv : Value.okWide P w .any base id v) {b0 : Nat}
    (h : DataW.Trod enc P w b0 spare held id v d ps) : ∃ y, (AV.val t y).rv (fun b => w.heap[b]?) ρ v ∧ t.fit y := by
  obtain ⟨fuel, h⟩ := h
  obtain ⟨y, hy, hyf⟩ := (rep_all P t).1 id fuel _ _ ht hb h
  refine ⟨y, ?_, hyf⟩
  simp only [AV.rv]
  refine ⟨_, hy, ?_⟩
  unfold Value.okWide at hv
  rcases agg_of ht hb with ⟨hag, hu⟩ | ⟨hag, hu⟩
  · have : ∃ cs, v = .agg cs := by
      rcases hu with ⟨fs, hu⟩ | ⟨n, e, hu⟩ <;> · rw [hu] at hv; obtain ⟨cs, h1, _⟩ := hv; exact ⟨cs, h1⟩
    obtain ⟨cs, rfl⟩ := this
    rw [Ty.wrap_agg hag]
    simp [Value.cells]
  · have hone : v.oneCell' = true := by
      rcases hu with ⟨k, hu⟩ | hu | ⟨e, hu⟩ <;> rw [hu] at hv <;> simp only [Cell.okWide, hu, Cell.ok] at hv <;> (split at hv <;> first | rfl | (exact hv.elim) | (split at hv <;> first | rfl | exact hv.elim))
    rw [Value.cells_one hone]
    simp [Ty.wrap, hag]
theorem tysB_cons {t : Ty} {ts : List Ty} {i : TypeId} {is : List TypeId} (h : tysB P (t :: ts) (i :: is) = true) : TyOf P t i ∧ t.argB = true ∧ P.readableRec i = true ∧ i < P.types.size ∧ tysB P ts is = true := by
  simp only [tysB, Bool.and_eq_true, decide_eq_true_eq] at h
  exact ⟨tyB_sound h.1.1.1, h.1.1.2, h.1.2.1, h.1.2.2, h.2⟩
theorem all_rvs {ρ : Env} {b0 : Nat} : ∀ {ts : List Ty} {is : List TypeId} {vs : List Value} {ds : List (DataW H)} {ps : List MemPlace}, tysB P ts is = true → (∀ (j : Nat) t v, is[j]? = some t → vs[j]? = some v → Value.okWide P w .any base t v) →
    DataW.TrodAll enc P w b0 spare held is vs ds ps → ∃ ys : Dat ts, ys.av.rvs (fun b => w.heap[b]?) ρ vs ∧ ys.fit
  | [], [], vs, ds, ps, _, _, h => by
    cases vs with
    | nil => exact ⟨(), by simp only [Dat.av, AV.rvs], trivial⟩
    | cons v vs => cases ds <;> simp [DataW.TrodAll] at h
  | t :: ts, i :: is, vs, ds, ps, hb, hv, h => by
    obtain ⟨h1, h2, _, _, h5⟩ := tysB_cons hb
    cases vs with
    | nil => cases ds <;> simp [DataW.TrodAll] at h
    | cons v vs =>
      cases ds with
      | nil => simp [DataW.TrodAll] at h
      | cons d ds =>
        obtain ⟨p, q, h6, h7, _⟩ := h
        obtain ⟨y, hy, hyf⟩ := arg_rv (ρ := ρ) h1 h2 (hv 0 i v rfl rfl) h6
        obtain ⟨ys, hys, hysf⟩ := all_rvs (ρ := ρ) h5 (fun j t v hj hjv => hv (j + 1) t v (by simpa using hj) (by simpa using hjv)) h7
        exact ⟨(y, ys), by simp only [Dat.av, AV.rvs]; exact ⟨v, vs, hy, hys, rfl⟩, hyf, hysf⟩
  | [], _ :: _, _, _, _, hb, _, _ => by simp [tysB] at hb
  | _ :: _, [], _, _, _, hb, _, _ => by simp [tysB] at hb
theorem Dat.bd : ∀ {ts : List Ty} (ys : Dat ts) (n : Nat), ys.av.bd n
  | [], _, _ => trivial
  | _ :: _, x, n => ⟨trivial, Dat.bd x.2 n⟩
theorem args_again {W W' : World} (hl : laidOutB P = true) (hbl : Below W.heap.size W W') {sp : Nat → Bool} : ∀ {ts : List Ty} {is : List TypeId} {vs : List Value} {ds : List (DataW H)} {ps : List MemPlace}, tysB P ts is = true →
    DataW.TrodAll enc P W 0 (fun _ => true) true is vs ds ps → (∀ p ∈ ps, p.block < W.heap.size) → (∀ p ∈ ps, sp p.block = true) → DataW.TrodAll enc P W' 0 sp true is vs ds ps
  | [], [], vs, ds, ps, _, h, _, _ => by
    cases vs <;> cases ds <;> simp_all [DataW.TrodAll]
  | t :: ts, i :: is, vs, ds, ps, hb, h, hlt, hsp => by
    obtain ⟨_, _, h3, h4, h5⟩ := tysB_cons hb
    cases vs with
    | nil => cases ds <;> simp [DataW.TrodAll] at h
    | cons v vs =>
      cases ds with
      | nil => simp [DataW.TrodAll] at h
      | cons d ds =>
        obtain ⟨p, q, h6, h7, rfl⟩ := h
        refine ⟨p, q, WideElems.Trod_stays hl h3 h4 h6 (fun x hx => hbl.same (hlt x (List.mem_append_left _ hx))) (fun x hx => hsp x (List.mem_append_left _ hx)), ?_, rfl⟩
        exact args_again hl hbl h5 h7 (fun x hx => hlt x (List.mem_append_right _ hx)) (fun x hx => hsp x (List.mem_append_right _ hx))
  | [], _ :: _, _, _, _, hb, _, _, _ => by simp [tysB] at hb
  | _ :: _, [], _, _, _, hb, _, _, _ => by simp [tysB] at hb
theorem law_calls {f : FuncId} {fn : Func} {s : ChangeSpec} {ts : List Ty} {W : World} {base : Nat} {args : Array Value} {ds gs : List (DataW H)} {before : List MemPlace} {fresh handsOn : Bool}
    (hfn : ∀ ys : Dat ts, ys.fit → Fn P f ys.av (· = .val .bool true)) (hts : tysB P ts fn.params.toList = true) (hl : laidOutB P = true) (hvars : s.vars = [])
    (hspec : ∀ ds : List (DataW H), ds.length = ts.length → (s.fn H ds).results = [.lit (.bool true)] ∧ (s.fn H ds).args = ds ∧ (s.fn H ds).vars = []) {rt : TypeId} (hres : fn.resultTypes = #[rt]) (hrt : P.underlying rt = some .bool)
    (hval : ∀ (j : Nat) t v, fn.params[j]? = some t → args[j]? = some v → Value.okWide P W .any base t v) (hW : DataW.Whole enc P fn.params.toList s.vars false W args.toList ds gs before) :
    Calls P f args W fun e W' => ∃ v, e = .returned v ∧ s.post enc P fn false fresh handsOn false W args v W' := by
  have hW' := hW
  obtain ⟨p, q, hA, hV, rfl, hfz, _⟩ := hW
  rw [hvars] at hV
  obtain ⟨rfl, rfl⟩ := trodVars_none hV
  rw [List.append_nil] at hW'
  obtain ⟨ys, hys, hysf⟩ := all_rvs (ρ := ⟨fun _ => 0, fun _ => .nil, fun _ => Go.undef⟩) hts (fun j t v hj hv => hval j t v (by simpa using hj) (by simpa using hv)) hA
  have hlen : ∀ {ts : List Ty} {is : List TypeId} {vs : List Value} {ds : List (DataW H)} {ps : List MemPlace}, tysB P ts is = true → DataW.TrodAll enc P W 0 (fun _ => true) true is vs ds ps → ds.length = ts.length := by
    intro ts
    induction ts with
    | nil => intro is vs ds ps hb h; cases is <;> cases vs <;> cases ds <;> simp_all [DataW.TrodAll, tysB]
    | cons t ts ih =>
      intro is vs ds ps hb h
      cases is with
      | nil => simp [tysB] at hb
      | cons i is =>
        cases vs <;> cases ds <;> try (simp [DataW.TrodAll] at h; done)
        obtain ⟨p, q, _, h7, _⟩ := h
        simp [ih (tysB_cons hb).2.2.2.2 h7]
  have hdl := hlen hts hA
  have hrun := (hfn ys hysf).run (fun b => W.heap[b]?) ⟨fun _ => 0, fun _ => .nil, fun _ => Go.undef⟩ W args.toList (fun _ _ h => h) hys (Dat.bd ys 0)
  rw [Array.toArray_toList] at hrun
  refine hrun.mono fun e W' => ?_
  rintro ⟨v, r, M', rfl, rfl, _, hrv, hbl, _⟩
  rw [rv_bool] at hrv
  subst hrv
  obtain ⟨hs1, hs2, hs3⟩ := hspec ds hdl
  have hlt := fun x hx => hW'.lt x hx
  refine ⟨_, rfl, ds, [], p, [], p, [], hW', ?_, ?_, ?_, World.keptBut_mono (fun x hx => ⟨hx, .inr (.inl hx)⟩) (hbl.frame (· ∈ p)), fun h => by cases h⟩
  · rw [List.append_nil, hs1, hres]
    exact trodAll_cons_mk (shut_bool hrt _) trodAll_mk0
  · rw [List.append_nil, hs2]
    exact args_again hl hbl hts hA hlt fun x hx => by simpa using hlt x hx
  · rw [List.append_nil, hs3, hvars]
    rfl
end
end Ox
