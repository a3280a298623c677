/- A statement of the seat, proved: see the last theorem. Texts of the proof, part 5 of 5.
  A range over all orders.
  Kind: the program.
  The law's best.
  The engine, part RF: in a drawn region, an operation whose guard is known to be true and that looks at no world comes first.
  Works.
  Plain laws of orders: begun elsewhere, shifted, turned round.
  The law SeamKnown.
  The engine, part ZT: from a function's contract to the row of a law: arguments that are plain data. -/
import Derived.Test.YtinehlphcckkmaaPkd
import Derived.ProofKit
import Derived.OpenShut
import Derived.Carry
import Derived.JoinedOf
set_option linter.all false
set_option maxHeartbeats 2000000
namespace Go.Proofs.Ytinehlphcckkmaa
open Go Go.RowKit Ox Ox.Sh Ox.Se
attribute [local irreducible] JC JL JK JW
attribute [local irreducible] ovA stA pkV
theorem fn82 (P : Int) (l : List Pt) : Ox.Fn Try.prog 82 (.acons (vH P l) .anil) (· = .fn 102 .anil (.acons (ppH P l) .anil)) := by
  refine Ox.Fn.intro xok Try.func82 rfl Try.call82 (Nat.le_of_ble_eq_true rfl) (fun E M0 up => ?_)
  refine JK.start ?_
  (repeat (first | refine znf ?_ | refine zs rfl ?_ | refine JK.ret ?_))
  refine ⟨.inl rfl, _, _, rfl, trivial, ?_⟩
  rfl
variable {E : World} {Mx M0 : Mem} {nX : Nat} {rdX : Option Nat} {up : Nat → Nat → Value} {dp lab : Nat} {r : List Fr} {QA : Exit → S → Prop}
theorem free_succ (row : List Nat) (k : Nat) : Sh.freeL (k + 1) row = Sh.freeL k row ++ if k ∈ row then [] else [k] := by
  unfold Sh.freeL
  rw [List.range_succ, List.filter_append]
  congr 1
  by_cases h : k ∈ row <;> simp [h]
def partD (N f : Nat) (row : List Nat) (j : Nat) : List (List Nat) := (Sh.freeL j row).flatMap fun n => dfsL N f (row ++ [n])
theorem partD_succ (N f : Nat) (row : List Nat) (j : Nat) : partD N f row (j + 1) = partD N f row j ++ if j ∈ row then [] else dfsL N f (row ++ [j]) := by
  unfold partD
  rw [free_succ, List.flatMap_append]
  by_cases h : j ∈ row
  · rw [if_pos h, if_pos h]; rfl
  · rw [if_neg h, if_neg h]; simp
theorem partD_all (N f : Nat) (row : List Nat) : partD N f row N = dfsL N (f + 1) row := rfl
theorem partD_split (N f : Nat) (row : List Nat) {j : Nat} (hj : j ≤ N) : ∃ post, dfsL N (f + 1) row = partD N f row j ++ post := by
  have key : ∀ M, j ≤ M → ∃ rest, Sh.freeL M row = Sh.freeL j row ++ rest := by
    intro M
    induction M with
    | zero => intro h; exact ⟨[], by rw [show j = 0 by omega]; simp⟩
    | succ M ih =>
      intro h
      rcases Nat.lt_or_ge M j with e | e
      · exact ⟨[], by rw [show j = M + 1 by omega]; simp⟩
      · obtain ⟨rest, hr⟩ := ih e
        exact ⟨_, by rw [free_succ, hr, List.append_assoc]⟩
  obtain ⟨rest, hr⟩ := key N hj
  exact ⟨rest.flatMap fun n => dfsL N f (row ++ [n]), by rw [dfsL, hr, List.flatMap_append]; rfl⟩
theorem ext_fo (i m : Nat) (hdp : dp ≠ 0) (P : Int) (l : List Pt) (h8 : l.length ≤ 8) (all : List (List Nat)) (K : List (List Nat) → List (Nat × HO)) (hb : ∀ pre, bdH 100 (K pre)) (hlab : lab < 100) (hk : ∀ pre, hasY i m lab (K pre))
    (hY : ∀ pre z post, all = pre ++ z :: post → YO ⟨Try.prog, tys, ets, mts, E, Mx, nX, rdX, up, dp⟩ 49 lab (.acons (vL (iL z)) .anil) (K pre) 100 true (K (pre ++ [z])) 100) :
    ∀ (f : Nat) (row : List Nat) (pre post : List (List Nat)), row.length + f = l.length → all = pre ++ dfsL l.length f row ++ post →
      FO ⟨Try.prog, tys, ets, mts, E, Mx, nX, rdX, up, dp⟩ 103 (.acons (vH P l) (.acons (vL (iL row)) (.acons (.lf (.yld lab)) .anil))) (K pre) 100
        (fun z H nx => nx = 100 ∧ z = vB true ∧ H = K (pre ++ dfsL l.length f row)) := by
  intro f
  induction f with
  | zero =>
    intro row pre post hlen hall
    have hil : (iL row).length = row.length := by rw [List.length_map]
    refine FO.intro (fn := Try.f103) Try.func103 rfl (Nat.le_of_ble_eq_true rfl) hdp fun M1 => JK.start ?_
    (repeat (first | refine zs rfl ?_ | refine zg rfl rfl rfl ?_ | refine zd ?_ | refine JK.fin ?_ | refine JK.ret ?_))
    refine JK.cond rfl (fun hc => ?_) (fun hc => ?_)
    · (simp only [↓cdL] at hc; try simp only [Ty.dflt, Int.toNat_natCast] at hc)
      have y := hY pre row post (by rw [hall]; simp [dfsL])
      (repeat (first | refine zs rfl ?_ | refine zg rfl rfl rfl ?_ | refine zd ?_ | refine JK.fin ?_ | refine JK.ret ?_))
      refine JK.yieldO (X := ⟨Try.prog, tys, ets, mts, E, Mx, nX, rdX, up, dp⟩) [0] y rfl rfl rfl rfl trivial ?_
      (repeat (first | refine zs rfl ?_ | refine zg rfl rfl rfl ?_ | refine zd ?_ | refine JK.fin ?_ | refine JK.ret ?_))
      refine foQ.ret _ (JW.refl _) rfl ⟨rfl, rfl, ?_⟩
      show K _ = K _; rw [dfsL]
    · (simp only [↓cdL] at hc; try simp only [Ty.dflt, Int.toNat_natCast] at hc)
      exact absurd (by omega) hc
  | succ f ih =>
    intro row pre post hlen hall
    have hil : (iL row).length = row.length := by rw [List.length_map]
    refine FO.intro (fn := Try.f103) Try.func103 rfl (Nat.le_of_ble_eq_true rfl) hdp fun M1 => JK.start ?_
    (repeat (first | refine zs rfl ?_ | refine zg rfl rfl rfl ?_ | refine zd ?_ | refine JK.fin ?_ | refine JK.ret ?_))
    refine JK.cond rfl (fun hc => ?_) (fun hc => ?_)
    · (simp only [↓cdL] at hc; try simp only [Ty.dflt, Int.toNat_natCast] at hc)
      exact absurd hc (by omega)
    · (simp only [↓cdL] at hc; try simp only [Ty.dflt, Int.toNat_natCast] at hc)
      (repeat (first | refine zs rfl ?_ | refine zg rfl rfl rfl ?_ | refine zd ?_ | refine JK.fin ?_ | refine JK.ret ?_))
      refine JK.loop (fun j : Nat => ⟨[(0, vH P l), (1, vL (iL row)), (2, .lf (.yld lab)), (25, vI l.length), (26, vI (j : Int))], K (pre ++ partD l.length f row j), 100⟩) (fun j => j ≤ l.length) (fun j => l.length - j) 0 (Nat.zero_le _) ?_ fun j hj => ?_
      · rw [show pre ++ partD l.length f row ((0 : Nat)) = pre by simp [partD, Sh.freeL]]
        exact JW.same ⟨rfl, rfl, rfl, rfl, rfl, trivial⟩
      have hpt := partD_succ l.length f row j
      have hpa := partD_all l.length f row
      (repeat (first | refine zs rfl ?_ | refine zg rfl rfl rfl ?_ | refine zd ?_ | refine JK.fin ?_ | refine JK.ret ?_))
      refine JK.cond rfl (fun hd => ?_) (fun hd => ?_)
      · (simp only [↓cdL] at hd; try simp only [Ty.dflt, Int.toNat_natCast] at hd)
        have hj' : j < l.length := by omega
        obtain ⟨post1, hp1⟩ := partD_split l.length f row (j := j + 1) hj'
        have c1 := fn107 (iL row) (j : Int)
        have hmi : decide ((j : Int) ∈ iL row) = decide (j ∈ row) := decide_eq_decide.2 mem_iL
        rw [hmi] at c1
        have hlt : (List.take (iL row).length (iL row)).length ≤ 8 := by rw [List.length_take]; omega
        by_cases hm : j ∈ row
        · rw [decide_eq_true hm] at c1
          rw [if_pos hm, List.append_nil] at hpt
          (repeat (first | refine zfl rfl rfl rfl ?_ | refine zs rfl ?_ | refine zc rfl (c1) rfl rfl ?_))
          refine JK.pickF rfl rfl rfl rfl trivial trivial ?_
          (repeat (first | refine zs rfl ?_ | refine zg rfl rfl rfl ?_ | refine zd ?_ | refine JK.fin ?_ | refine JK.ret ?_))
          refine JK.cond rfl (fun h => by cases h) (fun _ => ?_)
          (repeat (first | refine zs rfl ?_ | refine zg rfl rfl rfl ?_ | refine zd ?_ | refine JK.fin ?_ | refine JK.ret ?_))
          refine ⟨j + 1, ?_, by omega, by omega⟩
          rw [hpt]
          exact JW.same ⟨rfl, rfl, rfl, rfl, rfl, trivial⟩
        · rw [decide_eq_false hm] at c1
          rw [if_neg hm] at hpt
          rw [hpt] at hp1
          rw [hp1] at hall
          generalize partD l.length f row j = pj at hpt hp1 hall ⊢
          have q := ih (row ++ [j]) (pre ++ pj) (post1 ++ post) (by simp; omega) (by rw [hall]; simp)
          rw [iL_snoc] at q
          (repeat (first | refine zt rfl rfl ?_ | refine zs rfl ?_ | refine zc rfl (c1) rfl rfl ?_))
          have e1 : List.take (((iL row).length : Int)).toNat (iL row) ++ [(j : Int)] = iL row ++ [(j : Int)] := by rw [Int.toNat_natCast, List.take_length]
          refine JK.frzR 101 43 (eid := 3) (e := .int .i64) (xs := iL row ++ [(j : Int)]) (congrArg (fun z => some (HO.sl 3 (.int .i64) z)) e1) rfl (L' := [(0, vH P l), (1, vL (iL row)), (2, .lf (.yld lab)), (25, vI l.length), (26, vI (j : Int)), (33, vB true), (34, vH P l), (44, .lf (.yld lab))]) ⟨rfl, rfl, rfl, rfl, rfl, rfl, rfl, rfl, trivial⟩ (H' := K (pre ++ pj)) (nx' := 100) (((subH.refl _).cons (hb _) (Nat.le_of_ble_eq_true rfl)).cons (hb _) (Nat.le_of_ble_eq_true rfl)) (bdH_none (hb _) (Nat.le_of_ble_eq_true rfl)) ⟨trivial, trivial, hlab, trivial, trivial, trivial, trivial, hlab, trivial⟩ (hb _) ?_
          refine JK.callO [0, 1, 2, 25, 26, 33] i m lab rfl rfl Try.call103 rfl (hk _) (by simp [stayL, stayB, svL, lk]) q trivial ?_
          rintro z H' nx' ⟨rfl, rfl, rfl⟩
          refine ⟨hk _, ?_⟩
          (repeat (first | refine zt rfl rfl ?_ | refine zs rfl ?_))
          refine JK.cond rfl (fun he => by cases he) (fun _ => ?_)
          (repeat (first | refine zs rfl ?_ | refine zg rfl rfl rfl ?_ | refine zd ?_ | refine JK.fin ?_ | refine JK.ret ?_))
          refine ⟨j + 1, ?_, by omega, by omega⟩
          rw [hpt, ← List.append_assoc]
          exact JW.same ⟨rfl, rfl, rfl, rfl, rfl, trivial⟩
      · (simp only [↓cdL] at hd; try simp only [Ty.dflt, Int.toNat_natCast] at hd)
        have hj2 : j = l.length := by omega
        rw [hj2] at hpt ⊢
        (repeat (first | refine zs rfl ?_ | refine zg rfl rfl rfl ?_ | refine zd ?_ | refine JK.fin ?_ | refine JK.ret ?_))
        refine foQ.ret _ (JW.refl _) rfl ⟨rfl, rfl, ?_⟩
        show K _ = K _
        rw [hpa]
theorem or_it (i m : Nat) (hdp : dp ≠ 0) (P : Int) (l : List Pt) (h1 : 1 ≤ l.length) (h8 : l.length ≤ 8) (K : List (List Nat) → List (Nat × HO)) (hb : ∀ pre, bdH 100 (K pre)) (hlab : lab < 100) (hk : ∀ pre, hasY i m lab (K pre))
    (hY : ∀ pre z post, allO l.length = pre ++ z :: post → YO ⟨Try.prog, tys, ets, mts, E, Mx, nX, rdX, up, dp⟩ 49 lab (.acons (vL (iL z)) .anil) (K pre) 100 true (K (pre ++ [z])) 100)
    (k : ∀ L, QA .normal ⟨L, K (allO l.length), 100⟩) :
    JK ⟨Try.prog, tys, ets, mts, E, M0, 7, none, up, dp⟩ [.code (Try.f102.body.getD .skip)] QA ⟨[(0, .lf (.yld lab)), (1, ppH P l)], K [], 100⟩ := by
  have q := ext_fo (Mx := Mx) (nX := nX) (rdX := rdX) i m hdp P l h8 (allO l.length) K hb hlab hk hY (l.length - 1) [0] [] [] (by simp; omega) (by simp [allO])
  rw [List.nil_append] at q
  change FO _ 103 (.acons (vH P l) (.acons (vL [0]) (.acons (.lf (.yld lab)) .anil))) (K []) 100 (fun z H nx => nx = 100 ∧ z = vB true ∧ H = K (allO l.length)) at q
  (repeat (first | refine zs rfl ?_ | refine zg rfl rfl rfl ?_ | refine zd ?_ | refine JK.fin ?_ | refine JK.ret ?_))
  refine JK.frzR 100 4 (eid := 3) (e := .int .i64) (xs := [0]) rfl rfl (L' := [(0, .lf (.yld lab)), (3, vH P l), (5, .lf (.yld lab))]) ⟨rfl, rfl, rfl, trivial⟩ (H' := K []) (nx' := 100) ((subH.refl _).cons (hb _) (Nat.le_of_ble_eq_true rfl)) (bdH_none (hb _) (Nat.le_of_ble_eq_true rfl)) ⟨hlab, trivial, hlab, trivial⟩ (hb _) ?_
  refine JK.callO [0] i m lab rfl rfl Try.call103 rfl (hk _) (by simp [stayL, stayB, svL, lk]) q trivial ?_
  rintro z H' nx' ⟨rfl, rfl, rfl⟩
  refine ⟨hk _, ?_⟩
  (repeat (first | refine zs rfl ?_ | refine zg rfl rfl rfl ?_ | refine zd ?_ | refine JK.fin ?_ | refine JK.ret ?_))
  exact JK.done (k _)
end Go.Proofs.Ytinehlphcckkmaa

namespace Go.Proofs.Ytinehlphcckkmaa
open Go Go.RowKit Ox Ox.Sh Ox.Se
attribute [local irreducible] JC JL JK JW
attribute [local irreducible] ovA stA pkV
theorem idxB_nat {o : List Nat} {a : Nat} : ∀ {k : Nat}, a ∈ o → idxB (fun x => decide ((a : Int) = x)) (iL o) k = ((k + o.idxOf a : Nat) : Int) := by
  induction o with
  | nil => intro k h; cases h
  | cons x r ih =>
    intro k h
    show (if decide ((a : Int) = (x : Int)) = true then ((k : Nat) : Int) else idxB _ (iL r) (k + 1)) = _
    by_cases e : a = x
    · subst e
      rw [if_pos (by simp), List.idxOf_cons_self, Nat.add_zero]
    · rw [if_neg (by simp; omega), ih ((List.mem_cons.1 h).resolve_left e)]
      have e2 : (x == a) = false := beq_eq_false_iff_ne.2 (fun h => e h.symm)
      rw [List.idxOf_cons, e2, cond_false]
      congr 1; omega
theorem fol_idx {o : List Nat} {a b : Nat} (hn : o.Nodup) (ha : a ∈ o) : folB o a b = decide (nx1 o (o.idxOf a) = b) := by
  have hil := List.idxOf_lt_length_of_mem ha
  have hg : o.getD (o.idxOf a) 0 = a := by rw [getD_nat o hil]; exact List.getElem_idxOf hil
  unfold folB
  rw [Bool.eq_iff_iff, List.any_eq_true, decide_eq_true_iff]
  constructor
  · rintro ⟨i, hi, h⟩
    rw [Bool.and_eq_true, decide_eq_true_iff, decide_eq_true_iff] at h
    have hi' := List.mem_range.1 hi
    have : i = o.idxOf a := by
      rw [getD_nat o hi'] at h
      rw [getD_nat o hil] at hg
      have h2 : o[i] = o[o.idxOf a] := h.1.trans hg.symm
      exact (List.getElem_inj hn).1 h2
    rw [← this]; exact h.2
  · intro h
    refine ⟨o.idxOf a, List.mem_range.2 hil, ?_⟩
    rw [decide_eq_true hg, decide_eq_true h]; rfl
theorem dfs_nd (N : Nat) : ∀ (f : Nat) (row : List Nat), (dfsL N f row).Nodup
  | 0, row => by simp [dfsL]
  | f + 1, row => by
    show List.Pairwise (· ≠ ·) _
    rw [dfsL, List.pairwise_flatMap]
    refine ⟨fun n _ => dfs_nd N f _, ?_⟩
    have hn : (Sh.freeL N row).Nodup := List.nodup_range.filter _
    refine hn.imp fun {x y} hxy p hp q hq e => hxy ?_
    obtain ⟨z1, e1, _⟩ := mem_dfsL.1 hp
    obtain ⟨z2, e2, _⟩ := mem_dfsL.1 hq
    rw [e1, e2, List.append_assoc, List.append_assoc] at e
    exact (List.cons.inj (List.append_cancel_left e)).1
theorem allO_nd (N : Nat) : (allO N).Nodup := dfs_nd N _ _
def bsA (P : Int) (l : List Pt) (L : List (List Nat)) : List (List Nat) := L.filter fun o => decide (rdL P l o = leR P l)
theorem bsA_mem {P : Int} {l : List Pt} (h1 : 1 ≤ l.length) {o : List Nat} : o ∈ bsA P l (allO l.length) ↔ o ∈ bestsL P l := by
  unfold bsA
  rw [List.mem_filter, mem_bests h1, decide_eq_true_iff]
theorem kind_cnt {P : Int} {l : List Pt} (h1 : 1 ≤ l.length) (a b : Nat) : kindV P l a b = if ((((bsA P l (allO l.length)).filter (folB · a b)).length : Nat) : Int) = 0 then 0 else if ((((bsA P l (allO l.length)).filter (folB · a b)).length : Nat) : Int) = (bsA P l (allO l.length)).length then 2 else 1 := by
  have hne := bests_ne (P := P) h1
  have hm : ∀ o, o ∈ bsA P l (allO l.length) ↔ o ∈ bestsL P l := fun o => bsA_mem h1
  unfold kindV
  generalize bestsL P l = B at hne hm
  generalize bsA P l (allO l.length) = L at hm
  have h1 : B.all (folB · a b) = true ↔ (L.filter (folB · a b)).length = L.length := by
    rw [List.length_filter_eq_length_iff, List.all_eq_true]
    exact ⟨fun h x hx => h x ((hm x).1 hx), fun h x hx => h x ((hm x).2 hx)⟩
  have h2 : B.any (folB · a b) = true ↔ ¬ (L.filter (folB · a b)).length = 0 := by
    rw [List.length_eq_zero_iff, List.filter_eq_nil_iff, List.any_eq_true]
    constructor
    · rintro ⟨x, hx, h⟩ h'; exact h' x ((hm x).2 hx) h
    · intro h
      refine Classical.byContradiction fun hn => h fun x hx hb => hn ⟨x, (hm x).1 hx, hb⟩
  have h3 : L.length ≠ 0 := fun e => by
    have e2 := List.length_eq_zero_iff.1 e
    obtain ⟨x, r, hx⟩ := List.exists_cons_of_ne_nil hne
    have := (hm x).2 (by rw [hx]; exact List.mem_cons_self)
    rw [e2] at this; cases this
  by_cases c1 : (L.filter (folB · a b)).length = 0
  · rw [if_neg (fun h => by have := h1.1 h; omega), if_neg (fun h => h2.1 h c1), if_pos (by omega)]
  · rw [if_neg (by omega : ¬ ((L.filter (folB · a b)).length : Int) = 0)]
    by_cases c2 : (L.filter (folB · a b)).length = L.length
    · rw [if_pos (h1.2 c2), if_pos (by omega)]
    · rw [if_neg (fun h => c2 (h1.1 h)), if_pos (h2.2 c1), if_neg (by omega)]
def K46 (a b : Code) (P : Int) (l : List Pt) (one two le n w : Int) : List (Nat × HO) :=
  [(8, .fr 0 [(73, .lf (.yld 7)), (4, .lf (.optr 1 [])), (5, .lf (.optr 2 [])), (8, .lf (.optr 3 [])), (10, .lf (.optr 4 [])), (11, .lf (.optr 5 [])), (12, .lf (.optr 6 []))]),
   (7, .loop .ready none #[45] a b 73 [(4, .lf (.optr 1 [])), (5, .lf (.optr 2 [])), (8, .lf (.optr 3 [])), (10, .lf (.optr 4 [])), (11, .lf (.optr 5 [])), (12, .lf (.optr 6 []))]),
   (1, .cell (.int .i64) (vI one)), (2, .cell (.int .i64) (vI two)), (3, .cell (.ptr shT) (vH P l)), (4, .cell (.int .i64) (vI le)), (5, .cell (.int .i64) (vI n)), (6, .cell (.int .i64) (vI w))]
set_option maxHeartbeats 8000000 in
theorem fn46 (P : Int) (l : List Pt) (one two : Int) : Ox.Fn Try.prog 46 (.acons (vS P l) (.acons (vI one) (.acons (vI two) .anil))) (· = vT2 (kindI P l one two) (kindE P l one two)) := by
  refine Ox.Fn.intro xok Try.func46 rfl Try.call46 (Nat.le_of_ble_eq_true rfl) (fun E M0 up => ?_)
  refine JK.start ?_
  have c61 := fn61 P l
  unfold vOp at c61
  by_cases hz : seE P l = 0
  · obtain ⟨hP, h1, h8, hl⟩ := se_ok.1 hz
    rw [if_pos hz, hz] at c61
    have c64a := fn64 P l one
    have c64b := fn64 P l two
    (repeat (first | refine zs rfl ?_ | refine zg rfl rfl rfl ?_ | refine zd ?_ | refine JK.fin ?_ | refine JK.ret ?_ | refine zc rfl (c61) rfl rfl ?_ | refine ze rfl (c61) rfl ?_ | refine zk rfl rfl (fun _ => c61) rfl rfl ?_))
    refine JK.cond rfl (fun h => absurd h (by decide)) (fun _ => ?_)
    (repeat (first | refine zs rfl ?_ | refine zg rfl rfl rfl ?_ | refine zd ?_ | refine JK.fin ?_ | refine JK.ret ?_ | refine zc rfl (c64a) rfl rfl ?_ | refine ze rfl (c64a) rfl ?_ | refine zk rfl rfl (fun _ => c64a) rfl rfl ?_ | refine zc rfl (c64b) rfl rfl ?_ | refine ze rfl (c64b) rfl ?_ | refine zk rfl rfl (fun _ => c64b) rfl rfl ?_))
    refine JK.cond rfl (fun hd => ?_) (fun hd => ?_)
    · have hno : ¬ ((0 ≤ one ∧ one < (l.length : Int)) ∧ (0 ≤ two ∧ two < (l.length : Int)) ∧ one ≠ two) := by
        rintro ⟨q1, q2, q3⟩
        have hd2 : (bif (bif !decide (0 ≤ one ∧ one < (l.length : Int)) then true else !decide (0 ≤ two ∧ two < (l.length : Int))) then true else one == two) = true := hd
        rw [decide_eq_true q1, decide_eq_true q2] at hd2
        exact q3 (beq_iff_eq.1 hd2)
      have e2 : kindE P l one two = 2 := by unfold kindE; rw [if_neg (by omega), if_neg hno]
      have e1 : kindI P l one two = 0 := by unfold kindI; rw [if_neg (by rw [e2]; decide)]
      rw [e1, e2]
      (repeat (first | refine zs rfl ?_ | refine zg rfl rfl rfl ?_ | refine zd ?_ | refine JK.fin ?_ | refine JK.ret ?_))
      refine ⟨.inl rfl, _, _, rfl, trivial, ?_⟩
      rfl
    · have hyes : (0 ≤ one ∧ one < (l.length : Int)) ∧ (0 ≤ two ∧ two < (l.length : Int)) ∧ one ≠ two := by
        have hd2 : (bif (bif !decide (0 ≤ one ∧ one < (l.length : Int)) then true else !decide (0 ≤ two ∧ two < (l.length : Int))) then true else one == two) = false := hd
        by_cases q : 0 ≤ one ∧ one < (l.length : Int)
        · rw [decide_eq_true q] at hd2
          by_cases r : 0 ≤ two ∧ two < (l.length : Int)
          · rw [decide_eq_true r] at hd2
            exact ⟨q, r, fun e => by rw [e] at hd2; simp at hd2⟩
          · rw [decide_eq_false r] at hd2; cases hd2
        · rw [decide_eq_false q] at hd2; cases hd2
      have hz2 : kindE P l one two = 0 := kind_ok.2 ⟨hz, hyes⟩
      obtain ⟨⟨q1, q2⟩, ⟨q3, q4⟩, q5⟩ := hyes
      have e1 : kindI P l one two = kindV P l one.toNat two.toNat := by unfold kindI; rw [if_pos hz2]
      rw [e1, hz2]
      obtain ⟨a, rfl⟩ : ∃ a : Nat, one = (a : Int) := ⟨one.toNat, by omega⟩
      obtain ⟨b, rfl⟩ : ∃ b : Nat, two = (b : Int) := ⟨two.toNat, by omega⟩
      rw [Int.toNat_natCast, Int.toNat_natCast, kind_cnt h1]
      have c74 := fn74 P l hz
      obtain ⟨b1, b2, b3, b4⟩ := best_has hP.1 h1 h8
      have c71 := fn71 P l (bestO P l) hz b2 (by omega)
      rw [← rdL_eq b3, b4] at c71
      generalize iL (bestO P l) = B at c74 c71
      have halen : (allO l.length).length ≤ 5040 := by
        have := List.Perm.length_eq ((List.perm_ext_iff_of_nodup (allO_nd l.length) (inO_nodup (l.length - 1))).2 fun o => (inO_allO h1).symm)
        rw [this]; exact inO_bd _ (by omega)
      (repeat (first | refine zs rfl ?_ | refine zg rfl rfl rfl ?_ | refine JK.fin ?_ | refine JK.ret ?_))
      refine JK.drawTo xk (Try.f46.body.getD .skip) ⟨[(4, .lf (.optr 1 [])), (5, .lf (.optr 2 [])), (8, .lf (.optr 3 [])), (10, .lf (.optr 4 [])), (11, .lf (.optr 5 [])), (12, .lf (.optr 6 []))], [(1, .cell (.int .i64) (vI a)), (2, .cell (.int .i64) (vI b)), (3, .cell (.ptr shT) (vH P l)), (4, .cell (.int .i64) (vI (leR P l))), (5, .cell (.int .i64) (vI 0)), (6, .cell (.int .i64) (vI 0))], 7⟩ rfl 10 rfl ?_ ?_
      · (refine JF.Float 0 xk rfl rfl ?_; refine JF.Float 1 xk rfl rfl ?_; refine JF.Branch 2 [4, 5, 6] xk ?_ ?_; (focus (repeat (first | exact StF.nil | refine StF.One rfl rfl rfl ?_))); refine (BrF.one rfl rfl ?_ (BrF.one rfl rfl ?_ (BrF.one rfl rfl ?_ (BrF.one rfl rfl ?_ BrF.nil)))); (· (first | refine JL.S1 rfl (c74) rfl trivial rfl ?_ | refine JL.T1 rfl (c74) rfl rfl ?_ | (refine JL.C1 rfl (c74) rfl (fun r hr => ?_); subst hr) | refine JL.S1 rfl (c71) rfl trivial rfl ?_ | refine JL.T1 rfl (c71) rfl rfl ?_ | (refine JL.C1 rfl (c71) rfl (fun r hr => ?_); subst hr)); refine JL.finN ?_; refine JF.Branch 3 [4, 5, 6] xk ?_ ?_; (focus (repeat (first | exact StF.nil | refine StF.One rfl rfl rfl ?_))); refine (BrF.one rfl rfl ?_ (BrF.one rfl rfl ?_ (BrF.one rfl rfl ?_ (BrF.one rfl rfl ?_ BrF.nil)))); (· (first | refine JL.S1 rfl (c74) rfl trivial rfl ?_ | refine JL.T1 rfl (c74) rfl rfl ?_ | (refine JL.C1 rfl (c74) rfl (fun r hr => ?_); subst hr) | refine JL.S1 rfl (c71) rfl trivial rfl ?_ | refine JL.T1 rfl (c71) rfl rfl ?_ | (refine JL.C1 rfl (c71) rfl (fun r hr => ?_); subst hr)); refine JL.finN ?_; refine JF.Branch 4 [5, 6] xk StF.nil (BrF.one rfl rfl ?_ (BrF.one rfl rfl ?_ (BrF.one rfl rfl ?_ BrF.nil))); (· (refine JL.M1 xk rfl rfl ?_); refine JL.finN ?_; refine JF.Branch 5 [6] xk StF.nil (BrF.one rfl rfl ?_ (BrF.one rfl rfl ?_ BrF.nil)); (· (refine JL.M1 xk rfl rfl ?_); refine JL.finN ?_; refine JF.Branch 6 [] xk StF.nil (BrF.one rfl rfl ?_ BrF.nil); (· (refine JL.M1 xk rfl rfl ?_); refine JL.finN ?_; refine JF.Branch 7 [] xk StF.nil (BrF.one rfl rfl ?_ BrF.nil); (· (first | refine JL.M0 xk rfl ?_ | refine JL.Q0 xk rfl ?_); refine JL.finN ?_; refine JF.Branch 8 [] xk StF.nil (BrF.one rfl rfl ?_ BrF.nil); (· (first | refine JL.M0 xk rfl ?_ | refine JL.Q0 xk rfl ?_); refine JL.finN ?_; refine JF.Branch 9 [] xk StF.nil (BrF.one rfl rfl ?_ BrF.nil); (· (first | refine JL.M0 xk rfl ?_ | refine JL.Q0 xk rfl ?_); refine JL.finN ?_; refine JF.Done xk StF.nil ?_; ((exact JW.Auto (by conv => lhs; reduce)))))))); (· (refine JL.M1 xk rfl rfl ?_); refine JL.finN ?_; refine JF.Branch 5 [] xk StF.nil (BrF.one rfl rfl ?_ BrF.nil); (· (refine JL.M1 xk rfl rfl ?_); refine JL.finN ?_; refine JF.Branch 7 [] xk StF.nil (BrF.one rfl rfl ?_ BrF.nil); (· (first | refine JL.M0 xk rfl ?_ | refine JL.Q0 xk rfl ?_); refine JL.finN ?_; refine JF.Branch 8 [] xk StF.nil (BrF.one rfl rfl ?_ BrF.nil); (· (first | refine JL.M0 xk rfl ?_ | refine JL.Q0 xk rfl ?_); refine JL.finN ?_; refine JF.Branch 9 [] xk StF.nil (BrF.one rfl rfl ?_ BrF.nil); (· (first | refine JL.M0 xk rfl ?_ | refine JL.Q0 xk rfl ?_); refine JL.finN ?_; refine JF.Done xk StF.nil ?_; ((exact JW.Auto (by conv => lhs; reduce))))))))); (· (refine JL.M1 xk rfl rfl ?_); refine JL.finN ?_; refine JF.Branch 4 [6] xk StF.nil (BrF.one rfl rfl ?_ (BrF.one rfl rfl ?_ BrF.nil)); (· (refine JL.M1 xk rfl rfl ?_); refine JL.finN ?_; refine JF.Branch 6 [] xk StF.nil (BrF.one rfl rfl ?_ BrF.nil); (· (refine JL.M1 xk rfl rfl ?_); refine JL.finN ?_; refine JF.Branch 7 [] xk StF.nil (BrF.one rfl rfl ?_ BrF.nil); (· (first | refine JL.M0 xk rfl ?_ | refine JL.Q0 xk rfl ?_); refine JL.finN ?_; refine JF.Branch 8 [] xk StF.nil (BrF.one rfl rfl ?_ BrF.nil); (· (first | refine JL.M0 xk rfl ?_ | refine JL.Q0 xk rfl ?_); refine JL.finN ?_; refine JF.Branch 9 [] xk StF.nil (BrF.one rfl rfl ?_ BrF.nil); (· (first | refine JL.M0 xk rfl ?_ | refine JL.Q0 xk rfl ?_); refine JL.finN ?_; refine JF.Done xk StF.nil ?_; ((exact JW.Auto (by conv => lhs; reduce)))))))); (· (refine JL.M1 xk rfl rfl ?_); refine JL.finN ?_; refine JF.Branch 4 [] xk StF.nil (BrF.one rfl rfl ?_ BrF.nil); (· (refine JL.M1 xk rfl rfl ?_); refine JL.finN ?_; refine JF.Branch 7 [] xk StF.nil (BrF.one rfl rfl ?_ BrF.nil); (· (first | refine JL.M0 xk rfl ?_ | refine JL.Q0 xk rfl ?_); refine JL.finN ?_; refine JF.Branch 8 [] xk StF.nil (BrF.one rfl rfl ?_ BrF.nil); (· (first | refine JL.M0 xk rfl ?_ | refine JL.Q0 xk rfl ?_); refine JL.finN ?_; refine JF.Branch 9 [] xk StF.nil (BrF.one rfl rfl ?_ BrF.nil); (· (first | refine JL.M0 xk rfl ?_ | refine JL.Q0 xk rfl ?_); refine JL.finN ?_; refine JF.Done xk StF.nil ?_; ((exact JW.Auto (by conv => lhs; reduce))))))))); (· (refine JL.M1 xk rfl rfl ?_); refine JL.finN ?_; refine JF.Branch 4 [5] xk StF.nil (BrF.one rfl rfl ?_ (BrF.one rfl rfl ?_ BrF.nil)); (· (refine JL.M1 xk rfl rfl ?_); refine JL.finN ?_; refine JF.Branch 5 [] xk StF.nil (BrF.one rfl rfl ?_ BrF.nil); (· (refine JL.M1 xk rfl rfl ?_); refine JL.finN ?_; refine JF.Branch 7 [] xk StF.nil (BrF.one rfl rfl ?_ BrF.nil); (· (first | refine JL.M0 xk rfl ?_ | refine JL.Q0 xk rfl ?_); refine JL.finN ?_; refine JF.Branch 8 [] xk StF.nil (BrF.one rfl rfl ?_ BrF.nil); (· (first | refine JL.M0 xk rfl ?_ | refine JL.Q0 xk rfl ?_); refine JL.finN ?_; refine JF.Branch 9 [] xk StF.nil (BrF.one rfl rfl ?_ BrF.nil); (· (first | refine JL.M0 xk rfl ?_ | refine JL.Q0 xk rfl ?_); refine JL.finN ?_; refine JF.Done xk StF.nil ?_; ((exact JW.Auto (by conv => lhs; reduce)))))))); (· (refine JL.M1 xk rfl rfl ?_); refine JL.finN ?_; refine JF.Branch 4 [] xk StF.nil (BrF.one rfl rfl ?_ BrF.nil); (· (refine JL.M1 xk rfl rfl ?_); refine JL.finN ?_; refine JF.Branch 7 [] xk StF.nil (BrF.one rfl rfl ?_ BrF.nil); (· (first | refine JL.M0 xk rfl ?_ | refine JL.Q0 xk rfl ?_); refine JL.finN ?_; refine JF.Branch 8 [] xk StF.nil (BrF.one rfl rfl ?_ BrF.nil); (· (first | refine JL.M0 xk rfl ?_ | refine JL.Q0 xk rfl ?_); refine JL.finN ?_; refine JF.Branch 9 [] xk StF.nil (BrF.one rfl rfl ?_ BrF.nil); (· (first | refine JL.M0 xk rfl ?_ | refine JL.Q0 xk rfl ?_); refine JL.finN ?_; refine JF.Done xk StF.nil ?_; ((exact JW.Auto (by conv => lhs; reduce)))))))))); (· (refine JL.M1 xk rfl rfl ?_); refine JL.finN ?_; refine JF.Branch 3 [5, 6] xk ?_ ?_; (focus (repeat (first | exact StF.nil | refine StF.One rfl rfl rfl ?_))); refine (BrF.one rfl rfl ?_ (BrF.one rfl rfl ?_ (BrF.one rfl rfl ?_ BrF.nil))); (· (first | refine JL.S1 rfl (c74) rfl trivial rfl ?_ | refine JL.T1 rfl (c74) rfl rfl ?_ | (refine JL.C1 rfl (c74) rfl (fun r hr => ?_); subst hr) | refine JL.S1 rfl (c71) rfl trivial rfl ?_ | refine JL.T1 rfl (c71) rfl rfl ?_ | (refine JL.C1 rfl (c71) rfl (fun r hr => ?_); subst hr)); refine JL.finN ?_; refine JF.Branch 5 [6] xk StF.nil (BrF.one rfl rfl ?_ (BrF.one rfl rfl ?_ BrF.nil)); (· (refine JL.M1 xk rfl rfl ?_); refine JL.finN ?_; refine JF.Branch 6 [] xk StF.nil (BrF.one rfl rfl ?_ BrF.nil); (· (refine JL.M1 xk rfl rfl ?_); refine JL.finN ?_; refine JF.Branch 7 [] xk StF.nil (BrF.one rfl rfl ?_ BrF.nil); (· (first | refine JL.M0 xk rfl ?_ | refine JL.Q0 xk rfl ?_); refine JL.finN ?_; refine JF.Branch 8 [] xk StF.nil (BrF.one rfl rfl ?_ BrF.nil); (· (first | refine JL.M0 xk rfl ?_ | refine JL.Q0 xk rfl ?_); refine JL.finN ?_; refine JF.Branch 9 [] xk StF.nil (BrF.one rfl rfl ?_ BrF.nil); (· (first | refine JL.M0 xk rfl ?_ | refine JL.Q0 xk rfl ?_); refine JL.finN ?_; refine JF.Done xk StF.nil ?_; ((exact JW.Auto (by conv => lhs; reduce)))))))); (· (refine JL.M1 xk rfl rfl ?_); refine JL.finN ?_; refine JF.Branch 5 [] xk StF.nil (BrF.one rfl rfl ?_ BrF.nil); (· (refine JL.M1 xk rfl rfl ?_); refine JL.finN ?_; refine JF.Branch 7 [] xk StF.nil (BrF.one rfl rfl ?_ BrF.nil); (· (first | refine JL.M0 xk rfl ?_ | refine JL.Q0 xk rfl ?_); refine JL.finN ?_; refine JF.Branch 8 [] xk StF.nil (BrF.one rfl rfl ?_ BrF.nil); (· (first | refine JL.M0 xk rfl ?_ | refine JL.Q0 xk rfl ?_); refine JL.finN ?_; refine JF.Branch 9 [] xk StF.nil (BrF.one rfl rfl ?_ BrF.nil); (· (first | refine JL.M0 xk rfl ?_ | refine JL.Q0 xk rfl ?_); refine JL.finN ?_; refine JF.Done xk StF.nil ?_; ((exact JW.Auto (by conv => lhs; reduce))))))))); (· (refine JL.M1 xk rfl rfl ?_); refine JL.finN ?_; refine JF.Branch 3 [6] xk ?_ ?_; (focus (repeat (first | exact StF.nil | refine StF.One rfl rfl rfl ?_))); refine (BrF.one rfl rfl ?_ (BrF.one rfl rfl ?_ BrF.nil)); (· (first | refine JL.S1 rfl (c74) rfl trivial rfl ?_ | refine JL.T1 rfl (c74) rfl rfl ?_ | (refine JL.C1 rfl (c74) rfl (fun r hr => ?_); subst hr) | refine JL.S1 rfl (c71) rfl trivial rfl ?_ | refine JL.T1 rfl (c71) rfl rfl ?_ | (refine JL.C1 rfl (c71) rfl (fun r hr => ?_); subst hr)); refine JL.finN ?_; refine JF.Branch 6 [] xk StF.nil (BrF.one rfl rfl ?_ BrF.nil); (· (refine JL.M1 xk rfl rfl ?_); refine JL.finN ?_; refine JF.Branch 7 [] xk StF.nil (BrF.one rfl rfl ?_ BrF.nil); (· (first | refine JL.M0 xk rfl ?_ | refine JL.Q0 xk rfl ?_); refine JL.finN ?_; refine JF.Branch 8 [] xk StF.nil (BrF.one rfl rfl ?_ BrF.nil); (· (first | refine JL.M0 xk rfl ?_ | refine JL.Q0 xk rfl ?_); refine JL.finN ?_; refine JF.Branch 9 [] xk StF.nil (BrF.one rfl rfl ?_ BrF.nil); (· (first | refine JL.M0 xk rfl ?_ | refine JL.Q0 xk rfl ?_); refine JL.finN ?_; refine JF.Done xk StF.nil ?_; ((exact JW.Auto (by conv => lhs; reduce)))))))); (· (refine JL.M1 xk rfl rfl ?_); refine JL.finN ?_; refine JF.Branch 3 [] xk ?_ ?_; (focus (repeat (first | exact StF.nil | refine StF.One rfl rfl rfl ?_))); refine (BrF.one rfl rfl ?_ BrF.nil); (· (first | refine JL.S1 rfl (c74) rfl trivial rfl ?_ | refine JL.T1 rfl (c74) rfl rfl ?_ | (refine JL.C1 rfl (c74) rfl (fun r hr => ?_); subst hr) | refine JL.S1 rfl (c71) rfl trivial rfl ?_ | refine JL.T1 rfl (c71) rfl rfl ?_ | (refine JL.C1 rfl (c71) rfl (fun r hr => ?_); subst hr)); refine JL.finN ?_; refine JF.Branch 7 [] xk StF.nil (BrF.one rfl rfl ?_ BrF.nil); (· (first | refine JL.M0 xk rfl ?_ | refine JL.Q0 xk rfl ?_); refine JL.finN ?_; refine JF.Branch 8 [] xk StF.nil (BrF.one rfl rfl ?_ BrF.nil); (· (first | refine JL.M0 xk rfl ?_ | refine JL.Q0 xk rfl ?_); refine JL.finN ?_; refine JF.Branch 9 [] xk StF.nil (BrF.one rfl rfl ?_ BrF.nil); (· (first | refine JL.M0 xk rfl ?_ | refine JL.Q0 xk rfl ?_); refine JL.finN ?_; refine JF.Done xk StF.nil ?_; ((exact JW.Auto (by conv => lhs; reduce))))))))); (· (refine JL.M1 xk rfl rfl ?_); refine JL.finN ?_; refine JF.Branch 3 [5] xk ?_ ?_; (focus (repeat (first | exact StF.nil | refine StF.One rfl rfl rfl ?_))); refine (BrF.one rfl rfl ?_ (BrF.one rfl rfl ?_ BrF.nil)); (· (first | refine JL.S1 rfl (c74) rfl trivial rfl ?_ | refine JL.T1 rfl (c74) rfl rfl ?_ | (refine JL.C1 rfl (c74) rfl (fun r hr => ?_); subst hr) | refine JL.S1 rfl (c71) rfl trivial rfl ?_ | refine JL.T1 rfl (c71) rfl rfl ?_ | (refine JL.C1 rfl (c71) rfl (fun r hr => ?_); subst hr)); refine JL.finN ?_; refine JF.Branch 5 [] xk StF.nil (BrF.one rfl rfl ?_ BrF.nil); (· (refine JL.M1 xk rfl rfl ?_); refine JL.finN ?_; refine JF.Branch 7 [] xk StF.nil (BrF.one rfl rfl ?_ BrF.nil); (· (first | refine JL.M0 xk rfl ?_ | refine JL.Q0 xk rfl ?_); refine JL.finN ?_; refine JF.Branch 8 [] xk StF.nil (BrF.one rfl rfl ?_ BrF.nil); (· (first | refine JL.M0 xk rfl ?_ | refine JL.Q0 xk rfl ?_); refine JL.finN ?_; refine JF.Branch 9 [] xk StF.nil (BrF.one rfl rfl ?_ BrF.nil); (· (first | refine JL.M0 xk rfl ?_ | refine JL.Q0 xk rfl ?_); refine JL.finN ?_; refine JF.Done xk StF.nil ?_; ((exact JW.Auto (by conv => lhs; reduce)))))))); (· (refine JL.M1 xk rfl rfl ?_); refine JL.finN ?_; refine JF.Branch 3 [] xk ?_ ?_; (focus (repeat (first | exact StF.nil | refine StF.One rfl rfl rfl ?_))); refine (BrF.one rfl rfl ?_ BrF.nil); (· (first | refine JL.S1 rfl (c74) rfl trivial rfl ?_ | refine JL.T1 rfl (c74) rfl rfl ?_ | (refine JL.C1 rfl (c74) rfl (fun r hr => ?_); subst hr) | refine JL.S1 rfl (c71) rfl trivial rfl ?_ | refine JL.T1 rfl (c71) rfl rfl ?_ | (refine JL.C1 rfl (c71) rfl (fun r hr => ?_); subst hr)); refine JL.finN ?_; refine JF.Branch 7 [] xk StF.nil (BrF.one rfl rfl ?_ BrF.nil); (· (first | refine JL.M0 xk rfl ?_ | refine JL.Q0 xk rfl ?_); refine JL.finN ?_; refine JF.Branch 8 [] xk StF.nil (BrF.one rfl rfl ?_ BrF.nil); (· (first | refine JL.M0 xk rfl ?_ | refine JL.Q0 xk rfl ?_); refine JL.finN ?_; refine JF.Branch 9 [] xk StF.nil (BrF.one rfl rfl ?_ BrF.nil); (· (first | refine JL.M0 xk rfl ?_ | refine JL.Q0 xk rfl ?_); refine JL.finN ?_; refine JF.Done xk StF.nil ?_; ((exact JW.Auto (by conv => lhs; reduce)))))))))); (· (refine JL.M1 xk rfl rfl ?_); refine JL.finN ?_; refine JF.Branch 3 [4, 6] xk ?_ ?_; (focus (repeat (first | exact StF.nil | refine StF.One rfl rfl rfl ?_))); refine (BrF.one rfl rfl ?_ (BrF.one rfl rfl ?_ (BrF.one rfl rfl ?_ BrF.nil))); (· (first | refine JL.S1 rfl (c74) rfl trivial rfl ?_ | refine JL.T1 rfl (c74) rfl rfl ?_ | (refine JL.C1 rfl (c74) rfl (fun r hr => ?_); subst hr) | refine JL.S1 rfl (c71) rfl trivial rfl ?_ | refine JL.T1 rfl (c71) rfl rfl ?_ | (refine JL.C1 rfl (c71) rfl (fun r hr => ?_); subst hr)); refine JL.finN ?_; refine JF.Branch 4 [6] xk StF.nil (BrF.one rfl rfl ?_ (BrF.one rfl rfl ?_ BrF.nil)); (· (refine JL.M1 xk rfl rfl ?_); refine JL.finN ?_; refine JF.Branch 6 [] xk StF.nil (BrF.one rfl rfl ?_ BrF.nil); (· (refine JL.M1 xk rfl rfl ?_); refine JL.finN ?_; refine JF.Branch 7 [] xk StF.nil (BrF.one rfl rfl ?_ BrF.nil); (· (first | refine JL.M0 xk rfl ?_ | refine JL.Q0 xk rfl ?_); refine JL.finN ?_; refine JF.Branch 8 [] xk StF.nil (BrF.one rfl rfl ?_ BrF.nil); (· (first | refine JL.M0 xk rfl ?_ | refine JL.Q0 xk rfl ?_); refine JL.finN ?_; refine JF.Branch 9 [] xk StF.nil (BrF.one rfl rfl ?_ BrF.nil); (· (first | refine JL.M0 xk rfl ?_ | refine JL.Q0 xk rfl ?_); refine JL.finN ?_; refine JF.Done xk StF.nil ?_; ((exact JW.Auto (by conv => lhs; reduce)))))))); (· (refine JL.M1 xk rfl rfl ?_); refine JL.finN ?_; refine JF.Branch 4 [] xk StF.nil (BrF.one rfl rfl ?_ BrF.nil); (· (refine JL.M1 xk rfl rfl ?_); refine JL.finN ?_; refine JF.Branch 7 [] xk StF.nil (BrF.one rfl rfl ?_ BrF.nil); (· (first | refine JL.M0 xk rfl ?_ | refine JL.Q0 xk rfl ?_); refine JL.finN ?_; refine JF.Branch 8 [] xk StF.nil (BrF.one rfl rfl ?_ BrF.nil); (· (first | refine JL.M0 xk rfl ?_ | refine JL.Q0 xk rfl ?_); refine JL.finN ?_; refine JF.Branch 9 [] xk StF.nil (BrF.one rfl rfl ?_ BrF.nil); (· (first | refine JL.M0 xk rfl ?_ | refine JL.Q0 xk rfl ?_); refine JL.finN ?_; refine JF.Done xk StF.nil ?_; ((exact JW.Auto (by conv => lhs; reduce))))))))); (· (refine JL.M1 xk rfl rfl ?_); refine JL.finN ?_; refine JF.Branch 3 [6] xk ?_ ?_; (focus (repeat (first | exact StF.nil | refine StF.One rfl rfl rfl ?_))); refine (BrF.one rfl rfl ?_ (BrF.one rfl rfl ?_ BrF.nil)); (· (first | refine JL.S1 rfl (c74) rfl trivial rfl ?_ | refine JL.T1 rfl (c74) rfl rfl ?_ | (refine JL.C1 rfl (c74) rfl (fun r hr => ?_); subst hr) | refine JL.S1 rfl (c71) rfl trivial rfl ?_ | refine JL.T1 rfl (c71) rfl rfl ?_ | (refine JL.C1 rfl (c71) rfl (fun r hr => ?_); subst hr)); refine JL.finN ?_; refine JF.Branch 6 [] xk StF.nil (BrF.one rfl rfl ?_ BrF.nil); (· (refine JL.M1 xk rfl rfl ?_); refine JL.finN ?_; refine JF.Branch 7 [] xk StF.nil (BrF.one rfl rfl ?_ BrF.nil); (· (first | refine JL.M0 xk rfl ?_ | refine JL.Q0 xk rfl ?_); refine JL.finN ?_; refine JF.Branch 8 [] xk StF.nil (BrF.one rfl rfl ?_ BrF.nil); (· (first | refine JL.M0 xk rfl ?_ | refine JL.Q0 xk rfl ?_); refine JL.finN ?_; refine JF.Branch 9 [] xk StF.nil (BrF.one rfl rfl ?_ BrF.nil); (· (first | refine JL.M0 xk rfl ?_ | refine JL.Q0 xk rfl ?_); refine JL.finN ?_; refine JF.Done xk StF.nil ?_; ((exact JW.Auto (by conv => lhs; reduce)))))))); (· (refine JL.M1 xk rfl rfl ?_); refine JL.finN ?_; refine JF.Branch 3 [] xk ?_ ?_; (focus (repeat (first | exact StF.nil | refine StF.One rfl rfl rfl ?_))); refine (BrF.one rfl rfl ?_ BrF.nil); (· (first | refine JL.S1 rfl (c74) rfl trivial rfl ?_ | refine JL.T1 rfl (c74) rfl rfl ?_ | (refine JL.C1 rfl (c74) rfl (fun r hr => ?_); subst hr) | refine JL.S1 rfl (c71) rfl trivial rfl ?_ | refine JL.T1 rfl (c71) rfl rfl ?_ | (refine JL.C1 rfl (c71) rfl (fun r hr => ?_); subst hr)); refine JL.finN ?_; refine JF.Branch 7 [] xk StF.nil (BrF.one rfl rfl ?_ BrF.nil); (· (first | refine JL.M0 xk rfl ?_ | refine JL.Q0 xk rfl ?_); refine JL.finN ?_; refine JF.Branch 8 [] xk StF.nil (BrF.one rfl rfl ?_ BrF.nil); (· (first | refine JL.M0 xk rfl ?_ | refine JL.Q0 xk rfl ?_); refine JL.finN ?_; refine JF.Branch 9 [] xk StF.nil (BrF.one rfl rfl ?_ BrF.nil); (· (first | refine JL.M0 xk rfl ?_ | refine JL.Q0 xk rfl ?_); refine JL.finN ?_; refine JF.Done xk StF.nil ?_; ((exact JW.Auto (by conv => lhs; reduce))))))))); (· (refine JL.M1 xk rfl rfl ?_); refine JL.finN ?_; refine JF.Branch 3 [4] xk ?_ ?_; (focus (repeat (first | exact StF.nil | refine StF.One rfl rfl rfl ?_))); refine (BrF.one rfl rfl ?_ (BrF.one rfl rfl ?_ BrF.nil)); (· (first | refine JL.S1 rfl (c74) rfl trivial rfl ?_ | refine JL.T1 rfl (c74) rfl rfl ?_ | (refine JL.C1 rfl (c74) rfl (fun r hr => ?_); subst hr) | refine JL.S1 rfl (c71) rfl trivial rfl ?_ | refine JL.T1 rfl (c71) rfl rfl ?_ | (refine JL.C1 rfl (c71) rfl (fun r hr => ?_); subst hr)); refine JL.finN ?_; refine JF.Branch 4 [] xk StF.nil (BrF.one rfl rfl ?_ BrF.nil); (· (refine JL.M1 xk rfl rfl ?_); refine JL.finN ?_; refine JF.Branch 7 [] xk StF.nil (BrF.one rfl rfl ?_ BrF.nil); (· (first | refine JL.M0 xk rfl ?_ | refine JL.Q0 xk rfl ?_); refine JL.finN ?_; refine JF.Branch 8 [] xk StF.nil (BrF.one rfl rfl ?_ BrF.nil); (· (first | refine JL.M0 xk rfl ?_ | refine JL.Q0 xk rfl ?_); refine JL.finN ?_; refine JF.Branch 9 [] xk StF.nil (BrF.one rfl rfl ?_ BrF.nil); (· (first | refine JL.M0 xk rfl ?_ | refine JL.Q0 xk rfl ?_); refine JL.finN ?_; refine JF.Done xk StF.nil ?_; ((exact JW.Auto (by conv => lhs; reduce)))))))); (· (refine JL.M1 xk rfl rfl ?_); refine JL.finN ?_; refine JF.Branch 3 [] xk ?_ ?_; (focus (repeat (first | exact StF.nil | refine StF.One rfl rfl rfl ?_))); refine (BrF.one rfl rfl ?_ BrF.nil); (· (first | refine JL.S1 rfl (c74) rfl trivial rfl ?_ | refine JL.T1 rfl (c74) rfl rfl ?_ | (refine JL.C1 rfl (c74) rfl (fun r hr => ?_); subst hr) | refine JL.S1 rfl (c71) rfl trivial rfl ?_ | refine JL.T1 rfl (c71) rfl rfl ?_ | (refine JL.C1 rfl (c71) rfl (fun r hr => ?_); subst hr)); refine JL.finN ?_; refine JF.Branch 7 [] xk StF.nil (BrF.one rfl rfl ?_ BrF.nil); (· (first | refine JL.M0 xk rfl ?_ | refine JL.Q0 xk rfl ?_); refine JL.finN ?_; refine JF.Branch 8 [] xk StF.nil (BrF.one rfl rfl ?_ BrF.nil); (· (first | refine JL.M0 xk rfl ?_ | refine JL.Q0 xk rfl ?_); refine JL.finN ?_; refine JF.Branch 9 [] xk StF.nil (BrF.one rfl rfl ?_ BrF.nil); (· (first | refine JL.M0 xk rfl ?_ | refine JL.Q0 xk rfl ?_); refine JL.finN ?_; refine JF.Done xk StF.nil ?_; ((exact JW.Auto (by conv => lhs; reduce)))))))))); (· (refine JL.M1 xk rfl rfl ?_); refine JL.finN ?_; refine JF.Branch 3 [4, 5] xk ?_ ?_; (focus (repeat (first | exact StF.nil | refine StF.One rfl rfl rfl ?_))); refine (BrF.one rfl rfl ?_ (BrF.one rfl rfl ?_ (BrF.one rfl rfl ?_ BrF.nil))); (· (first | refine JL.S1 rfl (c74) rfl trivial rfl ?_ | refine JL.T1 rfl (c74) rfl rfl ?_ | (refine JL.C1 rfl (c74) rfl (fun r hr => ?_); subst hr) | refine JL.S1 rfl (c71) rfl trivial rfl ?_ | refine JL.T1 rfl (c71) rfl rfl ?_ | (refine JL.C1 rfl (c71) rfl (fun r hr => ?_); subst hr)); refine JL.finN ?_; refine JF.Branch 4 [5] xk StF.nil (BrF.one rfl rfl ?_ (BrF.one rfl rfl ?_ BrF.nil)); (· (refine JL.M1 xk rfl rfl ?_); refine JL.finN ?_; refine JF.Branch 5 [] xk StF.nil (BrF.one rfl rfl ?_ BrF.nil); (· (refine JL.M1 xk rfl rfl ?_); refine JL.finN ?_; refine JF.Branch 7 [] xk StF.nil (BrF.one rfl rfl ?_ BrF.nil); (· (first | refine JL.M0 xk rfl ?_ | refine JL.Q0 xk rfl ?_); refine JL.finN ?_; refine JF.Branch 8 [] xk StF.nil (BrF.one rfl rfl ?_ BrF.nil); (· (first | refine JL.M0 xk rfl ?_ | refine JL.Q0 xk rfl ?_); refine JL.finN ?_; refine JF.Branch 9 [] xk StF.nil (BrF.one rfl rfl ?_ BrF.nil); (· (first | refine JL.M0 xk rfl ?_ | refine JL.Q0 xk rfl ?_); refine JL.finN ?_; refine JF.Done xk StF.nil ?_; ((exact JW.Auto (by conv => lhs; reduce)))))))); (· (refine JL.M1 xk rfl rfl ?_); refine JL.finN ?_; refine JF.Branch 4 [] xk StF.nil (BrF.one rfl rfl ?_ BrF.nil); (· (refine JL.M1 xk rfl rfl ?_); refine JL.finN ?_; refine JF.Branch 7 [] xk StF.nil (BrF.one rfl rfl ?_ BrF.nil); (· (first | refine JL.M0 xk rfl ?_ | refine JL.Q0 xk rfl ?_); refine JL.finN ?_; refine JF.Branch 8 [] xk StF.nil (BrF.one rfl rfl ?_ BrF.nil); (· (first | refine JL.M0 xk rfl ?_ | refine JL.Q0 xk rfl ?_); refine JL.finN ?_; refine JF.Branch 9 [] xk StF.nil (BrF.one rfl rfl ?_ BrF.nil); (· (first | refine JL.M0 xk rfl ?_ | refine JL.Q0 xk rfl ?_); refine JL.finN ?_; refine JF.Done xk StF.nil ?_; ((exact JW.Auto (by conv => lhs; reduce))))))))); (· (refine JL.M1 xk rfl rfl ?_); refine JL.finN ?_; refine JF.Branch 3 [5] xk ?_ ?_; (focus (repeat (first | exact StF.nil | refine StF.One rfl rfl rfl ?_))); refine (BrF.one rfl rfl ?_ (BrF.one rfl rfl ?_ BrF.nil)); (· (first | refine JL.S1 rfl (c74) rfl trivial rfl ?_ | refine JL.T1 rfl (c74) rfl rfl ?_ | (refine JL.C1 rfl (c74) rfl (fun r hr => ?_); subst hr) | refine JL.S1 rfl (c71) rfl trivial rfl ?_ | refine JL.T1 rfl (c71) rfl rfl ?_ | (refine JL.C1 rfl (c71) rfl (fun r hr => ?_); subst hr)); refine JL.finN ?_; refine JF.Branch 5 [] xk StF.nil (BrF.one rfl rfl ?_ BrF.nil); (· (refine JL.M1 xk rfl rfl ?_); refine JL.finN ?_; refine JF.Branch 7 [] xk StF.nil (BrF.one rfl rfl ?_ BrF.nil); (· (first | refine JL.M0 xk rfl ?_ | refine JL.Q0 xk rfl ?_); refine JL.finN ?_; refine JF.Branch 8 [] xk StF.nil (BrF.one rfl rfl ?_ BrF.nil); (· (first | refine JL.M0 xk rfl ?_ | refine JL.Q0 xk rfl ?_); refine JL.finN ?_; refine JF.Branch 9 [] xk StF.nil (BrF.one rfl rfl ?_ BrF.nil); (· (first | refine JL.M0 xk rfl ?_ | refine JL.Q0 xk rfl ?_); refine JL.finN ?_; refine JF.Done xk StF.nil ?_; ((exact JW.Auto (by conv => lhs; reduce)))))))); (· (refine JL.M1 xk rfl rfl ?_); refine JL.finN ?_; refine JF.Branch 3 [] xk ?_ ?_; (focus (repeat (first | exact StF.nil | refine StF.One rfl rfl rfl ?_))); refine (BrF.one rfl rfl ?_ BrF.nil); (· (first | refine JL.S1 rfl (c74) rfl trivial rfl ?_ | refine JL.T1 rfl (c74) rfl rfl ?_ | (refine JL.C1 rfl (c74) rfl (fun r hr => ?_); subst hr) | refine JL.S1 rfl (c71) rfl trivial rfl ?_ | refine JL.T1 rfl (c71) rfl rfl ?_ | (refine JL.C1 rfl (c71) rfl (fun r hr => ?_); subst hr)); refine JL.finN ?_; refine JF.Branch 7 [] xk StF.nil (BrF.one rfl rfl ?_ BrF.nil); (· (first | refine JL.M0 xk rfl ?_ | refine JL.Q0 xk rfl ?_); refine JL.finN ?_; refine JF.Branch 8 [] xk StF.nil (BrF.one rfl rfl ?_ BrF.nil); (· (first | refine JL.M0 xk rfl ?_ | refine JL.Q0 xk rfl ?_); refine JL.finN ?_; refine JF.Branch 9 [] xk StF.nil (BrF.one rfl rfl ?_ BrF.nil); (· (first | refine JL.M0 xk rfl ?_ | refine JL.Q0 xk rfl ?_); refine JL.finN ?_; refine JF.Done xk StF.nil ?_; ((exact JW.Auto (by conv => lhs; reduce))))))))); (· (refine JL.M1 xk rfl rfl ?_); refine JL.finN ?_; refine JF.Branch 3 [4] xk ?_ ?_; (focus (repeat (first | exact StF.nil | refine StF.One rfl rfl rfl ?_))); refine (BrF.one rfl rfl ?_ (BrF.one rfl rfl ?_ BrF.nil)); (· (first | refine JL.S1 rfl (c74) rfl trivial rfl ?_ | refine JL.T1 rfl (c74) rfl rfl ?_ | (refine JL.C1 rfl (c74) rfl (fun r hr => ?_); subst hr) | refine JL.S1 rfl (c71) rfl trivial rfl ?_ | refine JL.T1 rfl (c71) rfl rfl ?_ | (refine JL.C1 rfl (c71) rfl (fun r hr => ?_); subst hr)); refine JL.finN ?_; refine JF.Branch 4 [] xk StF.nil (BrF.one rfl rfl ?_ BrF.nil); (· (refine JL.M1 xk rfl rfl ?_); refine JL.finN ?_; refine JF.Branch 7 [] xk StF.nil (BrF.one rfl rfl ?_ BrF.nil); (· (first | refine JL.M0 xk rfl ?_ | refine JL.Q0 xk rfl ?_); refine JL.finN ?_; refine JF.Branch 8 [] xk StF.nil (BrF.one rfl rfl ?_ BrF.nil); (· (first | refine JL.M0 xk rfl ?_ | refine JL.Q0 xk rfl ?_); refine JL.finN ?_; refine JF.Branch 9 [] xk StF.nil (BrF.one rfl rfl ?_ BrF.nil); (· (first | refine JL.M0 xk rfl ?_ | refine JL.Q0 xk rfl ?_); refine JL.finN ?_; refine JF.Done xk StF.nil ?_; ((exact JW.Auto (by conv => lhs; reduce)))))))); (· (refine JL.M1 xk rfl rfl ?_); refine JL.finN ?_; refine JF.Branch 3 [] xk ?_ ?_; (focus (repeat (first | exact StF.nil | refine StF.One rfl rfl rfl ?_))); refine (BrF.one rfl rfl ?_ BrF.nil); (· (first | refine JL.S1 rfl (c74) rfl trivial rfl ?_ | refine JL.T1 rfl (c74) rfl rfl ?_ | (refine JL.C1 rfl (c74) rfl (fun r hr => ?_); subst hr) | refine JL.S1 rfl (c71) rfl trivial rfl ?_ | refine JL.T1 rfl (c71) rfl rfl ?_ | (refine JL.C1 rfl (c71) rfl (fun r hr => ?_); subst hr)); refine JL.finN ?_; refine JF.Branch 7 [] xk StF.nil (BrF.one rfl rfl ?_ BrF.nil); (· (first | refine JL.M0 xk rfl ?_ | refine JL.Q0 xk rfl ?_); refine JL.finN ?_; refine JF.Branch 8 [] xk StF.nil (BrF.one rfl rfl ?_ BrF.nil); (· (first | refine JL.M0 xk rfl ?_ | refine JL.Q0 xk rfl ?_); refine JL.finN ?_; refine JF.Branch 9 [] xk StF.nil (BrF.one rfl rfl ?_ BrF.nil); (· (first | refine JL.M0 xk rfl ?_ | refine JL.Q0 xk rfl ?_); refine JL.finN ?_; refine JF.Done xk StF.nil ?_; ((exact JW.Auto (by conv => lhs; reduce))))))))))); (· (refine JL.M1 xk rfl rfl ?_); refine JL.finN ?_; refine JF.Branch 2 [5, 6] xk ?_ ?_; (focus (repeat (first | exact StF.nil | refine StF.One rfl rfl rfl ?_))); refine (BrF.one rfl rfl ?_ (BrF.one rfl rfl ?_ (BrF.one rfl rfl ?_ BrF.nil))); (· (first | refine JL.S1 rfl (c74) rfl trivial rfl ?_ | refine JL.T1 rfl (c74) rfl rfl ?_ | (refine JL.C1 rfl (c74) rfl (fun r hr => ?_); subst hr) | refine JL.S1 rfl (c71) rfl trivial rfl ?_ | refine JL.T1 rfl (c71) rfl rfl ?_ | (refine JL.C1 rfl (c71) rfl (fun r hr => ?_); subst hr)); refine JL.finN ?_; refine JF.Branch 3 [5, 6] xk ?_ ?_; (focus (repeat (first | exact StF.nil | refine StF.One rfl rfl rfl ?_))); refine (BrF.one rfl rfl ?_ (BrF.one rfl rfl ?_ (BrF.one rfl rfl ?_ BrF.nil))); (· (first | refine JL.S1 rfl (c74) rfl trivial rfl ?_ | refine JL.T1 rfl (c74) rfl rfl ?_ | (refine JL.C1 rfl (c74) rfl (fun r hr => ?_); subst hr) | refine JL.S1 rfl (c71) rfl trivial rfl ?_ | refine JL.T1 rfl (c71) rfl rfl ?_ | (refine JL.C1 rfl (c71) rfl (fun r hr => ?_); subst hr)); refine JL.finN ?_; refine JF.Branch 5 [6] xk StF.nil (BrF.one rfl rfl ?_ (BrF.one rfl rfl ?_ BrF.nil)); (· (refine JL.M1 xk rfl rfl ?_); refine JL.finN ?_; refine JF.Branch 6 [] xk StF.nil (BrF.one rfl rfl ?_ BrF.nil); (· (refine JL.M1 xk rfl rfl ?_); refine JL.finN ?_; refine JF.Branch 7 [] xk StF.nil (BrF.one rfl rfl ?_ BrF.nil); (· (first | refine JL.M0 xk rfl ?_ | refine JL.Q0 xk rfl ?_); refine JL.finN ?_; refine JF.Branch 8 [] xk StF.nil (BrF.one rfl rfl ?_ BrF.nil); (· (first | refine JL.M0 xk rfl ?_ | refine JL.Q0 xk rfl ?_); refine JL.finN ?_; refine JF.Branch 9 [] xk StF.nil (BrF.one rfl rfl ?_ BrF.nil); (· (first | refine JL.M0 xk rfl ?_ | refine JL.Q0 xk rfl ?_); refine JL.finN ?_; refine JF.Done xk StF.nil ?_; ((exact JW.Auto (by conv => lhs; reduce)))))))); (· (refine JL.M1 xk rfl rfl ?_); refine JL.finN ?_; refine JF.Branch 5 [] xk StF.nil (BrF.one rfl rfl ?_ BrF.nil); (· (refine JL.M1 xk rfl rfl ?_); refine JL.finN ?_; refine JF.Branch 7 [] xk StF.nil (BrF.one rfl rfl ?_ BrF.nil); (· (first | refine JL.M0 xk rfl ?_ | refine JL.Q0 xk rfl ?_); refine JL.finN ?_; refine JF.Branch 8 [] xk StF.nil (BrF.one rfl rfl ?_ BrF.nil); (· (first | refine JL.M0 xk rfl ?_ | refine JL.Q0 xk rfl ?_); refine JL.finN ?_; refine JF.Branch 9 [] xk StF.nil (BrF.one rfl rfl ?_ BrF.nil); (· (first | refine JL.M0 xk rfl ?_ | refine JL.Q0 xk rfl ?_); refine JL.finN ?_; refine JF.Done xk StF.nil ?_; ((exact JW.Auto (by conv => lhs; reduce))))))))); (· (refine JL.M1 xk rfl rfl ?_); refine JL.finN ?_; refine JF.Branch 3 [6] xk ?_ ?_; (focus (repeat (first | exact StF.nil | refine StF.One rfl rfl rfl ?_))); refine (BrF.one rfl rfl ?_ (BrF.one rfl rfl ?_ BrF.nil)); (· (first | refine JL.S1 rfl (c74) rfl trivial rfl ?_ | refine JL.T1 rfl (c74) rfl rfl ?_ | (refine JL.C1 rfl (c74) rfl (fun r hr => ?_); subst hr) | refine JL.S1 rfl (c71) rfl trivial rfl ?_ | refine JL.T1 rfl (c71) rfl rfl ?_ | (refine JL.C1 rfl (c71) rfl (fun r hr => ?_); subst hr)); refine JL.finN ?_; refine JF.Branch 6 [] xk StF.nil (BrF.one rfl rfl ?_ BrF.nil); (· (refine JL.M1 xk rfl rfl ?_); refine JL.finN ?_; refine JF.Branch 7 [] xk StF.nil (BrF.one rfl rfl ?_ BrF.nil); (· (first | refine JL.M0 xk rfl ?_ | refine JL.Q0 xk rfl ?_); refine JL.finN ?_; refine JF.Branch 8 [] xk StF.nil (BrF.one rfl rfl ?_ BrF.nil); (· (first | refine JL.M0 xk rfl ?_ | refine JL.Q0 xk rfl ?_); refine JL.finN ?_; refine JF.Branch 9 [] xk StF.nil (BrF.one rfl rfl ?_ BrF.nil); (· (first | refine JL.M0 xk rfl ?_ | refine JL.Q0 xk rfl ?_); refine JL.finN ?_; refine JF.Done xk StF.nil ?_; ((exact JW.Auto (by conv => lhs; reduce)))))))); (· (refine JL.M1 xk rfl rfl ?_); refine JL.finN ?_; refine JF.Branch 3 [] xk ?_ ?_; (focus (repeat (first | exact StF.nil | refine StF.One rfl rfl rfl ?_))); refine (BrF.one rfl rfl ?_ BrF.nil); (· (first | refine JL.S1 rfl (c74) rfl trivial rfl ?_ | refine JL.T1 rfl (c74) rfl rfl ?_ | (refine JL.C1 rfl (c74) rfl (fun r hr => ?_); subst hr) | refine JL.S1 rfl (c71) rfl trivial rfl ?_ | refine JL.T1 rfl (c71) rfl rfl ?_ | (refine JL.C1 rfl (c71) rfl (fun r hr => ?_); subst hr)); refine JL.finN ?_; refine JF.Branch 7 [] xk StF.nil (BrF.one rfl rfl ?_ BrF.nil); (· (first | refine JL.M0 xk rfl ?_ | refine JL.Q0 xk rfl ?_); refine JL.finN ?_; refine JF.Branch 8 [] xk StF.nil (BrF.one rfl rfl ?_ BrF.nil); (· (first | refine JL.M0 xk rfl ?_ | refine JL.Q0 xk rfl ?_); refine JL.finN ?_; refine JF.Branch 9 [] xk StF.nil (BrF.one rfl rfl ?_ BrF.nil); (· (first | refine JL.M0 xk rfl ?_ | refine JL.Q0 xk rfl ?_); refine JL.finN ?_; refine JF.Done xk StF.nil ?_; ((exact JW.Auto (by conv => lhs; reduce))))))))); (· (refine JL.M1 xk rfl rfl ?_); refine JL.finN ?_; refine JF.Branch 3 [5] xk ?_ ?_; (focus (repeat (first | exact StF.nil | refine StF.One rfl rfl rfl ?_))); refine (BrF.one rfl rfl ?_ (BrF.one rfl rfl ?_ BrF.nil)); (· (first | refine JL.S1 rfl (c74) rfl trivial rfl ?_ | refine JL.T1 rfl (c74) rfl rfl ?_ | (refine JL.C1 rfl (c74) rfl (fun r hr => ?_); subst hr) | refine JL.S1 rfl (c71) rfl trivial rfl ?_ | refine JL.T1 rfl (c71) rfl rfl ?_ | (refine JL.C1 rfl (c71) rfl (fun r hr => ?_); subst hr)); refine JL.finN ?_; refine JF.Branch 5 [] xk StF.nil (BrF.one rfl rfl ?_ BrF.nil); (· (refine JL.M1 xk rfl rfl ?_); refine JL.finN ?_; refine JF.Branch 7 [] xk StF.nil (BrF.one rfl rfl ?_ BrF.nil); (· (first | refine JL.M0 xk rfl ?_ | refine JL.Q0 xk rfl ?_); refine JL.finN ?_; refine JF.Branch 8 [] xk StF.nil (BrF.one rfl rfl ?_ BrF.nil); (· (first | refine JL.M0 xk rfl ?_ | refine JL.Q0 xk rfl ?_); refine JL.finN ?_; refine JF.Branch 9 [] xk StF.nil (BrF.one rfl rfl ?_ BrF.nil); (· (first | refine JL.M0 xk rfl ?_ | refine JL.Q0 xk rfl ?_); refine JL.finN ?_; refine JF.Done xk StF.nil ?_; ((exact JW.Auto (by conv => lhs; reduce)))))))); (· (refine JL.M1 xk rfl rfl ?_); refine JL.finN ?_; refine JF.Branch 3 [] xk ?_ ?_; (focus (repeat (first | exact StF.nil | refine StF.One rfl rfl rfl ?_))); refine (BrF.one rfl rfl ?_ BrF.nil); (· (first | refine JL.S1 rfl (c74) rfl trivial rfl ?_ | refine JL.T1 rfl (c74) rfl rfl ?_ | (refine JL.C1 rfl (c74) rfl (fun r hr => ?_); subst hr) | refine JL.S1 rfl (c71) rfl trivial rfl ?_ | refine JL.T1 rfl (c71) rfl rfl ?_ | (refine JL.C1 rfl (c71) rfl (fun r hr => ?_); subst hr)); refine JL.finN ?_; refine JF.Branch 7 [] xk StF.nil (BrF.one rfl rfl ?_ BrF.nil); (· (first | refine JL.M0 xk rfl ?_ | refine JL.Q0 xk rfl ?_); refine JL.finN ?_; refine JF.Branch 8 [] xk StF.nil (BrF.one rfl rfl ?_ BrF.nil); (· (first | refine JL.M0 xk rfl ?_ | refine JL.Q0 xk rfl ?_); refine JL.finN ?_; refine JF.Branch 9 [] xk StF.nil (BrF.one rfl rfl ?_ BrF.nil); (· (first | refine JL.M0 xk rfl ?_ | refine JL.Q0 xk rfl ?_); refine JL.finN ?_; refine JF.Done xk StF.nil ?_; ((exact JW.Auto (by conv => lhs; reduce)))))))))); (· (refine JL.M1 xk rfl rfl ?_); refine JL.finN ?_; refine JF.Branch 2 [6] xk ?_ ?_; (focus (repeat (first | exact StF.nil | refine StF.One rfl rfl rfl ?_))); refine (BrF.one rfl rfl ?_ (BrF.one rfl rfl ?_ BrF.nil)); (· (first | refine JL.S1 rfl (c74) rfl trivial rfl ?_ | refine JL.T1 rfl (c74) rfl rfl ?_ | (refine JL.C1 rfl (c74) rfl (fun r hr => ?_); subst hr) | refine JL.S1 rfl (c71) rfl trivial rfl ?_ | refine JL.T1 rfl (c71) rfl rfl ?_ | (refine JL.C1 rfl (c71) rfl (fun r hr => ?_); subst hr)); refine JL.finN ?_; refine JF.Branch 3 [6] xk ?_ ?_; (focus (repeat (first | exact StF.nil | refine StF.One rfl rfl rfl ?_))); refine (BrF.one rfl rfl ?_ (BrF.one rfl rfl ?_ BrF.nil)); (· (first | refine JL.S1 rfl (c74) rfl trivial rfl ?_ | refine JL.T1 rfl (c74) rfl rfl ?_ | (refine JL.C1 rfl (c74) rfl (fun r hr => ?_); subst hr) | refine JL.S1 rfl (c71) rfl trivial rfl ?_ | refine JL.T1 rfl (c71) rfl rfl ?_ | (refine JL.C1 rfl (c71) rfl (fun r hr => ?_); subst hr)); refine JL.finN ?_; refine JF.Branch 6 [] xk StF.nil (BrF.one rfl rfl ?_ BrF.nil); (· (refine JL.M1 xk rfl rfl ?_); refine JL.finN ?_; refine JF.Branch 7 [] xk StF.nil (BrF.one rfl rfl ?_ BrF.nil); (· (first | refine JL.M0 xk rfl ?_ | refine JL.Q0 xk rfl ?_); refine JL.finN ?_; refine JF.Branch 8 [] xk StF.nil (BrF.one rfl rfl ?_ BrF.nil); (· (first | refine JL.M0 xk rfl ?_ | refine JL.Q0 xk rfl ?_); refine JL.finN ?_; refine JF.Branch 9 [] xk StF.nil (BrF.one rfl rfl ?_ BrF.nil); (· (first | refine JL.M0 xk rfl ?_ | refine JL.Q0 xk rfl ?_); refine JL.finN ?_; refine JF.Done xk StF.nil ?_; ((exact JW.Auto (by conv => lhs; reduce)))))))); (· (refine JL.M1 xk rfl rfl ?_); refine JL.finN ?_; refine JF.Branch 3 [] xk ?_ ?_; (focus (repeat (first | exact StF.nil | refine StF.One rfl rfl rfl ?_))); refine (BrF.one rfl rfl ?_ BrF.nil); (· (first | refine JL.S1 rfl (c74) rfl trivial rfl ?_ | refine JL.T1 rfl (c74) rfl rfl ?_ | (refine JL.C1 rfl (c74) rfl (fun r hr => ?_); subst hr) | refine JL.S1 rfl (c71) rfl trivial rfl ?_ | refine JL.T1 rfl (c71) rfl rfl ?_ | (refine JL.C1 rfl (c71) rfl (fun r hr => ?_); subst hr)); refine JL.finN ?_; refine JF.Branch 7 [] xk StF.nil (BrF.one rfl rfl ?_ BrF.nil); (· (first | refine JL.M0 xk rfl ?_ | refine JL.Q0 xk rfl ?_); refine JL.finN ?_; refine JF.Branch 8 [] xk StF.nil (BrF.one rfl rfl ?_ BrF.nil); (· (first | refine JL.M0 xk rfl ?_ | refine JL.Q0 xk rfl ?_); refine JL.finN ?_; refine JF.Branch 9 [] xk StF.nil (BrF.one rfl rfl ?_ BrF.nil); (· (first | refine JL.M0 xk rfl ?_ | refine JL.Q0 xk rfl ?_); refine JL.finN ?_; refine JF.Done xk StF.nil ?_; ((exact JW.Auto (by conv => lhs; reduce))))))))); (· (refine JL.M1 xk rfl rfl ?_); refine JL.finN ?_; refine JF.Branch 2 [] xk ?_ ?_; (focus (repeat (first | exact StF.nil | refine StF.One rfl rfl rfl ?_))); refine (BrF.one rfl rfl ?_ BrF.nil); (· (first | refine JL.S1 rfl (c74) rfl trivial rfl ?_ | refine JL.T1 rfl (c74) rfl rfl ?_ | (refine JL.C1 rfl (c74) rfl (fun r hr => ?_); subst hr) | refine JL.S1 rfl (c71) rfl trivial rfl ?_ | refine JL.T1 rfl (c71) rfl rfl ?_ | (refine JL.C1 rfl (c71) rfl (fun r hr => ?_); subst hr)); refine JL.finN ?_; refine JF.Branch 3 [] xk ?_ ?_; (focus (repeat (first | exact StF.nil | refine StF.One rfl rfl rfl ?_))); refine (BrF.one rfl rfl ?_ BrF.nil); (· (first | refine JL.S1 rfl (c74) rfl trivial rfl ?_ | refine JL.T1 rfl (c74) rfl rfl ?_ | (refine JL.C1 rfl (c74) rfl (fun r hr => ?_); subst hr) | refine JL.S1 rfl (c71) rfl trivial rfl ?_ | refine JL.T1 rfl (c71) rfl rfl ?_ | (refine JL.C1 rfl (c71) rfl (fun r hr => ?_); subst hr)); refine JL.finN ?_; refine JF.Branch 7 [] xk StF.nil (BrF.one rfl rfl ?_ BrF.nil); (· (first | refine JL.M0 xk rfl ?_ | refine JL.Q0 xk rfl ?_); refine JL.finN ?_; refine JF.Branch 8 [] xk StF.nil (BrF.one rfl rfl ?_ BrF.nil); (· (first | refine JL.M0 xk rfl ?_ | refine JL.Q0 xk rfl ?_); refine JL.finN ?_; refine JF.Branch 9 [] xk StF.nil (BrF.one rfl rfl ?_ BrF.nil); (· (first | refine JL.M0 xk rfl ?_ | refine JL.Q0 xk rfl ?_); refine JL.finN ?_; refine JF.Done xk StF.nil ?_; ((exact JW.Auto (by conv => lhs; reduce)))))))))); (· (refine JL.M1 xk rfl rfl ?_); refine JL.finN ?_; refine JF.Branch 2 [5] xk ?_ ?_; (focus (repeat (first | exact StF.nil | refine StF.One rfl rfl rfl ?_))); refine (BrF.one rfl rfl ?_ (BrF.one rfl rfl ?_ BrF.nil)); (· (first | refine JL.S1 rfl (c74) rfl trivial rfl ?_ | refine JL.T1 rfl (c74) rfl rfl ?_ | (refine JL.C1 rfl (c74) rfl (fun r hr => ?_); subst hr) | refine JL.S1 rfl (c71) rfl trivial rfl ?_ | refine JL.T1 rfl (c71) rfl rfl ?_ | (refine JL.C1 rfl (c71) rfl (fun r hr => ?_); subst hr)); refine JL.finN ?_; refine JF.Branch 3 [5] xk ?_ ?_; (focus (repeat (first | exact StF.nil | refine StF.One rfl rfl rfl ?_))); refine (BrF.one rfl rfl ?_ (BrF.one rfl rfl ?_ BrF.nil)); (· (first | refine JL.S1 rfl (c74) rfl trivial rfl ?_ | refine JL.T1 rfl (c74) rfl rfl ?_ | (refine JL.C1 rfl (c74) rfl (fun r hr => ?_); subst hr) | refine JL.S1 rfl (c71) rfl trivial rfl ?_ | refine JL.T1 rfl (c71) rfl rfl ?_ | (refine JL.C1 rfl (c71) rfl (fun r hr => ?_); subst hr)); refine JL.finN ?_; refine JF.Branch 5 [] xk StF.nil (BrF.one rfl rfl ?_ BrF.nil); (· (refine JL.M1 xk rfl rfl ?_); refine JL.finN ?_; refine JF.Branch 7 [] xk StF.nil (BrF.one rfl rfl ?_ BrF.nil); (· (first | refine JL.M0 xk rfl ?_ | refine JL.Q0 xk rfl ?_); refine JL.finN ?_; refine JF.Branch 8 [] xk StF.nil (BrF.one rfl rfl ?_ BrF.nil); (· (first | refine JL.M0 xk rfl ?_ | refine JL.Q0 xk rfl ?_); refine JL.finN ?_; refine JF.Branch 9 [] xk StF.nil (BrF.one rfl rfl ?_ BrF.nil); (· (first | refine JL.M0 xk rfl ?_ | refine JL.Q0 xk rfl ?_); refine JL.finN ?_; refine JF.Done xk StF.nil ?_; ((exact JW.Auto (by conv => lhs; reduce)))))))); (· (refine JL.M1 xk rfl rfl ?_); refine JL.finN ?_; refine JF.Branch 3 [] xk ?_ ?_; (focus (repeat (first | exact StF.nil | refine StF.One rfl rfl rfl ?_))); refine (BrF.one rfl rfl ?_ BrF.nil); (· (first | refine JL.S1 rfl (c74) rfl trivial rfl ?_ | refine JL.T1 rfl (c74) rfl rfl ?_ | (refine JL.C1 rfl (c74) rfl (fun r hr => ?_); subst hr) | refine JL.S1 rfl (c71) rfl trivial rfl ?_ | refine JL.T1 rfl (c71) rfl rfl ?_ | (refine JL.C1 rfl (c71) rfl (fun r hr => ?_); subst hr)); refine JL.finN ?_; refine JF.Branch 7 [] xk StF.nil (BrF.one rfl rfl ?_ BrF.nil); (· (first | refine JL.M0 xk rfl ?_ | refine JL.Q0 xk rfl ?_); refine JL.finN ?_; refine JF.Branch 8 [] xk StF.nil (BrF.one rfl rfl ?_ BrF.nil); (· (first | refine JL.M0 xk rfl ?_ | refine JL.Q0 xk rfl ?_); refine JL.finN ?_; refine JF.Branch 9 [] xk StF.nil (BrF.one rfl rfl ?_ BrF.nil); (· (first | refine JL.M0 xk rfl ?_ | refine JL.Q0 xk rfl ?_); refine JL.finN ?_; refine JF.Done xk StF.nil ?_; ((exact JW.Auto (by conv => lhs; reduce))))))))); (· (refine JL.M1 xk rfl rfl ?_); refine JL.finN ?_; refine JF.Branch 2 [] xk ?_ ?_; (focus (repeat (first | exact StF.nil | refine StF.One rfl rfl rfl ?_))); refine (BrF.one rfl rfl ?_ BrF.nil); (· (first | refine JL.S1 rfl (c74) rfl trivial rfl ?_ | refine JL.T1 rfl (c74) rfl rfl ?_ | (refine JL.C1 rfl (c74) rfl (fun r hr => ?_); subst hr) | refine JL.S1 rfl (c71) rfl trivial rfl ?_ | refine JL.T1 rfl (c71) rfl rfl ?_ | (refine JL.C1 rfl (c71) rfl (fun r hr => ?_); subst hr)); refine JL.finN ?_; refine JF.Branch 3 [] xk ?_ ?_; (focus (repeat (first | exact StF.nil | refine StF.One rfl rfl rfl ?_))); refine (BrF.one rfl rfl ?_ BrF.nil); (· (first | refine JL.S1 rfl (c74) rfl trivial rfl ?_ | refine JL.T1 rfl (c74) rfl rfl ?_ | (refine JL.C1 rfl (c74) rfl (fun r hr => ?_); subst hr) | refine JL.S1 rfl (c71) rfl trivial rfl ?_ | refine JL.T1 rfl (c71) rfl rfl ?_ | (refine JL.C1 rfl (c71) rfl (fun r hr => ?_); subst hr)); refine JL.finN ?_; refine JF.Branch 7 [] xk StF.nil (BrF.one rfl rfl ?_ BrF.nil); (· (first | refine JL.M0 xk rfl ?_ | refine JL.Q0 xk rfl ?_); refine JL.finN ?_; refine JF.Branch 8 [] xk StF.nil (BrF.one rfl rfl ?_ BrF.nil); (· (first | refine JL.M0 xk rfl ?_ | refine JL.Q0 xk rfl ?_); refine JL.finN ?_; refine JF.Branch 9 [] xk StF.nil (BrF.one rfl rfl ?_ BrF.nil); (· (first | refine JL.M0 xk rfl ?_ | refine JL.Q0 xk rfl ?_); refine JL.finN ?_; refine JF.Done xk StF.nil ?_; ((exact JW.Auto (by conv => lhs; reduce))))))))))); (· (refine JL.M1 xk rfl rfl ?_); refine JL.finN ?_; refine JF.Branch 2 [4, 6] xk ?_ ?_; (focus (repeat (first | exact StF.nil | refine StF.One rfl rfl rfl ?_))); refine (BrF.one rfl rfl ?_ (BrF.one rfl rfl ?_ (BrF.one rfl rfl ?_ BrF.nil))); (· (first | refine JL.S1 rfl (c74) rfl trivial rfl ?_ | refine JL.T1 rfl (c74) rfl rfl ?_ | (refine JL.C1 rfl (c74) rfl (fun r hr => ?_); subst hr) | refine JL.S1 rfl (c71) rfl trivial rfl ?_ | refine JL.T1 rfl (c71) rfl rfl ?_ | (refine JL.C1 rfl (c71) rfl (fun r hr => ?_); subst hr)); refine JL.finN ?_; refine JF.Branch 3 [4, 6] xk ?_ ?_; (focus (repeat (first | exact StF.nil | refine StF.One rfl rfl rfl ?_))); refine (BrF.one rfl rfl ?_ (BrF.one rfl rfl ?_ (BrF.one rfl rfl ?_ BrF.nil))); (· (first | refine JL.S1 rfl (c74) rfl trivial rfl ?_ | refine JL.T1 rfl (c74) rfl rfl ?_ | (refine JL.C1 rfl (c74) rfl (fun r hr => ?_); subst hr) | refine JL.S1 rfl (c71) rfl trivial rfl ?_ | refine JL.T1 rfl (c71) rfl rfl ?_ | (refine JL.C1 rfl (c71) rfl (fun r hr => ?_); subst hr)); refine JL.finN ?_; refine JF.Branch 4 [6] xk StF.nil (BrF.one rfl rfl ?_ (BrF.one rfl rfl ?_ BrF.nil)); (· (refine JL.M1 xk rfl rfl ?_); refine JL.finN ?_; refine JF.Branch 6 [] xk StF.nil (BrF.one rfl rfl ?_ BrF.nil); (· (refine JL.M1 xk rfl rfl ?_); refine JL.finN ?_; refine JF.Branch 7 [] xk StF.nil (BrF.one rfl rfl ?_ BrF.nil); (· (first | refine JL.M0 xk rfl ?_ | refine JL.Q0 xk rfl ?_); refine JL.finN ?_; refine JF.Branch 8 [] xk StF.nil (BrF.one rfl rfl ?_ BrF.nil); (· (first | refine JL.M0 xk rfl ?_ | refine JL.Q0 xk rfl ?_); refine JL.finN ?_; refine JF.Branch 9 [] xk StF.nil (BrF.one rfl rfl ?_ BrF.nil); (· (first | refine JL.M0 xk rfl ?_ | refine JL.Q0 xk rfl ?_); refine JL.finN ?_; refine JF.Done xk StF.nil ?_; ((exact JW.Auto (by conv => lhs; reduce)))))))); (· (refine JL.M1 xk rfl rfl ?_); refine JL.finN ?_; refine JF.Branch 4 [] xk StF.nil (BrF.one rfl rfl ?_ BrF.nil); (· (refine JL.M1 xk rfl rfl ?_); refine JL.finN ?_; refine JF.Branch 7 [] xk StF.nil (BrF.one rfl rfl ?_ BrF.nil); (· (first | refine JL.M0 xk rfl ?_ | refine JL.Q0 xk rfl ?_); refine JL.finN ?_; refine JF.Branch 8 [] xk StF.nil (BrF.one rfl rfl ?_ BrF.nil); (· (first | refine JL.M0 xk rfl ?_ | refine JL.Q0 xk rfl ?_); refine JL.finN ?_; refine JF.Branch 9 [] xk StF.nil (BrF.one rfl rfl ?_ BrF.nil); (· (first | refine JL.M0 xk rfl ?_ | refine JL.Q0 xk rfl ?_); refine JL.finN ?_; refine JF.Done xk StF.nil ?_; ((exact JW.Auto (by conv => lhs; reduce))))))))); (· (refine JL.M1 xk rfl rfl ?_); refine JL.finN ?_; refine JF.Branch 3 [6] xk ?_ ?_; (focus (repeat (first | exact StF.nil | refine StF.One rfl rfl rfl ?_))); refine (BrF.one rfl rfl ?_ (BrF.one rfl rfl ?_ BrF.nil)); (· (first | refine JL.S1 rfl (c74) rfl trivial rfl ?_ | refine JL.T1 rfl (c74) rfl rfl ?_ | (refine JL.C1 rfl (c74) rfl (fun r hr => ?_); subst hr) | refine JL.S1 rfl (c71) rfl trivial rfl ?_ | refine JL.T1 rfl (c71) rfl rfl ?_ | (refine JL.C1 rfl (c71) rfl (fun r hr => ?_); subst hr)); refine JL.finN ?_; refine JF.Branch 6 [] xk StF.nil (BrF.one rfl rfl ?_ BrF.nil); (· (refine JL.M1 xk rfl rfl ?_); refine JL.finN ?_; refine JF.Branch 7 [] xk StF.nil (BrF.one rfl rfl ?_ BrF.nil); (· (first | refine JL.M0 xk rfl ?_ | refine JL.Q0 xk rfl ?_); refine JL.finN ?_; refine JF.Branch 8 [] xk StF.nil (BrF.one rfl rfl ?_ BrF.nil); (· (first | refine JL.M0 xk rfl ?_ | refine JL.Q0 xk rfl ?_); refine JL.finN ?_; refine JF.Branch 9 [] xk StF.nil (BrF.one rfl rfl ?_ BrF.nil); (· (first | refine JL.M0 xk rfl ?_ | refine JL.Q0 xk rfl ?_); refine JL.finN ?_; refine JF.Done xk StF.nil ?_; ((exact JW.Auto (by conv => lhs; reduce)))))))); (· (refine JL.M1 xk rfl rfl ?_); refine JL.finN ?_; refine JF.Branch 3 [] xk ?_ ?_; (focus (repeat (first | exact StF.nil | refine StF.One rfl rfl rfl ?_))); refine (BrF.one rfl rfl ?_ BrF.nil); (· (first | refine JL.S1 rfl (c74) rfl trivial rfl ?_ | refine JL.T1 rfl (c74) rfl rfl ?_ | (refine JL.C1 rfl (c74) rfl (fun r hr => ?_); subst hr) | refine JL.S1 rfl (c71) rfl trivial rfl ?_ | refine JL.T1 rfl (c71) rfl rfl ?_ | (refine JL.C1 rfl (c71) rfl (fun r hr => ?_); subst hr)); refine JL.finN ?_; refine JF.Branch 7 [] xk StF.nil (BrF.one rfl rfl ?_ BrF.nil); (· (first | refine JL.M0 xk rfl ?_ | refine JL.Q0 xk rfl ?_); refine JL.finN ?_; refine JF.Branch 8 [] xk StF.nil (BrF.one rfl rfl ?_ BrF.nil); (· (first | refine JL.M0 xk rfl ?_ | refine JL.Q0 xk rfl ?_); refine JL.finN ?_; refine JF.Branch 9 [] xk StF.nil (BrF.one rfl rfl ?_ BrF.nil); (· (first | refine JL.M0 xk rfl ?_ | refine JL.Q0 xk rfl ?_); refine JL.finN ?_; refine JF.Done xk StF.nil ?_; ((exact JW.Auto (by conv => lhs; reduce))))))))); (· (refine JL.M1 xk rfl rfl ?_); refine JL.finN ?_; refine JF.Branch 3 [4] xk ?_ ?_; (focus (repeat (first | exact StF.nil | refine StF.One rfl rfl rfl ?_))); refine (BrF.one rfl rfl ?_ (BrF.one rfl rfl ?_ BrF.nil)); (· (first | refine JL.S1 rfl (c74) rfl trivial rfl ?_ | refine JL.T1 rfl (c74) rfl rfl ?_ | (refine JL.C1 rfl (c74) rfl (fun r hr => ?_); subst hr) | refine JL.S1 rfl (c71) rfl trivial rfl ?_ | refine JL.T1 rfl (c71) rfl rfl ?_ | (refine JL.C1 rfl (c71) rfl (fun r hr => ?_); subst hr)); refine JL.finN ?_; refine JF.Branch 4 [] xk StF.nil (BrF.one rfl rfl ?_ BrF.nil); (· (refine JL.M1 xk rfl rfl ?_); refine JL.finN ?_; refine JF.Branch 7 [] xk StF.nil (BrF.one rfl rfl ?_ BrF.nil); (· (first | refine JL.M0 xk rfl ?_ | refine JL.Q0 xk rfl ?_); refine JL.finN ?_; refine JF.Branch 8 [] xk StF.nil (BrF.one rfl rfl ?_ BrF.nil); (· (first | refine JL.M0 xk rfl ?_ | refine JL.Q0 xk rfl ?_); refine JL.finN ?_; refine JF.Branch 9 [] xk StF.nil (BrF.one rfl rfl ?_ BrF.nil); (· (first | refine JL.M0 xk rfl ?_ | refine JL.Q0 xk rfl ?_); refine JL.finN ?_; refine JF.Done xk StF.nil ?_; ((exact JW.Auto (by conv => lhs; reduce)))))))); (· (refine JL.M1 xk rfl rfl ?_); refine JL.finN ?_; refine JF.Branch 3 [] xk ?_ ?_; (focus (repeat (first | exact StF.nil | refine StF.One rfl rfl rfl ?_))); refine (BrF.one rfl rfl ?_ BrF.nil); (· (first | refine JL.S1 rfl (c74) rfl trivial rfl ?_ | refine JL.T1 rfl (c74) rfl rfl ?_ | (refine JL.C1 rfl (c74) rfl (fun r hr => ?_); subst hr) | refine JL.S1 rfl (c71) rfl trivial rfl ?_ | refine JL.T1 rfl (c71) rfl rfl ?_ | (refine JL.C1 rfl (c71) rfl (fun r hr => ?_); subst hr)); refine JL.finN ?_; refine JF.Branch 7 [] xk StF.nil (BrF.one rfl rfl ?_ BrF.nil); (· (first | refine JL.M0 xk rfl ?_ | refine JL.Q0 xk rfl ?_); refine JL.finN ?_; refine JF.Branch 8 [] xk StF.nil (BrF.one rfl rfl ?_ BrF.nil); (· (first | refine JL.M0 xk rfl ?_ | refine JL.Q0 xk rfl ?_); refine JL.finN ?_; refine JF.Branch 9 [] xk StF.nil (BrF.one rfl rfl ?_ BrF.nil); (· (first | refine JL.M0 xk rfl ?_ | refine JL.Q0 xk rfl ?_); refine JL.finN ?_; refine JF.Done xk StF.nil ?_; ((exact JW.Auto (by conv => lhs; reduce)))))))))); (· (refine JL.M1 xk rfl rfl ?_); refine JL.finN ?_; refine JF.Branch 2 [6] xk ?_ ?_; (focus (repeat (first | exact StF.nil | refine StF.One rfl rfl rfl ?_))); refine (BrF.one rfl rfl ?_ (BrF.one rfl rfl ?_ BrF.nil)); (· (first | refine JL.S1 rfl (c74) rfl trivial rfl ?_ | refine JL.T1 rfl (c74) rfl rfl ?_ | (refine JL.C1 rfl (c74) rfl (fun r hr => ?_); subst hr) | refine JL.S1 rfl (c71) rfl trivial rfl ?_ | refine JL.T1 rfl (c71) rfl rfl ?_ | (refine JL.C1 rfl (c71) rfl (fun r hr => ?_); subst hr)); refine JL.finN ?_; refine JF.Branch 3 [6] xk ?_ ?_; (focus (repeat (first | exact StF.nil | refine StF.One rfl rfl rfl ?_))); refine (BrF.one rfl rfl ?_ (BrF.one rfl rfl ?_ BrF.nil)); (· (first | refine JL.S1 rfl (c74) rfl trivial rfl ?_ | refine JL.T1 rfl (c74) rfl rfl ?_ | (refine JL.C1 rfl (c74) rfl (fun r hr => ?_); subst hr) | refine JL.S1 rfl (c71) rfl trivial rfl ?_ | refine JL.T1 rfl (c71) rfl rfl ?_ | (refine JL.C1 rfl (c71) rfl (fun r hr => ?_); subst hr)); refine JL.finN ?_; refine JF.Branch 6 [] xk StF.nil (BrF.one rfl rfl ?_ BrF.nil); (· (refine JL.M1 xk rfl rfl ?_); refine JL.finN ?_; refine JF.Branch 7 [] xk StF.nil (BrF.one rfl rfl ?_ BrF.nil); (· (first | refine JL.M0 xk rfl ?_ | refine JL.Q0 xk rfl ?_); refine JL.finN ?_; refine JF.Branch 8 [] xk StF.nil (BrF.one rfl rfl ?_ BrF.nil); (· (first | refine JL.M0 xk rfl ?_ | refine JL.Q0 xk rfl ?_); refine JL.finN ?_; refine JF.Branch 9 [] xk StF.nil (BrF.one rfl rfl ?_ BrF.nil); (· (first | refine JL.M0 xk rfl ?_ | refine JL.Q0 xk rfl ?_); refine JL.finN ?_; refine JF.Done xk StF.nil ?_; ((exact JW.Auto (by conv => lhs; reduce)))))))); (· (refine JL.M1 xk rfl rfl ?_); refine JL.finN ?_; refine JF.Branch 3 [] xk ?_ ?_; (focus (repeat (first | exact StF.nil | refine StF.One rfl rfl rfl ?_))); refine (BrF.one rfl rfl ?_ BrF.nil); (· (first | refine JL.S1 rfl (c74) rfl trivial rfl ?_ | refine JL.T1 rfl (c74) rfl rfl ?_ | (refine JL.C1 rfl (c74) rfl (fun r hr => ?_); subst hr) | refine JL.S1 rfl (c71) rfl trivial rfl ?_ | refine JL.T1 rfl (c71) rfl rfl ?_ | (refine JL.C1 rfl (c71) rfl (fun r hr => ?_); subst hr)); refine JL.finN ?_; refine JF.Branch 7 [] xk StF.nil (BrF.one rfl rfl ?_ BrF.nil); (· (first | refine JL.M0 xk rfl ?_ | refine JL.Q0 xk rfl ?_); refine JL.finN ?_; refine JF.Branch 8 [] xk StF.nil (BrF.one rfl rfl ?_ BrF.nil); (· (first | refine JL.M0 xk rfl ?_ | refine JL.Q0 xk rfl ?_); refine JL.finN ?_; refine JF.Branch 9 [] xk StF.nil (BrF.one rfl rfl ?_ BrF.nil); (· (first | refine JL.M0 xk rfl ?_ | refine JL.Q0 xk rfl ?_); refine JL.finN ?_; refine JF.Done xk StF.nil ?_; ((exact JW.Auto (by conv => lhs; reduce))))))))); (· (refine JL.M1 xk rfl rfl ?_); refine JL.finN ?_; refine JF.Branch 2 [] xk ?_ ?_; (focus (repeat (first | exact StF.nil | refine StF.One rfl rfl rfl ?_))); refine (BrF.one rfl rfl ?_ BrF.nil); (· (first | refine JL.S1 rfl (c74) rfl trivial rfl ?_ | refine JL.T1 rfl (c74) rfl rfl ?_ | (refine JL.C1 rfl (c74) rfl (fun r hr => ?_); subst hr) | refine JL.S1 rfl (c71) rfl trivial rfl ?_ | refine JL.T1 rfl (c71) rfl rfl ?_ | (refine JL.C1 rfl (c71) rfl (fun r hr => ?_); subst hr)); refine JL.finN ?_; refine JF.Branch 3 [] xk ?_ ?_; (focus (repeat (first | exact StF.nil | refine StF.One rfl rfl rfl ?_))); refine (BrF.one rfl rfl ?_ BrF.nil); (· (first | refine JL.S1 rfl (c74) rfl trivial rfl ?_ | refine JL.T1 rfl (c74) rfl rfl ?_ | (refine JL.C1 rfl (c74) rfl (fun r hr => ?_); subst hr) | refine JL.S1 rfl (c71) rfl trivial rfl ?_ | refine JL.T1 rfl (c71) rfl rfl ?_ | (refine JL.C1 rfl (c71) rfl (fun r hr => ?_); subst hr)); refine JL.finN ?_; refine JF.Branch 7 [] xk StF.nil (BrF.one rfl rfl ?_ BrF.nil); (· (first | refine JL.M0 xk rfl ?_ | refine JL.Q0 xk rfl ?_); refine JL.finN ?_; refine JF.Branch 8 [] xk StF.nil (BrF.one rfl rfl ?_ BrF.nil); (· (first | refine JL.M0 xk rfl ?_ | refine JL.Q0 xk rfl ?_); refine JL.finN ?_; refine JF.Branch 9 [] xk StF.nil (BrF.one rfl rfl ?_ BrF.nil); (· (first | refine JL.M0 xk rfl ?_ | refine JL.Q0 xk rfl ?_); refine JL.finN ?_; refine JF.Done xk StF.nil ?_; ((exact JW.Auto (by conv => lhs; reduce)))))))))); (· (refine JL.M1 xk rfl rfl ?_); refine JL.finN ?_; refine JF.Branch 2 [4] xk ?_ ?_; (focus (repeat (first | exact StF.nil | refine StF.One rfl rfl rfl ?_))); refine (BrF.one rfl rfl ?_ (BrF.one rfl rfl ?_ BrF.nil)); (· (first | refine JL.S1 rfl (c74) rfl trivial rfl ?_ | refine JL.T1 rfl (c74) rfl rfl ?_ | (refine JL.C1 rfl (c74) rfl (fun r hr => ?_); subst hr) | refine JL.S1 rfl (c71) rfl trivial rfl ?_ | refine JL.T1 rfl (c71) rfl rfl ?_ | (refine JL.C1 rfl (c71) rfl (fun r hr => ?_); subst hr)); refine JL.finN ?_; refine JF.Branch 3 [4] xk ?_ ?_; (focus (repeat (first | exact StF.nil | refine StF.One rfl rfl rfl ?_))); refine (BrF.one rfl rfl ?_ (BrF.one rfl rfl ?_ BrF.nil)); (· (first | refine JL.S1 rfl (c74) rfl trivial rfl ?_ | refine JL.T1 rfl (c74) rfl rfl ?_ | (refine JL.C1 rfl (c74) rfl (fun r hr => ?_); subst hr) | refine JL.S1 rfl (c71) rfl trivial rfl ?_ | refine JL.T1 rfl (c71) rfl rfl ?_ | (refine JL.C1 rfl (c71) rfl (fun r hr => ?_); subst hr)); refine JL.finN ?_; refine JF.Branch 4 [] xk StF.nil (BrF.one rfl rfl ?_ BrF.nil); (· (refine JL.M1 xk rfl rfl ?_); refine JL.finN ?_; refine JF.Branch 7 [] xk StF.nil (BrF.one rfl rfl ?_ BrF.nil); (· (first | refine JL.M0 xk rfl ?_ | refine JL.Q0 xk rfl ?_); refine JL.finN ?_; refine JF.Branch 8 [] xk StF.nil (BrF.one rfl rfl ?_ BrF.nil); (· (first | refine JL.M0 xk rfl ?_ | refine JL.Q0 xk rfl ?_); refine JL.finN ?_; refine JF.Branch 9 [] xk StF.nil (BrF.one rfl rfl ?_ BrF.nil); (· (first | refine JL.M0 xk rfl ?_ | refine JL.Q0 xk rfl ?_); refine JL.finN ?_; refine JF.Done xk StF.nil ?_; ((exact JW.Auto (by conv => lhs; reduce)))))))); (· (refine JL.M1 xk rfl rfl ?_); refine JL.finN ?_; refine JF.Branch 3 [] xk ?_ ?_; (focus (repeat (first | exact StF.nil | refine StF.One rfl rfl rfl ?_))); refine (BrF.one rfl rfl ?_ BrF.nil); (· (first | refine JL.S1 rfl (c74) rfl trivial rfl ?_ | refine JL.T1 rfl (c74) rfl rfl ?_ | (refine JL.C1 rfl (c74) rfl (fun r hr => ?_); subst hr) | refine JL.S1 rfl (c71) rfl trivial rfl ?_ | refine JL.T1 rfl (c71) rfl rfl ?_ | (refine JL.C1 rfl (c71) rfl (fun r hr => ?_); subst hr)); refine JL.finN ?_; refine JF.Branch 7 [] xk StF.nil (BrF.one rfl rfl ?_ BrF.nil); (· (first | refine JL.M0 xk rfl ?_ | refine JL.Q0 xk rfl ?_); refine JL.finN ?_; refine JF.Branch 8 [] xk StF.nil (BrF.one rfl rfl ?_ BrF.nil); (· (first | refine JL.M0 xk rfl ?_ | refine JL.Q0 xk rfl ?_); refine JL.finN ?_; refine JF.Branch 9 [] xk StF.nil (BrF.one rfl rfl ?_ BrF.nil); (· (first | refine JL.M0 xk rfl ?_ | refine JL.Q0 xk rfl ?_); refine JL.finN ?_; refine JF.Done xk StF.nil ?_; ((exact JW.Auto (by conv => lhs; reduce))))))))); (· (refine JL.M1 xk rfl rfl ?_); refine JL.finN ?_; refine JF.Branch 2 [] xk ?_ ?_; (focus (repeat (first | exact StF.nil | refine StF.One rfl rfl rfl ?_))); refine (BrF.one rfl rfl ?_ BrF.nil); (· (first | refine JL.S1 rfl (c74) rfl trivial rfl ?_ | refine JL.T1 rfl (c74) rfl rfl ?_ | (refine JL.C1 rfl (c74) rfl (fun r hr => ?_); subst hr) | refine JL.S1 rfl (c71) rfl trivial rfl ?_ | refine JL.T1 rfl (c71) rfl rfl ?_ | (refine JL.C1 rfl (c71) rfl (fun r hr => ?_); subst hr)); refine JL.finN ?_; refine JF.Branch 3 [] xk ?_ ?_; (focus (repeat (first | exact StF.nil | refine StF.One rfl rfl rfl ?_))); refine (BrF.one rfl rfl ?_ BrF.nil); (· (first | refine JL.S1 rfl (c74) rfl trivial rfl ?_ | refine JL.T1 rfl (c74) rfl rfl ?_ | (refine JL.C1 rfl (c74) rfl (fun r hr => ?_); subst hr) | refine JL.S1 rfl (c71) rfl trivial rfl ?_ | refine JL.T1 rfl (c71) rfl rfl ?_ | (refine JL.C1 rfl (c71) rfl (fun r hr => ?_); subst hr)); refine JL.finN ?_; refine JF.Branch 7 [] xk StF.nil (BrF.one rfl rfl ?_ BrF.nil); (· (first | refine JL.M0 xk rfl ?_ | refine JL.Q0 xk rfl ?_); refine JL.finN ?_; refine JF.Branch 8 [] xk StF.nil (BrF.one rfl rfl ?_ BrF.nil); (· (first | refine JL.M0 xk rfl ?_ | refine JL.Q0 xk rfl ?_); refine JL.finN ?_; refine JF.Branch 9 [] xk StF.nil (BrF.one rfl rfl ?_ BrF.nil); (· (first | refine JL.M0 xk rfl ?_ | refine JL.Q0 xk rfl ?_); refine JL.finN ?_; refine JF.Done xk StF.nil ?_; ((exact JW.Auto (by conv => lhs; reduce))))))))))); (· (refine JL.M1 xk rfl rfl ?_); refine JL.finN ?_; refine JF.Branch 2 [4, 5] xk ?_ ?_; (focus (repeat (first | exact StF.nil | refine StF.One rfl rfl rfl ?_))); refine (BrF.one rfl rfl ?_ (BrF.one rfl rfl ?_ (BrF.one rfl rfl ?_ BrF.nil))); (· (first | refine JL.S1 rfl (c74) rfl trivial rfl ?_ | refine JL.T1 rfl (c74) rfl rfl ?_ | (refine JL.C1 rfl (c74) rfl (fun r hr => ?_); subst hr) | refine JL.S1 rfl (c71) rfl trivial rfl ?_ | refine JL.T1 rfl (c71) rfl rfl ?_ | (refine JL.C1 rfl (c71) rfl (fun r hr => ?_); subst hr)); refine JL.finN ?_; refine JF.Branch 3 [4, 5] xk ?_ ?_; (focus (repeat (first | exact StF.nil | refine StF.One rfl rfl rfl ?_))); refine (BrF.one rfl rfl ?_ (BrF.one rfl rfl ?_ (BrF.one rfl rfl ?_ BrF.nil))); (· (first | refine JL.S1 rfl (c74) rfl trivial rfl ?_ | refine JL.T1 rfl (c74) rfl rfl ?_ | (refine JL.C1 rfl (c74) rfl (fun r hr => ?_); subst hr) | refine JL.S1 rfl (c71) rfl trivial rfl ?_ | refine JL.T1 rfl (c71) rfl rfl ?_ | (refine JL.C1 rfl (c71) rfl (fun r hr => ?_); subst hr)); refine JL.finN ?_; refine JF.Branch 4 [5] xk StF.nil (BrF.one rfl rfl ?_ (BrF.one rfl rfl ?_ BrF.nil)); (· (refine JL.M1 xk rfl rfl ?_); refine JL.finN ?_; refine JF.Branch 5 [] xk StF.nil (BrF.one rfl rfl ?_ BrF.nil); (· (refine JL.M1 xk rfl rfl ?_); refine JL.finN ?_; refine JF.Branch 7 [] xk StF.nil (BrF.one rfl rfl ?_ BrF.nil); (· (first | refine JL.M0 xk rfl ?_ | refine JL.Q0 xk rfl ?_); refine JL.finN ?_; refine JF.Branch 8 [] xk StF.nil (BrF.one rfl rfl ?_ BrF.nil); (· (first | refine JL.M0 xk rfl ?_ | refine JL.Q0 xk rfl ?_); refine JL.finN ?_; refine JF.Branch 9 [] xk StF.nil (BrF.one rfl rfl ?_ BrF.nil); (· (first | refine JL.M0 xk rfl ?_ | refine JL.Q0 xk rfl ?_); refine JL.finN ?_; refine JF.Done xk StF.nil ?_; ((exact JW.Auto (by conv => lhs; reduce)))))))); (· (refine JL.M1 xk rfl rfl ?_); refine JL.finN ?_; refine JF.Branch 4 [] xk StF.nil (BrF.one rfl rfl ?_ BrF.nil); (· (refine JL.M1 xk rfl rfl ?_); refine JL.finN ?_; refine JF.Branch 7 [] xk StF.nil (BrF.one rfl rfl ?_ BrF.nil); (· (first | refine JL.M0 xk rfl ?_ | refine JL.Q0 xk rfl ?_); refine JL.finN ?_; refine JF.Branch 8 [] xk StF.nil (BrF.one rfl rfl ?_ BrF.nil); (· (first | refine JL.M0 xk rfl ?_ | refine JL.Q0 xk rfl ?_); refine JL.finN ?_; refine JF.Branch 9 [] xk StF.nil (BrF.one rfl rfl ?_ BrF.nil); (· (first | refine JL.M0 xk rfl ?_ | refine JL.Q0 xk rfl ?_); refine JL.finN ?_; refine JF.Done xk StF.nil ?_; ((exact JW.Auto (by conv => lhs; reduce))))))))); (· (refine JL.M1 xk rfl rfl ?_); refine JL.finN ?_; refine JF.Branch 3 [5] xk ?_ ?_; (focus (repeat (first | exact StF.nil | refine StF.One rfl rfl rfl ?_))); refine (BrF.one rfl rfl ?_ (BrF.one rfl rfl ?_ BrF.nil)); (· (first | refine JL.S1 rfl (c74) rfl trivial rfl ?_ | refine JL.T1 rfl (c74) rfl rfl ?_ | (refine JL.C1 rfl (c74) rfl (fun r hr => ?_); subst hr) | refine JL.S1 rfl (c71) rfl trivial rfl ?_ | refine JL.T1 rfl (c71) rfl rfl ?_ | (refine JL.C1 rfl (c71) rfl (fun r hr => ?_); subst hr)); refine JL.finN ?_; refine JF.Branch 5 [] xk StF.nil (BrF.one rfl rfl ?_ BrF.nil); (· (refine JL.M1 xk rfl rfl ?_); refine JL.finN ?_; refine JF.Branch 7 [] xk StF.nil (BrF.one rfl rfl ?_ BrF.nil); (· (first | refine JL.M0 xk rfl ?_ | refine JL.Q0 xk rfl ?_); refine JL.finN ?_; refine JF.Branch 8 [] xk StF.nil (BrF.one rfl rfl ?_ BrF.nil); (· (first | refine JL.M0 xk rfl ?_ | refine JL.Q0 xk rfl ?_); refine JL.finN ?_; refine JF.Branch 9 [] xk StF.nil (BrF.one rfl rfl ?_ BrF.nil); (· (first | refine JL.M0 xk rfl ?_ | refine JL.Q0 xk rfl ?_); refine JL.finN ?_; refine JF.Done xk StF.nil ?_; ((exact JW.Auto (by conv => lhs; reduce)))))))); (· (refine JL.M1 xk rfl rfl ?_); refine JL.finN ?_; refine JF.Branch 3 [] xk ?_ ?_; (focus (repeat (first | exact StF.nil | refine StF.One rfl rfl rfl ?_))); refine (BrF.one rfl rfl ?_ BrF.nil); (· (first | refine JL.S1 rfl (c74) rfl trivial rfl ?_ | refine JL.T1 rfl (c74) rfl rfl ?_ | (refine JL.C1 rfl (c74) rfl (fun r hr => ?_); subst hr) | refine JL.S1 rfl (c71) rfl trivial rfl ?_ | refine JL.T1 rfl (c71) rfl rfl ?_ | (refine JL.C1 rfl (c71) rfl (fun r hr => ?_); subst hr)); refine JL.finN ?_; refine JF.Branch 7 [] xk StF.nil (BrF.one rfl rfl ?_ BrF.nil); (· (first | refine JL.M0 xk rfl ?_ | refine JL.Q0 xk rfl ?_); refine JL.finN ?_; refine JF.Branch 8 [] xk StF.nil (BrF.one rfl rfl ?_ BrF.nil); (· (first | refine JL.M0 xk rfl ?_ | refine JL.Q0 xk rfl ?_); refine JL.finN ?_; refine JF.Branch 9 [] xk StF.nil (BrF.one rfl rfl ?_ BrF.nil); (· (first | refine JL.M0 xk rfl ?_ | refine JL.Q0 xk rfl ?_); refine JL.finN ?_; refine JF.Done xk StF.nil ?_; ((exact JW.Auto (by conv => lhs; reduce))))))))); (· (refine JL.M1 xk rfl rfl ?_); refine JL.finN ?_; refine JF.Branch 3 [4] xk ?_ ?_; (focus (repeat (first | exact StF.nil | refine StF.One rfl rfl rfl ?_))); refine (BrF.one rfl rfl ?_ (BrF.one rfl rfl ?_ BrF.nil)); (· (first | refine JL.S1 rfl (c74) rfl trivial rfl ?_ | refine JL.T1 rfl (c74) rfl rfl ?_ | (refine JL.C1 rfl (c74) rfl (fun r hr => ?_); subst hr) | refine JL.S1 rfl (c71) rfl trivial rfl ?_ | refine JL.T1 rfl (c71) rfl rfl ?_ | (refine JL.C1 rfl (c71) rfl (fun r hr => ?_); subst hr)); refine JL.finN ?_; refine JF.Branch 4 [] xk StF.nil (BrF.one rfl rfl ?_ BrF.nil); (· (refine JL.M1 xk rfl rfl ?_); refine JL.finN ?_; refine JF.Branch 7 [] xk StF.nil (BrF.one rfl rfl ?_ BrF.nil); (· (first | refine JL.M0 xk rfl ?_ | refine JL.Q0 xk rfl ?_); refine JL.finN ?_; refine JF.Branch 8 [] xk StF.nil (BrF.one rfl rfl ?_ BrF.nil); (· (first | refine JL.M0 xk rfl ?_ | refine JL.Q0 xk rfl ?_); refine JL.finN ?_; refine JF.Branch 9 [] xk StF.nil (BrF.one rfl rfl ?_ BrF.nil); (· (first | refine JL.M0 xk rfl ?_ | refine JL.Q0 xk rfl ?_); refine JL.finN ?_; refine JF.Done xk StF.nil ?_; ((exact JW.Auto (by conv => lhs; reduce)))))))); (· (refine JL.M1 xk rfl rfl ?_); refine JL.finN ?_; refine JF.Branch 3 [] xk ?_ ?_; (focus (repeat (first | exact StF.nil | refine StF.One rfl rfl rfl ?_))); refine (BrF.one rfl rfl ?_ BrF.nil); (· (first | refine JL.S1 rfl (c74) rfl trivial rfl ?_ | refine JL.T1 rfl (c74) rfl rfl ?_ | (refine JL.C1 rfl (c74) rfl (fun r hr => ?_); subst hr) | refine JL.S1 rfl (c71) rfl trivial rfl ?_ | refine JL.T1 rfl (c71) rfl rfl ?_ | (refine JL.C1 rfl (c71) rfl (fun r hr => ?_); subst hr)); refine JL.finN ?_; refine JF.Branch 7 [] xk StF.nil (BrF.one rfl rfl ?_ BrF.nil); (· (first | refine JL.M0 xk rfl ?_ | refine JL.Q0 xk rfl ?_); refine JL.finN ?_; refine JF.Branch 8 [] xk StF.nil (BrF.one rfl rfl ?_ BrF.nil); (· (first | refine JL.M0 xk rfl ?_ | refine JL.Q0 xk rfl ?_); refine JL.finN ?_; refine JF.Branch 9 [] xk StF.nil (BrF.one rfl rfl ?_ BrF.nil); (· (first | refine JL.M0 xk rfl ?_ | refine JL.Q0 xk rfl ?_); refine JL.finN ?_; refine JF.Done xk StF.nil ?_; ((exact JW.Auto (by conv => lhs; reduce)))))))))); (· (refine JL.M1 xk rfl rfl ?_); refine JL.finN ?_; refine JF.Branch 2 [5] xk ?_ ?_; (focus (repeat (first | exact StF.nil | refine StF.One rfl rfl rfl ?_))); refine (BrF.one rfl rfl ?_ (BrF.one rfl rfl ?_ BrF.nil)); (· (first | refine JL.S1 rfl (c74) rfl trivial rfl ?_ | refine JL.T1 rfl (c74) rfl rfl ?_ | (refine JL.C1 rfl (c74) rfl (fun r hr => ?_); subst hr) | refine JL.S1 rfl (c71) rfl trivial rfl ?_ | refine JL.T1 rfl (c71) rfl rfl ?_ | (refine JL.C1 rfl (c71) rfl (fun r hr => ?_); subst hr)); refine JL.finN ?_; refine JF.Branch 3 [5] xk ?_ ?_; (focus (repeat (first | exact StF.nil | refine StF.One rfl rfl rfl ?_))); refine (BrF.one rfl rfl ?_ (BrF.one rfl rfl ?_ BrF.nil)); (· (first | refine JL.S1 rfl (c74) rfl trivial rfl ?_ | refine JL.T1 rfl (c74) rfl rfl ?_ | (refine JL.C1 rfl (c74) rfl (fun r hr => ?_); subst hr) | refine JL.S1 rfl (c71) rfl trivial rfl ?_ | refine JL.T1 rfl (c71) rfl rfl ?_ | (refine JL.C1 rfl (c71) rfl (fun r hr => ?_); subst hr)); refine JL.finN ?_; refine JF.Branch 5 [] xk StF.nil (BrF.one rfl rfl ?_ BrF.nil); (· (refine JL.M1 xk rfl rfl ?_); refine JL.finN ?_; refine JF.Branch 7 [] xk StF.nil (BrF.one rfl rfl ?_ BrF.nil); (· (first | refine JL.M0 xk rfl ?_ | refine JL.Q0 xk rfl ?_); refine JL.finN ?_; refine JF.Branch 8 [] xk StF.nil (BrF.one rfl rfl ?_ BrF.nil); (· (first | refine JL.M0 xk rfl ?_ | refine JL.Q0 xk rfl ?_); refine JL.finN ?_; refine JF.Branch 9 [] xk StF.nil (BrF.one rfl rfl ?_ BrF.nil); (· (first | refine JL.M0 xk rfl ?_ | refine JL.Q0 xk rfl ?_); refine JL.finN ?_; refine JF.Done xk StF.nil ?_; ((exact JW.Auto (by conv => lhs; reduce)))))))); (· (refine JL.M1 xk rfl rfl ?_); refine JL.finN ?_; refine JF.Branch 3 [] xk ?_ ?_; (focus (repeat (first | exact StF.nil | refine StF.One rfl rfl rfl ?_))); refine (BrF.one rfl rfl ?_ BrF.nil); (· (first | refine JL.S1 rfl (c74) rfl trivial rfl ?_ | refine JL.T1 rfl (c74) rfl rfl ?_ | (refine JL.C1 rfl (c74) rfl (fun r hr => ?_); subst hr) | refine JL.S1 rfl (c71) rfl trivial rfl ?_ | refine JL.T1 rfl (c71) rfl rfl ?_ | (refine JL.C1 rfl (c71) rfl (fun r hr => ?_); subst hr)); refine JL.finN ?_; refine JF.Branch 7 [] xk StF.nil (BrF.one rfl rfl ?_ BrF.nil); (· (first | refine JL.M0 xk rfl ?_ | refine JL.Q0 xk rfl ?_); refine JL.finN ?_; refine JF.Branch 8 [] xk StF.nil (BrF.one rfl rfl ?_ BrF.nil); (· (first | refine JL.M0 xk rfl ?_ | refine JL.Q0 xk rfl ?_); refine JL.finN ?_; refine JF.Branch 9 [] xk StF.nil (BrF.one rfl rfl ?_ BrF.nil); (· (first | refine JL.M0 xk rfl ?_ | refine JL.Q0 xk rfl ?_); refine JL.finN ?_; refine JF.Done xk StF.nil ?_; ((exact JW.Auto (by conv => lhs; reduce))))))))); (· (refine JL.M1 xk rfl rfl ?_); refine JL.finN ?_; refine JF.Branch 2 [] xk ?_ ?_; (focus (repeat (first | exact StF.nil | refine StF.One rfl rfl rfl ?_))); refine (BrF.one rfl rfl ?_ BrF.nil); (· (first | refine JL.S1 rfl (c74) rfl trivial rfl ?_ | refine JL.T1 rfl (c74) rfl rfl ?_ | (refine JL.C1 rfl (c74) rfl (fun r hr => ?_); subst hr) | refine JL.S1 rfl (c71) rfl trivial rfl ?_ | refine JL.T1 rfl (c71) rfl rfl ?_ | (refine JL.C1 rfl (c71) rfl (fun r hr => ?_); subst hr)); refine JL.finN ?_; refine JF.Branch 3 [] xk ?_ ?_; (focus (repeat (first | exact StF.nil | refine StF.One rfl rfl rfl ?_))); refine (BrF.one rfl rfl ?_ BrF.nil); (· (first | refine JL.S1 rfl (c74) rfl trivial rfl ?_ | refine JL.T1 rfl (c74) rfl rfl ?_ | (refine JL.C1 rfl (c74) rfl (fun r hr => ?_); subst hr) | refine JL.S1 rfl (c71) rfl trivial rfl ?_ | refine JL.T1 rfl (c71) rfl rfl ?_ | (refine JL.C1 rfl (c71) rfl (fun r hr => ?_); subst hr)); refine JL.finN ?_; refine JF.Branch 7 [] xk StF.nil (BrF.one rfl rfl ?_ BrF.nil); (· (first | refine JL.M0 xk rfl ?_ | refine JL.Q0 xk rfl ?_); refine JL.finN ?_; refine JF.Branch 8 [] xk StF.nil (BrF.one rfl rfl ?_ BrF.nil); (· (first | refine JL.M0 xk rfl ?_ | refine JL.Q0 xk rfl ?_); refine JL.finN ?_; refine JF.Branch 9 [] xk StF.nil (BrF.one rfl rfl ?_ BrF.nil); (· (first | refine JL.M0 xk rfl ?_ | refine JL.Q0 xk rfl ?_); refine JL.finN ?_; refine JF.Done xk StF.nil ?_; ((exact JW.Auto (by conv => lhs; reduce)))))))))); (· (refine JL.M1 xk rfl rfl ?_); refine JL.finN ?_; refine JF.Branch 2 [4] xk ?_ ?_; (focus (repeat (first | exact StF.nil | refine StF.One rfl rfl rfl ?_))); refine (BrF.one rfl rfl ?_ (BrF.one rfl rfl ?_ BrF.nil)); (· (first | refine JL.S1 rfl (c74) rfl trivial rfl ?_ | refine JL.T1 rfl (c74) rfl rfl ?_ | (refine JL.C1 rfl (c74) rfl (fun r hr => ?_); subst hr) | refine JL.S1 rfl (c71) rfl trivial rfl ?_ | refine JL.T1 rfl (c71) rfl rfl ?_ | (refine JL.C1 rfl (c71) rfl (fun r hr => ?_); subst hr)); refine JL.finN ?_; refine JF.Branch 3 [4] xk ?_ ?_; (focus (repeat (first | exact StF.nil | refine StF.One rfl rfl rfl ?_))); refine (BrF.one rfl rfl ?_ (BrF.one rfl rfl ?_ BrF.nil)); (· (first | refine JL.S1 rfl (c74) rfl trivial rfl ?_ | refine JL.T1 rfl (c74) rfl rfl ?_ | (refine JL.C1 rfl (c74) rfl (fun r hr => ?_); subst hr) | refine JL.S1 rfl (c71) rfl trivial rfl ?_ | refine JL.T1 rfl (c71) rfl rfl ?_ | (refine JL.C1 rfl (c71) rfl (fun r hr => ?_); subst hr)); refine JL.finN ?_; refine JF.Branch 4 [] xk StF.nil (BrF.one rfl rfl ?_ BrF.nil); (· (refine JL.M1 xk rfl rfl ?_); refine JL.finN ?_; refine JF.Branch 7 [] xk StF.nil (BrF.one rfl rfl ?_ BrF.nil); (· (first | refine JL.M0 xk rfl ?_ | refine JL.Q0 xk rfl ?_); refine JL.finN ?_; refine JF.Branch 8 [] xk StF.nil (BrF.one rfl rfl ?_ BrF.nil); (· (first | refine JL.M0 xk rfl ?_ | refine JL.Q0 xk rfl ?_); refine JL.finN ?_; refine JF.Branch 9 [] xk StF.nil (BrF.one rfl rfl ?_ BrF.nil); (· (first | refine JL.M0 xk rfl ?_ | refine JL.Q0 xk rfl ?_); refine JL.finN ?_; refine JF.Done xk StF.nil ?_; ((exact JW.Auto (by conv => lhs; reduce)))))))); (· (refine JL.M1 xk rfl rfl ?_); refine JL.finN ?_; refine JF.Branch 3 [] xk ?_ ?_; (focus (repeat (first | exact StF.nil | refine StF.One rfl rfl rfl ?_))); refine (BrF.one rfl rfl ?_ BrF.nil); (· (first | refine JL.S1 rfl (c74) rfl trivial rfl ?_ | refine JL.T1 rfl (c74) rfl rfl ?_ | (refine JL.C1 rfl (c74) rfl (fun r hr => ?_); subst hr) | refine JL.S1 rfl (c71) rfl trivial rfl ?_ | refine JL.T1 rfl (c71) rfl rfl ?_ | (refine JL.C1 rfl (c71) rfl (fun r hr => ?_); subst hr)); refine JL.finN ?_; refine JF.Branch 7 [] xk StF.nil (BrF.one rfl rfl ?_ BrF.nil); (· (first | refine JL.M0 xk rfl ?_ | refine JL.Q0 xk rfl ?_); refine JL.finN ?_; refine JF.Branch 8 [] xk StF.nil (BrF.one rfl rfl ?_ BrF.nil); (· (first | refine JL.M0 xk rfl ?_ | refine JL.Q0 xk rfl ?_); refine JL.finN ?_; refine JF.Branch 9 [] xk StF.nil (BrF.one rfl rfl ?_ BrF.nil); (· (first | refine JL.M0 xk rfl ?_ | refine JL.Q0 xk rfl ?_); refine JL.finN ?_; refine JF.Done xk StF.nil ?_; ((exact JW.Auto (by conv => lhs; reduce))))))))); (· (refine JL.M1 xk rfl rfl ?_); refine JL.finN ?_; refine JF.Branch 2 [] xk ?_ ?_; (focus (repeat (first | exact StF.nil | refine StF.One rfl rfl rfl ?_))); refine (BrF.one rfl rfl ?_ BrF.nil); (· (first | refine JL.S1 rfl (c74) rfl trivial rfl ?_ | refine JL.T1 rfl (c74) rfl rfl ?_ | (refine JL.C1 rfl (c74) rfl (fun r hr => ?_); subst hr) | refine JL.S1 rfl (c71) rfl trivial rfl ?_ | refine JL.T1 rfl (c71) rfl rfl ?_ | (refine JL.C1 rfl (c71) rfl (fun r hr => ?_); subst hr)); refine JL.finN ?_; refine JF.Branch 3 [] xk ?_ ?_; (focus (repeat (first | exact StF.nil | refine StF.One rfl rfl rfl ?_))); refine (BrF.one rfl rfl ?_ BrF.nil); (· (first | refine JL.S1 rfl (c74) rfl trivial rfl ?_ | refine JL.T1 rfl (c74) rfl rfl ?_ | (refine JL.C1 rfl (c74) rfl (fun r hr => ?_); subst hr) | refine JL.S1 rfl (c71) rfl trivial rfl ?_ | refine JL.T1 rfl (c71) rfl rfl ?_ | (refine JL.C1 rfl (c71) rfl (fun r hr => ?_); subst hr)); refine JL.finN ?_; refine JF.Branch 7 [] xk StF.nil (BrF.one rfl rfl ?_ BrF.nil); (· (first | refine JL.M0 xk rfl ?_ | refine JL.Q0 xk rfl ?_); refine JL.finN ?_; refine JF.Branch 8 [] xk StF.nil (BrF.one rfl rfl ?_ BrF.nil); (· (first | refine JL.M0 xk rfl ?_ | refine JL.Q0 xk rfl ?_); refine JL.finN ?_; refine JF.Branch 9 [] xk StF.nil (BrF.one rfl rfl ?_ BrF.nil); (· (first | refine JL.M0 xk rfl ?_ | refine JL.Q0 xk rfl ?_); refine JL.finN ?_; refine JF.Done xk StF.nil ?_; ((exact JW.Auto (by conv => lhs; reduce))))))))))))
      have c82 := fn82 P l
      (repeat (first | refine zs rfl ?_ | refine zg rfl rfl rfl ?_ | refine zd ?_ | refine JK.fin ?_ | refine JK.ret ?_ | refine zc rfl (c82) rfl rfl ?_ | refine ze rfl (c82) rfl ?_ | refine zk rfl rfl (fun _ => c82) rfl rfl ?_))
      refine JK.rangeG [4, 5, 8, 10, 11, 12] rfl rfl rfl Try.func102 rfl Try.call102 (Nat.le_of_ble_eq_true rfl) trivial fun M2 up2 a0 b0 ha0 hb0 => ?_
      refine JK.weak (s' := ⟨[(0, .lf (.yld 7)), (1, ppH P l)], K46 a0 b0 P l a b (leR P l) 0 0, 100⟩) (by (exact JW.Auto (by conv => lhs; reduce))) ?_
      refine or_it (Mx := M2) (nX := 7) (rdX := none) 0 73 (by simp) P l h1 h8 (fun pre => K46 a0 b0 P l a b (leR P l) (bsA P l pre).length ((bsA P l pre).filter (folB · a b)).length) ?_ (by omega) ?_ ?_ ?_
      · intro pre; (repeat' (first | exact trivial | exact rfl | refine And.intro ?_ ?_ | exact Nat.le_of_ble_eq_true rfl | refine HO.bdF ?_ | refine HO.bdP ?_ | (refine congrArg (fun z : Int => some (AV.val (.int .i64) z)) ?_; push_cast; omega)))
      · intro pre; exact ⟨8, _, rfl, rfl⟩
      · intro pre o post hp
        have hoL : o ∈ allO l.length := by rw [hp]; simp
        obtain ⟨m1, m2, m3, m4⟩ := allO_has h1 hoL
        have hpl : pre.length < 5040 := by
          have := congrArg List.length hp
          rw [List.length_append, List.length_cons] at this
          omega
        have hbl : (bsA P l pre).length ≤ pre.length := List.length_filter_le _ _
        have hcl : ((bsA P l pre).filter (folB · a b)).length ≤ (bsA P l pre).length := List.length_filter_le _ _
        have hao : a ∈ o := by
          obtain ⟨z, rfl, hpm⟩ := (mem_allO h1).1 hoL
          exact hpm.mem_iff.2 (List.mem_range.2 (by omega))
        have hle := leR_all (P := P) hoL
        have hb2 : bsA P l (pre ++ [o]) = bsA P l pre ++ if rdL P l o = leR P l then [o] else [] := by
          unfold bsA
          rw [List.filter_append]; by_cases h : rdL P l o = leR P l <;> simp [h]
        have hc2 : ∀ h : rdL P l o = leR P l, ((bsA P l (pre ++ [o])).filter (folB · a b)).length = ((bsA P l pre).filter (folB · a b)).length + (if folB o a b = true then 1 else 0) := fun h => by
          rw [hb2, if_pos h, List.filter_append, List.length_append]
          by_cases h : folB o a b = true <;> simp [h]
        have c71o := fn71 P l o hz m2 (by omega)
        rw [← rdL_eq m3] at c71o
        have c83 := fn83 (iL o) (a : Int)
        rw [idxB_nat (k := 0) hao, Nat.zero_add] at c83
        have hfi := fol_idx (b := b) m4 hao
        have hil := List.idxOf_lt_length_of_mem hao
        have hio := iL_len o
        have hnx := nx1_term o (o.idxOf a)
        have hmx := mod_ix hil
        rw [← hio] at hmx
        generalize hn2 : ((bsA P l pre).filter (folB · a b)).length = n2 at hcl hc2 ⊢
        generalize hn1 : (bsA P l pre).length = n1 at hbl hcl ⊢
        refine YO.intro 0 73 (ps := #[45]) (assign := a0) (body := b0) (nO := 73) (LO := [(4, .lf (.optr 1 [])), (5, .lf (.optr 2 [])), (8, .lf (.optr 3 [])), (10, .lf (.optr 4 [])), (11, .lf (.optr 5 [])), (12, .lf (.optr 6 []))]) (L0 := [(45, vL (iL o)), (4, .lf (.optr 1 [])), (5, .lf (.optr 2 [])), (8, .lf (.optr 3 [])), (10, .lf (.optr 4 [])), (11, .lf (.optr 5 [])), (12, .lf (.optr 6 []))]) rfl rfl rfl ⟨8, _, rfl, rfl⟩ ⟨8, _, rfl, rfl⟩ fun M3 M4 up4 bl hup => JK.start (JK.codeEq ha0 ?_)
        (repeat (first | refine zs rfl ?_ | refine zg rfl rfl rfl ?_ | refine zd ?_ | refine JK.fin ?_ | refine JK.ret ?_))
        refine JK.done (asgQ.nor rfl rfl rfl rfl (JK.start (JK.codeEq hb0 ?_)))
        (repeat (first | refine zs rfl ?_ | refine zg rfl rfl rfl ?_ | refine zd ?_ | refine JK.fin ?_ | refine JK.ret ?_ | refine zc rfl (c71o) rfl rfl ?_ | refine ze rfl (c71o) rfl ?_ | refine zk rfl rfl (fun _ => c71o) rfl rfl ?_))
        refine JK.cond rfl (fun hd => ?_) (fun hd => ?_)
        · (simp only [↓cdL] at hd; try simp only [Ty.dflt, Int.toNat_natCast] at hd)
          rw [if_neg (by omega), List.append_nil] at hb2
          (repeat (first | refine zs rfl ?_ | refine zg rfl rfl rfl ?_ | refine zd ?_ | refine JK.fin ?_ | refine JK.ret ?_))
          refine JK.done (bodyQ.of rfl rfl rfl rfl rfl rfl ⟨rfl, ?_⟩)
          show JW _ ⟨[], K46 a0 b0 P l a b (leR P l) (bsA P l (pre ++ [o])).length ((bsA P l (pre ++ [o])).filter (folB · a b)).length, 100⟩ _
          rw [hb2, hn1, hn2]
          (exact JW.Auto (by conv => lhs; reduce))
        · (simp only [↓cdL] at hd; try simp only [Ty.dflt, Int.toNat_natCast] at hd)
          have hbest : rdL P l o = leR P l := by omega
          have hL1 : (((bsA P l (pre ++ [o])).length : Nat) : Int) = (n1 : Int) + 1 := by rw [hb2, if_pos hbest, List.length_append, hn1]; rfl
          have hL2 := hc2 hbest
          generalize o.idxOf a = ix at *
          (repeat (first | refine zs rfl ?_ | refine zg rfl rfl rfl ?_ | refine zd ?_ | refine JK.fin ?_ | refine JK.ret ?_ | refine zc rfl (c83) rfl rfl ?_ | refine ze rfl (c83) rfl ?_ | refine zk rfl rfl (fun _ => c83) rfl rfl ?_))
          refine JK.cond rfl (fun he => ?_) (fun he => ?_)
          · have he2 : ((iL o).getD (((ix : Int) + 1) % ((iL o).length : Int)).toNat 0 == (b : Int)) = true := he
            rw [← hnx, beq_iff_eq] at he2
            rw [if_pos (by rw [hfi]; exact decide_eq_true (Int.ofNat_inj.1 he2))] at hL2
            (repeat (first | refine zs rfl ?_ | refine zg rfl rfl rfl ?_ | refine zd ?_ | refine JK.fin ?_ | refine JK.ret ?_))
            refine JK.done (bodyQ.of rfl rfl rfl rfl rfl rfl ⟨rfl, ?_⟩)
            show JW _ ⟨[], K46 a0 b0 P l a b (leR P l) (bsA P l (pre ++ [o])).length ((bsA P l (pre ++ [o])).filter (folB · a b)).length, 100⟩ _
            rw [hL1, hL2, Int.natCast_add]
            (exact JW.Auto (by conv => lhs; reduce))
          · have he2 : ((iL o).getD (((ix : Int) + 1) % ((iL o).length : Int)).toNat 0 == (b : Int)) = false := he
            rw [← hnx, beq_eq_false_iff_ne] at he2
            rw [if_neg (by rw [hfi]; exact fun h => he2 (by rw [of_decide_eq_true h]))] at hL2
            (repeat (first | refine zs rfl ?_ | refine zg rfl rfl rfl ?_ | refine zd ?_ | refine JK.fin ?_ | refine JK.ret ?_))
            refine JK.done (bodyQ.of rfl rfl rfl rfl rfl rfl ⟨rfl, ?_⟩)
            show JW _ ⟨[], K46 a0 b0 P l a b (leR P l) (bsA P l (pre ++ [o])).length ((bsA P l (pre ++ [o])).filter (folB · a b)).length, 100⟩ _
            rw [hL1, hL2]
            (exact JW.Auto (by conv => lhs; reduce))
      · intro L
        show rngQ _ _ _ _ ⟨L, K46 a0 b0 P l a b (leR P l) (bsA P l (allO l.length)).length ((bsA P l (allO l.length)).filter (folB · a b)).length, 100⟩
        generalize ((bsA P l (allO l.length)).filter (folB · a b)).length = nB
        generalize (bsA P l (allO l.length)).length = nA
        refine rngQ.of (.inr rfl) rfl rfl rfl rfl rfl rfl rfl (endJ.kn ?_)
        (repeat (first | refine zs rfl ?_ | refine zg rfl rfl rfl ?_ | refine zd ?_ | refine JK.fin ?_ | refine JK.ret ?_))
        refine JK.cond rfl (fun he => ?_) (fun he => ?_)
        · have he' : (nB : Int) = 0 := beq_iff_eq.1 he
          rw [if_pos he']
          (repeat (first | refine zs rfl ?_ | refine zg rfl rfl rfl ?_ | refine zd ?_ | refine JK.fin ?_ | refine JK.ret ?_))
          refine ⟨.inl rfl, _, _, rfl, trivial, ?_⟩
          rfl
        · have he' : ¬ (nB : Int) = 0 := beq_eq_false_iff_ne.1 he
          rw [if_neg he']
          (repeat (first | refine zs rfl ?_ | refine zg rfl rfl rfl ?_ | refine zd ?_ | refine JK.fin ?_ | refine JK.ret ?_))
          refine JK.cond rfl (fun hf => ?_) (fun hf => ?_)
          · have hf' : (nB : Int) = (nA : Int) := beq_iff_eq.1 hf
            rw [if_pos hf']
            (repeat (first | refine zs rfl ?_ | refine zg rfl rfl rfl ?_ | refine zd ?_ | refine JK.fin ?_ | refine JK.ret ?_))
            refine ⟨.inl rfl, _, _, rfl, trivial, ?_⟩
            rfl
          · have hf' : ¬ (nB : Int) = (nA : Int) := beq_eq_false_iff_ne.1 hf
            rw [if_neg hf']
            (repeat (first | refine zs rfl ?_ | refine zg rfl rfl rfl ?_ | refine zd ?_ | refine JK.fin ?_ | refine JK.ret ?_))
            refine ⟨.inl rfl, _, _, rfl, trivial, ?_⟩
            rfl
  · have e : kindE P l one two = seE P l := by unfold kindE; rw [if_pos hz]
    have e1 : kindI P l one two = 0 := by unfold kindI; rw [if_neg (by rw [e]; exact hz)]
    rw [e1, e]
    rw [if_neg hz] at c61
    generalize seE P l = z at hz c61 ⊢
    (repeat (first | refine zs rfl ?_ | refine zg rfl rfl rfl ?_ | refine zd ?_ | refine JK.fin ?_ | refine JK.ret ?_ | refine zc rfl (c61) rfl rfl ?_ | refine ze rfl (c61) rfl ?_ | refine zk rfl rfl (fun _ => c61) rfl rfl ?_))
    refine JK.cond rfl (fun _ => ?_) (fun h => ?_)
    · (repeat (first | refine zs rfl ?_ | refine zg rfl rfl rfl ?_ | refine zd ?_ | refine JK.fin ?_ | refine JK.ret ?_))
      refine ⟨.inl rfl, _, _, rfl, trivial, ?_⟩
      rfl
    · (simp only [↓cdL] at h; try simp only [Ty.dflt, Int.toNat_natCast] at h)
      omega
end Go.Proofs.Ytinehlphcckkmaa

namespace Go.Proofs.Ytinehlphcckkmaa
open Go Go.RowKit Ox Ox.Sh Ox.Se
attribute [local irreducible] JC JL JK JW
attribute [local irreducible] ovA stA pkV
abbrev vIB (a : Int) (b : Bool) : AV := .tup (.acons (vI a) (.acons (vB b) .anil))
theorem best_ord {P : Int} {l : List Pt} (hz : seE P l = 0) : ordE P l (iL (bestO P l)) = 0 ∧ rdI P l (iL (bestO P l)) = leR P l := by
  obtain ⟨hP, h1, h8, hl⟩ := se_ok.1 hz
  obtain ⟨b1, b2, b3, b4⟩ := best_has hP.1 h1 h8
  have hn := (allO_has h1 ((mem_bests h1).1 (best_in hP.1 h1 h8)).1).2.2.2
  have ho : ordE P l (iL (bestO P l)) = 0 := ordE_ok.2 ⟨hz, ord_of b1 b2 hn⟩
  refine ⟨ho, ?_⟩
  unfold rdI
  rw [if_pos ho, nat_iL, b4]
theorem fn51 (P : Int) (l : List Pt) : Ox.Fn Try.prog 51 (.acons (vS P l) .anil) (· = vIB (lstI P l) (decide (seE P l = 0))) := by
  refine Ox.Fn.intro xok Try.func51 rfl Try.call51 (Nat.le_of_ble_eq_true rfl) (fun E M0 up => ?_)
  refine JK.start ?_
  have c36 := fn36 P l
  by_cases hz : seE P l = 0
  · obtain ⟨hP, h1, h8, hl⟩ := se_ok.1 hz
    obtain ⟨o1, o2⟩ := best_ord hz
    obtain ⟨b1, b2, b3, b4⟩ := best_has hP.1 h1 h8
    have e1 : bstI P l = iL (bestO P l) := by unfold bstI; rw [if_pos hz]
    have e2 : lstI P l = leR P l := by unfold lstI; rw [if_pos hz]
    rw [e1, e2, hz] at c36
    rw [e2, hz]
    have c31 := fn31 P l (iL (bestO P l))
    rw [o1, o2] at c31
    have hil : (iL (bestO P l)).length = l.length := by rw [iL_len]; exact b1
    have h0 : (iL (bestO P l)).getD (Int.toNat 0) 0 = 0 := by
      obtain ⟨z, hz2, _⟩ := (mem_allO h1).1 ((mem_bests h1).1 (best_in hP.1 h1 h8)).1
      rw [hz2]; rfl
    generalize iL (bestO P l) = B at c36 c31 hil h0
    generalize leR P l = R at c36 c31 ⊢
    (repeat (first | refine zs rfl ?_ | refine zg rfl rfl rfl ?_ | refine zd ?_ | refine JK.fin ?_ | refine JK.ret ?_ | refine zc rfl (c36) rfl rfl ?_ | refine ze rfl (c36) rfl ?_ | refine zk rfl rfl (fun _ => c36) rfl rfl ?_))
    refine JK.cond rfl (fun h => absurd h (by decide)) (fun _ => ?_)
    (repeat (first | refine zs rfl ?_ | refine zg rfl rfl rfl ?_ | refine zd ?_ | refine JK.fin ?_ | refine JK.ret ?_ | refine zc rfl (c31) rfl rfl ?_ | refine ze rfl (c31) rfl ?_ | refine zk rfl rfl (fun _ => c31) rfl rfl ?_))
    refine ⟨.inl rfl, _, _, rfl, trivial, ?_⟩
    show vIB R (bif (bif ((0 : Int) == 0) then (R == R) else false) then (B.getD (Int.toNat 0) 0 == 0) else false) = _
    rw [h0]
    simp
  · have e2 : lstI P l = 0 := by unfold lstI; rw [if_neg hz]
    rw [e2, decide_eq_false hz]
    generalize bstI P l = B at c36
    rw [e2] at c36
    generalize seE P l = z at hz c36
    (repeat (first | refine zs rfl ?_ | refine zg rfl rfl rfl ?_ | refine zd ?_ | refine JK.fin ?_ | refine JK.ret ?_ | refine zc rfl (c36) rfl rfl ?_ | refine ze rfl (c36) rfl ?_ | refine zk rfl rfl (fun _ => c36) rfl rfl ?_))
    refine JK.cond rfl (fun _ => ?_) (fun h => ?_)
    · (repeat (first | refine zs rfl ?_ | refine zg rfl rfl rfl ?_ | refine zd ?_ | refine JK.fin ?_ | refine JK.ret ?_))
      refine ⟨.inl rfl, _, _, rfl, trivial, ?_⟩
      rfl
    · (simp only [↓cdL] at h; try simp only [Ty.dflt, Int.toNat_natCast] at h)
      omega
end Go.Proofs.Ytinehlphcckkmaa

namespace Ox
open Go Go.RowKit
variable {X : Ctx} {s : S} {M : Mem} {ρ : Env} {a a' : Act} {w w' : World} {QA : Exit → S → Prop} {K : S → Prop} {ops : List Oper} {ls fl fr : List Nat} {fuel : Nat}
theorem JF.firstG (i : Nat) {d : Nat} {op : Op} {ty : TypeId} {ps : String} {af : Array Edge} {gg : Nat × Bool} {g : Bool} {cs : List Prop} {v : AV} {L : List (Nat × AV)} {H : List (Nat × HO)} {nx : Nat}
    (hX : XOK X) (hf : fsB ops ls fl i = true) (ho : ops[i]? = some ⟨some d, op, ty, ps, af, some gg⟩) (hg : gOf ops L (some gg) = some g) (hgt : g = true) (e3 : isLoad op = false)
    (h : evq X.T op ⟨L, H, nx⟩ = some (cs, v)) (hd : ltB d X.n = true) (hc : allP cs) (k : JF X ops K fl fuel (i :: ls) ⟨(d, v) :: L, H, nx⟩) : JF X ops K fl (fuel + 1) ls ⟨L, H, nx⟩ := by
  intro M ρ a a' w l fr hsub hnd hl hp h1 h2
  simp only [fsB, Bool.and_eq_true, Bool.not_eq_true'] at hf
  obtain ⟨⟨⟨⟨hnl, hnf⟩, hf⟩, hap⟩, hs, hnd0⟩ := hf
  simp only [frB, ho, Bool.and_eq_true, Bool.not_eq_true'] at hf
  obtain ⟨⟨_, h4⟩, e4⟩ := hf
  have hlt : i < ops.length := (List.getElem?_eq_some_iff.1 ho).1
  have hif : i ∉ fr := fun hc => by simp at hnf; exact hnf (hsub i hc)
  have hed := edgesL_spec.1 h4
  have hapf : ∀ g ∈ fr, ∀ q, ops[g]? = some q → halfB ops q (⟨some d, op, ty, ps, af, some gg⟩ : Oper) = true := by
    intro g hg q hq
    simp only [apB, ho] at hap
    have := List.all_eq_true.1 hap g (hsub g hg)
    rw [hq] at this
    simp only [Bool.or_eq_true] at this
    refine this.resolve_left fun hw => ?_
    obtain ⟨e, he, hb, rfl⟩ := waits_spec.1 hw
    have := (hed e (by simpa using he) hb).2
    rw [sure_mem] at this
    simp [hsub _ hg] at this
  obtain ⟨hb, z, hz, hrun⟩ := evq_soundA hX.t (o := ⟨some d, op, ty, ps, af, some gg⟩) e3 h hc h1 h2
  have hsel : ∀ (j : Nat) (o : Oper) cs b, ops.toArray[j]? = some o → o.op ≠ .select cs b := Region.noSelect_spec hs
  obtain ⟨hx1, hx2⟩ := PutsR.exec (o := ⟨some d, op, ty, ps, af, some gg⟩) (hsel i _ · · (by simpa using ho)) hp fun g hg q hq => (halfB_spec (hapf g hg q hq)).1
  have hw := (gOf_sound (o := ⟨some d, op, ty, ps, af, some gg⟩) hg h2).trans hgt
  rw [show fuel + 1 + fr.length = (fuel + fr.length) + 1 by omega]
  refine wpAny_firstA (fun _ _ _ h => conc_qN h) (i := i) (oi := ⟨some d, op, ty, ps, af, some gg⟩) (v := z) (by simpa using ho) hsel (ndAll_spec hnd0) (fuel + fr.length) l a w ?_ ?_ (.inl ⟨hx2.symm.trans hw, by rw [← hx1]; exact hrun⟩) ?_
  · intro j oj hj hne hun hno
    have hjl : j < ops.length := by have := (Array.getElem?_eq_some_iff.1 hj).1; simpa using this
    refine freeL_spec e4 j oj (by simpa using hj) (by omega) ?_ hno
    rw [hl.getT hjl] at hun
    rw [Nat.zero_add, sure_mem]
    cases hc : ls.contains j with
    | false => rfl
    | true =>
      rw [hc] at hun
      simp at hun
      simp [hsub _ hun]
  · refine mem_ready.2 ⟨by rw [hl.getT hlt, hnl]; rfl, _, by simpa using ho, fun e he hb => ?_⟩
    obtain ⟨e1, e2⟩ := hed e (by simpa using he) hb
    rw [sure_mem, Bool.and_eq_true] at e2
    rw [hl.getT e1, e2.1]
    have : e.on ∉ fr := fun hc => by have := e2.2; simp [hsub _ hc] at this
    simp [this]
  · exact k M ρ _ (a'.put (some d) z) w _ fr hsub hnd (hl.setNew hlt hif) (PutsR.put (d := some d) hp fun f hf o ho' e he hde => (halfB_spec (hapf f hf o ho')).2 e he hde)
      (putS_sat (d := some d) (v := v) h1) (h2.putO (d := some d) (dstOk.spec (ltB_lt hd)) hb hz)
theorem JF.FirstG (i : Nat) {d : Nat} {op : Op} {ty : TypeId} {ps : String} {af : Array Edge} {gg : Nat × Bool} {g : Bool} {cs : List Prop} {v : AV} {L : List (Nat × AV)} {H : List (Nat × HO)} {nx : Nat}
    (hX : XOK X) (ho : ops[i]? = some ⟨some d, op, ty, ps, af, some gg⟩) (hg : gOf ops L (some gg) = some g) (hgt : g = true) (h : evq X.T op ⟨L, H, nx⟩ = some (cs, v)) (k : JF X ops K fl fuel (i :: ls) ⟨(d, v) :: L, H, nx⟩)
    (hf : fsB ops ls fl i = true := by decide +kernel) (e3 : isLoad op = false := by rfl) (hd : ltB d X.n = true := by rfl) (hc : allP cs := by (first | exact trivial | (try dsimp only [allP, inK, idxC, loC, lohiC, fullC, underG, List.append, List.nil_append, List.cons_append, Ty.den, Ty.dflt, Int.toNat_natCast, List.length_cons, List.length_nil] at *); first | omega | ((repeat' (first | exact trivial | assumption | refine And.intro ?_ ?_ | exact fun h => h | (intro hpk; first | exact hpk | simp only [wantB, hpk, Bool.not_false, Bool.not_true]))) <;> omega) | fail)) :
    JF X ops K fl (fuel + 1) ls ⟨L, H, nx⟩ := JF.firstG i hX hf ho hg hgt e3 h hd hc k
end Ox

namespace Go.Proofs.Ytinehlphcckkmaa
open Go Go.RowKit Ox Ox.Sh Ox.Se
attribute [local irreducible] JC JL JK JW
attribute [local irreducible] ovA stA pkV
theorem wf1 : seE 10 exT = 0 := by decide +kernel
theorem wf2 : seE 10 exU = 0 := by decide +kernel
def exS : List Pt := [(7, 5, ()), (2, 8, ()), (0, 3, ())]
theorem wf3 : seE 10 (sdL 10 7 [5, 8, 3]) = 0 := by decide +kernel
theorem wf4 : sdL 10 7 [5, 8, 3] = exS := by decide +kernel
abbrev vT1s (a : AV) : AV := .tup (.acons a (.acons (vI 0) .anil))
set_option maxHeartbeats 80000000 in
theorem fn18 : Ox.Fn Try.prog 18 .anil (· = vB true) := by
  refine Ox.Fn.intro xok Try.func18 rfl Try.call18 (Nat.le_of_ble_eq_true rfl) (fun E M0 up => ?_)
  refine JK.start ?_
  have d56 := fn56
  have d26 : Ox.Fn Try.prog 26 (.acons (vS 10 exT) (.acons (vI 7) .anil)) (· = vT2 2 0) := by
    have := fn26 10 exT 7; rwa [show overI 10 exT 7 = 2 by decide +kernel, show overE 10 exT 7 = 0 by decide +kernel] at this
  have d28 : Ox.Fn Try.prog 28 (.acons (vS 10 exT) .anil) (· = .tup (.acons (vI 2) (.acons (vI 2) (.acons (vI 0) .anil)))) := by
    have := fn28 10 exT; rwa [show pkI 10 exT = 2 by decide +kernel, show paI 10 exT = 2 by decide +kernel, wf1] at this
  have d30 : Ox.Fn Try.prog 30 (.acons (vS 10 exT) (.acons (vL [0, 1, 2, 3]) .anil)) (· = vT2 3 0) := by
    have := fn30 10 exT [0, 1, 2, 3]; rwa [show rdI 10 exT [0, 1, 2, 3] = 3 by decide +kernel, show ordE 10 exT [0, 1, 2, 3] = 0 by decide +kernel] at this
  have d32 : Ox.Fn Try.prog 32 (.acons (vS 10 exT) (.acons (vL [0, 1, 3, 2]) .anil)) (· = vTL [0, 4, 3, 0] 0) := by
    have := fn32 10 exT [0, 1, 3, 2]; rwa [show wasI 10 exT [0, 1, 3, 2] = [0, 4, 3, 0] by decide +kernel, show ordE 10 exT [0, 1, 3, 2] = 0 by decide +kernel] at this
  have d36 : Ox.Fn Try.prog 36 (.acons (vS 10 exT) .anil) (· = vB3 (iL (bestO 10 exT)) 2 0) := by
    have := fn36 10 exT; rwa [show bstI 10 exT = iL (bestO 10 exT) by (unfold bstI; rw [if_pos wf1]), show lstI 10 exT = 2 by decide +kernel, wf1] at this
  have d36u : Ox.Fn Try.prog 36 (.acons (vS 10 exU) .anil) (· = vB3 (bstI 10 exU) 3 0) := by
    have := fn36 10 exU; rwa [show lstI 10 exU = 3 by decide +kernel, wf2] at this
  have d40 : Ox.Fn Try.prog 40 (.acons (vS 10 exU) .anil) (· = vTLL [[0], [1]] 0) := by
    have := fn40 10 exU; rwa [show gpI 10 exU = [[0], [1]] by decide +kernel, wf2] at this
  have d38u : Ox.Fn Try.prog 38 (.acons (vS 10 exU) .anil) (· = vTL [0] 0) := by
    have := fn38 10 exU; rwa [show apI 10 exU = [0] by decide +kernel, show apE 10 exU = 0 by decide +kernel] at this
  have d38 : Ox.Fn Try.prog 38 (.acons (vS 10 exT) .anil) (· = vTL [] 5) := by
    have := fn38 10 exT; rwa [show apI 10 exT = [] by decide +kernel, show apE 10 exT = 5 by decide +kernel] at this
  have d44 : Ox.Fn Try.prog 44 (.acons (vS 10 exU) (.acons (vL [1]) .anil)) (· = vI 0) := by
    have := fn44 10 exU [1]; rwa [show apcE 10 exU [1] = 0 by decide +kernel] at this
  have d46 : Ox.Fn Try.prog 46 (.acons (vS 10 exT) (.acons (vI 0) (.acons (vI 1) .anil))) (· = vT2 1 0) := by
    have := fn46 10 exT 0 1; rwa [show kindI 10 exT 0 1 = 1 by decide +kernel, show kindE 10 exT 0 1 = 0 by decide +kernel] at this
  have d48 : Ox.Fn Try.prog 48 (.acons (vS 10 exT) .anil) (· = vT2 2 0) := by
    have := fn48 10 exT; rwa [show countI 10 exT = 2 by decide +kernel, wf1] at this
  have d19 : Ox.Fn Try.prog 19 (.acons (vI 10) (.acons (vI 7) (.acons (vL [5, 8, 3]) .anil))) (· = vT1s (vS 10 exS)) := by
    have := fn19 10 7 [5, 8, 3] (by decide)
    unfold vSe at this
    rwa [wf3, if_pos rfl, wf4] at this
  have d24 : Ox.Fn Try.prog 24 (.acons (vS 10 exT) (.acons (vL [0, 2]) .anil)) (· = vI 20) := by
    have := fn24 10 exT [0, 2]; rwa [show conE 10 exT [0, 2] = 20 by decide +kernel] at this
  have d31 : Ox.Fn Try.prog 31 (.acons (vS 10 exT) (.acons (vL (iL (bestO 10 exT))) .anil)) (· = vT2 2 0) := by
    have := fn31 10 exT (iL (bestO 10 exT)); rwa [(best_ord wf1).2, (best_ord wf1).1, show leR 10 exT = 2 by decide +kernel] at this
  have d57 : Ox.Fn Try.prog 57 (.acons (vI 10) (.acons (vL [7, 5, 2, 8, 0, 3]) .anil)) (· = vS 10 exS) := by
    have e : setN ([7, 5, 2, 8, 0, 3] : List Int) (([7, 5, 2, 8, 0, 3] : List Int).length / 2) = exS := by decide +kernel
    have := fn57 10 [7, 5, 2, 8, 0, 3] (by decide); rwa [e] at this
  have d23 := fn23 10 10 exS exS
  have d34 := fn34 [0, 4, 3, 0] [0, 4, 3, 0]
  have d43 := fn43 [[0], [1]] [[0], [1]]
  have d42 := fn42 [0] [0]
  rw [decide_eq_true ⟨rfl, rfl⟩] at d23
  rw [decide_eq_true rfl] at d34 d43 d42
  generalize exS = S3 at *
  generalize iL (bestO 10 exT) = B at d36 d31
  generalize bstI 10 exU = BU at d36u
  have hex : exT = exT := rfl
  generalize exT = T at *
  generalize exU = U at *
  (repeat (first | refine zs rfl ?_ | refine zg rfl rfl rfl ?_ | refine zd ?_ | refine JK.fin ?_ | refine JK.ret ?_ | refine zc rfl (d56) rfl rfl ?_ | refine ze rfl (d56) rfl ?_ | refine zk rfl rfl (fun _ => d56) rfl rfl ?_ | refine zc rfl (d26) rfl rfl ?_ | refine ze rfl (d26) rfl ?_ | refine zk rfl rfl (fun _ => d26) rfl rfl ?_ | refine zc rfl (d28) rfl rfl ?_ | refine ze rfl (d28) rfl ?_ | refine zk rfl rfl (fun _ => d28) rfl rfl ?_ | refine zc rfl (d30) rfl rfl ?_ | refine ze rfl (d30) rfl ?_ | refine zk rfl rfl (fun _ => d30) rfl rfl ?_))
  (refine JK.fzL [3] [1,2,3,4,5,6,7,8,9,53,54] rfl ?_)
  (repeat (first | refine zs rfl ?_ | refine zg rfl rfl rfl ?_ | refine zd ?_ | refine JK.fin ?_ | refine JK.ret ?_ | refine zc rfl (d32) rfl rfl ?_ | refine ze rfl (d32) rfl ?_ | refine zk rfl rfl (fun _ => d32) rfl rfl ?_ | refine zc rfl (d36) rfl rfl ?_ | refine ze rfl (d36) rfl ?_ | refine zk rfl rfl (fun _ => d36) rfl rfl ?_ | refine zc rfl (d36u) rfl rfl ?_ | refine ze rfl (d36u) rfl ?_ | refine zk rfl rfl (fun _ => d36u) rfl rfl ?_ | refine zc rfl (d40) rfl rfl ?_ | refine ze rfl (d40) rfl ?_ | refine zk rfl rfl (fun _ => d40) rfl rfl ?_ | refine zc rfl (d38u) rfl rfl ?_ | refine ze rfl (d38u) rfl ?_ | refine zk rfl rfl (fun _ => d38u) rfl rfl ?_ | refine zc rfl (d38) rfl rfl ?_ | refine ze rfl (d38) rfl ?_ | refine zk rfl rfl (fun _ => d38) rfl rfl ?_ | refine zc rfl (d44) rfl rfl ?_ | refine ze rfl (d44) rfl ?_ | refine zk rfl rfl (fun _ => d44) rfl rfl ?_ | refine zc rfl (d46) rfl rfl ?_ | refine ze rfl (d46) rfl ?_ | refine zk rfl rfl (fun _ => d46) rfl rfl ?_ | refine zc rfl (d48) rfl rfl ?_ | refine ze rfl (d48) rfl ?_ | refine zk rfl rfl (fun _ => d48) rfl rfl ?_))
  refine JK.cond rfl (fun h => absurd h (by decide)) (fun _ => ?_)
  (repeat (first | refine zs rfl ?_ | refine zg rfl rfl rfl ?_ | refine zd ?_ | refine JK.fin ?_ | refine JK.ret ?_))
  (refine JK.fzL [5] [1,2,3,5,6,8,10,12,13,16,18,20,25,27,145] rfl ?_)
  (repeat (first | refine zs rfl ?_ | refine zg rfl rfl rfl ?_ | refine JK.fin ?_ | refine JK.ret ?_ | refine zc rfl (d19) rfl rfl ?_ | refine ze rfl (d19) rfl ?_ | refine zk rfl rfl (fun _ => d19) rfl rfl ?_ | refine zc rfl (d24) rfl rfl ?_ | refine ze rfl (d24) rfl ?_ | refine zk rfl rfl (fun _ => d24) rfl rfl ?_ | refine zc rfl (d31) rfl rfl ?_ | refine ze rfl (d31) rfl ?_ | refine zk rfl rfl (fun _ => d31) rfl rfl ?_))
  clear d56 d26 d28 d30 d32 d36 d36u d40 d38u d38 d44 d46 d48 d19 d24 d31
  refine JK.drawP xk (Try.f18.body.getD .skip) rfl 70 rfl ?_
  (refine JF.First 0 xk rfl rfl ?_; refine JF.First 1 xk rfl rfl ?_; refine JF.First 2 xk rfl rfl ?_; refine JF.FirstG 3 xk rfl rfl rfl rfl ?_; refine JF.FirstG 4 xk rfl rfl rfl rfl ?_; refine JF.First 5 xk rfl rfl ?_; refine JF.First 6 xk rfl rfl ?_; refine JF.FirstG 7 xk rfl rfl rfl rfl ?_; refine JF.FirstG 8 xk rfl rfl rfl rfl ?_; refine JF.First 9 xk rfl rfl ?_; refine JF.First 10 xk rfl rfl ?_; refine JF.Branch 11 [12] xk StF.nil (BrF.one rfl rfl ?_ (BrF.one rfl rfl ?_ BrF.nil)); (· (refine JL.G1 xk rfl rfl rfl ?_); refine JL.finN ?_; refine JF.Branch 12 [] xk StF.nil (BrF.one rfl rfl ?_ BrF.nil); (· ((refine JL.gT rfl rfl ?_ ; refine JL.M1 xk rfl rfl ?_)); refine JL.finN ?_; refine JF.Branch 13 [] xk StF.nil (BrF.one rfl rfl ?_ BrF.nil); (· (first | (refine JL.frz (8 :: List.nil) (3 :: 5 :: 6 :: 8 :: 10 :: 13 :: 16 :: 18 :: 20 :: 25 :: 27 :: 29 :: 30 :: 168 :: 169 :: 170 :: List.nil) rfl (by (first | exact trivial | (try dsimp only [allP, inK, idxC, loC, lohiC, fullC, underG, List.append, List.nil_append, List.cons_append, Ty.den, Ty.dflt, Int.toNat_natCast, List.length_cons, List.length_nil] at *); first | omega | ((repeat' (first | exact trivial | assumption | refine And.intro ?_ ?_ | exact fun h => h | (intro hpk; first | exact hpk | simp only [wantB, hpk, Bool.not_false, Bool.not_true]))) <;> omega) | fail)) ?_ ; refine JL.gT rfl rfl ?_ ; refine JL.C1 rfl d57 rfl (fun r hr => ?_) ; subst hr) | (refine JL.frz (8 :: List.nil) (3 :: 5 :: 6 :: 8 :: 10 :: 13 :: 16 :: 18 :: 20 :: 25 :: 27 :: 29 :: 30 :: 168 :: 170 :: List.nil) rfl (by (first | exact trivial | (try dsimp only [allP, inK, idxC, loC, lohiC, fullC, underG, List.append, List.nil_append, List.cons_append, Ty.den, Ty.dflt, Int.toNat_natCast, List.length_cons, List.length_nil] at *); first | omega | ((repeat' (first | exact trivial | assumption | refine And.intro ?_ ?_ | exact fun h => h | (intro hpk; first | exact hpk | simp only [wantB, hpk, Bool.not_false, Bool.not_true]))) <;> omega) | fail)) ?_ ; refine JL.gT rfl rfl ?_ ; refine JL.C1 rfl d57 rfl (fun r hr => ?_) ; subst hr)); refine JL.finN ?_; refine JF.Branch 14 [] xk StF.nil (BrF.one rfl rfl ?_ BrF.nil); (· (refine JL.S1g rfl rfl (fun hgd => d23) rfl trivial rfl ?_); refine JL.finN ?_; refine JF.First 15 xk rfl rfl ?_; refine JF.First 16 xk rfl rfl ?_; refine JF.FirstG 17 xk rfl rfl rfl rfl ?_; refine JF.FirstG 18 xk rfl rfl rfl rfl ?_; refine JF.First 19 xk rfl rfl ?_; refine JF.First 20 xk rfl rfl ?_; refine JF.FirstG 21 xk rfl rfl rfl rfl ?_; refine JF.FirstG 22 xk rfl rfl rfl rfl ?_; refine JF.First 23 xk rfl rfl ?_; refine JF.First 24 xk rfl rfl ?_; refine JF.FirstG 25 xk rfl rfl rfl rfl ?_; refine JF.FirstG 26 xk rfl rfl rfl rfl ?_; refine JF.First 27 xk rfl rfl ?_; refine JF.First 28 xk rfl rfl ?_; refine JF.FirstG 29 xk rfl rfl rfl rfl ?_; refine JF.FirstG 30 xk rfl rfl rfl rfl ?_; refine JF.First 31 xk rfl rfl ?_; refine JF.First 32 xk rfl rfl ?_; refine JF.FirstG 33 xk rfl rfl rfl rfl ?_; refine JF.FirstG 34 xk rfl rfl rfl rfl ?_; refine JF.First 35 xk rfl rfl ?_; refine JF.First 36 xk rfl rfl ?_; refine JF.FirstG 37 xk rfl rfl rfl rfl ?_; refine JF.Branch 38 [] xk StF.nil (BrF.one rfl rfl ?_ BrF.nil); (· ((refine JL.gT rfl rfl ?_ ; refine JL.M1 xk rfl rfl ?_)); refine JL.finN ?_; refine JF.Branch 39 [] xk StF.nil (BrF.one rfl rfl ?_ BrF.nil); (· (refine JL.S1g rfl rfl (fun hgd => d34) rfl trivial rfl ?_); refine JL.finN ?_; refine JF.First 40 xk rfl rfl ?_; refine JF.First 41 xk rfl rfl ?_; refine JF.FirstG 42 xk rfl rfl rfl rfl ?_; refine JF.FirstG 43 xk rfl rfl rfl rfl ?_; refine JF.First 44 xk rfl rfl ?_; refine JF.First 45 xk rfl rfl ?_; refine JF.FirstG 46 xk rfl rfl rfl rfl ?_; refine JF.FirstG 47 xk rfl rfl rfl rfl ?_; refine JF.First 48 xk rfl rfl ?_; refine JF.First 49 xk rfl rfl ?_; refine JF.FirstG 50 xk rfl rfl rfl rfl ?_; refine JF.Branch 51 [52] xk StF.nil (BrF.one rfl rfl ?_ (BrF.one rfl rfl ?_ BrF.nil)); (· ((refine JL.gT rfl rfl ?_ ; refine JL.M1 xk rfl rfl ?_)); refine JL.finN ?_; refine JF.Branch 52 [] xk StF.nil (BrF.one rfl rfl ?_ BrF.nil); (· ((refine JL.gT rfl rfl ?_ ; refine JL.M1 xk rfl rfl ?_)); refine JL.finN ?_; refine JF.Branch 53 [] xk StF.nil (BrF.one rfl rfl ?_ BrF.nil); (· ((refine JL.frz (10 :: 11 :: List.nil) (3 :: 5 :: 6 :: 8 :: 10 :: 13 :: 16 :: 18 :: 20 :: 25 :: 27 :: 29 :: 30 :: 207 :: 208 :: 209 :: 210 :: List.nil) rfl (by (first | exact trivial | (try dsimp only [allP, inK, idxC, loC, lohiC, fullC, underG, List.append, List.nil_append, List.cons_append, Ty.den, Ty.dflt, Int.toNat_natCast, List.length_cons, List.length_nil] at *); first | omega | ((repeat' (first | exact trivial | assumption | refine And.intro ?_ ?_ | exact fun h => h | (intro hpk; first | exact hpk | simp only [wantB, hpk, Bool.not_false, Bool.not_true]))) <;> omega) | fail)) ?_ ; refine JL.gT rfl rfl ?_ ; refine JL.M1 xk rfl rfl ?_)); refine JL.finN ?_; refine JF.Branch 54 [] xk StF.nil (BrF.one rfl rfl ?_ BrF.nil); (· (refine JL.S1g rfl rfl (fun hgd => d43) rfl trivial rfl ?_); refine JL.finN ?_; refine JF.First 55 xk rfl rfl ?_; refine JF.First 56 xk rfl rfl ?_; refine JF.FirstG 57 xk rfl rfl rfl rfl ?_; refine JF.Branch 58 [] xk StF.nil (BrF.one rfl rfl ?_ BrF.nil); (· ((refine JL.gT rfl rfl ?_ ; refine JL.M1 xk rfl rfl ?_)); refine JL.finN ?_; refine JF.Branch 59 [] xk StF.nil (BrF.one rfl rfl ?_ BrF.nil); (· (refine JL.S1g rfl rfl (fun hgd => d42) rfl trivial rfl ?_); refine JL.finN ?_; refine JF.First 60 xk rfl rfl ?_; refine JF.First 61 xk rfl rfl ?_; refine JF.FirstG 62 xk rfl rfl rfl rfl ?_; refine JF.FirstG 63 xk rfl rfl rfl rfl ?_; refine JF.First 64 xk rfl rfl ?_; refine JF.First 65 xk rfl rfl ?_; refine JF.FirstG 66 xk rfl rfl rfl rfl ?_; refine JF.FirstG 67 xk rfl rfl rfl rfl ?_; refine JF.First 68 xk rfl rfl ?_; refine JF.First 69 xk rfl rfl ?_; refine JF.Done xk StF.nil ?_; (((repeat (first | refine zs rfl ?_ | refine zg rfl rfl rfl ?_ | refine zd ?_ | refine JK.fin ?_ | refine JK.ret ?_)); refine ⟨.inl rfl, _, _, rfl, trivial, ?_⟩; rfl)))))))); (· ((refine JL.gT rfl rfl ?_ ; refine JL.M1 xk rfl rfl ?_)); refine JL.finN ?_; refine JF.Branch 51 [] xk StF.nil (BrF.one rfl rfl ?_ BrF.nil); (· ((refine JL.gT rfl rfl ?_ ; refine JL.M1 xk rfl rfl ?_)); refine JL.finN ?_; refine JF.Branch 53 [] xk StF.nil (BrF.one rfl rfl ?_ BrF.nil); (· ((refine JL.frz (10 :: 11 :: List.nil) (3 :: 5 :: 6 :: 8 :: 10 :: 13 :: 16 :: 18 :: 20 :: 25 :: 27 :: 29 :: 30 :: 207 :: 208 :: 209 :: 210 :: List.nil) rfl (by (first | exact trivial | (try dsimp only [allP, inK, idxC, loC, lohiC, fullC, underG, List.append, List.nil_append, List.cons_append, Ty.den, Ty.dflt, Int.toNat_natCast, List.length_cons, List.length_nil] at *); first | omega | ((repeat' (first | exact trivial | assumption | refine And.intro ?_ ?_ | exact fun h => h | (intro hpk; first | exact hpk | simp only [wantB, hpk, Bool.not_false, Bool.not_true]))) <;> omega) | fail)) ?_ ; refine JL.gT rfl rfl ?_ ; refine JL.M1 xk rfl rfl ?_)); refine JL.finN ?_; refine JF.Branch 54 [] xk StF.nil (BrF.one rfl rfl ?_ BrF.nil); (· (refine JL.S1g rfl rfl (fun hgd => d43) rfl trivial rfl ?_); refine JL.finN ?_; refine JF.First 55 xk rfl rfl ?_; refine JF.First 56 xk rfl rfl ?_; refine JF.FirstG 57 xk rfl rfl rfl rfl ?_; refine JF.Branch 58 [] xk StF.nil (BrF.one rfl rfl ?_ BrF.nil); (· ((refine JL.gT rfl rfl ?_ ; refine JL.M1 xk rfl rfl ?_)); refine JL.finN ?_; refine JF.Branch 59 [] xk StF.nil (BrF.one rfl rfl ?_ BrF.nil); (· (refine JL.S1g rfl rfl (fun hgd => d42) rfl trivial rfl ?_); refine JL.finN ?_; refine JF.First 60 xk rfl rfl ?_; refine JF.First 61 xk rfl rfl ?_; refine JF.FirstG 62 xk rfl rfl rfl rfl ?_; refine JF.FirstG 63 xk rfl rfl rfl rfl ?_; refine JF.First 64 xk rfl rfl ?_; refine JF.First 65 xk rfl rfl ?_; refine JF.FirstG 66 xk rfl rfl rfl rfl ?_; refine JF.FirstG 67 xk rfl rfl rfl rfl ?_; refine JF.First 68 xk rfl rfl ?_; refine JF.First 69 xk rfl rfl ?_; refine JF.Done xk StF.nil ?_; (((repeat (first | refine zs rfl ?_ | refine zg rfl rfl rfl ?_ | refine zd ?_ | refine JK.fin ?_ | refine JK.ret ?_)); refine ⟨.inl rfl, _, _, rfl, trivial, ?_⟩; rfl)))))))))))))); (· ((refine JL.gT rfl rfl ?_ ; refine JL.M1 xk rfl rfl ?_)); refine JL.finN ?_; refine JF.Branch 11 [13] xk StF.nil (BrF.one rfl rfl ?_ (BrF.one rfl rfl ?_ BrF.nil)); (· (refine JL.G1 xk rfl rfl rfl ?_); refine JL.finN ?_; refine JF.Branch 13 [] xk StF.nil (BrF.one rfl rfl ?_ BrF.nil); (· (first | (refine JL.frz (8 :: List.nil) (3 :: 5 :: 6 :: 8 :: 10 :: 13 :: 16 :: 18 :: 20 :: 25 :: 27 :: 29 :: 30 :: 168 :: 169 :: 170 :: List.nil) rfl (by (first | exact trivial | (try dsimp only [allP, inK, idxC, loC, lohiC, fullC, underG, List.append, List.nil_append, List.cons_append, Ty.den, Ty.dflt, Int.toNat_natCast, List.length_cons, List.length_nil] at *); first | omega | ((repeat' (first | exact trivial | assumption | refine And.intro ?_ ?_ | exact fun h => h | (intro hpk; first | exact hpk | simp only [wantB, hpk, Bool.not_false, Bool.not_true]))) <;> omega) | fail)) ?_ ; refine JL.gT rfl rfl ?_ ; refine JL.C1 rfl d57 rfl (fun r hr => ?_) ; subst hr) | (refine JL.frz (8 :: List.nil) (3 :: 5 :: 6 :: 8 :: 10 :: 13 :: 16 :: 18 :: 20 :: 25 :: 27 :: 29 :: 30 :: 168 :: 170 :: List.nil) rfl (by (first | exact trivial | (try dsimp only [allP, inK, idxC, loC, lohiC, fullC, underG, List.append, List.nil_append, List.cons_append, Ty.den, Ty.dflt, Int.toNat_natCast, List.length_cons, List.length_nil] at *); first | omega | ((repeat' (first | exact trivial | assumption | refine And.intro ?_ ?_ | exact fun h => h | (intro hpk; first | exact hpk | simp only [wantB, hpk, Bool.not_false, Bool.not_true]))) <;> omega) | fail)) ?_ ; refine JL.gT rfl rfl ?_ ; refine JL.C1 rfl d57 rfl (fun r hr => ?_) ; subst hr)); refine JL.finN ?_; refine JF.Branch 14 [] xk StF.nil (BrF.one rfl rfl ?_ BrF.nil); (· (refine JL.S1g rfl rfl (fun hgd => d23) rfl trivial rfl ?_); refine JL.finN ?_; refine JF.First 15 xk rfl rfl ?_; refine JF.First 16 xk rfl rfl ?_; refine JF.FirstG 17 xk rfl rfl rfl rfl ?_; refine JF.FirstG 18 xk rfl rfl rfl rfl ?_; refine JF.First 19 xk rfl rfl ?_; refine JF.First 20 xk rfl rfl ?_; refine JF.FirstG 21 xk rfl rfl rfl rfl ?_; refine JF.FirstG 22 xk rfl rfl rfl rfl ?_; refine JF.First 23 xk rfl rfl ?_; refine JF.First 24 xk rfl rfl ?_; refine JF.FirstG 25 xk rfl rfl rfl rfl ?_; refine JF.FirstG 26 xk rfl rfl rfl rfl ?_; refine JF.First 27 xk rfl rfl ?_; refine JF.First 28 xk rfl rfl ?_; refine JF.FirstG 29 xk rfl rfl rfl rfl ?_; refine JF.FirstG 30 xk rfl rfl rfl rfl ?_; refine JF.First 31 xk rfl rfl ?_; refine JF.First 32 xk rfl rfl ?_; refine JF.FirstG 33 xk rfl rfl rfl rfl ?_; refine JF.FirstG 34 xk rfl rfl rfl rfl ?_; refine JF.First 35 xk rfl rfl ?_; refine JF.First 36 xk rfl rfl ?_; refine JF.FirstG 37 xk rfl rfl rfl rfl ?_; refine JF.Branch 38 [] xk StF.nil (BrF.one rfl rfl ?_ BrF.nil); (· ((refine JL.gT rfl rfl ?_ ; refine JL.M1 xk rfl rfl ?_)); refine JL.finN ?_; refine JF.Branch 39 [] xk StF.nil (BrF.one rfl rfl ?_ BrF.nil); (· (refine JL.S1g rfl rfl (fun hgd => d34) rfl trivial rfl ?_); refine JL.finN ?_; refine JF.First 40 xk rfl rfl ?_; refine JF.First 41 xk rfl rfl ?_; refine JF.FirstG 42 xk rfl rfl rfl rfl ?_; refine JF.FirstG 43 xk rfl rfl rfl rfl ?_; refine JF.First 44 xk rfl rfl ?_; refine JF.First 45 xk rfl rfl ?_; refine JF.FirstG 46 xk rfl rfl rfl rfl ?_; refine JF.FirstG 47 xk rfl rfl rfl rfl ?_; refine JF.First 48 xk rfl rfl ?_; refine JF.First 49 xk rfl rfl ?_; refine JF.FirstG 50 xk rfl rfl rfl rfl ?_; refine JF.Branch 51 [52] xk StF.nil (BrF.one rfl rfl ?_ (BrF.one rfl rfl ?_ BrF.nil)); (· ((refine JL.gT rfl rfl ?_ ; refine JL.M1 xk rfl rfl ?_)); refine JL.finN ?_; refine JF.Branch 52 [] xk StF.nil (BrF.one rfl rfl ?_ BrF.nil); (· ((refine JL.gT rfl rfl ?_ ; refine JL.M1 xk rfl rfl ?_)); refine JL.finN ?_; refine JF.Branch 53 [] xk StF.nil (BrF.one rfl rfl ?_ BrF.nil); (· ((refine JL.frz (10 :: 11 :: List.nil) (3 :: 5 :: 6 :: 8 :: 10 :: 13 :: 16 :: 18 :: 20 :: 25 :: 27 :: 29 :: 30 :: 207 :: 208 :: 209 :: 210 :: List.nil) rfl (by (first | exact trivial | (try dsimp only [allP, inK, idxC, loC, lohiC, fullC, underG, List.append, List.nil_append, List.cons_append, Ty.den, Ty.dflt, Int.toNat_natCast, List.length_cons, List.length_nil] at *); first | omega | ((repeat' (first | exact trivial | assumption | refine And.intro ?_ ?_ | exact fun h => h | (intro hpk; first | exact hpk | simp only [wantB, hpk, Bool.not_false, Bool.not_true]))) <;> omega) | fail)) ?_ ; refine JL.gT rfl rfl ?_ ; refine JL.M1 xk rfl rfl ?_)); refine JL.finN ?_; refine JF.Branch 54 [] xk StF.nil (BrF.one rfl rfl ?_ BrF.nil); (· (refine JL.S1g rfl rfl (fun hgd => d43) rfl trivial rfl ?_); refine JL.finN ?_; refine JF.First 55 xk rfl rfl ?_; refine JF.First 56 xk rfl rfl ?_; refine JF.FirstG 57 xk rfl rfl rfl rfl ?_; refine JF.Branch 58 [] xk StF.nil (BrF.one rfl rfl ?_ BrF.nil); (· ((refine JL.gT rfl rfl ?_ ; refine JL.M1 xk rfl rfl ?_)); refine JL.finN ?_; refine JF.Branch 59 [] xk StF.nil (BrF.one rfl rfl ?_ BrF.nil); (· (refine JL.S1g rfl rfl (fun hgd => d42) rfl trivial rfl ?_); refine JL.finN ?_; refine JF.First 60 xk rfl rfl ?_; refine JF.First 61 xk rfl rfl ?_; refine JF.FirstG 62 xk rfl rfl rfl rfl ?_; refine JF.FirstG 63 xk rfl rfl rfl rfl ?_; refine JF.First 64 xk rfl rfl ?_; refine JF.First 65 xk rfl rfl ?_; refine JF.FirstG 66 xk rfl rfl rfl rfl ?_; refine JF.FirstG 67 xk rfl rfl rfl rfl ?_; refine JF.First 68 xk rfl rfl ?_; refine JF.First 69 xk rfl rfl ?_; refine JF.Done xk StF.nil ?_; (((repeat (first | refine zs rfl ?_ | refine zg rfl rfl rfl ?_ | refine zd ?_ | refine JK.fin ?_ | refine JK.ret ?_)); refine ⟨.inl rfl, _, _, rfl, trivial, ?_⟩; rfl)))))))); (· ((refine JL.gT rfl rfl ?_ ; refine JL.M1 xk rfl rfl ?_)); refine JL.finN ?_; refine JF.Branch 51 [] xk StF.nil (BrF.one rfl rfl ?_ BrF.nil); (· ((refine JL.gT rfl rfl ?_ ; refine JL.M1 xk rfl rfl ?_)); refine JL.finN ?_; refine JF.Branch 53 [] xk StF.nil (BrF.one rfl rfl ?_ BrF.nil); (· ((refine JL.frz (10 :: 11 :: List.nil) (3 :: 5 :: 6 :: 8 :: 10 :: 13 :: 16 :: 18 :: 20 :: 25 :: 27 :: 29 :: 30 :: 207 :: 208 :: 209 :: 210 :: List.nil) rfl (by (first | exact trivial | (try dsimp only [allP, inK, idxC, loC, lohiC, fullC, underG, List.append, List.nil_append, List.cons_append, Ty.den, Ty.dflt, Int.toNat_natCast, List.length_cons, List.length_nil] at *); first | omega | ((repeat' (first | exact trivial | assumption | refine And.intro ?_ ?_ | exact fun h => h | (intro hpk; first | exact hpk | simp only [wantB, hpk, Bool.not_false, Bool.not_true]))) <;> omega) | fail)) ?_ ; refine JL.gT rfl rfl ?_ ; refine JL.M1 xk rfl rfl ?_)); refine JL.finN ?_; refine JF.Branch 54 [] xk StF.nil (BrF.one rfl rfl ?_ BrF.nil); (· (refine JL.S1g rfl rfl (fun hgd => d43) rfl trivial rfl ?_); refine JL.finN ?_; refine JF.First 55 xk rfl rfl ?_; refine JF.First 56 xk rfl rfl ?_; refine JF.FirstG 57 xk rfl rfl rfl rfl ?_; refine JF.Branch 58 [] xk StF.nil (BrF.one rfl rfl ?_ BrF.nil); (· ((refine JL.gT rfl rfl ?_ ; refine JL.M1 xk rfl rfl ?_)); refine JL.finN ?_; refine JF.Branch 59 [] xk StF.nil (BrF.one rfl rfl ?_ BrF.nil); (· (refine JL.S1g rfl rfl (fun hgd => d42) rfl trivial rfl ?_); refine JL.finN ?_; refine JF.First 60 xk rfl rfl ?_; refine JF.First 61 xk rfl rfl ?_; refine JF.FirstG 62 xk rfl rfl rfl rfl ?_; refine JF.FirstG 63 xk rfl rfl rfl rfl ?_; refine JF.First 64 xk rfl rfl ?_; refine JF.First 65 xk rfl rfl ?_; refine JF.FirstG 66 xk rfl rfl rfl rfl ?_; refine JF.FirstG 67 xk rfl rfl rfl rfl ?_; refine JF.First 68 xk rfl rfl ?_; refine JF.First 69 xk rfl rfl ?_; refine JF.Done xk StF.nil ?_; (((repeat (first | refine zs rfl ?_ | refine zg rfl rfl rfl ?_ | refine zd ?_ | refine JK.fin ?_ | refine JK.ret ?_)); refine ⟨.inl rfl, _, _, rfl, trivial, ?_⟩; rfl))))))))))))); (· (first | (refine JL.frz (8 :: List.nil) (3 :: 5 :: 6 :: 8 :: 10 :: 13 :: 16 :: 18 :: 20 :: 25 :: 27 :: 29 :: 30 :: 168 :: 169 :: 170 :: List.nil) rfl (by (first | exact trivial | (try dsimp only [allP, inK, idxC, loC, lohiC, fullC, underG, List.append, List.nil_append, List.cons_append, Ty.den, Ty.dflt, Int.toNat_natCast, List.length_cons, List.length_nil] at *); first | omega | ((repeat' (first | exact trivial | assumption | refine And.intro ?_ ?_ | exact fun h => h | (intro hpk; first | exact hpk | simp only [wantB, hpk, Bool.not_false, Bool.not_true]))) <;> omega) | fail)) ?_ ; refine JL.gT rfl rfl ?_ ; refine JL.C1 rfl d57 rfl (fun r hr => ?_) ; subst hr) | (refine JL.frz (8 :: List.nil) (3 :: 5 :: 6 :: 8 :: 10 :: 13 :: 16 :: 18 :: 20 :: 25 :: 27 :: 29 :: 30 :: 168 :: 170 :: List.nil) rfl (by (first | exact trivial | (try dsimp only [allP, inK, idxC, loC, lohiC, fullC, underG, List.append, List.nil_append, List.cons_append, Ty.den, Ty.dflt, Int.toNat_natCast, List.length_cons, List.length_nil] at *); first | omega | ((repeat' (first | exact trivial | assumption | refine And.intro ?_ ?_ | exact fun h => h | (intro hpk; first | exact hpk | simp only [wantB, hpk, Bool.not_false, Bool.not_true]))) <;> omega) | fail)) ?_ ; refine JL.gT rfl rfl ?_ ; refine JL.C1 rfl d57 rfl (fun r hr => ?_) ; subst hr)); refine JL.finN ?_; refine JF.Branch 11 [] xk StF.nil (BrF.one rfl rfl ?_ BrF.nil); (· (refine JL.G1 xk rfl rfl rfl ?_); refine JL.finN ?_; refine JF.Branch 14 [] xk StF.nil (BrF.one rfl rfl ?_ BrF.nil); (· (refine JL.S1g rfl rfl (fun hgd => d23) rfl trivial rfl ?_); refine JL.finN ?_; refine JF.First 15 xk rfl rfl ?_; refine JF.First 16 xk rfl rfl ?_; refine JF.FirstG 17 xk rfl rfl rfl rfl ?_; refine JF.FirstG 18 xk rfl rfl rfl rfl ?_; refine JF.First 19 xk rfl rfl ?_; refine JF.First 20 xk rfl rfl ?_; refine JF.FirstG 21 xk rfl rfl rfl rfl ?_; refine JF.FirstG 22 xk rfl rfl rfl rfl ?_; refine JF.First 23 xk rfl rfl ?_; refine JF.First 24 xk rfl rfl ?_; refine JF.FirstG 25 xk rfl rfl rfl rfl ?_; refine JF.FirstG 26 xk rfl rfl rfl rfl ?_; refine JF.First 27 xk rfl rfl ?_; refine JF.First 28 xk rfl rfl ?_; refine JF.FirstG 29 xk rfl rfl rfl rfl ?_; refine JF.FirstG 30 xk rfl rfl rfl rfl ?_; refine JF.First 31 xk rfl rfl ?_; refine JF.First 32 xk rfl rfl ?_; refine JF.FirstG 33 xk rfl rfl rfl rfl ?_; refine JF.FirstG 34 xk rfl rfl rfl rfl ?_; refine JF.First 35 xk rfl rfl ?_; refine JF.First 36 xk rfl rfl ?_; refine JF.FirstG 37 xk rfl rfl rfl rfl ?_; refine JF.Branch 38 [] xk StF.nil (BrF.one rfl rfl ?_ BrF.nil); (· ((refine JL.gT rfl rfl ?_ ; refine JL.M1 xk rfl rfl ?_)); refine JL.finN ?_; refine JF.Branch 39 [] xk StF.nil (BrF.one rfl rfl ?_ BrF.nil); (· (refine JL.S1g rfl rfl (fun hgd => d34) rfl trivial rfl ?_); refine JL.finN ?_; refine JF.First 40 xk rfl rfl ?_; refine JF.First 41 xk rfl rfl ?_; refine JF.FirstG 42 xk rfl rfl rfl rfl ?_; refine JF.FirstG 43 xk rfl rfl rfl rfl ?_; refine JF.First 44 xk rfl rfl ?_; refine JF.First 45 xk rfl rfl ?_; refine JF.FirstG 46 xk rfl rfl rfl rfl ?_; refine JF.FirstG 47 xk rfl rfl rfl rfl ?_; refine JF.First 48 xk rfl rfl ?_; refine JF.First 49 xk rfl rfl ?_; refine JF.FirstG 50 xk rfl rfl rfl rfl ?_; refine JF.Branch 51 [52] xk StF.nil (BrF.one rfl rfl ?_ (BrF.one rfl rfl ?_ BrF.nil)); (· ((refine JL.gT rfl rfl ?_ ; refine JL.M1 xk rfl rfl ?_)); refine JL.finN ?_; refine JF.Branch 52 [] xk StF.nil (BrF.one rfl rfl ?_ BrF.nil); (· ((refine JL.gT rfl rfl ?_ ; refine JL.M1 xk rfl rfl ?_)); refine JL.finN ?_; refine JF.Branch 53 [] xk StF.nil (BrF.one rfl rfl ?_ BrF.nil); (· ((refine JL.frz (10 :: 11 :: List.nil) (3 :: 5 :: 6 :: 8 :: 10 :: 13 :: 16 :: 18 :: 20 :: 25 :: 27 :: 29 :: 30 :: 207 :: 208 :: 209 :: 210 :: List.nil) rfl (by (first | exact trivial | (try dsimp only [allP, inK, idxC, loC, lohiC, fullC, underG, List.append, List.nil_append, List.cons_append, Ty.den, Ty.dflt, Int.toNat_natCast, List.length_cons, List.length_nil] at *); first | omega | ((repeat' (first | exact trivial | assumption | refine And.intro ?_ ?_ | exact fun h => h | (intro hpk; first | exact hpk | simp only [wantB, hpk, Bool.not_false, Bool.not_true]))) <;> omega) | fail)) ?_ ; refine JL.gT rfl rfl ?_ ; refine JL.M1 xk rfl rfl ?_)); refine JL.finN ?_; refine JF.Branch 54 [] xk StF.nil (BrF.one rfl rfl ?_ BrF.nil); (· (refine JL.S1g rfl rfl (fun hgd => d43) rfl trivial rfl ?_); refine JL.finN ?_; refine JF.First 55 xk rfl rfl ?_; refine JF.First 56 xk rfl rfl ?_; refine JF.FirstG 57 xk rfl rfl rfl rfl ?_; refine JF.Branch 58 [] xk StF.nil (BrF.one rfl rfl ?_ BrF.nil); (· ((refine JL.gT rfl rfl ?_ ; refine JL.M1 xk rfl rfl ?_)); refine JL.finN ?_; refine JF.Branch 59 [] xk StF.nil (BrF.one rfl rfl ?_ BrF.nil); (· (refine JL.S1g rfl rfl (fun hgd => d42) rfl trivial rfl ?_); refine JL.finN ?_; refine JF.First 60 xk rfl rfl ?_; refine JF.First 61 xk rfl rfl ?_; refine JF.FirstG 62 xk rfl rfl rfl rfl ?_; refine JF.FirstG 63 xk rfl rfl rfl rfl ?_; refine JF.First 64 xk rfl rfl ?_; refine JF.First 65 xk rfl rfl ?_; refine JF.FirstG 66 xk rfl rfl rfl rfl ?_; refine JF.FirstG 67 xk rfl rfl rfl rfl ?_; refine JF.First 68 xk rfl rfl ?_; refine JF.First 69 xk rfl rfl ?_; refine JF.Done xk StF.nil ?_; (((repeat (first | refine zs rfl ?_ | refine zg rfl rfl rfl ?_ | refine zd ?_ | refine JK.fin ?_ | refine JK.ret ?_)); refine ⟨.inl rfl, _, _, rfl, trivial, ?_⟩; rfl)))))))); (· ((refine JL.gT rfl rfl ?_ ; refine JL.M1 xk rfl rfl ?_)); refine JL.finN ?_; refine JF.Branch 51 [] xk StF.nil (BrF.one rfl rfl ?_ BrF.nil); (· ((refine JL.gT rfl rfl ?_ ; refine JL.M1 xk rfl rfl ?_)); refine JL.finN ?_; refine JF.Branch 53 [] xk StF.nil (BrF.one rfl rfl ?_ BrF.nil); (· ((refine JL.frz (10 :: 11 :: List.nil) (3 :: 5 :: 6 :: 8 :: 10 :: 13 :: 16 :: 18 :: 20 :: 25 :: 27 :: 29 :: 30 :: 207 :: 208 :: 209 :: 210 :: List.nil) rfl (by (first | exact trivial | (try dsimp only [allP, inK, idxC, loC, lohiC, fullC, underG, List.append, List.nil_append, List.cons_append, Ty.den, Ty.dflt, Int.toNat_natCast, List.length_cons, List.length_nil] at *); first | omega | ((repeat' (first | exact trivial | assumption | refine And.intro ?_ ?_ | exact fun h => h | (intro hpk; first | exact hpk | simp only [wantB, hpk, Bool.not_false, Bool.not_true]))) <;> omega) | fail)) ?_ ; refine JL.gT rfl rfl ?_ ; refine JL.M1 xk rfl rfl ?_)); refine JL.finN ?_; refine JF.Branch 54 [] xk StF.nil (BrF.one rfl rfl ?_ BrF.nil); (· (refine JL.S1g rfl rfl (fun hgd => d43) rfl trivial rfl ?_); refine JL.finN ?_; refine JF.First 55 xk rfl rfl ?_; refine JF.First 56 xk rfl rfl ?_; refine JF.FirstG 57 xk rfl rfl rfl rfl ?_; refine JF.Branch 58 [] xk StF.nil (BrF.one rfl rfl ?_ BrF.nil); (· ((refine JL.gT rfl rfl ?_ ; refine JL.M1 xk rfl rfl ?_)); refine JL.finN ?_; refine JF.Branch 59 [] xk StF.nil (BrF.one rfl rfl ?_ BrF.nil); (· (refine JL.S1g rfl rfl (fun hgd => d42) rfl trivial rfl ?_); refine JL.finN ?_; refine JF.First 60 xk rfl rfl ?_; refine JF.First 61 xk rfl rfl ?_; refine JF.FirstG 62 xk rfl rfl rfl rfl ?_; refine JF.FirstG 63 xk rfl rfl rfl rfl ?_; refine JF.First 64 xk rfl rfl ?_; refine JF.First 65 xk rfl rfl ?_; refine JF.FirstG 66 xk rfl rfl rfl rfl ?_; refine JF.FirstG 67 xk rfl rfl rfl rfl ?_; refine JF.First 68 xk rfl rfl ?_; refine JF.First 69 xk rfl rfl ?_; refine JF.Done xk StF.nil ?_; (((repeat (first | refine zs rfl ?_ | refine zg rfl rfl rfl ?_ | refine zd ?_ | refine JK.fin ?_ | refine JK.ret ?_)); refine ⟨.inl rfl, _, _, rfl, trivial, ?_⟩; rfl)))))))))))))))
end Go.Proofs.Ytinehlphcckkmaa

namespace Go.Proofs.Ytinehlphcckkmaa
open Go Go.RowKit Ox Ox.Sh Ox.Se
variable {P : Int} {l m : List Pt}
abbrev rotL {α : Type} (o : List α) (k : Nat) : List α := o.drop k ++ o.take k
theorem rot_len {α : Type} (o : List α) (k : Nat) : (rotL o k).length = o.length := by
  rw [List.length_append, List.length_drop, List.length_take]; omega
theorem rot_get {α : Type} (o : List α) (d : α) {k i : Nat} (hk : k < o.length) (hi : i < o.length) : (rotL o k).getD i d = o.getD ((i + k) % o.length) d := by
  have hm : (i + k) % o.length < o.length := Nat.mod_lt _ (by omega)
  rw [getD_nat _ (by rw [rot_len]; exact hi), getD_nat _ hm]
  by_cases h : i + k < o.length
  · rw [List.getElem_append_left (by rw [List.length_drop]; omega), List.getElem_drop]
    congr 1
    rw [Nat.mod_eq_of_lt h]; omega
  · rw [List.getElem_append_right (by rw [List.length_drop]; omega), List.getElem_take]
    congr 1
    rw [List.length_drop, Nat.mod_eq_sub_mod (by omega), Nat.mod_eq_of_lt (by omega)]; omega
theorem rot_rd (o : List Nat) {k : Nat} (hk : k < o.length) : rdL P l (rotL o k) = rdL P l o := by
  cases k with
  | zero => rw [rotL, List.drop_zero, List.take_zero, List.append_nil]
  | succ k =>
    cases o with
    | nil => cases hk
    | cons h t =>
      have hk' : k < t.length := by simpa using hk
      have e1 : t = t.take k ++ t[k] :: t.drop (k + 1) := by rw [← List.drop_eq_getElem_cons hk', List.take_append_drop]
      have e2 : rotL (h :: t) (k + 1) = t[k] :: (t.drop (k + 1) ++ h :: t.take k) := by
        rw [rotL, List.drop_succ_cons, List.take_succ_cons, List.drop_eq_getElem_cons hk', List.cons_append]
      rw [e2]
      have := tot_rot (P := P) (l := l) h t[k] (t.take k) (t.drop (k + 1))
      rw [← e1] at this
      show tot P l _ _ / P = tot P l h t / P
      rw [this]
theorem rot_perm' {α : Type} (o : List α) (k : Nat) : (rotL o k).Perm o := by
  have h : o.Perm (o.take k ++ o.drop k) := by rw [List.take_append_drop]
  exact (List.perm_append_comm).trans h.symm
theorem mod_two {n i k : Nat} (hn : 0 < n) : ((i + 1) % n + k) % n = ((i + k) % n + 1) % n := by
  rw [Nat.mod_add_mod, Nat.mod_add_mod]; congr 1; omega
theorem nx1_rot (o : List Nat) {k i : Nat} (hk : k < o.length) (hi : i < o.length) : nx1 (rotL o k) i = nx1 o ((i + k) % o.length) := by
  unfold nx1
  rw [rot_len, rot_get o 0 hk (Nat.mod_lt _ (by omega)), mod_two (by omega)]
theorem folB_iff {o : List Nat} {a b : Nat} : folB o a b = true ↔ ∃ i, i < o.length ∧ o.getD i 0 = a ∧ nx1 o i = b := by
  unfold folB
  rw [List.any_eq_true]
  constructor
  · rintro ⟨i, hi, h⟩
    rw [Bool.and_eq_true, decide_eq_true_iff, decide_eq_true_iff] at h
    exact ⟨i, List.mem_range.1 hi, h.1, h.2⟩
  · rintro ⟨i, hi, h1, h2⟩
    exact ⟨i, List.mem_range.2 hi, by rw [decide_eq_true h1, decide_eq_true h2]; rfl⟩
theorem folB_rot {o : List Nat} {k a b : Nat} (hk : k < o.length) : folB (rotL o k) a b = folB o a b := by
  rw [Bool.eq_iff_iff, folB_iff, folB_iff]
  constructor
  · rintro ⟨i, hi, h1, h2⟩
    rw [rot_len] at hi
    rw [rot_get o 0 hk hi] at h1
    rw [nx1_rot o hk hi] at h2
    exact ⟨_, Nat.mod_lt _ (by omega), h1, h2⟩
  · rintro ⟨i, hi, h1, h2⟩
    have e : ((i + o.length - k) % o.length + k) % o.length = i := by
      rw [Nat.mod_add_mod, show i + o.length - k + k = i + o.length by omega, Nat.add_mod_right, Nat.mod_eq_of_lt hi]
    have hj : (i + o.length - k) % o.length < o.length := Nat.mod_lt _ (by omega)
    refine ⟨(i + o.length - k) % o.length, by rw [rot_len]; exact hj, ?_, ?_⟩
    · rw [rot_get o 0 hk hj, e]; exact h1
    · rw [nx1_rot o hk hj, e]; exact h2
theorem rot_zero {o : List Nat} (h1 : 1 ≤ l.length) (hp : o.Perm (List.range l.length)) : ∃ k, k < o.length ∧ rotL o k ∈ allO l.length := by
  have h0 : 0 ∈ o := hp.mem_iff.2 (List.mem_range.2 (by omega))
  obtain ⟨u, v, rfl⟩ := List.append_of_mem h0
  refine ⟨u.length, by simp, (mem_allO h1).2 ⟨v ++ u, ?_, ?_⟩⟩
  · simp [rotL]
  · have := rot_perm' (u ++ 0 :: v) u.length
    have e : rotL (u ++ 0 :: v) u.length = 0 :: (v ++ u) := by simp [rotL]
    rw [e] at this
    exact this.trans hp
theorem any_kind (h1 : 1 ≤ l.length) {o : List Nat} (hp : o.Perm (List.range l.length)) (hb : rdL P l o = leR P l) (a b : Nat) :
    (kindV P l a b = 2 → folB o a b = true) ∧ (kindV P l a b = 0 → folB o a b = false) := by
  obtain ⟨k, hk, ha⟩ := rot_zero h1 hp
  have hB : rotL o k ∈ bestsL P l := (mem_bests h1).2 ⟨ha, by rw [rot_rd o hk]; exact hb⟩
  rw [← folB_rot hk]
  unfold kindV
  constructor
  · intro h
    by_cases c : (bestsL P l).all (folB · a b) = true
    · exact List.all_eq_true.1 c _ hB
    · rw [if_neg c] at h; split at h <;> omega
  · intro h
    by_cases c : (bestsL P l).all (folB · a b) = true
    · rw [if_pos c] at h; omega
    · rw [if_neg c] at h
      by_cases d : (bestsL P l).any (folB · a b) = true
      · rw [if_pos d] at h; omega
      · cases e : folB (rotL o k) a b with
        | false => rfl
        | true => exact absurd (List.any_eq_true.2 ⟨_, hB, e⟩) d
theorem kind_range (a b : Nat) : 0 ≤ kindV P l a b ∧ kindV P l a b ≤ 2 := by
  unfold kindV; split
  · omega
  · split <;> omega
theorem wst_same {N : Nat} (hg : ∀ i j, i < N → j < N → gp P m i j = gp P l i j) : ∀ (t : List Nat) (h : Nat), h < N → (∀ x ∈ t, x < N) → wst P m h t = wst P l h t
  | [], _, _, _ => rfl
  | y :: t, h, hh, ht => by
    have hy := ht y List.mem_cons_self
    rw [wst, wst, hg h y hh hy, wst_same hg t y hy fun x hx => ht x (List.mem_cons_of_mem _ hx)]
theorem rd_same {N : Nat} (hg : ∀ i j, i < N → j < N → gp P m i j = gp P l i j) (hL : ∀ i, i < N → lO m i = lO l i) {o : List Nat} (ho : ∀ x ∈ o, x < N) : rdL P m o = rdL P l o := by
  cases o with
  | nil => rfl
  | cons h t =>
    show tot P m h t / P = tot P l h t / P
    unfold tot
    have hh := ho h List.mem_cons_self
    rw [wst_same hg _ h hh, sm_cong fun n hn => hL n (ho n hn)]
    intro x hx
    rcases List.mem_append.1 hx with hx | hx
    · exact ho x (List.mem_cons_of_mem _ hx)
    · rw [List.mem_singleton.1 hx]; exact hh
theorem le_same (h1 : 1 ≤ l.length) (hlen : m.length = l.length) (h : ∀ o, (∀ x ∈ o, x < l.length) → rdL P m o = rdL P l o) : leR P m = leR P l := by
  unfold leR
  rw [hlen, h _ (fun x hx => List.mem_range.1 hx), List.map_congr_left fun o ho => h o (allO_has h1 ho).2.1]
theorem bests_same (h1 : 1 ≤ l.length) (hlen : m.length = l.length) (h : ∀ o, (∀ x ∈ o, x < l.length) → rdL P m o = rdL P l o) : bestsL P m = bestsL P l := by
  unfold bestsL
  rw [hlen, le_same h1 hlen h]
  refine List.filter_congr fun o ho => ?_
  rw [h o (allO_has h1 ((inO_allO h1).1 ho)).2.1]
def shL (P q : Int) (l : List Pt) : List Pt := l.map fun p => ((p.1 + q) % P, p.2.1, ())
theorem shL_len (P q : Int) (l : List Pt) : (shL P q l).length = l.length := List.length_map _
theorem getD_map {α β : Type} (f : α → β) (l : List α) {n : Nat} (h : n < l.length) (a : α) (b : β) : (l.map f).getD n b = f (l.getD n a) := by
  rw [getD_nat _ (by rw [List.length_map]; exact h), getD_nat _ h, List.getElem_map]
theorem shL_at {q : Int} {n : Nat} (h : n < l.length) : aT (shL P q l) n = (aT l n + q) % P ∧ lO (shL P q l) n = lO l n := by
  unfold aT lO shL
  rw [getD_map _ l h zP zP]
  exact ⟨rfl, rfl⟩
theorem sub_mod (a b q : Int) : ((a + q) % P - (b + q) % P) % P = (a - b) % P := by
  rw [← Int.sub_emod]; congr 1; omega
theorem shL_end {q : Int} {n : Nat} (h : n < l.length) : eN P (shL P q l) n = (eN P l n + q) % P := by
  unfold eN
  rw [(shL_at h).1, (shL_at h).2, Int.emod_add_emod, Int.emod_add_emod]; congr 1; omega
theorem shL_gp {q : Int} {i j : Nat} (hi : i < l.length) (hj : j < l.length) : gp P (shL P q l) i j = gp P l i j := by
  unfold gp
  rw [(shL_at hj).1, shL_end hi, sub_mod]
theorem shL_rd {q : Int} {o : List Nat} (ho : ∀ x ∈ o, x < l.length) : rdL P (shL P q l) o = rdL P l o := rd_same (fun i j hi hj => shL_gp hi hj) (fun i hi => (shL_at hi).2) ho
theorem shL_ok {q : Int} (hP : 1 ≤ P) (hl : okP P l) : okP P (shL P q l) := fun s hs => by
  obtain ⟨p, hp, rfl⟩ := List.mem_map.1 hs
  exact ⟨mod_bd hP _, (hl p hp).2⟩
theorem se_of (hP : 1 ≤ P ∧ P ≤ 1000) (h1 : 1 ≤ l.length) (h8 : l.length ≤ 8) (hl : okP P l) : seE P l = 0 := se_ok.2 ⟨hP, h1, h8, hl⟩
theorem shL_se {q : Int} (hz : seE P l = 0) : seE P (shL P q l) = 0 := by
  obtain ⟨hP, h1, h8, hl⟩ := se_ok.1 hz
  exact se_of hP (by rw [shL_len]; exact h1) (by rw [shL_len]; exact h8) (shL_ok hP.1 hl)
def bkL (P : Int) (l : List Pt) : List Pt := (List.range l.length).map fun n => ((P - eN P l n) % P, lO l n, ())
theorem bkL_len (P : Int) (l : List Pt) : (bkL P l).length = l.length := by unfold bkL; rw [List.length_map, List.length_range]
theorem bkL_at {n : Nat} (h : n < l.length) : aT (bkL P l) n = (P - eN P l n) % P ∧ lO (bkL P l) n = lO l n := by
  unfold aT lO bkL
  rw [getD_map _ (List.range l.length) (by rw [List.length_range]; exact h) 0 zP, getD_nat _ (by rw [List.length_range]; exact h), List.getElem_range]
  exact ⟨rfl, rfl⟩
theorem bkL_ok (hP : 1 ≤ P) (hl : okP P l) : okP P (bkL P l) := fun s hs => by
  obtain ⟨n, hn, rfl⟩ := List.mem_map.1 hs
  exact ⟨mod_bd hP _, (hl.get (List.mem_range.1 hn)).2⟩
theorem bkL_se (hz : seE P l = 0) : seE P (bkL P l) = 0 := by
  obtain ⟨hP, h1, h8, hl⟩ := se_ok.1 hz
  exact se_of hP (by rw [bkL_len]; exact h1) (by rw [bkL_len]; exact h8) (bkL_ok hP.1 hl)
theorem bkL_gp {i j : Nat} (hi : i < l.length) (hj : j < l.length) : gp P (bkL P l) i j = gp P l j i := by
  unfold gp
  have e : eN P (bkL P l) i = (P - aT l i) % P := by
    show (aT _ i + lO _ i) % P = _
    rw [(bkL_at hi).1, (bkL_at hi).2, Int.emod_add_emod]
    have e2 : P - eN P l i + lO l i = (P + lO l i) - eN P l i := by omega
    unfold eN at e2 ⊢
    rw [e2, Int.sub_emod, Int.emod_emod_of_dvd _ (Int.dvd_refl P), ← Int.sub_emod]
    congr 1; omega
  rw [(bkL_at hj).1, e, ← Int.sub_emod]
  congr 1; omega
theorem wst_rev {N : Nat} (hg : ∀ i j, i < N → j < N → gp P m i j = gp P l j i) : ∀ (t : List Nat) (a b : Nat), a < N → b < N → (∀ x ∈ t, x < N) → wst P m b (t.reverse ++ [a]) = wst P l a (t ++ [b])
  | [], a, b, ha, hb, _ => by
    show gp P m b a + 0 = gp P l a b + 0
    rw [hg b a hb ha]
  | y :: t, a, b, ha, hb, ht => by
    have hy := ht y List.mem_cons_self
    rw [List.reverse_cons, List.append_assoc, List.singleton_append, wst_app, wst_rev hg t y b hy hb fun x hx => ht x (List.mem_cons_of_mem _ hx)]
    show _ + (gp P m y a + 0) = gp P l a y + wst P l y (t ++ [b])
    rw [hg y a hy ha]; omega
def tnO : List Nat → List Nat
  | [] => []
  | h :: t => h :: t.reverse
theorem tnO_inv : ∀ o : List Nat, tnO (tnO o) = o
  | [] => rfl
  | h :: t => by show h :: t.reverse.reverse = _; rw [List.reverse_reverse]
theorem tnO_perm : ∀ o : List Nat, (tnO o).Perm o
  | [] => .nil
  | h :: t => .cons h (List.reverse_perm t)
theorem tnO_len (o : List Nat) : (tnO o).length = o.length := (tnO_perm o).length_eq
theorem tnO_all {N : Nat} (h1 : 1 ≤ N) {o : List Nat} (h : o ∈ allO N) : tnO o ∈ allO N := by
  obtain ⟨z, rfl, hp⟩ := (mem_allO h1).1 h
  exact (mem_allO h1).2 ⟨z.reverse, rfl, (tnO_perm (0 :: z)).trans hp⟩
theorem bk_rd {o : List Nat} (ho : ∀ x ∈ o, x < l.length) : rdL P (bkL P l) (tnO o) = rdL P l o := by
  cases o with
  | nil => rfl
  | cons h t =>
    show tot P _ h t.reverse / P = tot P l h t / P
    have hh := ho h List.mem_cons_self
    have ht : ∀ x ∈ t, x < l.length := fun x hx => ho x (List.mem_cons_of_mem _ hx)
    unfold tot
    rw [wst_rev (fun i j hi hj => bkL_gp hi hj) t h h hh hh ht]
    have e : sm (lO (bkL P l)) (h :: t.reverse) = sm (lO l) (h :: t) := by
      rw [sm_perm (a := h :: t.reverse) (b := h :: t) (tnO_perm (h :: t))]
      exact sm_cong fun n hn => (bkL_at (ho n hn)).2
    rw [e]
theorem bk_rd' {o : List Nat} (ho : ∀ x ∈ o, x < l.length) : rdL P (bkL P l) o.reverse = rdL P l o := by
  rw [← bk_rd ho]
  cases o with
  | nil => rfl
  | cons h t =>
    cases e : t.reverse with
    | nil =>
      have : t = [] := List.reverse_eq_nil_iff.1 e
      subst this; rfl
    | cons x v =>
      rw [List.reverse_cons, e]
      show tot P _ x (v ++ h :: []) / P = tot P _ h t.reverse / P
      rw [tot_rot, e]; rfl
theorem bk_le (h1 : 1 ≤ l.length) : leR P (bkL P l) = leR P l := by
  have hb1 : 1 ≤ (bkL P l).length := by rw [bkL_len]; exact h1
  obtain ⟨o, ho, e⟩ := leR_mem (P := P) (l := l) (fun e => by rw [e] at h1; simp at h1)
  obtain ⟨q, hq, f⟩ := leR_mem (P := P) (l := bkL P l) (fun e => by rw [e] at hb1; simp at hb1)
  rw [bkL_len] at hq
  have a := leR_all (P := P) (l := bkL P l) (o := tnO o) (by rw [bkL_len]; exact tnO_all h1 ho)
  rw [bk_rd (allO_has h1 ho).2.1, e] at a
  have b := leR_all (P := P) (l := l) (o := tnO q) (tnO_all h1 hq)
  rw [← bk_rd (allO_has h1 (tnO_all h1 hq)).2.1, tnO_inv, f] at b
  omega
theorem bk_best (h1 : 1 ≤ l.length) {o : List Nat} : tnO o ∈ bestsL P (bkL P l) ↔ o ∈ bestsL P l := by
  rw [mem_bests (by rw [bkL_len]; exact h1), mem_bests h1, bkL_len, bk_le h1]
  constructor
  · rintro ⟨a, b⟩
    have a' := tnO_all h1 a
    rw [tnO_inv] at a'
    rw [bk_rd (allO_has h1 a').2.1] at b
    exact ⟨a', b⟩
  · rintro ⟨a, b⟩
    exact ⟨tnO_all h1 a, by rw [bk_rd (allO_has h1 a).2.1]; exact b⟩
theorem tnO_inj {a b : List Nat} (h : tnO a = tnO b) : a = b := by rw [← tnO_inv a, h, tnO_inv]
theorem bests_nd (P : Int) (l : List Pt) : (bestsL P l).Nodup := (inO_nodup _).filter _
theorem bk_count (h1 : 1 ≤ l.length) : (bestsL P (bkL P l)).length = (bestsL P l).length := by
  have key : ((bestsL P l).map tnO).Perm (bestsL P (bkL P l)) := by
    refine (List.perm_ext_iff_of_nodup (by rw [List.Nodup, List.pairwise_map]; exact (bests_nd P l).imp fun hab e => hab (tnO_inj e)) (bests_nd _ _)).2 fun x => ?_
    rw [List.mem_map]
    constructor
    · rintro ⟨o, ho, rfl⟩; exact (bk_best h1).2 ho
    · intro hx
      exact ⟨tnO x, (bk_best h1).1 (by rw [tnO_inv]; exact hx), tnO_inv x⟩
  rw [← key.length_eq, List.length_map]
theorem tn_get {o : List Nat} {i : Nat} (hi : i < o.length) : (tnO o).getD i 0 = o.getD ((o.length - i) % o.length) 0 := by
  cases o with
  | nil => cases hi
  | cons h t =>
    cases i with
    | zero => rw [Nat.sub_zero, Nat.mod_self]; rfl
    | succ i =>
      have hi' : i < t.length := by simpa using hi
      rw [List.length_cons, Nat.mod_eq_of_lt (by omega)]
      show t.reverse.getD i 0 = _
      rw [getD_nat _ (by rw [List.length_reverse]; exact hi'), List.getElem_reverse, show t.length + 1 - (i + 1) = (t.length - 1 - i) + 1 by omega, List.getD_cons_succ, getD_nat]
theorem tn_fol' {o : List Nat} {a b : Nat} (h : folB o a b = true) : folB (tnO o) b a = true := by
  obtain ⟨i, hi, h1, h2⟩ := folB_iff.1 h
  unfold nx1 at h2
  refine folB_iff.2 ?_
  rw [tnO_len]
  have hn : 0 < o.length := by omega
  have e1 : (o.length - (o.length - (i + 1) % o.length) % o.length) % o.length = (i + 1) % o.length := by
    by_cases c : i + 1 < o.length
    · rw [Nat.mod_eq_of_lt c, Nat.mod_eq_of_lt (a := o.length - (i + 1)) (by omega), Nat.mod_eq_of_lt (by omega)]; omega
    · rw [show i + 1 = o.length by omega, Nat.mod_self, Nat.sub_zero, Nat.mod_self, Nat.sub_zero, Nat.mod_self]
  have e2 : (o.length - ((o.length - (i + 1) % o.length) % o.length + 1) % o.length) % o.length = i := by
    by_cases c : i + 1 < o.length
    · rw [Nat.mod_eq_of_lt c, Nat.mod_eq_of_lt (a := o.length - (i + 1)) (by omega)]
      by_cases d : i = 0
      · subst d
        rw [show o.length - (0 + 1) + 1 = o.length by omega, Nat.mod_self, Nat.sub_zero, Nat.mod_self]
      · rw [Nat.mod_eq_of_lt (a := o.length - (i + 1) + 1) (by omega), Nat.mod_eq_of_lt (by omega)]; omega
    · rw [show i + 1 = o.length by omega, Nat.mod_self, Nat.sub_zero, Nat.mod_self, Nat.zero_add]
      by_cases d : o.length = 1
      · rw [d]; omega
      · rw [Nat.mod_eq_of_lt (a := 1) (by omega), Nat.mod_eq_of_lt (by omega)]; omega
  refine ⟨(o.length - (i + 1) % o.length) % o.length, Nat.mod_lt _ hn, ?_, ?_⟩
  · rw [tn_get (Nat.mod_lt _ hn), e1]; exact h2
  · unfold nx1
    rw [tnO_len, tn_get (Nat.mod_lt _ hn), e2]; exact h1
theorem tn_fol {o : List Nat} {a b : Nat} : folB (tnO o) b a = folB o a b := by
  rw [Bool.eq_iff_iff]
  exact ⟨fun h => by have := tn_fol' h; rwa [tnO_inv] at this, tn_fol'⟩
theorem bk_kind (h1 : 1 ≤ l.length) (a b : Nat) : kindV P (bkL P l) b a = kindV P l a b := by
  have e1 : (bestsL P (bkL P l)).all (folB · b a) = (bestsL P l).all (folB · a b) := by
    rw [Bool.eq_iff_iff, List.all_eq_true, List.all_eq_true]
    constructor
    · intro h o ho
      have := h _ ((bk_best h1).2 ho)
      rwa [tn_fol] at this
    · intro h o ho
      have := h (tnO o) ((bk_best h1).1 (by rw [tnO_inv]; exact ho))
      rwa [← tn_fol, tnO_inv] at this
  have e2 : (bestsL P (bkL P l)).any (folB · b a) = (bestsL P l).any (folB · a b) := by
    rw [Bool.eq_iff_iff, List.any_eq_true, List.any_eq_true]
    constructor
    · rintro ⟨o, ho, h⟩
      exact ⟨tnO o, (bk_best h1).1 (by rw [tnO_inv]; exact ho), by rw [← tn_fol, tnO_inv]; exact h⟩
    · rintro ⟨o, ho, h⟩
      exact ⟨tnO o, (bk_best h1).2 ho, by rw [tn_fol]; exact h⟩
  unfold kindV
  rw [e1, e2]
abbrev W18 : Prop := Ox.Fn Try.prog 18 .anil (· = .val .bool true)
end Go.Proofs.Ytinehlphcckkmaa

namespace Go.Proofs.Ytinehlphcckkmaa
open Go Go.RowKit Ox Ox.Sh Ox.Se
attribute [local irreducible] JC JL JK JW
attribute [local irreducible] ovA stA pkV
set_option maxHeartbeats 8000000 in
theorem law16 (w : W18) : Ox.Fn Try.prog 16 .anil (· = vB true) := by
  refine Ox.Fn.intro xok Try.func16 rfl Try.call16 (Nat.le_of_ble_eq_true rfl) (fun E M0 up => ?_)
  refine JK.start ?_
  have d56 := fn56
  have d30 : Ox.Fn Try.prog 30 (.acons (vS 10 exT) (.acons (vL [0, 1, 3, 2]) .anil)) (· = vT2 2 0) := by
    have := fn30 10 exT [0, 1, 3, 2]; rwa [show rdI 10 exT [0, 1, 3, 2] = 2 by decide +kernel, show ordE 10 exT [0, 1, 3, 2] = 0 by decide +kernel] at this
  have d30b : Ox.Fn Try.prog 30 (.acons (vS 10 exT) (.acons (vL [0, 1, 2]) .anil)) (· = vT2 0 15) := by
    have := fn30 10 exT [0, 1, 2]; rwa [show rdI 10 exT [0, 1, 2] = 0 by decide +kernel, show ordE 10 exT [0, 1, 2] = 15 by decide +kernel] at this
  have d46 : Ox.Fn Try.prog 46 (.acons (vS 10 exT) (.acons (vI 3) (.acons (vI 0) .anil))) (· = vT2 0 0) := by
    have := fn46 10 exT 3 0; rwa [show kindI 10 exT 3 0 = 0 by decide +kernel, show kindE 10 exT 3 0 = 0 by decide +kernel] at this
  have d46u : Ox.Fn Try.prog 46 (.acons (vS 10 exU) (.acons (vI 0) (.acons (vI 1) .anil))) (· = vT2 2 0) := by
    have := fn46 10 exU 0 1; rwa [show kindI 10 exU 0 1 = 2 by decide +kernel, show kindE 10 exU 0 1 = 0 by decide +kernel] at this
  have d40 : Ox.Fn Try.prog 40 (.acons (vS 10 exT) .anil) (· = vTLL [[0, 1, 2, 3]] 0) := by
    have := fn40 10 exT; rwa [show gpI 10 exT = [[0, 1, 2, 3]] by decide +kernel, show seE 10 exT = 0 by decide +kernel] at this
  have d44 : Ox.Fn Try.prog 44 (.acons (vS 10 exU) (.acons (vL [0, 1]) .anil)) (· = vI 14) := by
    have := fn44 10 exU [0, 1]; rwa [show apcE 10 exU [0, 1] = 14 by decide +kernel] at this
  have d24 : Ox.Fn Try.prog 24 (.acons (vS 10 exT) (.acons (vL [0, 1]) .anil)) (· = vI 0) := by
    have := fn24 10 exT [0, 1]; rwa [show conE 10 exT [0, 1] = 0 by decide +kernel] at this
  have d43 := fn43 [[0, 1, 2, 3]] [[0, 1, 2, 3]]
  rw [decide_eq_true rfl] at d43
  generalize exT = T at *
  generalize exU = U at *
  (repeat (first | refine zs rfl ?_ | refine zg rfl rfl rfl ?_ | refine zd ?_ | refine JK.fin ?_ | refine JK.ret ?_ | refine zc rfl (d56) rfl rfl ?_ | refine ze rfl (d56) rfl ?_ | refine zk rfl rfl (fun _ => d56) rfl rfl ?_ | refine zc rfl (d30) rfl rfl ?_ | refine ze rfl (d30) rfl ?_ | refine zk rfl rfl (fun _ => d30) rfl rfl ?_ | refine zc rfl (d30b) rfl rfl ?_ | refine ze rfl (d30b) rfl ?_ | refine zk rfl rfl (fun _ => d30b) rfl rfl ?_ | refine zc rfl (d46) rfl rfl ?_ | refine ze rfl (d46) rfl ?_ | refine zk rfl rfl (fun _ => d46) rfl rfl ?_ | refine zc rfl (d46u) rfl rfl ?_ | refine ze rfl (d46u) rfl ?_ | refine zk rfl rfl (fun _ => d46u) rfl rfl ?_ | refine zc rfl (d40) rfl rfl ?_ | refine ze rfl (d40) rfl ?_ | refine zk rfl rfl (fun _ => d40) rfl rfl ?_ | refine zc rfl (d44) rfl rfl ?_ | refine ze rfl (d44) rfl ?_ | refine zk rfl rfl (fun _ => d44) rfl rfl ?_ | refine zc rfl (d24) rfl rfl ?_ | refine ze rfl (d24) rfl ?_ | refine zk rfl rfl (fun _ => d24) rfl rfl ?_))
  refine zt rfl rfl ?_
  refine zs rfl ?_
  (refine JK.fzL [6] [90,91,92] rfl ?_)
  refine zt rfl rfl ?_
  refine zs rfl ?_
  (repeat (first | refine zs rfl ?_ | refine zg rfl rfl rfl ?_ | refine zd ?_ | refine JK.fin ?_ | refine JK.ret ?_ | refine zc rfl (d43) rfl rfl ?_ | refine ze rfl (d43) rfl ?_ | refine zk rfl rfl (fun _ => d43) rfl rfl ?_ | refine zc rfl (w) rfl rfl ?_ | refine ze rfl (w) rfl ?_ | refine zk rfl rfl (fun _ => w) rfl rfl ?_))
  refine ⟨.inl rfl, _, _, rfl, trivial, ?_⟩
  rfl
end Go.Proofs.Ytinehlphcckkmaa

namespace Ox
open Go Go.RowKit Go.ChangeShapes Go.WideShapes Go.ChangeAt
section
variable {H : Type} {enc : TypeId × Value → H} {P : Program} {w : World} {base : Nat} {spare : Nat → Bool} {held : Bool}
def Ty.argB : Ty → Bool
  | .int _ | .bool | .nil => true
  | .slice e => e.argB && decide (0 < e.size)
  | .arr _ e => e.argB
  | .cons a b => a.argB && b.argB
  | .ptr _ => false
theorem cells?_take {b off n : Nat} {spot : Option Nat} {cs : List Value} (h : w.cells? base ⟨b, off, spot⟩ n = some cs) (hn : 0 < n) :
    spot = none ∧ ∃ c ty fz, w.heap[b]? = some (.cells c ty fz) ∧ cs = (c.toList.drop off).take n := by
  unfold World.cells? at h
  split at h
  · have hl := mapM_some_length h
    have hg := fun i (hi : i < n) => mapM_some_get h i i (by simp [hi])
    have h0 := hg 0 hn
    rw [List.length_range] at hl
    rw [List.getElem?_eq_getElem (by omega)] at h0
    simp only [Addr.add, if_true, World.cell?] at h0
    split at h0
    · rename_i c ty fz hb
      split at h0
      · cases h0
      · rename_i hs
        have hs : spot = none := by simpa using hs
        subst hs
        refine ⟨rfl, c, ty, fz, hb, ?_⟩
        apply List.ext_getElem?
        intro i
        rw [List.getElem?_take]
        by_cases hi : i < n
        · rw [if_pos hi, ← hg i hi, Addr.add_plain, cell?_block hb, List.getElem?_drop]
          simp
        · rw [if_neg hi, List.getElem?_eq_none (by omega)]
    · cases h0
  · cases h
def Ty.fit : (t : Ty) → t.den → Prop
  | .int k, n => inK k n
  | .bool, _ => True
  | .slice e, l => ∀ y ∈ l, e.fit y
  | .ptr _, _ => True
  | .arr _ e, l => ∀ y ∈ l, e.fit y
  | .nil, _ => True
  | .cons a b, y => a.fit y.1 ∧ b.fit y.2
theorem inK_wf {k : IntKind} {n : Int} (h : (Lit.int k n).wf = true) : inK k n := by
  simp only [Lit.wf, Bool.and_eq_true, decide_eq_true_eq] at h
  cases k <;> exact h
def RepA (P : Program) (t : Ty) : Prop := ∀ {H : Type} {enc : TypeId × Value → H} {w : World} {base : Nat} {spare : Nat → Bool} {held : Bool} (id : TypeId) (fuel : Nat) (cs : List Value) (x : DataW H × List MemPlace),
  TyOf P t id → t.argB = true → DataW.trod enc P w base spare held fuel id cs = some x → ∃ y, Rep (fun b => w.heap[b]?) t y cs ∧ t.fit y
def RepF (P : Program) (t : Ty) : Prop := ∀ {H : Type} {enc : TypeId × Value → H} {w : World} {base : Nat} {spare : Nat → Bool} {held : Bool} (fs : List Field) (off fuel : Nat) (cs : List Value),
  TyOf.fields P t fs off → t.argB = true → cs.length = off + t.size → (∀ (i : Nat) (f : Field), fs[i]? = some f → ∃ x, DataW.trod enc P w base spare held fuel f.type ((cs.drop f.offset).take (P.cellsOf f.type)) = some x) →
    ∃ y, Rep (fun b => w.heap[b]?) t y (cs.drop off) ∧ t.fit y
theorem list_of {α : Type} {n : Nat} {p : Nat → α → Prop} (h : ∀ i, i < n → ∃ y, p i y) : ∃ l : List α, l.length = n ∧ ∀ i (hi : i < l.length), p i (l.get ⟨i, hi⟩) := by
  induction n with
  | zero => exact ⟨[], rfl, fun i hi => absurd hi (by simp)⟩
  | succ n ih =>
    obtain ⟨l, h1, h2⟩ := ih fun i hi => h i (by omega)
    obtain ⟨y, hy⟩ := h n (by omega)
    refine ⟨l ++ [y], by simp [h1], fun i hi => ?_⟩
    simp only [List.get_eq_getElem]
    by_cases hl : i < l.length
    · rw [List.getElem_append_left hl]; exact h2 i hl
    · have : i = l.length := by simp at hi; omega
      subst this
      rw [List.getElem_append_right (Nat.le_refl _)]
      simp only [Nat.sub_self, List.getElem_cons_zero]
      rw [h1]; exact hy
theorem rep_all (P : Program) : ∀ t : Ty, RepA P t ∧ RepF P t := by
  intro t
  induction t with
  | int k =>
    refine ⟨fun id fuel cs x ht _ h => ?_, fun fs off fuel cs hf _ _ _ => by simp [TyOf.fields] at hf⟩
    simp only [TyOf] at ht
    have hu := ht.under
    cases fuel with
    | zero => simp [DataW.trod] at h
    | succ n =>
      unfold DataW.trod at h
      rw [hu] at h
      split at h <;> try (simp_all; done)
      rename_i k' q n' he
      split at h
      · rename_i hk
        injection he with he
        injection he with he
        subst he
        exact ⟨n', by simp only [Rep]; rw [hk.1], inK_wf hk.2⟩
      · cases h
  | bool =>
    refine ⟨fun id fuel cs x ht _ h => ?_, fun fs off fuel cs hf _ _ _ => by simp [TyOf.fields] at hf⟩
    simp only [TyOf] at ht
    have hu := ht.under
    cases fuel with
    | zero => simp [DataW.trod] at h
    | succ n =>
      unfold DataW.trod at h
      rw [hu] at h
      split at h <;> try (simp_all; done)
      rename_i b he
      exact ⟨b, by simp only [Rep], trivial⟩
  | slice e ih =>
    refine ⟨@fun H enc w base spare held id fuel cs x ht hb h => ?_, fun fs off fuel cs hf _ _ _ => by simp [TyOf.fields] at hf⟩
    simp only [TyOf] at ht
    obtain ⟨eid, hi, he⟩ := ht
    simp only [Ty.argB, Bool.and_eq_true, decide_eq_true_eq] at hb
    have hsz := cells_of he
    rcases DataW.trod_slice hi.under h with ⟨h0, _⟩ | ⟨a, len, cap, elems, rest, n, _, rfl, _, _, hlc, hcm, hel, hg, _⟩
    · exact ⟨[], by simp only [Rep]; exact ⟨none, 0, h0, Nat.le_refl _, Nat.zero_le _, fun _ => rfl, .inl rfl⟩, fun y hy => by cases hy⟩
    · have each : ∀ i, i < len → ∃ y : e.den, ∃ spot c ty fz, a = ⟨a.block, a.off, spot⟩ ∧ (spot = none ∨ i ≠ 0) ∧ ∃ _ : w.heap[a.block]? = some (.cells c ty fz), Rep (fun b => w.heap[b]?) e y ((c.toList.drop (a.off + i * e.size)).take e.size) ∧ e.fit y := by
        intro i hi'
        have h1 := hg i hi'
        rw [List.getElem?_eq_getElem (by omega), Option.bind_eq_some_iff, hsz] at h1
        obtain ⟨ce, h2, h3⟩ := h1
        obtain ⟨blk, off, spot⟩ := a
        by_cases h0 : i * e.size = 0
        · have hi0 : i = 0 := by
            rcases Nat.mul_eq_zero.1 h0 with h0 | h0
            · exact h0
            · omega
          subst hi0
          simp only [Nat.zero_mul, Addr.add, if_true] at h2
          obtain ⟨hs, c, ty, fz, h4, rfl⟩ := cells?_take h2 hb.2
          obtain ⟨y, hy, hyf⟩ := ih.1 eid n _ _ he hb.1 h3
          exact ⟨y, spot, c, ty, fz, rfl, .inl hs, h4, by simpa using hy, hyf⟩
        · have e1 : (Addr.add ⟨blk, off, spot⟩ (i * e.size)) = ⟨blk, off + i * e.size, none⟩ := by simp only [Addr.add, if_neg h0]
          rw [e1] at h2
          obtain ⟨hs, c, ty, fz, h4, rfl⟩ := cells?_take h2 hb.2
          obtain ⟨y, hy, hyf⟩ := ih.1 eid n _ _ he hb.1 h3
          exact ⟨y, spot, c, ty, fz, rfl, .inr (fun hi0 => h0 (by rw [hi0, Nat.zero_mul])), h4, hy, hyf⟩
      by_cases hl0 : len = 0
      · subst hl0
        exact ⟨[], by simp only [Rep]; exact ⟨some a, cap, rfl, Nat.zero_le _, hcm, (fun h => by cases h), .inl rfl⟩, fun y hy => by cases hy⟩
      · obtain ⟨y0, spot, c, ty, fz, ha, hs, hc, _⟩ := each 0 (by omega)
        have hs : spot = none := hs.resolve_right (fun h => h rfl)
        subst hs
        obtain ⟨l, hl, hr⟩ := list_of (p := fun i (y : e.den) => Rep (fun b => w.heap[b]?) e y ((c.toList.drop (a.off + i * e.size)).take e.size) ∧ e.fit y) (n := len) (fun i hi' => by
          obtain ⟨y, _, c', ty', fz', _, _, hc', hy⟩ := each i hi'
          rw [hc] at hc'
          injection hc' with hc'
          injection hc' with hc' _ _
          subst hc'
          exact ⟨y, hy⟩)
        refine ⟨l, ?_, fun y hy => by
          obtain ⟨i, hi, rfl⟩ := List.mem_iff_get.1 hy
          exact (hr i.1 i.2).2⟩
        simp only [Rep]
        refine ⟨some a, cap, by rw [hl], by rw [hl]; exact hlc, hcm, (fun h => by cases h), .inr ⟨a.block, a.off, c, ty, fz, by rw [ha], hc, fun i hi => (hr i hi).1⟩⟩
  | ptr e ih => exact ⟨fun id fuel cs x _ hb _ => by simp [Ty.argB] at hb, fun fs off fuel cs hf _ _ _ => by simp [TyOf.fields] at hf⟩
  | arr n e ih =>
    refine ⟨@fun H enc w base spare held id fuel cs x ht hb h => ?_, fun fs off fuel cs hf _ _ _ => by simp [TyOf.fields] at hf⟩
    simp only [TyOf] at ht
    obtain ⟨eid, hi, he⟩ := ht
    simp only [Ty.argB] at hb
    have hsz := cells_of he
    have hsa : P.cellsOf id = n * e.size := cells_of (t := .arr n e) ⟨eid, hi, he⟩
    obtain ⟨xs, m, _, _, hl, hxl, hg⟩ := DataW.trod_array hi.under h
    obtain ⟨l, h1, h2⟩ := list_of (p := fun i (y : e.den) => Rep (fun b => w.heap[b]?) e y ((cs.drop (i * e.size)).take e.size) ∧ e.fit y) (n := n) (fun i hi' => by
      have h3 := hg i hi'
      rw [hsz, List.getElem?_eq_getElem (by omega)] at h3
      exact ih.1 eid m _ _ he hb h3)
    exact ⟨l, by simp only [Rep]; exact ⟨h1, by rw [hl, hsa], fun i hi => (h2 i hi).1⟩, fun y hy => by
      obtain ⟨i, hi, rfl⟩ := List.mem_iff_get.1 hy
      exact (h2 i.1 i.2).2⟩
  | nil =>
    refine ⟨fun id fuel cs x ht _ _ => by simp [TyOf] at ht, fun fs off fuel cs hf _ hl _ => ⟨(), ?_, trivial⟩⟩
    simp only [Rep, Ty.size] at hl ⊢
    exact List.drop_of_length_le (by omega)
  | cons a b iha ihb =>
    have hF : RepF P (.cons a b) := by
      intro H enc w base spare held fs off fuel cs hf hb hl hg
      cases fs with
      | nil => simp [TyOf.fields] at hf
      | cons f r =>
        simp only [TyOf.fields] at hf
        obtain ⟨h1, h2, h3, h4⟩ := hf
        simp only [Ty.argB, Bool.and_eq_true] at hb
        simp only [Ty.size] at hl
        obtain ⟨x, hx⟩ := hg 0 f rfl
        rw [h1, cells_of h2] at hx
        obtain ⟨y1, hy1, hf1⟩ := iha.1 _ _ _ _ h2 hb.1 hx
        obtain ⟨y2, hy2, hf2⟩ := ihb.2 r (off + a.size) fuel cs h4 hb.2 (by omega) fun i f hf => hg (i + 1) f (by simpa using hf)
        refine ⟨(y1, y2), ?_, hf1, hf2⟩
        simp only [Rep]
        refine ⟨_, _, ?_, hy1, hy2⟩
        rw [← List.drop_drop, List.take_append_drop]
    refine ⟨@fun H enc w base spare held id fuel cs x ht hb h => ?_, hF⟩
    have hct := cells_of ht
    simp only [TyOf] at ht
    obtain ⟨fs, hi, hm⟩ := ht
    obtain ⟨xs, n, _, _, hl, hxl, hg⟩ := DataW.trod_struct hi.under h
    have hff : TyOf.fields P (.cons a b) fs.toList 0 := by
      split at hm
      · rename_i f r hfr
        rw [hfr]
        simp only [TyOf.fields]
        simpa using hm
      · exact hm.elim
    have := hF fs.toList 0 n cs hff hb (by rw [hl, hct]; omega) (held := held) (enc := enc) (w := w) (base := base) (spare := spare) fun i f hf => by
      have h1 := hg i f (by simpa using hf)
      have hlt : i < xs.length := by
        rw [hxl]
        have := (List.getElem?_eq_some_iff.1 hf).1
        simpa using this
      rw [List.getElem?_eq_getElem hlt] at h1
      exact ⟨_, h1⟩
    simpa using this
def Dat : List Ty → Type
  | [] => Unit
  | t :: ts => t.den × Dat ts
def Dat.av : {ts : List Ty} → Dat ts → AV
  | [], _ => .anil
  | t :: _, x => .acons (.val t x.1) (Dat.av x.2)
def Dat.fit : {ts : List Ty} → Dat ts → Prop
  | [], _ => True
  | t :: _, x => t.fit x.1 ∧ Dat.fit x.2
def tysB (P : Program) : List Ty → List TypeId → Bool
  | [], [] => true
  | t :: ts, i :: is => (tyB P t i && t.argB) && (P.readableRec i && decide (i < P.types.size)) && tysB P ts is
  | _, _ => false
theorem agg_of {t : Ty} {id : TypeId} (ht : TyOf P t id) (hb : t.argB = true) : (t.agg = true ∧ ((∃ fs, P.underlying id = some (.struct fs)) ∨ ∃ n e, P.underlying id = some (.array n e))) ∨
    (t.agg = false ∧ ((∃ k, P.underlying id = some (.int k)) ∨ P.underlying id = some .bool ∨ ∃ e, P.underlying id = some (.slice e))) := by
  cases t with
  | int k => simp only [TyOf] at ht; exact .inr ⟨rfl, .inl ⟨k, ht.under⟩⟩
  | bool => simp only [TyOf] at ht; exact .inr ⟨rfl, .inr (.inl ht.under)⟩
  | slice e => simp only [TyOf] at ht; obtain ⟨eid, h, _⟩ := ht; exact .inr ⟨rfl, .inr (.inr ⟨eid, h.under⟩)⟩
  | ptr e => simp [Ty.argB] at hb
  | arr n e => simp only [TyOf] at ht; obtain ⟨eid, h, _⟩ := ht; exact .inl ⟨rfl, .inr ⟨n, eid, h.under⟩⟩
  | nil => simp [TyOf] at ht
  | cons a b => simp only [TyOf] at ht; obtain ⟨fs, h, _⟩ := ht; exact .inl ⟨rfl, .inl ⟨fs, h.under⟩⟩
theorem arg_rv {ρ : Env} {t : Ty} {id : TypeId} {v : Value} {d : DataW H} {ps : List MemPlace} (ht : TyOf P t id) (hb : t.argB = true) (hv : Value.okWide P w .any base id v) {b0 : Nat}
    (h : DataW.Trod enc P w b0 spare held id v d ps) : ∃ y, (AV.val t y).rv (fun b => w.heap[b]?) ρ v ∧ t.fit y := by
  obtain ⟨fuel, h⟩ := h
  obtain ⟨y, hy, hyf⟩ := (rep_all P t).1 id fuel _ _ ht hb h
  refine ⟨y, ?_, hyf⟩
  simp only [AV.rv]
  refine ⟨_, hy, ?_⟩
  unfold Value.okWide at hv
  rcases agg_of ht hb with ⟨hag, hu⟩ | ⟨hag, hu⟩
  · have : ∃ cs, v = .agg cs := by
      rcases hu with ⟨fs, hu⟩ | ⟨n, e, hu⟩ <;> · rw [hu] at hv; obtain ⟨cs, h1, _⟩ := hv; exact ⟨cs, h1⟩
    obtain ⟨cs, rfl⟩ := this
    rw [Ty.wrap_agg hag]
    simp [Value.cells]
  · have hone : v.oneCell' = true := by
      rcases hu with ⟨k, hu⟩ | hu | ⟨e, hu⟩ <;> rw [hu] at hv <;> simp only [Cell.okWide, hu, Cell.ok] at hv <;> (split at hv <;> first | rfl | (exact hv.elim) | (split at hv <;> first | rfl | exact hv.elim))
    rw [Value.cells_one hone]
    simp [Ty.wrap, hag]
theorem tysB_cons {t : Ty} {ts : List Ty} {i : TypeId} {is : List TypeId} (h : tysB P (t :: ts) (i :: is) = true) : TyOf P t i ∧ t.argB = true ∧ P.readableRec i = true ∧ i < P.types.size ∧ tysB P ts is = true := by
  simp only [tysB, Bool.and_eq_true, decide_eq_true_eq] at h
  exact ⟨tyB_sound h.1.1.1, h.1.1.2, h.1.2.1, h.1.2.2, h.2⟩
theorem all_rvs {ρ : Env} {b0 : Nat} : ∀ {ts : List Ty} {is : List TypeId} {vs : List Value} {ds : List (DataW H)} {ps : List MemPlace}, tysB P ts is = true → (∀ (j : Nat) t v, is[j]? = some t → vs[j]? = some v → Value.okWide P w .any base t v) →
    DataW.TrodAll enc P w b0 spare held is vs ds ps → ∃ ys : Dat ts, ys.av.rvs (fun b => w.heap[b]?) ρ vs ∧ ys.fit
  | [], [], vs, ds, ps, _, _, h => by
    cases vs with
    | nil => exact ⟨(), by simp only [Dat.av, AV.rvs], trivial⟩
    | cons v vs => cases ds <;> simp [DataW.TrodAll] at h
  | t :: ts, i :: is, vs, ds, ps, hb, hv, h => by
    obtain ⟨h1, h2, _, _, h5⟩ := tysB_cons hb
    cases vs with
    | nil => cases ds <;> simp [DataW.TrodAll] at h
    | cons v vs =>
      cases ds with
      | nil => simp [DataW.TrodAll] at h
      | cons d ds =>
        obtain ⟨p, q, h6, h7, _⟩ := h
        obtain ⟨y, hy, hyf⟩ := arg_rv (ρ := ρ) h1 h2 (hv 0 i v rfl rfl) h6
        obtain ⟨ys, hys, hysf⟩ := all_rvs (ρ := ρ) h5 (fun j t v hj hjv => hv (j + 1) t v (by simpa using hj) (by simpa using hjv)) h7
        exact ⟨(y, ys), by simp only [Dat.av, AV.rvs]; exact ⟨v, vs, hy, hys, rfl⟩, hyf, hysf⟩
  | [], _ :: _, _, _, _, hb, _, _ => by simp [tysB] at hb
  | _ :: _, [], _, _, _, hb, _, _ => by simp [tysB] at hb
theorem Dat.bd : ∀ {ts : List Ty} (ys : Dat ts) (n : Nat), ys.av.bd n
  | [], _, _ => trivial
  | _ :: _, x, n => ⟨trivial, Dat.bd x.2 n⟩
theorem args_again {W W' : World} (hl : laidOutB P = true) (hbl : Below W.heap.size W W') {sp : Nat → Bool} : ∀ {ts : List Ty} {is : List TypeId} {vs : List Value} {ds : List (DataW H)} {ps : List MemPlace}, tysB P ts is = true →
    DataW.TrodAll enc P W 0 (fun _ => true) true is vs ds ps → (∀ p ∈ ps, p.block < W.heap.size) → (∀ p ∈ ps, sp p.block = true) → DataW.TrodAll enc P W' 0 sp true is vs ds ps
  | [], [], vs, ds, ps, _, h, _, _ => by
    cases vs <;> cases ds <;> simp_all [DataW.TrodAll]
  | t :: ts, i :: is, vs, ds, ps, hb, h, hlt, hsp => by
    obtain ⟨_, _, h3, h4, h5⟩ := tysB_cons hb
    cases vs with
    | nil => cases ds <;> simp [DataW.TrodAll] at h
    | cons v vs =>
      cases ds with
      | nil => simp [DataW.TrodAll] at h
      | cons d ds =>
        obtain ⟨p, q, h6, h7, rfl⟩ := h
        refine ⟨p, q, WideElems.Trod_stays hl h3 h4 h6 (fun x hx => hbl.same (hlt x (List.mem_append_left _ hx))) (fun x hx => hsp x (List.mem_append_left _ hx)), ?_, rfl⟩
        exact args_again hl hbl h5 h7 (fun x hx => hlt x (List.mem_append_right _ hx)) (fun x hx => hsp x (List.mem_append_right _ hx))
  | [], _ :: _, _, _, _, hb, _, _, _ => by simp [tysB] at hb
  | _ :: _, [], _, _, _, hb, _, _, _ => by simp [tysB] at hb
theorem law_calls {f : FuncId} {fn : Func} {s : ChangeSpec} {ts : List Ty} {W : World} {base : Nat} {args : Array Value} {ds gs : List (DataW H)} {before : List MemPlace} {fresh handsOn : Bool}
    (hfn : ∀ ys : Dat ts, ys.fit → Fn P f ys.av (· = .val .bool true)) (hts : tysB P ts fn.params.toList = true) (hl : laidOutB P = true) (hvars : s.vars = [])
    (hspec : ∀ ds : List (DataW H), ds.length = ts.length → (s.fn H ds).results = [.lit (.bool true)] ∧ (s.fn H ds).args = ds ∧ (s.fn H ds).vars = []) {rt : TypeId} (hres : fn.resultTypes = #[rt]) (hrt : P.underlying rt = some .bool)
    (hval : ∀ (j : Nat) t v, fn.params[j]? = some t → args[j]? = some v → Value.okWide P W .any base t v) (hW : DataW.Whole enc P fn.params.toList s.vars false W args.toList ds gs before) :
    Calls P f args W fun e W' => ∃ v, e = .returned v ∧ s.post enc P fn false fresh handsOn false W args v W' := by
  have hW' := hW
  obtain ⟨p, q, hA, hV, rfl, hfz, _⟩ := hW
  rw [hvars] at hV
  obtain ⟨rfl, rfl⟩ := trodVars_none hV
  rw [List.append_nil] at hW'
  obtain ⟨ys, hys, hysf⟩ := all_rvs (ρ := ⟨fun _ => 0, fun _ => .nil, fun _ => Go.undef⟩) hts (fun j t v hj hv => hval j t v (by simpa using hj) (by simpa using hv)) hA
  have hlen : ∀ {ts : List Ty} {is : List TypeId} {vs : List Value} {ds : List (DataW H)} {ps : List MemPlace}, tysB P ts is = true → DataW.TrodAll enc P W 0 (fun _ => true) true is vs ds ps → ds.length = ts.length := by
    intro ts
    induction ts with
    | nil => intro is vs ds ps hb h; cases is <;> cases vs <;> cases ds <;> simp_all [DataW.TrodAll, tysB]
    | cons t ts ih =>
      intro is vs ds ps hb h
      cases is with
      | nil => simp [tysB] at hb
      | cons i is =>
        cases vs <;> cases ds <;> try (simp [DataW.TrodAll] at h; done)
        obtain ⟨p, q, _, h7, _⟩ := h
        simp [ih (tysB_cons hb).2.2.2.2 h7]
  have hdl := hlen hts hA
  have hrun := (hfn ys hysf).run (fun b => W.heap[b]?) ⟨fun _ => 0, fun _ => .nil, fun _ => Go.undef⟩ W args.toList (fun _ _ h => h) hys (Dat.bd ys 0)
  rw [Array.toArray_toList] at hrun
  refine hrun.mono fun e W' => ?_
  rintro ⟨v, r, M', rfl, rfl, _, hrv, hbl, _⟩
  rw [rv_bool] at hrv
  subst hrv
  obtain ⟨hs1, hs2, hs3⟩ := hspec ds hdl
  have hlt := fun x hx => hW'.lt x hx
  refine ⟨_, rfl, ds, [], p, [], p, [], hW', ?_, ?_, ?_, World.keptBut_mono (fun x hx => ⟨hx, .inr (.inl hx)⟩) (hbl.frame (· ∈ p)), fun h => by cases h⟩
  · rw [List.append_nil, hs1, hres]
    exact trodAll_cons_mk (shut_bool hrt _) trodAll_mk0
  · rw [List.append_nil, hs2]
    exact args_again hl hbl hts hA hlt fun x hx => by simpa using hlt x hx
  · rw [List.append_nil, hs3, hvars]
    rfl
end
end Ox
