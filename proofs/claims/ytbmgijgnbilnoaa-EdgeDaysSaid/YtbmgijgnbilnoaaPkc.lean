/- Texts of the proof, part 3 of 6.
  The engine, part ZG: the steps once more, their side conditions shown by themselves.
  The engine, part ZH: loops that are left in several places; ways that meet again.
  The engine, part ZI: equality of values without addresses; keys of maps.
  The engine, part ZJ: maps.
  The engine, part ZK: operations on maps.
  The engine, part ZL: maps in a walk.
  The engine, part ZM: ranges over maps.
  The engine, part ZN: maps as data: what is kept, what is counted.
  The engine, part ZO: steps on maps and comparisons, their side conditions shown by themselves.
  The seat's table of types for the engine.
  Leaf functions of the definitions: ints, IsBook, Last, In, CheckDay, Before.
  within and what it stands on; CheckDay, Before.
  newBindery. -/
import Derived.Test.YtbmgijgnbilnoaaPkb
import Derived.DeepKeys3
import Derived.MapKept
import Derived.ChangeMaps4
import Derived.Maps.RangeRun
import Derived.Test.YtbmgijgnbilnoaaProg
namespace Ox
open Go Go.RowKit
variable {X : Ctx} {s : S} {M : Mem} {ρ : Env} {a a' : Act} {w w' : World} {QA : Exit → S → Prop} {K : S → Prop} {all l : List Oper} {md : Bool} {o : Oper} {ops : List Oper} {ls fl fr : List Nat} {fuel : Nat}
variable {L L' : List (Nat × AV)} {H H' : List (Nat × HO)} {nx nx' d : Nat} {op : Op} {ty : TypeId} {ps : String} {af : Array Edge} {cs cs1 cs2 : List Prop} {v : AV} {g : Bool} {gg : Nat × Bool} {dd : Option Nat}

theorem JL.Q1 (hX : XOK X) (h : evb X.T op ⟨L, H, nx⟩ = some (cs, v)) (hd : ltB d X.n = true) (k : JL X md all QA l ⟨(d, v) :: L, H, nx⟩) (hc : allP cs := by (first | exact trivial | (try dsimp only [allP, inK, idxC, loC, lohiC, fullC, underG, List.append, List.nil_append, List.cons_append, Ty.den, Ty.dflt, Int.toNat_natCast, List.length_cons, List.length_nil] at *); first | omega | ((repeat' (first | exact trivial | assumption | refine And.intro ?_ ?_ | exact fun h => h | (intro hpk; first | exact hpk | simp only [wantB, hpk, Bool.not_false, Bool.not_true]))) <;> omega) | fail)) : JL X md all QA (⟨some d, op, ty, ps, af, none⟩ :: l) ⟨L, H, nx⟩ := JL.q1 hX h hd hc k
theorem JL.Q0 (hX : XOK X) (h : evb X.T op ⟨L, H, nx⟩ = some (cs, v)) (k : JL X md all QA l ⟨L, H, nx⟩) (hc : allP cs := by (first | exact trivial | (try dsimp only [allP, inK, idxC, loC, lohiC, fullC, underG, List.append, List.nil_append, List.cons_append, Ty.den, Ty.dflt, Int.toNat_natCast, List.length_cons, List.length_nil] at *); first | omega | ((repeat' (first | exact trivial | assumption | refine And.intro ?_ ?_ | exact fun h => h | (intro hpk; first | exact hpk | simp only [wantB, hpk, Bool.not_false, Bool.not_true]))) <;> omega) | fail)) : JL X md all QA (⟨none, op, ty, ps, af, none⟩ :: l) ⟨L, H, nx⟩ := JL.q0 hX h hc k
theorem JL.M1 (hX : XOK X) (h : evm X.T X.ET op ⟨L, H, nx⟩ = some (cs, v, ⟨L', H', nx'⟩)) (hd : ltB d X.n = true) (k : JL X true all QA l ⟨(d, v) :: L', H', nx'⟩) (hc : allP cs := by (first | exact trivial | (try dsimp only [allP, inK, idxC, loC, lohiC, fullC, underG, List.append, List.nil_append, List.cons_append, Ty.den, Ty.dflt, Int.toNat_natCast, List.length_cons, List.length_nil] at *); first | omega | ((repeat' (first | exact trivial | assumption | refine And.intro ?_ ?_ | exact fun h => h | (intro hpk; first | exact hpk | simp only [wantB, hpk, Bool.not_false, Bool.not_true]))) <;> omega) | fail)) : JL X true all QA (⟨some d, op, ty, ps, af, none⟩ :: l) ⟨L, H, nx⟩ := JL.m1 hX h hd hc k
theorem JL.M0 (hX : XOK X) (h : evm X.T X.ET op ⟨L, H, nx⟩ = some (cs, v, ⟨L', H', nx'⟩)) (k : JL X true all QA l ⟨L', H', nx'⟩) (hc : allP cs := by (first | exact trivial | (try dsimp only [allP, inK, idxC, loC, lohiC, fullC, underG, List.append, List.nil_append, List.cons_append, Ty.den, Ty.dflt, Int.toNat_natCast, List.length_cons, List.length_nil] at *); first | omega | ((repeat' (first | exact trivial | assumption | refine And.intro ?_ ?_ | exact fun h => h | (intro hpk; first | exact hpk | simp only [wantB, hpk, Bool.not_false, Bool.not_true]))) <;> omega) | fail)) : JL X true all QA (⟨none, op, ty, ps, af, none⟩ :: l) ⟨L, H, nx⟩ := JL.m0 hX h hc k
theorem JL.G1 (hX : XOK X) (hg : gOf all L (some gg) = some g) (h : evb X.T op ⟨L, H, nx⟩ = some (cs, v)) (hd : ltB d X.n = true) (k : JL X md all QA l ⟨(d, .gd g v) :: L, H, nx⟩) (hc : g = true → allP cs := by (intro hgd; first | exact trivial | exact hgd | (have hge := hgd; (try simp only [wantB, Bool.not_not, Bool.not_eq_true', decide_eq_true_eq, decide_eq_false_iff_not, beq_iff_eq, bne_iff_ne, bne_eq_false_iff_eq, ne_eq, beq_eq_false_iff_ne] at hge); (try dsimp only [allP, inK, idxC, loC, lohiC, fullC, underG, List.append, List.nil_append, List.cons_append, Ty.den, Ty.dflt, Int.toNat_natCast, List.length_cons, List.length_nil] at *); first | omega | ((repeat' (first | exact trivial | assumption | refine And.intro ?_ ?_ | exact fun h => h | (intro hpk; first | exact hpk | simp only [wantB, hpk, Bool.not_false, Bool.not_true]))) <;> omega) | fail))) : JL X md all QA (⟨some d, op, ty, ps, af, some gg⟩ :: l) ⟨L, H, nx⟩ := JL.g1 hX hg h hd hc k
theorem JL.S1 {f : FuncId} {args r : AV} (h : callA X.T op ⟨L, H, nx⟩ = some (cs, f, args)) (hf : Fn X.P f args (· = r)) (hr : r.scal = true) (hrb : r.bd 0) (hd : ltB d X.n = true) (k : JL X md all QA l ⟨(d, r) :: L, H, nx⟩) (hc : allP cs := by (first | exact trivial | (try dsimp only [allP, inK, idxC, loC, lohiC, fullC, underG, List.append, List.nil_append, List.cons_append, Ty.den, Ty.dflt, Int.toNat_natCast, List.length_cons, List.length_nil] at *); first | omega | ((repeat' (first | exact trivial | assumption | refine And.intro ?_ ?_ | exact fun h => h | (intro hpk; first | exact hpk | simp only [wantB, hpk, Bool.not_false, Bool.not_true]))) <;> omega) | fail)) :
    JL X md all QA (⟨some d, op, ty, ps, af, none⟩ :: l) ⟨L, H, nx⟩ := JL.s1 h hf hr hrb hd hc k
theorem JL.S1g {f : FuncId} {args r : AV} (hg : gOf all L (some gg) = some g) (h : callA X.T op ⟨L, H, nx⟩ = some (cs, f, args)) (hf : g = true → Fn X.P f args (· = r)) (hr : r.scal = true) (hrb : r.bd 0) (hd : ltB d X.n = true) (k : JL X md all QA l ⟨(d, .gd g r) :: L, H, nx⟩) (hc : g = true → allP cs := by (intro hgd; first | exact trivial | exact hgd | (have hge := hgd; (try simp only [wantB, Bool.not_not, Bool.not_eq_true', decide_eq_true_eq, decide_eq_false_iff_not, beq_iff_eq, bne_iff_ne, bne_eq_false_iff_eq, ne_eq, beq_eq_false_iff_ne] at hge); (try dsimp only [allP, inK, idxC, loC, lohiC, fullC, underG, List.append, List.nil_append, List.cons_append, Ty.den, Ty.dflt, Int.toNat_natCast, List.length_cons, List.length_nil] at *); first | omega | ((repeat' (first | exact trivial | assumption | refine And.intro ?_ ?_ | exact fun h => h | (intro hpk; first | exact hpk | simp only [wantB, hpk, Bool.not_false, Bool.not_true]))) <;> omega) | fail))) :
    JL X md all QA (⟨some d, op, ty, ps, af, some gg⟩ :: l) ⟨L, H, nx⟩ := JL.s1g hg h hf hr hrb hd hc k
theorem JL.C1 {f : FuncId} {args : AV} {R : AV → Prop} (h : callA X.T op ⟨L, [], nx⟩ = some (cs, f, args)) (hf : Fn X.P f args R) (hd : ltB d X.n = true) (k : ∀ r, R r → JL X true all QA l ⟨(d, r) :: L, H, nx⟩) (hc : allP cs := by (first | exact trivial | (try dsimp only [allP, inK, idxC, loC, lohiC, fullC, underG, List.append, List.nil_append, List.cons_append, Ty.den, Ty.dflt, Int.toNat_natCast, List.length_cons, List.length_nil] at *); first | omega | ((repeat' (first | exact trivial | assumption | refine And.intro ?_ ?_ | exact fun h => h | (intro hpk; first | exact hpk | simp only [wantB, hpk, Bool.not_false, Bool.not_true]))) <;> omega) | fail)) :
    JL X true all QA (⟨some d, op, ty, ps, af, none⟩ :: l) ⟨L, H, nx⟩ := JL.c1 h hf hd hc k
theorem JF.First (i : Nat) (hX : XOK X) (ho : ops[i]? = some ⟨some d, op, ty, ps, af, none⟩) (h : evq X.T op ⟨L, H, nx⟩ = some (cs, v)) (k : JF X ops K fl fuel (i :: ls) ⟨(d, v) :: L, H, nx⟩) (hf : fsB ops ls fl i = true := by decide +kernel) (e3 : isLoad op = false := by rfl) (hd : ltB d X.n = true := by rfl) (hc : allP cs := by (first | exact trivial | (try dsimp only [allP, inK, idxC, loC, lohiC, fullC, underG, List.append, List.nil_append, List.cons_append, Ty.den, Ty.dflt, Int.toNat_natCast, List.length_cons, List.length_nil] at *); first | omega | ((repeat' (first | exact trivial | assumption | refine And.intro ?_ ?_ | exact fun h => h | (intro hpk; first | exact hpk | simp only [wantB, hpk, Bool.not_false, Bool.not_true]))) <;> omega) | fail)) :
    JF X ops K fl (fuel + 1) ls ⟨L, H, nx⟩ := JF.first i hX hf ho e3 h hd hc k
theorem JF.Float (i : Nat) (hX : XOK X) (ho : ops[i]? = some ⟨some d, op, ty, ps, af, none⟩) (h : evq X.T op ⟨L, H, nx⟩ = some (cs, v)) (k : JF X ops K (i :: fl) fuel (i :: ls) ⟨(d, v) :: L, H, nx⟩) (hf : ftB ops ls fl i d = true := by decide +kernel) (hd : ltB d X.n = true := by rfl) (hc : allP cs := by (first | exact trivial | (try dsimp only [allP, inK, idxC, loC, lohiC, fullC, underG, List.append, List.nil_append, List.cons_append, Ty.den, Ty.dflt, Int.toNat_natCast, List.length_cons, List.length_nil] at *); first | omega | ((repeat' (first | exact trivial | assumption | refine And.intro ?_ ?_ | exact fun h => h | (intro hpk; first | exact hpk | simp only [wantB, hpk, Bool.not_false, Bool.not_true]))) <;> omega) | fail)) :
    JF X ops K fl (fuel + 1) ls ⟨L, H, nx⟩ := JF.float i hX hf ho h hd hc k
theorem StF.One {f : Nat} {r : List Nat} (ho : ops[f]? = some ⟨some d, op, ty, ps, af, none⟩) (h : evq X.T op s = some (cs, v)) (hl : lk s.L d = some v) (k : StF X ops s r) (hd : ltB d X.n = true := by rfl) (hc : allP cs := by (first | exact trivial | (try dsimp only [allP, inK, idxC, loC, lohiC, fullC, underG, List.append, List.nil_append, List.cons_append, Ty.den, Ty.dflt, Int.toNat_natCast, List.length_cons, List.length_nil] at *); first | omega | ((repeat' (first | exact trivial | assumption | refine And.intro ?_ ?_ | exact fun h => h | (intro hpk; first | exact hpk | simp only [wantB, hpk, Bool.not_false, Bool.not_true]))) <;> omega) | fail)) : StF X ops s (f :: r) := StF.one ho h hl hd hc k
theorem JF.Branch (i : Nat) (is : List Nat) (hX : XOK X) (hst : StF X ops s fl) (hB : BrF X ops K fl fuel ls s (i :: is)) (hc : ndB ops ls fl (i :: is) = true := by decide +kernel) : JF X ops K fl (fuel + 1) ls s := JF.branch i is hX hc hst hB
theorem JF.Done (hX : XOK X) (hst : StF X ops s fl) (hK : K s) (hc : ndB ops ls fl [] = true := by decide +kernel) : JF X ops K fl fuel ls s := JF.done hX hc hst hK
theorem JC.Draw {id : Nat} {ops : List Oper} (hX : XOK X) (h : JL X false ops QA ops s) (hB : (Region.lexB .any ops.toArray && ndAll ops) = true := by decide +kernel) : JC X (.region id ⟨ops⟩ true) QA s := JC.draw hX hB h
theorem JW.Auto {s' s : S} {ps : List (Nat × Nat)} (h0 : pairs s' s = ps) (hL : covL (renOf ps) s'.L s.L := by (repeat' (first | exact trivial | exact rfl | refine And.intro ?_ ?_ | exact Nat.le_of_ble_eq_true rfl | refine HO.bdF ?_ | refine HO.bdP ?_ | (refine congrArg (fun z : Int => some (AV.val (.int .i64) z)) ?_; push_cast; omega)))) (hH : covH (renOf ps) s'.H s.H := by (repeat' (first | exact trivial | exact rfl | refine And.intro ?_ ?_ | exact Nat.le_of_ble_eq_true rfl | refine HO.bdF ?_ | refine HO.bdP ?_ | (refine congrArg (fun z : Int => some (AV.val (.int .i64) z)) ?_; push_cast; omega)))) (hbL : bdL s'.nx s'.L := by (repeat' (first | exact trivial | exact rfl | refine And.intro ?_ ?_ | exact Nat.le_of_ble_eq_true rfl | refine HO.bdF ?_ | refine HO.bdP ?_ | (refine congrArg (fun z : Int => some (AV.val (.int .i64) z)) ?_; push_cast; omega)))) (hbH : bdH s'.nx s'.H := by (repeat' (first | exact trivial | exact rfl | refine And.intro ?_ ?_ | exact Nat.le_of_ble_eq_true rfl | refine HO.bdF ?_ | refine HO.bdP ?_ | (refine congrArg (fun z : Int => some (AV.val (.int .i64) z)) ?_; push_cast; omega)))) (hi : injH (renOf ps) s'.H = true := by rfl) : JW X s' s := JW.auto h0 hL hH hbL hbH hi
end Ox

namespace Ox
open Go Go.RowKit
variable {X : Ctx} {s : S} {QA : Exit → S → Prop}

def qE (id : Nat) (R : S → Prop) (QA : Exit → S → Prop) : Exit → S → Prop
  | .exit j, s => if j = id then R s else QA (.exit j) s
  | e, s => QA e s
theorem QX.ee {id : Nat} {R : S → Prop} (h : R s) : qE id R QA (.exit id) s := by simp only [qE, if_pos]; exact h
theorem QX.eo {id j : Nat} {R : S → Prop} (hn : (j == id) = false) (h : QA (.exit j) s) : qE id R QA (.exit j) s := by simp only [qE]; rw [if_neg (by simpa using hn)]; exact h
theorem QX.er {id : Nat} {R : S → Prop} (h : QA .ret s) : qE id R QA .ret s := h
theorem QX.en {id : Nat} {R : S → Prop} (h : QA .normal s) : qE id R QA .normal s := h

/-- A loop all of whose exits 'id' lead to states 'E q'. -/
theorem JC.loopE {c : Code} {σ τ : Type} {id : Nat} (st : σ → S) (I : σ → Prop) (μ : σ → Nat) (i0 : σ) (h0 : I i0) (hs : JW X (st i0) s) (E : τ → S) (PE : τ → Prop) (hq : ∀ s' q, JW X (E q) s' → QA (.exit id) (E q) → QA (.exit id) s')
    (k : ∀ q, PE q → QA (.exit id) (E q))
    (round : ∀ i, I i → JC X c (qThen (fun s' => ∃ i', JW X (st i') s' ∧ I i' ∧ μ i' < μ i) (qE id (fun s' => ∃ q, JW X (E q) s' ∧ PE q) QA)) (st i)) : JC X (.loop c) QA s :=
  JC.loop st I μ i0 h0 hs fun i hi => (round i hi).mono fun e s' h => by
    cases e with
    | exit j =>
      simp only [qThen, qE] at h ⊢
      split at h
      · rename_i e; subst e
        obtain ⟨q, hw, hp⟩ := h
        exact hq s' q hw (k q hp)
      · exact h
    | _ => exact h

/-- Ways that meet again. -/
theorem JC.cutW {x y : Code} {σ : Type} (st : σ → S) (P : σ → Prop) (h : JC X x (qThen (fun s => ∃ q, JW X (st q) s ∧ P q) QA) s) (k : ∀ q, P q → JC X y QA (st q)) : JC X (.seq x y) QA s :=
  JC.cut _ h fun _ ⟨q, hw, hp⟩ => JC.weak hw (k q hp)
/-- A region that draws its order, and after which nothing stands in its block. -/
theorem JC.drawE {id : Nat} {y : Code} {QA1 : Exit → S → Prop} (hX : XOK X) (c : Code) (st : S) {ops : List Oper} (ho : rgn id c = ops) (n : Nat) (hn : (rgn id c).length = n)
    (h : JF X (rgn id c) (fun s' => JW X st s') [] n [] s) (hq : ∀ s', QA .normal s' = JC X y QA1 s') (k : JC X y QA1 st) : JC X (.region id ⟨ops⟩ true) QA s := by
  subst ho; subst hn
  exact JC.drawAny hX _ h.any fun s' hs => by rw [hq]; exact JC.weak hs k
end Ox

namespace Ox
open Go Go.RowKit
variable {P : Program} {w : World} {M : Mem}

def Ty.flatB : Ty → Bool
  | .int _ | .bool | .nil => true | .arr _ e => e.flatB | .cons a b => a.flatB && b.flatB | _ => false
def Ty.dep : Ty → Nat
  | .arr _ e => e.dep + 1 | .cons a b => max (a.dep + 1) b.dep | _ => 1

/-- Cells of a value without addresses. -/
def Fl : Ty → List Value → Prop
  | .int k, cs => ∃ n, cs = [.int k n]
  | .bool, cs => ∃ b, cs = [.bool b]
  | .arr n e, cs => cs.length = n * e.size ∧ ∀ i, i < n → Fl e ((cs.drop (i * e.size)).take e.size)
  | .nil, cs => cs = []
  | .cons a b, cs => ∃ c1 c2, cs = c1 ++ c2 ∧ Fl a c1 ∧ Fl b c2
  | _, _ => False

theorem Fl.length : ∀ {t : Ty} {cs : List Value}, Fl t cs → cs.length = t.size
  | .int _, _, h => by obtain ⟨n, rfl⟩ := h; rfl
  | .bool, _, h => by obtain ⟨n, rfl⟩ := h; rfl
  | .arr n e, _, h => h.1
  | .nil, _, h => by simp only [Fl] at h; subst h; rfl
  | .cons a b, _, h => by
    simp only [Fl] at h
    obtain ⟨c1, c2, rfl, h1, h2⟩ := h
    simp [Ty.size, h1.length, h2.length]

theorem Rep.fl : ∀ {t : Ty} {x : t.den} {cs : List Value}, t.flatB = true → Rep M t x cs → Fl t cs
  | .int _, _, _, _, h => by simp only [Rep] at h; exact ⟨_, h⟩
  | .bool, _, _, _, h => by simp only [Rep] at h; exact ⟨_, h⟩
  | .arr n e, l, cs, hf, h => by
    simp only [Rep] at h
    refine ⟨h.2.1, fun i hi => Rep.fl (by simpa [Ty.flatB] using hf) (h.2.2 i (by omega))⟩
  | .nil, _, _, _, h => by simp only [Rep] at h; exact h
  | .cons a b, x, cs, hf, h => by
    simp only [Rep] at h
    simp only [Ty.flatB, Bool.and_eq_true] at hf
    obtain ⟨c1, c2, rfl, h1, h2⟩ := h
    exact ⟨c1, c2, rfl, h1.fl hf.1, h2.fl hf.2⟩

theorem chunk_ext {n c : Nat} {x y : List Value} (hx : x.length = n * c) (hy : y.length = n * c) (h : ∀ i, i < n → (x.drop (i * c)).take c = (y.drop (i * c)).take c) : x = y := by
  rw [← chunks_flatten c n x hx, ← chunks_flatten c n y hy]
  congr 1
  exact List.map_congr_left fun i hi => h i (List.mem_range.1 hi)

/-- What such cells mean is the datum, and the datum tells the cells. -/
theorem Rep.inj : ∀ {t : Ty} {x y : t.den} {cx cy : List Value}, t.flatB = true → Rep M t x cx → Rep M t y cy → (cx = cy ↔ x = y)
  | .int _, _, _, _, _, _, h1, h2 => by simp only [Rep] at h1 h2; subst h1 h2; simp
  | .bool, _, _, _, _, _, h1, h2 => by simp only [Rep] at h1 h2; subst h1 h2; simp
  | .arr n e, l, m, cx, cy, hf, h1, h2 => by
    simp only [Rep] at h1 h2
    have hf' : e.flatB = true := by simpa [Ty.flatB] using hf
    constructor
    · rintro rfl
      refine List.ext_getElem (by omega) fun i i1 i2 => ?_
      exact (Rep.inj hf' (h1.2.2 i i1) (h2.2.2 i i2)).1 rfl
    · intro e0
      have e0 : l = m := e0
      subst e0
      exact chunk_ext h1.2.1 h2.2.1 fun i hi => (Rep.inj hf' (h1.2.2 i (by omega)) (h2.2.2 i (by omega))).2 rfl
  | .nil, _, _, _, _, _, h1, h2 => by simp only [Rep] at h1 h2; subst h1 h2; simp
  | .cons a b, x, y, cx, cy, hf, h1, h2 => by
    simp only [Rep] at h1 h2
    simp only [Ty.flatB, Bool.and_eq_true] at hf
    obtain ⟨c1, c2, rfl, a1, a2⟩ := h1
    obtain ⟨d1, d2, rfl, b1, b2⟩ := h2
    have hl : c1.length = d1.length := by rw [a1.length, b1.length]
    rw [show c1 ++ c2 = d1 ++ d2 ↔ c1 = d1 ∧ c2 = d2 from ⟨fun e => List.append_inj e hl, fun ⟨e1, e2⟩ => by rw [e1, e2]⟩, Rep.inj hf.1 a1 b1, Rep.inj hf.2 a2 b2]
    exact ⟨fun h => Prod.ext h.1 h.2, fun h => by rw [h]; exact ⟨rfl, rfl⟩⟩

/-- Fields have names, and no type is one that the model stands in for. -/
def eqOkB (P : Program) : Ty → TypeId → Bool
  | .arr _ e, id => e.size != 0 && (match P.underlying id with | some (.array _ eid) => eqOkB P e eid | _ => false)
  | .cons a b, id => !P.stoodInHeld id && (match P.underlying id with
      | some (.struct fs) => (match fs.toList with
        | f :: r => f.name != "_" && eqOkB P a f.type && eqOkF P b r
        | [] => false)
      | _ => false)
  | .nil, _ => false
  | _, _ => true
where
  eqOkF (P : Program) : Ty → List Field → Bool
  | .nil, [] => true
  | .cons a b, f :: r => f.name != "_" && eqOkB P a f.type && eqOkF P b r
  | _, _ => false

theorem wrap_int {k : IntKind} {n : Int} : (Ty.int k).wrap [.int k n] = .int k n := rfl
theorem wrap_bool {b : Bool} : Ty.bool.wrap [.bool b] = .bool b := rfl

/-- Equality at one type. -/
def EqA (P : Program) (t : Ty) : Prop := ∀ (id : TypeId) (d : Nat), TyOf P t id → eqOkB P t id = true → t.dep ≤ d → ∀ (w : World) (cx cy : List Value), Fl t cx → Fl t cy →
  ∃ r : Bool, (Op.equalIn d id (t.wrap cx) (t.wrap cy)).run P w = .ok r w ∧ (r = true ↔ cx = cy)
/-- Equality along the fields of a struct. -/
def EqF (P : Program) (t : Ty) : Prop := ∀ (fs : List Field) (off d : Nat), TyOf.fields P t fs off → eqOkB.eqOkF P t fs = true → t.dep ≤ d + 1 → ∀ (w : World) (xs ys : Array Value), Fl t (xs.toList.drop off) → Fl t (ys.toList.drop off) →
  ∃ r : Bool, (Op.eqFields d xs ys fs).run P w = .ok r w ∧ (r = true ↔ xs.toList.drop off = ys.toList.drop off)

theorem eqItems_run {e : Ty} {eid : TypeId} {d : Nat} (IH : EqA P e) (ht : TyOf P e eid) (ho : eqOkB P e eid = true) (hd : e.dep ≤ d) (hs : 0 < e.size) (w : World) (xs ys : Array Value) :
    ∀ is : List Nat, (∀ i ∈ is, i * e.size + e.size ≤ xs.size ∧ i * e.size + e.size ≤ ys.size ∧ Fl e ((xs.toList.drop (i * e.size)).take e.size) ∧ Fl e ((ys.toList.drop (i * e.size)).take e.size)) →
    ∃ r : Bool, (Op.eqItems d eid e.size xs ys is).run P w = .ok r w ∧ (r = true ↔ ∀ i ∈ is, (xs.toList.drop (i * e.size)).take e.size = (ys.toList.drop (i * e.size)).take e.size)
  | [], _ => ⟨true, by simp [Op.eqItems], by simp⟩
  | i :: is, h => by
    obtain ⟨h1, h2, h3, h4⟩ := h i (by simp)
    obtain ⟨r, hr, hq⟩ := IH eid d ht ho hd w _ _ h3 h4
    obtain ⟨r', hr', hq'⟩ := eqItems_run IH ht ho hd hs w xs ys is fun j hj => h j (by simp [hj])
    simp only [Op.eqItems, Sem.run_bind, run_part ht hs h1 w, run_part ht hs h2 w, hr, Result.andThen_ok]
    cases r
    · exact ⟨false, by simp, by simp only [Bool.false_eq_true, false_iff]; intro hh; exact absurd (hq.2 (hh i (by simp))) (by simp)⟩
    · exact ⟨r', by simpa using hr', by rw [hq']; simp [hq.1 rfl]⟩

theorem cells_of {t : Ty} {id : TypeId} (ht : TyOf P t id) : P.cellsOf id = t.size := by
  obtain ⟨d, h1, h2⟩ := ht.info
  have := h1.size
  simp only [Option.map_eq_some_iff] at this
  obtain ⟨i, hi, he⟩ := this
  unfold Program.cellsOf
  simp [hi, he]

theorem eq_run : ∀ t : Ty, EqA P t ∧ EqF P t
  | .int k => by
    refine ⟨fun id d ht _ hd w cx cy hx hy => ?_, fun fs off d h => ?_⟩
    · obtain ⟨d, rfl⟩ : ∃ d', d = d' + 1 := ⟨d - 1, by simp [Ty.dep] at hd; omega⟩
      obtain ⟨n, rfl⟩ := hx
      obtain ⟨m, rfl⟩ := hy
      exact ⟨n == m, run_equalIn_int w d id k k n m ht.under, by simp⟩
    · cases fs <;> simp [TyOf.fields] at h
  | .bool => by
    refine ⟨fun id d ht _ hd w cx cy hx hy => ?_, fun fs off d h => ?_⟩
    · obtain ⟨d, rfl⟩ : ∃ d', d = d' + 1 := ⟨d - 1, by simp [Ty.dep] at hd; omega⟩
      obtain ⟨n, rfl⟩ := hx
      obtain ⟨m, rfl⟩ := hy
      exact ⟨n == m, run_equalIn_bool ht.under n m, by simp⟩
    · cases fs <;> simp [TyOf.fields] at h
  | .slice e => ⟨fun _ _ _ _ _ _ _ _ hx _ => hx.elim, fun fs off d h => by cases fs <;> simp [TyOf.fields] at h⟩
  | .ptr e => ⟨fun _ _ _ _ _ _ _ _ hx _ => hx.elim, fun fs off d h => by cases fs <;> simp [TyOf.fields] at h⟩
  | .nil => by
    refine ⟨fun _ _ ht => ht.elim, fun fs off d h _ _ w xs ys hx hy => ?_⟩
    cases fs with
    | nil => simp only [Fl] at hx hy; exact ⟨true, by simp [Op.eqFields], by simp [hx, hy]⟩
    | cons f r => simp [TyOf.fields] at h
  | .arr n e => by
    refine ⟨fun id d ht ho hd w cx cy hx hy => ?_, fun fs off d h => by cases fs <;> simp [TyOf.fields] at h⟩
    obtain ⟨d, rfl⟩ : ∃ d', d = d' + 1 := ⟨d - 1, by simp [Ty.dep] at hd; omega⟩
    obtain ⟨eid, h1, h2⟩ := ht
    simp only [eqOkB, h1.under, Bool.and_eq_true, bne_iff_ne] at ho
    obtain ⟨hs, ho⟩ := ho
    obtain ⟨i, hi⟩ := info_of_underlying (h2.info.choose_spec.1.under)
    have hce := cells_of h2
    rw [show (Ty.arr n e).wrap cx = .agg cx.toArray from rfl, show (Ty.arr n e).wrap cy = .agg cy.toArray from rfl, run_equalIn_array w d _ _ h1.under hi, hce]
    have hb : ∀ i, i < n → i * e.size + e.size ≤ n * e.size := fun i hi => by rw [← Nat.succ_mul]; exact Nat.mul_le_mul_right _ hi
    obtain ⟨r, hr, hq⟩ := eqItems_run (eq_run e).1 h2 ho (by simp [Ty.dep] at hd; omega) (by omega) w cx.toArray cy.toArray (List.range n) fun i hi => by
      have hi := List.mem_range.1 hi
      exact ⟨by simpa [hx.1] using hb i hi, by simpa [hy.1] using hb i hi, by simpa using hx.2 i hi, by simpa using hy.2 i hi⟩
    exact ⟨r, hr, by rw [hq]; exact ⟨fun h => chunk_ext hx.1 hy.1 fun i hi => by simpa using h i (List.mem_range.2 hi), fun h => by rw [h]; simp⟩⟩
  | .cons a b => by
    have hF : EqF P (.cons a b) := by
      intro fs off d h ho hd w xs ys hx hy
      cases fs with
      | nil => simp [TyOf.fields] at h
      | cons f r =>
        simp only [TyOf.fields] at h
        simp only [eqOkB.eqOkF, Bool.and_eq_true, bne_iff_ne] at ho
        obtain ⟨h0, h1, h2, h3⟩ := h
        simp only [Fl] at hx hy
        obtain ⟨c1, c2, ex, x1, x2⟩ := hx
        obtain ⟨d1, d2, ey, y1, y2⟩ := hy
        have hxs : xs.size = off + (a.size + b.size) ∨ xs.size < off + 1 := by
          have := congrArg List.length ex
          simp [x1.length, x2.length] at this
          omega
        have hys : ys.size = off + (a.size + b.size) ∨ ys.size < off + 1 := by
          have := congrArg List.length ey
          simp [y1.length, y2.length] at this
          omega
        have tx : (xs.toList.drop off).take a.size = c1 := by rw [ex, ← x1.length, List.take_left]
        have ty : (ys.toList.drop off).take a.size = d1 := by rw [ey, ← y1.length, List.take_left]
        have dx : xs.toList.drop (off + a.size) = c2 := by rw [← List.drop_drop, ex, ← x1.length, List.drop_left]
        have dy : ys.toList.drop (off + a.size) = d2 := by rw [← List.drop_drop, ey, ← y1.length, List.drop_left]
        have lx : off + a.size ≤ xs.size := by
          have := congrArg List.length ex
          simp [x1.length] at this
          omega
        have ly : off + a.size ≤ ys.size := by
          have := congrArg List.length ey
          simp [y1.length] at this
          omega
        simp only [Ty.dep] at hd
        obtain ⟨q, hq1, hq2⟩ := (eq_run a).1 f.type d h1 ho.1.2 (by omega) w c1 d1 x1 y1
        obtain ⟨q', hq1', hq2'⟩ := (eq_run b).2 r (off + a.size) d h3 ho.2 (by omega) w xs ys (by rw [dx]; exact x2) (by rw [dy]; exact y2)
        have px := run_part h1 (cs := xs) (off := off) (by omega) lx w
        have py := run_part h1 (cs := ys) (off := off) (by omega) ly w
        rw [tx] at px
        rw [ty] at py
        simp only [Op.eqFields, ho.1.1, h0, ne_eq, not_false_eq_true, if_true, Sem.run_bind, px, py, hq1, Result.andThen_ok]
        rw [ex, ey, show c1 ++ c2 = d1 ++ d2 ↔ c1 = d1 ∧ c2 = d2 from ⟨fun e => List.append_inj e (by rw [x1.length, y1.length]), fun ⟨e1, e2⟩ => by rw [e1, e2]⟩]
        rw [dx, dy] at hq2'
        cases q
        · exact ⟨false, by simp, by simp only [Bool.false_eq_true, false_iff]; intro hh; exact absurd (hq2.2 hh.1) (by simp)⟩
        · exact ⟨q', by simpa using hq1', by rw [hq2']; simp [hq2.1 rfl]⟩
    refine ⟨fun id d ht ho hd w cx cy hx hy => ?_, hF⟩
    obtain ⟨d, rfl⟩ : ∃ d', d = d' + 1 := ⟨d - 1, by simp [Ty.dep] at hd; omega⟩
    obtain ⟨fs, h1, h2⟩ := ht
    simp only [eqOkB, h1.under, Bool.and_eq_true, Bool.not_eq_true'] at ho
    have hfo : P.fieldsOf id = fs := by unfold Program.fieldsOf; rw [h1.under]
    rw [show (Ty.cons a b).wrap cx = .agg cx.toArray from rfl, show (Ty.cons a b).wrap cy = .agg cy.toArray from rfl, run_equalIn_agg w d id _ _ (by rw [hfo]; exact h1.under) ho.1, hfo]
    obtain ⟨r, hr, hq⟩ := hF fs.toList 0 d (by
      cases hfs : fs.toList with
      | nil => rw [hfs] at h2; exact h2.elim
      | cons f r => rw [hfs] at h2; simp only [TyOf.fields, Nat.zero_add]; exact h2) (by
      have := ho.2
      cases hfs : fs.toList with
      | nil => rw [hfs] at this; cases this
      | cons f r => rw [hfs] at this; exact this) hd w cx.toArray cy.toArray (by simpa using hx) (by simpa using hy)
    exact ⟨r, hr, by simpa using hq⟩


theorem equal_run {t : Ty} {id : TypeId} (ht : TyOf P t id) (ho : eqOkB P t id = true) (hd : t.dep ≤ 10000) (hf : t.flatB = true) {x y : t.den} {cx cy : List Value} (hx : Rep M t x cx) (hy : Rep M t y cy) (w : World) :
    ∃ r : Bool, (Op.equal id (t.wrap cx) (t.wrap cy)).run P w = .ok r w ∧ (r = true ↔ x = y) := by
  obtain ⟨r, hr, hq⟩ := (eq_run t).1 id 10000 ht ho hd w cx cy (hx.fl hf) (hy.fl hf)
  exact ⟨r, hr, hq.trans (hx.inj hf hy)⟩

/-! ### Keys of maps -/
def CkA (P : Program) (em : Bool) (t : Ty) : Prop := ∀ (id : TypeId) (d : Nat), TyOf P t id → eqOkB P t id = true → t.dep ≤ d → ∀ (w : World) (cx : List Value), Fl t cx → (Instr.checkKey em d id (t.wrap cx)).run P w = .ok () w
def ckFields (em : Bool) (d : Nat) (xs : Array Value) : List Field → Sem Unit
  | [] => pure ()
  | f :: r => if f.name ≠ "_" then do Instr.checkKey em d f.type (← part f.type xs f.offset); ckFields em d xs r else ckFields em d xs r
def CkF (P : Program) (em : Bool) (t : Ty) : Prop := ∀ (fs : List Field) (off d : Nat), TyOf.fields P t fs off → eqOkB.eqOkF P t fs = true → t.dep ≤ d + 1 → ∀ (w : World) (xs : Array Value), Fl t (xs.toList.drop off) → (ckFields em d xs fs).run P w = .ok () w

theorem ck_run (em : Bool) : ∀ t : Ty, CkA P em t ∧ CkF P em t
  | .int k => by
    refine ⟨fun id d ht _ hd w cx hx => ?_, fun fs off d h => ?_⟩
    · obtain ⟨d, rfl⟩ : ∃ d', d = d' + 1 := ⟨d - 1, by simp [Ty.dep] at hd; omega⟩
      obtain ⟨n, rfl⟩ := hx
      have hu : P.underlying id = some (.int k) := ht.under
      simp [Instr.checkKey, run_underlying hu, wrap_int]
    · cases fs <;> simp [TyOf.fields] at h
  | .bool => by
    refine ⟨fun id d ht _ hd w cx hx => ?_, fun fs off d h => ?_⟩
    · obtain ⟨d, rfl⟩ : ∃ d', d = d' + 1 := ⟨d - 1, by simp [Ty.dep] at hd; omega⟩
      obtain ⟨n, rfl⟩ := hx
      have hu : P.underlying id = some .bool := ht.under
      simp [Instr.checkKey, run_underlying hu, wrap_bool]
    · cases fs <;> simp [TyOf.fields] at h
  | .slice e => ⟨fun _ _ _ _ _ _ _ hx => hx.elim, fun fs off d h => by cases fs <;> simp [TyOf.fields] at h⟩
  | .ptr e => ⟨fun _ _ _ _ _ _ _ hx => hx.elim, fun fs off d h => by cases fs <;> simp [TyOf.fields] at h⟩
  | .nil => by
    refine ⟨fun _ _ ht => ht.elim, fun fs off d h _ _ w xs hx => ?_⟩
    cases fs with
    | nil => simp [ckFields]
    | cons f r => simp [TyOf.fields] at h
  | .arr n e => by
    refine ⟨fun id d ht ho hd w cx hx => ?_, fun fs off d h => by cases fs <;> simp [TyOf.fields] at h⟩
    obtain ⟨d, rfl⟩ : ∃ d', d = d' + 1 := ⟨d - 1, by simp [Ty.dep] at hd; omega⟩
    obtain ⟨eid, h1, h2⟩ := ht
    simp only [eqOkB, h1.under, Bool.and_eq_true, bne_iff_ne] at ho
    obtain ⟨hs, ho⟩ := ho
    obtain ⟨i, hi⟩ := info_of_underlying (h2.info.choose_spec.1.under)
    have hce := cells_of h2
    have hb : ∀ i, i < n → i * e.size + e.size ≤ n * e.size := fun i hi => by rw [← Nat.succ_mul]; exact Nat.mul_le_mul_right _ hi
    rw [show (Ty.arr n e).wrap cx = .agg cx.toArray from rfl, Instr.checkKey]
    simp only [Sem.run_bind, run_underlying h1.under, Result.andThen_ok]
    simp only [Std.Legacy.Range.forIn_eq_forIn_range', Std.Legacy.Range.size, Nat.sub_zero, Nat.add_one_sub_one, Nat.div_one]
    have each : ∀ j ∈ List.range' 0 n, j < n := fun j hj => by simpa using hj
    generalize List.range' 0 n = is at each
    induction is with
    | nil => simp
    | cons j is ih =>
      have hj := each j (by simp)
      have p1 := run_part h2 (cs := cx.toArray) (off := j * e.size) (by omega) (by simpa [hx.1] using hb j hj) w
      have p2 := (ck_run em e).1 eid d h2 ho (by simp [Ty.dep] at hd; omega) w _ (by simpa using hx.2 j hj)
      simp only [List.forIn_cons, Sem.run_bind, run_sizeOf w hi, hce, Result.andThen_ok, p1, p2, Sem.run_pure]
      exact ih fun y hy => each y (by simp [hy])
  | .cons a b => by
    have hF : CkF P em (.cons a b) := by
      intro fs off d h ho hd w xs hx
      cases fs with
      | nil => simp [TyOf.fields] at h
      | cons f r =>
        simp only [TyOf.fields] at h
        simp only [eqOkB.eqOkF, Bool.and_eq_true, bne_iff_ne] at ho
        obtain ⟨h0, h1, h2, h3⟩ := h
        simp only [Fl] at hx
        obtain ⟨c1, c2, ex, x1, x2⟩ := hx
        have tx : (xs.toList.drop off).take a.size = c1 := by rw [ex, ← x1.length, List.take_left]
        have dx : xs.toList.drop (off + a.size) = c2 := by rw [← List.drop_drop, ex, ← x1.length, List.drop_left]
        have lx : off + a.size ≤ xs.size := by
          have := congrArg List.length ex
          simp [x1.length] at this
          omega
        simp only [Ty.dep] at hd
        have q1 := (ck_run em a).1 f.type d h1 ho.1.2 (by omega) w c1 x1
        have q2 := (ck_run em b).2 r (off + a.size) d h3 ho.2 (by omega) w xs (by rw [dx]; exact x2)
        have px := run_part h1 (cs := xs) (off := off) (by omega) lx w
        rw [tx] at px
        simp only [ckFields, ho.1.1, h0, ne_eq, not_false_eq_true, if_true, Sem.run_bind, px, q1, Result.andThen_ok]
        exact q2
    refine ⟨fun id d ht ho hd w cx hx => ?_, hF⟩
    obtain ⟨d, rfl⟩ : ∃ d', d = d' + 1 := ⟨d - 1, by simp [Ty.dep] at hd; omega⟩
    obtain ⟨fs, h1, h2⟩ := ht
    simp only [eqOkB, h1.under, Bool.and_eq_true, Bool.not_eq_true'] at ho
    have hr := hF fs.toList 0 d (by
      cases hfs : fs.toList with
      | nil => rw [hfs] at h2; exact h2.elim
      | cons f r => rw [hfs] at h2; simp only [TyOf.fields, Nat.zero_add]; exact h2) (by
      have := ho.2
      cases hfs : fs.toList with
      | nil => rw [hfs] at this; cases this
      | cons f r => rw [hfs] at this; exact this) hd w cx.toArray (by simpa using hx)
    rw [show (Ty.cons a b).wrap cx = .agg cx.toArray from rfl, Instr.checkKey]
    simp only [Sem.run_bind, run_underlying h1.under, Result.andThen_ok]
    rw [← Array.forIn_toList]
    clear h2 ho
    generalize fs.toList = L at hr
    generalize Result.ok () w = R at hr
    induction L generalizing w with
    | nil => simpa [ckFields] using hr
    | cons f L ih =>
      simp only [List.forIn_cons, Sem.run_bind]
      by_cases hn : f.name = "_"
      · simp only [ckFields, hn, ne_eq, not_true_eq_false, if_false] at hr
        simp only [hn, ne_eq, not_true_eq_false, if_false, Sem.run_pure, Result.andThen_ok]
        exact ih w hr
      · simp only [ckFields, hn, ne_eq, not_false_eq_true, if_true, Sem.run_bind] at hr
        simp only [hn, ne_eq, not_false_eq_true, if_true, Sem.run_bind]
        generalize (part f.type cx.toArray f.offset).run P w = r1 at hr
        cases r1 with
        | ok a w1 =>
          simp only [Result.andThen_ok] at hr ⊢
          generalize (Instr.checkKey em d f.type a).run P w1 = r2 at hr
          cases r2 with
          | ok u w2 =>
            simp only [Result.andThen_ok, Sem.run_pure] at hr ⊢
            simpa using ih w2 hr
          | halt x w2 => simpa [Result.andThen] using hr
        | halt x w1 => simpa [Result.andThen] using hr
end Ox

namespace Ox
open Go Go.RowKit
variable {X : Ctx} {s : S} {M : Mem} {ρ : Env} {a : Act} {w w' : World} {QA : Exit → S → Prop} {all l : List Oper} {o : Oper} {P : Program}

def Ty.dec : (t : Ty) → DecidableEq t.den
  | .int _ => inferInstanceAs (DecidableEq Int)
  | .bool => inferInstanceAs (DecidableEq Bool)
  | .slice e => letI := e.dec; inferInstanceAs (DecidableEq (List e.den))
  | .ptr e => letI := e.dec; inferInstanceAs (DecidableEq (Option e.den))
  | .arr _ e => letI := e.dec; inferInstanceAs (DecidableEq (List e.den))
  | .nil => inferInstanceAs (DecidableEq Unit)
  | .cons a b => letI := a.dec; letI := b.dec; inferInstanceAs (DecidableEq (a.den × b.den))
def Ty.eqB (t : Ty) (x y : t.den) : Bool := @decide (x = y) (t.dec x y)
theorem Ty.eqB_iff {t : Ty} {x y : t.den} : t.eqB x y = true ↔ x = y := by unfold Ty.eqB; exact @decide_eq_true_iff _ (t.dec x y)

abbrev Ent (kt vt : Ty) := kt.den × vt.den × Nat
/-- Where a key is. -/
def mIdx {kt vt : Ty} (es : List (Ent kt vt)) (x : kt.den) : Option Nat := es.findIdx? fun e => kt.eqB x e.1

structure KeyOK (P : Program) (t : Ty) (id : TypeId) : Prop where
  ty : TyOf P t id
  ok : eqOkB P t id = true
  dep : t.dep ≤ 10000
  flat : t.flatB = true

theorem asking_run {kt vt : Ty} {kid : TypeId} (hk : KeyOK P kt kid) {x : kt.den} {cx : List Value} (hx : Rep M kt x cx) (w : World) :
    ∀ (es : List (Ent kt vt)) (ms : List MapEntry) (i : Nat), MapRep M kt vt es ms →
    match mIdx es x with
    | none => (Instr.findAsking kid (kt.wrap cx) ms i).run P w = .ok none w
    | some j => ∃ e, ms[j]? = some e ∧ (Instr.findAsking kid (kt.wrap cx) ms i).run P w = .ok (some (i + j, e.val)) w
  | [], [], i, _ => by simp [mIdx, Instr.findAsking]
  | e :: es, m :: ms, i, h => by
    simp only [MapRep] at h
    obtain ⟨⟨⟨kc, hkc, hke⟩, _, _⟩, h2⟩ := h
    obtain ⟨r, hr, hq⟩ := equal_run hk.ty hk.ok hk.dep hk.flat hx hkc w
    have ih := asking_run hk hx w es ms (i + 1) h2
    simp only [mIdx, List.findIdx?_cons, Instr.findAsking, Sem.run_bind, hke, hr, Result.andThen_ok] at ih ⊢
    cases r
    · have hne : kt.eqB x e.1 = false := by
        cases hb : kt.eqB x e.1
        · rfl
        · exact absurd (hq.2 (Ty.eqB_iff.1 hb)) (by simp)
      rw [hne]
      simp only [Bool.false_eq_true, if_false]
      cases hf : es.findIdx? (fun e => kt.eqB x e.1) with
      | none => rw [hf] at ih; simpa using ih
      | some j =>
        rw [hf] at ih
        obtain ⟨e', h3, h4⟩ := ih
        refine ⟨e', by simpa using h3, ?_⟩
        rw [h4]
        simp only [Result.ok.injEq, Option.some.injEq, Prod.mk.injEq, and_true]
        show i + 1 + j = i + (j + 1)
        omega
    · rw [Ty.eqB_iff.2 (hq.1 rfl)]
      exact ⟨m, by simp, by simp⟩
  | [], _ :: _, _, h => h.elim
  | _ :: _, [], _, h => h.elim


theorem now_int {kt vt : Ty} {d : TypeDesc} (hd : (∃ k, kt = .int k ∧ d = .int k) ∨ (kt = .bool ∧ d = .bool)) {x : kt.den} {cx : List Value} (hx : Rep M kt x cx) :
    ∀ (es : List (Ent kt vt)) (ms : List MapEntry) (i : Nat), MapRep M kt vt es ms →
    match mIdx es x with
    | none => Instr.findNow d (kt.wrap cx) ms i = some none
    | some j => ∃ e, ms[j]? = some e ∧ Instr.findNow d (kt.wrap cx) ms i = some (some (i + j, e.val))
  | [], [], i, _ => by simp [mIdx, Instr.findNow]
  | e :: es, m :: ms, i, h => by
    simp only [MapRep] at h
    obtain ⟨⟨⟨kc, hkc, hke⟩, _, _⟩, h2⟩ := h
    have ih := now_int hd hx es ms (i + 1) h2
    have hs : Instr.sameNow d (kt.wrap cx) m.key = some (kt.eqB x e.1) := by
      rw [hke]
      rcases hd with ⟨k, rfl, rfl⟩ | ⟨rfl, rfl⟩
      · simp only [Rep] at hx hkc
        subst hx hkc
        simp only [wrap_int, Instr.sameNow, if_true, Option.some.injEq]
        rw [Bool.eq_iff_iff, Ty.eqB_iff, beq_iff_eq]
      · simp only [Rep] at hx hkc
        subst hx hkc
        simp only [wrap_bool, Instr.sameNow, Option.some.injEq]
        rw [Bool.eq_iff_iff, Ty.eqB_iff, beq_iff_eq]
    simp only [mIdx, List.findIdx?_cons, Instr.findNow, hs] at ih ⊢
    cases hb : kt.eqB x e.1
    · simp only [Bool.false_eq_true, if_false]
      cases hf : es.findIdx? (fun e => kt.eqB x e.1) with
      | none => rw [hf] at ih; simpa using ih
      | some j =>
        rw [hf] at ih
        obtain ⟨e', h3, h4⟩ := ih
        refine ⟨e', by simpa using h3, ?_⟩
        rw [h4]
        simp only [Option.some.injEq, Prod.mk.injEq, and_true]
        show i + 1 + j = i + (j + 1)
        omega
    · exact ⟨m, by simp, by simp⟩
  | [], _ :: _, _, h => h.elim
  | _ :: _, [], _, h => h.elim

theorem now_agg {d : TypeDesc} {cs : Array Value} (hd : (∃ n e, d = .array n e) ∨ ∃ fs, d = .struct fs) : ∀ (ms : List MapEntry) (i : Nat), Instr.findNow d (.agg cs) ms i = if ms = [] then some none else none
  | [], i => by simp [Instr.findNow]
  | m :: ms, i => by rcases hd with ⟨n, e, rfl⟩ | ⟨fs, rfl⟩ <;> simp [Instr.findNow, Instr.sameNow]

theorem find_run {kt vt : Ty} {kid : TypeId} (hk : KeyOK P kt kid) {x : kt.den} {cx : List Value} (hx : Rep M kt x cx) (w : World) (es : List (Ent kt vt)) (ms : List MapEntry) (h : MapRep M kt vt es ms) :
    match mIdx es x with
    | none => (Instr.findKey kid (kt.wrap cx) ms).run P w = .ok none w
    | some j => ∃ e, ms[j]? = some e ∧ (Instr.findKey kid (kt.wrap cx) ms).run P w = .ok (some (j, e.val)) w := by
  have ask := asking_run hk hx w es ms 0 h
  have wide : ∀ d, P.underlying kid = some d → ((∃ n e, d = .array n e) ∨ ∃ fs, d = .struct fs) → kt.wrap cx = .agg cx.toArray → _ := fun d hu hd hw => by
    have hn := now_agg (cs := cx.toArray) hd ms 0
    rw [← hw] at hn
    show match mIdx es x with
      | none => (Instr.findKey kid (kt.wrap cx) ms).run P w = .ok none w
      | some j => ∃ e, ms[j]? = some e ∧ (Instr.findKey kid (kt.wrap cx) ms).run P w = .ok (some (j, e.val)) w
    unfold Instr.findKey
    simp only [Sem.run_bind, run_underlying hu, Result.andThen_ok, hn]
    by_cases hms : ms = []
    · subst hms
      cases es with
      | nil => simp [mIdx]
      | cons _ _ => exact h.elim
    · simp only [hms, if_false]
      cases hf : mIdx es x with
      | none => rw [hf] at ask; exact ask
      | some j => rw [hf] at ask; simpa using ask
  obtain ⟨hty, _, _, hfl⟩ := hk
  have plain : ∀ d, P.underlying kid = some d → ((∃ k, kt = .int k ∧ d = .int k) ∨ (kt = .bool ∧ d = .bool)) → match mIdx es x with
      | none => (Instr.findKey kid (kt.wrap cx) ms).run P w = .ok none w
      | some j => ∃ e, ms[j]? = some e ∧ (Instr.findKey kid (kt.wrap cx) ms).run P w = .ok (some (j, e.val)) w := fun d hu hd => by
    have hn := now_int hd hx es ms 0 h
    unfold Instr.findKey
    simp only [Sem.run_bind, run_underlying hu, Result.andThen_ok]
    cases hf : mIdx es x with
    | none => rw [hf] at hn; simp only at hn; rw [hn]; rfl
    | some j =>
      rw [hf] at hn
      obtain ⟨e, h3, h4⟩ := hn
      refine ⟨e, h3, ?_⟩
      rw [h4]
      simp
  cases kt with
  | int k => exact plain _ hty.under (.inl ⟨k, rfl, rfl⟩)
  | bool => exact plain _ hty.under (.inr ⟨rfl, rfl⟩)
  | arr n e => obtain ⟨eid, h1, _⟩ := hty; exact wide _ h1.under (.inl ⟨_, _, rfl⟩) rfl
  | cons a b => obtain ⟨fs, h1, _⟩ := hty; exact wide _ h1.under (.inr ⟨_, rfl⟩) rfl
  | nil => exact hty.elim
  | slice e => simp [Ty.flatB] at hfl
  | ptr e => simp [Ty.flatB] at hfl

theorem key_checks {kt : Ty} {kid : TypeId} (hk : KeyOK P kt kid) {x : kt.den} {cx : List Value} (hx : Rep M kt x cx) (em : Bool) (w : World) : (Instr.checkKey em 10000 kid (kt.wrap cx)).run P w = .ok () w :=
  (ck_run em kt).1 kid 10000 hk.ty hk.ok hk.dep w cx (hx.fl hk.flat)


/-! ### Keys stay -/
theorem Fl.bits : ∀ {t : Ty} {cs : List Value}, Fl t cs → ∀ c ∈ cs, ∀ n, Instr.sameBits n c c = true
  | .int _, _, h, c, hc, n => by obtain ⟨m, rfl⟩ := h; simp only [List.mem_singleton] at hc; subst hc; cases n <;> simp [Instr.sameBits]
  | .bool, _, h, c, hc, n => by obtain ⟨m, rfl⟩ := h; simp only [List.mem_singleton] at hc; subst hc; cases n <;> simp [Instr.sameBits]
  | .nil, _, h, c, hc, n => by simp only [Fl] at h; subst h; cases hc
  | .cons a b, _, h, c, hc, n => by
    simp only [Fl] at h
    obtain ⟨c1, c2, rfl, h1, h2⟩ := h
    rcases List.mem_append.1 hc with e | e
    · exact h1.bits c e n
    · exact h2.bits c e n
  | .arr k e, cs, h, c, hc, n => by
    simp only [Fl] at h
    have h2 := h.2
    rw [← chunks_flatten e.size k cs h.1] at hc
    obtain ⟨l, hl, hcl⟩ := List.mem_flatten.1 hc
    obtain ⟨i, hi, rfl⟩ := List.mem_map.1 hl
    exact (h2 i (List.mem_range.1 hi)).bits c hcl n
  | .slice _, _, h, _, _, _ => h.elim
  | .ptr _, _, h, _, _, _ => h.elim

theorem sameBits_agg {n : Nat} {a : Array Value} (h : ∀ c ∈ a.toList, Instr.sameBits n c c = true) : Instr.sameBits (n + 1) (.agg a) (.agg a) = true := by
  simp only [Instr.sameBits, beq_self_eq_true, Bool.true_and, List.all_eq_true]
  intro p hp
  have : p.1 = p.2 ∧ p.1 ∈ a.toList := by
    generalize a.toList = L at hp
    induction L with
    | nil => simp at hp
    | cons x L ih =>
      simp only [List.zip_cons_cons, List.mem_cons] at hp
      rcases hp with rfl | hp
      · exact ⟨rfl, by simp⟩
      · exact ⟨(ih hp).1, by simp [(ih hp).2]⟩
  obtain ⟨x, y⟩ := p
  simp only at this
  obtain ⟨rfl, hm⟩ := this
  exact h x hm

theorem Fl.same {t : Ty} {cs : List Value} (h : Fl t cs) (hn : t ≠ .nil) : Instr.sameBits 10000 (t.wrap cs) (t.wrap cs) = true := by
  cases t with
  | int k => obtain ⟨m, rfl⟩ := h; simp [wrap_int, Instr.sameBits]
  | bool => obtain ⟨m, rfl⟩ := h; simp [wrap_bool, Instr.sameBits]
  | nil => exact absurd rfl hn
  | slice _ => exact h.elim
  | ptr _ => exact h.elim
  | arr k e => exact sameBits_agg (n := 9999) fun c hc => h.bits c (by simpa using hc) _
  | cons a b => exact sameBits_agg (n := 9999) fun c hc => h.bits c (by simpa using hc) _

theorem KeyOK.stays {kt : Ty} {kid : TypeId} (hk : KeyOK P kt kid) {x : kt.den} {cx cy : List Value} (hx : Rep M kt x cx) (hy : Rep M kt x cy) (w : World) : (Instr.keyThatStays (kt.wrap cy) (kt.wrap cx)).run P w = .ok (kt.wrap cx) w := by
  have e : cy = cx := (hy.inj hk.flat hx).2 rfl
  subst e
  have hs := (hx.fl hk.flat).same (by rintro rfl; exact hk.ty.elim)
  unfold Instr.keyThatStays
  simp [hs]

/-! ### What maps are as lists -/
def mGet {kt vt : Ty} (es : List (Ent kt vt)) (x : kt.den) (d : vt.den) : vt.den := match mIdx es x with | none => d | some j => ((es[j]?).map (·.2.1)).getD d
def mBorn {kt vt : Ty} (es : List (Ent kt vt)) (clk : Nat) (x : kt.den) : Nat := match mIdx es x with | none => clk | some j => ((es[j]?).map (·.2.2)).getD 0
def mPut {kt vt : Ty} (es : List (Ent kt vt)) (clk : Nat) (x : kt.den) (v : vt.den) : List (Ent kt vt) := match mIdx es x with | none => es ++ [(x, v, clk)] | some j => es.modify j fun e => (e.1, v, e.2.2)
def mEnt {kt vt : Ty} (es : List (Ent kt vt)) (clk : Nat) (x : kt.den) : List (Ent kt vt) := match mIdx es x with | none => es ++ [(x, vt.dflt, clk)] | some _ => es
def mClk {kt vt : Ty} (es : List (Ent kt vt)) (clk : Nat) (x : kt.den) : Nat := match mIdx es x with | none => clk + 1 | some _ => clk
def mSet {kt vt : Ty} (es : List (Ent kt vt)) (b : Int) (v : vt.den) : List (Ent kt vt) := match es.findIdx? (fun e => ((e.2.2 : Nat) : Int) == b) with | none => es | some j => es.modify j fun e => (e.1, v, e.2.2)

theorem MapRep.length {kt vt : Ty} : ∀ {es : List (Ent kt vt)} {ms : List MapEntry}, MapRep M kt vt es ms → ms.length = es.length
  | [], [], _ => rfl
  | _ :: _, _ :: _, h => by simp only [MapRep] at h; simp [h.2.length]
  | [], _ :: _, h => h.elim
  | _ :: _, [], h => h.elim
theorem MapRep.get {kt vt : Ty} : ∀ {es : List (Ent kt vt)} {ms : List MapEntry}, MapRep M kt vt es ms → ∀ {j : Nat} {m : MapEntry}, ms[j]? = some m → ∃ e, es[j]? = some e ∧ EntRep M kt vt e m
  | [], [], _, j, m, h => by simp at h
  | e :: es, m :: ms, h, j, m', hj => by
    simp only [MapRep] at h
    cases j with
    | zero => simp only [List.getElem?_cons_zero, Option.some.injEq] at hj; subst hj; exact ⟨e, by simp, h.1⟩
    | succ j => obtain ⟨e', h1, h2⟩ := h.2.get (by simpa using hj); exact ⟨e', by simpa using h1, h2⟩
  | [], _ :: _, h, _, _, _ => h.elim
  | _ :: _, [], h, _, _, _ => h.elim
theorem MapRep.snoc {kt vt : Ty} {x : Ent kt vt} {m : MapEntry} (hx : EntRep M kt vt x m) : ∀ {es : List (Ent kt vt)} {ms : List MapEntry}, MapRep M kt vt es ms → MapRep M kt vt (es ++ [x]) (ms ++ [m])
  | [], [], _ => by simp only [List.nil_append, MapRep]; exact ⟨hx, trivial⟩
  | _ :: _, _ :: _, h => by simp only [MapRep, List.cons_append] at h ⊢; exact ⟨h.1, h.2.snoc hx⟩
  | [], _ :: _, h => h.elim
  | _ :: _, [], h => h.elim
theorem MapRep.mod {kt vt : Ty} {f : Ent kt vt → Ent kt vt} {g : MapEntry → MapEntry} : ∀ {es : List (Ent kt vt)} {ms : List MapEntry} (j : Nat), MapRep M kt vt es ms → (∀ e m, es[j]? = some e → ms[j]? = some m → EntRep M kt vt e m → EntRep M kt vt (f e) (g m)) → MapRep M kt vt (es.modify j f) (ms.modify j g)
  | [], [], j, _, _ => by simp [MapRep]
  | e :: es, m :: ms, 0, h, hf => by simp only [MapRep, List.modify_zero_cons] at h ⊢; exact ⟨hf e m (by simp) (by simp) h.1, h.2⟩
  | e :: es, m :: ms, j + 1, h, hf => by simp only [MapRep, List.modify_succ_cons] at h ⊢; exact ⟨h.1, h.2.mod j fun e' m' h1 h2 => hf e' m' (by simpa using h1) (by simpa using h2)⟩
  | [], _ :: _, _, h, _ => h.elim
  | _ :: _, [], _, h, _ => h.elim
theorem MapRep.filt {kt vt : Ty} {p : Ent kt vt → Bool} {q : MapEntry → Bool} : ∀ {es : List (Ent kt vt)} {ms : List MapEntry}, MapRep M kt vt es ms → (∀ e m, EntRep M kt vt e m → p e = q m) → MapRep M kt vt (es.filter p) (ms.filter q)
  | [], [], _, _ => trivial
  | e :: es, m :: ms, h, hp => by
    simp only [MapRep] at h
    have := hp e m h.1
    have ih := h.2.filt hp
    simp only [List.filter_cons, this]
    cases q m
    · simpa using ih
    · simp only [if_true, MapRep]; exact ⟨h.1, ih⟩
  | [], _ :: _, h, _ => h.elim
  | _ :: _, [], h, _ => h.elim

/-- A map of the call's own is turned. -/
theorem SAT.setMap (h : SAT X M ρ s w) {n : Nat} {kt vt : Ty} {es es' : List (Ent kt vt)} {clk clk' : Nat} {ms' : Array MapEntry} (hl : lk s.H n = some (.map kt vt es clk)) (hm : MapRep M kt vt es' ms'.toList) :
    SAT X M ρ ⟨s.L, updH s.H n (.map kt vt es' clk'), s.nx⟩ (ChangeMaps.setBlock w (ρ.blk n) (.map ms' clk')) := by
  have hok := (h.own _ _ hl).2.2
  simp only [HO.ok] at hok
  obtain ⟨h1, ms, h2, h3⟩ := hok
  have hlt := (Array.getElem?_eq_some_iff.1 h2).1
  refine h.upd hl ⟨rfl, rfl, rfl, by simp [ChangeMaps.setBlock], fun k hk hne => ?_⟩ rfl trivial ?_
  · have : ρ.blk n ≠ k := fun e => hne (by simp only [HO.at]; rw [e])
    simp only [ChangeMaps.setBlock, Array.getElem?_setIfInBounds]
    rw [if_neg this]
  · simp only [HO.ok]
    exact ⟨h1, ms', by simp only [ChangeMaps.setBlock, Array.getElem?_setIfInBounds]; simp [hlt], hm⟩

end Ox

namespace Ox
open Go Go.RowKit
variable {X : Ctx} {s : S} {M : Mem} {ρ : Env} {a : Act} {w w' : World} {QA : Exit → S → Prop} {all l : List Oper} {o : Oper} {P : Program}

/-- A map's type, and what its keys and values are. -/
structure MapT (P : Program) (kt vt : Ty) (t kid vid : TypeId) : Prop where
  under : P.underlying t = some (.map kid vid)
  key : KeyOK P kt kid
  val : TyOf P vt vid

theorem val_zero {vt : Ty} {vid : TypeId} (h : TyOf P vt vid) (w : World) : (zeroValue vid).run P w = .ok (vt.wrap vt.zc) w := by
  obtain ⟨d, h1, _⟩ := h.info
  exact h1.run_zero w

section
variable {kt vt : Ty} {t kid vid : TypeId} {es : List (Ent kt vt)} {ms : Array MapEntry} {clk b : Nat} {x : kt.den} {cx : List Value}

theorem run_lookup (hT : MapT P kt vt t kid vid) (hb : w.heap[b]? = some (.map ms clk)) (hm : MapRep M kt vt es ms.toList) (hx : Rep M kt x cx) :
    ∃ vc, Rep M vt (mGet es x vt.dflt) vc ∧ (Instr.lookup t (.map (some b)) (kt.wrap cx) false).run P w = .ok (vt.wrap vc) w := by
  have hf := find_run hT.key hx w es ms.toList hm
  unfold Instr.lookup
  simp only [Sem.run_bind, run_underlying hT.under, Result.andThen_ok, MapKept.run_getObj_map hb, Sem.run_pure, key_checks hT.key hx]
  unfold mGet
  cases hi : mIdx es x with
  | none =>
    rw [hi] at hf
    refine ⟨vt.zc, Ty.zc_rep M vt, ?_⟩
    simp [hf, val_zero hT.val]
  | some j =>
    rw [hi] at hf
    obtain ⟨e, h1, h2⟩ := hf
    obtain ⟨e', h3, ⟨_, ⟨vc, h4, h5⟩, _⟩⟩ := hm.get h1
    refine ⟨vc, by simp only [h3, Option.map_some, Option.getD_some]; exact h4, ?_⟩
    simp [h2, h5]

theorem run_put (hT : MapT P kt vt t kid vid) (hb : w.heap[b]? = some (.map ms clk)) (hm : MapRep M kt vt es ms.toList) (hx : Rep M kt x cx) {v : vt.den} {cv : List Value} (hv : Rep M vt v cv) :
    ∃ ms' : Array MapEntry, MapRep M kt vt (mPut es clk x v) ms'.toList ∧ (Instr.mapUpdate t (.map (some b)) (kt.wrap cx) (vt.wrap cv)).run P w = .ok () (ChangeMaps.setBlock w b (.map ms' (mClk es clk x))) := by
  have hf := find_run hT.key hx w es ms.toList hm
  unfold Instr.mapUpdate
  simp only [Sem.run_bind, run_underlying hT.under, Result.andThen_ok, MapKept.run_getObj_map hb, key_checks hT.key hx]
  unfold mPut mClk
  cases hi : mIdx es x with
  | none =>
    rw [hi] at hf
    refine ⟨ms.push { key := kt.wrap cx, val := vt.wrap cv, born := clk }, ?_, ?_⟩
    · simp only [Array.toList_push]
      exact MapRep.snoc ⟨⟨cx, hx, rfl⟩, ⟨cv, hv, rfl⟩, rfl⟩ hm
    · simp only [hf, Result.andThen_ok, MapKept.run_setObj_map _ hb]
      rfl
  | some j =>
    rw [hi] at hf
    obtain ⟨e, h1, h2⟩ := hf
    obtain ⟨e', h3, ⟨⟨kc, h4, h5⟩, h6, h7⟩⟩ := hm.get h1
    have hxe : e'.1 = x := by
      have := List.findIdx?_eq_some_iff_getElem.1 hi
      obtain ⟨hj, hp, _⟩ := this
      have h8 := Ty.eqB_iff.1 hp
      rw [List.getElem?_eq_getElem hj] at h3
      injection h3 with h3
      rw [← h3]; exact h8.symm
    have hkey : ((ms[j]?).map (·.key)).getD (kt.wrap cx) = kt.wrap kc := by
      rw [← Array.getElem?_toList, h1]; simp [h5]
    refine ⟨ms.modify j fun e => { e with key := kt.wrap cx, val := vt.wrap cv }, ?_, ?_⟩
    · rw [Array.toList_modify]
      refine hm.mod j fun e1 m1 g1 g2 g3 => ⟨⟨cx, ?_, rfl⟩, ⟨cv, hv, rfl⟩, g3.2.2⟩
      rw [h3] at g1
      injection g1 with g1
      subst g1
      rw [hxe]; exact hx
    · simp only [h2, Result.andThen_ok, hkey, Sem.run_bind, hT.key.stays hx (show Rep M kt x kc from hxe ▸ h4), MapKept.run_setObj_map _ hb]
      rfl

theorem run_ment (hT : MapT P kt vt t kid vid) (hb : w.heap[b]? = some (.map ms clk)) (hm : MapRep M kt vt es ms.toList) (hx : Rep M kt x cx) :
    ∃ (ms' : Array MapEntry) (vc : List Value), MapRep M kt vt (mEnt es clk x) ms'.toList ∧ Rep M vt (mGet es x vt.dflt) vc ∧
      (Instr.mapEntry t (.map (some b)) (kt.wrap cx)).run P w = .ok (.tuple #[vt.wrap vc, goInt (mBorn es clk x)]) (ChangeMaps.setBlock w b (.map ms' (mClk es clk x))) := by
  have hf := find_run hT.key hx w es ms.toList hm
  unfold Instr.mapEntry
  simp only [Sem.run_bind, run_underlying hT.under, Result.andThen_ok, MapKept.run_getObj_map hb, key_checks hT.key hx]
  unfold mEnt mClk mGet mBorn
  cases hi : mIdx es x with
  | none =>
    rw [hi] at hf
    refine ⟨ms.push { key := kt.wrap cx, val := vt.wrap vt.zc, born := clk }, vt.zc, ?_, Ty.zc_rep M vt, ?_⟩
    · simp only [Array.toList_push]
      exact MapRep.snoc ⟨⟨cx, hx, rfl⟩, ⟨vt.zc, Ty.zc_rep M vt, rfl⟩, rfl⟩ hm
    · simp only [hf, Result.andThen_ok, Sem.run_bind, val_zero hT.val, MapKept.run_setObj_map _ hb, Sem.run_pure]
      rfl
  | some j =>
    rw [hi] at hf
    obtain ⟨e, h1, h2⟩ := hf
    obtain ⟨e', h3, ⟨⟨kc, h4, h5⟩, ⟨vc, h6, h6'⟩, h7⟩⟩ := hm.get h1
    have hxe : e'.1 = x := by
      have := List.findIdx?_eq_some_iff_getElem.1 hi
      obtain ⟨hj, hp, _⟩ := this
      have h8 := Ty.eqB_iff.1 hp
      rw [List.getElem?_eq_getElem hj] at h3
      injection h3 with h3
      rw [← h3]; exact h8.symm
    have hkey : ((ms[j]?).map (·.key)).getD (kt.wrap cx) = kt.wrap kc := by
      rw [← Array.getElem?_toList, h1]; simp [h5]
    have hborn : ((ms[j]?).map (fun e => (e.born : Int))).getD 0 = (e'.2.2 : Int) := by
      rw [← Array.getElem?_toList, h1]; simp [h7]
    have hkx : Rep M kt x kc := hxe ▸ h4
    refine ⟨ms.modify j fun e => { e with key := kt.wrap cx }, vc, ?_, by simp only [h3, Option.map_some, Option.getD_some]; exact h6, ?_⟩
    · rw [Array.toList_modify]
      have := hm.mod (f := id) (g := fun e => { e with key := kt.wrap cx }) j fun e1 m1 g1 g2 g3 => ⟨⟨cx, by
        rw [h3] at g1
        injection g1 with g1
        subst g1
        show Rep M kt e'.1 cx
        rw [hxe]; exact hx, rfl⟩, g3.2.1, g3.2.2⟩
      rwa [List.modify_id] at this
    · simp only [h2, Result.andThen_ok, hkey, Sem.run_bind, hT.key.stays hx hkx, MapKept.run_setObj_map _ hb, Sem.run_pure, hborn, h6', h3, Option.map_some, Option.getD_some]
      rfl

theorem findIdx_born {n : Int} : ∀ {es : List (Ent kt vt)} {ms : List MapEntry}, MapRep M kt vt es ms → ms.findIdx? (fun e => (e.born : Int) == n) = es.findIdx? (fun e => ((e.2.2 : Nat) : Int) == n)
  | [], [], _ => rfl
  | e :: es, m :: ms, h => by
    simp only [MapRep] at h
    simp only [List.findIdx?_cons, h.1.2.2, findIdx_born h.2]
  | [], _ :: _, h => h.elim
  | _ :: _, [], h => h.elim

theorem run_est (hb : w.heap[b]? = some (.map ms clk)) (hm : MapRep M kt vt es ms.toList) {n : Nat} (hn : es.any (fun e => e.2.2 == n) = true) {v : vt.den} {cv : List Value} (hv : Rep M vt v cv) :
    ∃ ms' : Array MapEntry, MapRep M kt vt (mSet es n v) ms'.toList ∧ (Instr.entryStore t (.map (some b)) (.int .i64 n) (vt.wrap cv)).run P w = .ok () (ChangeMaps.setBlock w b (.map ms' clk)) := by
  unfold Instr.entryStore
  simp only [Sem.run_bind, Result.andThen_ok, MapKept.run_getObj_map hb, asInt, asIntOf, Sem.run_pure]
  have hfi := findIdx_born (n := (n : Int)) hm
  have hai : ms.findIdx? (fun e => (e.born : Int) == (n : Int)) = ms.toList.findIdx? (fun e => (e.born : Int) == (n : Int)) := by cases ms; simp
  rw [hai, hfi]
  unfold mSet
  cases hj : es.findIdx? (fun e => ((e.2.2 : Nat) : Int) == (n : Int)) with
  | none =>
    exfalso
    rw [List.findIdx?_eq_none_iff] at hj
    obtain ⟨e, he, hq⟩ := List.any_eq_true.1 hn
    have := hj e he
    simp at this hq
    omega
  | some j =>
    refine ⟨ms.modify j fun e => { e with val := vt.wrap cv }, ?_, ?_⟩
    · rw [Array.toList_modify]
      exact hm.mod j fun e1 m1 _ _ g3 => ⟨g3.1, ⟨cv, hv, rfl⟩, g3.2.2⟩
    · simp only [MapKept.run_setObj_map _ hb]
      rfl
end
end Ox

namespace Ox
open Go Go.RowKit
variable {X : Ctx} {s : S} {M : Mem} {ρ : Env} {a : Act} {w w' : World} {QA : Exit → S → Prop} {all l : List Oper} {o : Oper} {P : Program}
variable {kt vt : Ty} {t kid vid : TypeId} {es : List (Ent kt vt)} {ms : Array MapEntry} {clk b n d nx : Nat} {x : kt.den} {cx : List Value} {L : List (Nat × AV)} {H : List (Nat × HO)}
  {ty : TypeId} {ps : String} {af : Array Edge} {c1 c2 c3 : List Prop} {om ok ov : Operand}

theorem JL.did {v : AV} {s' : S} (hg : o.guard = none) (hn : notDef o.op = true) (hd : dstOk X.n o.dst) (h : ∀ M ρ a w, SAT X M ρ s w → REG X M ρ s a → Did X M ρ s v s' ((execOp a.eval o).run X.P w)) (k : JL X true all QA l (putS o.dst v s')) : JL X true all QA (o :: l) s := by
  intro M ρ a w h1 h2
  obtain ⟨ρ', w', nxt, e1, e2, e3, e4, e5, e6, e7⟩ := h M ρ a w h1 h2
  refine wpListIn_w (wanted_none hg) ?_
  have h2' : REG X M ρ' s' a := by
    have := h2.grow (H' := s'.H) (nx' := s'.nx) (Mem.le_refl M) e2 e3 (Mem.dle_refl M)
    rw [← e4] at this
    exact ⟨this.size, this.defers, this.reg⟩
  rcases e7 with ⟨z, rfl, hz⟩ | ⟨rfl, rfl⟩
  · exact wpIn_value hn e1 (k M ρ' _ w' (putS_sat e5) (h2'.putO hd.spec e6 hz))
  · exact wpIn_skipv hn e1 (k M ρ' _ w' (putS_sat e5) (h2'.putO hd.spec e6 (by simp only [AV.rv])))

theorem opd_map (hu : opd L om = some (c1, .lf (.mp n))) (hc : allP c1) (h2 : REG X M ρ ⟨L, H, nx⟩ a) : a.eval om = .map (some (ρ.blk n)) := by
  have := (opd_sound (s := ⟨L, H, nx⟩) hu hc h2).2
  rw [rv_lf] at this
  simp only [Leaf.at, Option.some.injEq] at this
  exact this.1.symm
theorem opd_val {y : vt.den} (hu : opd L om = some (c1, .val vt y)) (hc : allP c1) (h2 : REG X M ρ ⟨L, H, nx⟩ a) : ∃ cs, Rep M vt y cs ∧ a.eval om = vt.wrap cs := by
  have := (opd_sound (s := ⟨L, H, nx⟩) hu hc h2).2
  simpa only [AV.rv] using this
theorem own_map (h1 : SAT X M ρ ⟨L, H, nx⟩ w) (hl : lk H n = some (.map kt vt es clk)) : ∃ ms, w.heap[ρ.blk n]? = some (.map ms clk) ∧ MapRep M kt vt es ms.toList := by
  have := own_ok h1 hl
  simp only [HO.ok] at this
  exact this.2

theorem JL.mLook (hT : MapT X.P kt vt t kid vid) (hu : opd L om = some (c1, .lf (.mp n))) (hl : lk H n = some (.map kt vt es clk)) (hv : opd L ok = some (c2, .val kt x)) (hd : ltB d X.n = true) (hc : allP (c1 ++ c2))
    (k : JL X true all QA l ⟨(d, .val vt (mGet es x vt.dflt)) :: L, H, nx⟩) : JL X true all QA (⟨some d, .lookup t om ok false, ty, ps, af, none⟩ :: l) ⟨L, H, nx⟩ := by
  rw [allP_append] at hc
  refine JL.did rfl rfl (ltB_lt hd) (v := .val vt (mGet es x vt.dflt)) (s' := ⟨L, H, nx⟩) (fun M ρ a w h1 h2 => ?_) k
  obtain ⟨ms, hb, hm⟩ := own_map h1 hl
  obtain ⟨cx, hx, hxe⟩ := opd_val hv hc.2 h2
  obtain ⟨vc, r1, r2⟩ := run_lookup hT hb hm hx
  refine ⟨ρ, w, _, ?_, Env.upTo.refl _ _, Nat.le_refl _, rfl, h1, trivial, .inl ⟨_, rfl, by simp only [AV.rv]; exact ⟨vc, r1, rfl⟩⟩⟩
  simp only [execOp, opd_map hu hc.1 h2, hxe, Sem.run_bind, r2, Result.andThen_ok, Sem.run_pure]

theorem JL.mIns (hT : MapT X.P kt vt t kid vid) (hu : opd L om = some (c1, .lf (.mp n))) (hl : lk H n = some (.map kt vt es clk)) (hv : opd L ok = some (c2, .val kt x)) {y : vt.den} (hy : opd L ov = some (c3, .val vt y)) (hc : allP (c1 ++ (c2 ++ c3)))
    (k : JL X true all QA l ⟨L, updH H n (.map kt vt (mPut es clk x y) (mClk es clk x)), nx⟩) : JL X true all QA (⟨none, .insert t om ok ov, ty, ps, af, none⟩ :: l) ⟨L, H, nx⟩ := by
  rw [allP_append, allP_append] at hc
  refine JL.did rfl rfl trivial (v := .undef) (s' := ⟨L, updH H n (.map kt vt (mPut es clk x y) (mClk es clk x)), nx⟩) (fun M ρ a w h1 h2 => ?_) k
  obtain ⟨ms, hb, hm⟩ := own_map h1 hl
  obtain ⟨cx, hx, hxe⟩ := opd_val hv hc.2.1 h2
  obtain ⟨cy, hy', hye⟩ := opd_val hy hc.2.2 h2
  obtain ⟨ms', r1, r2⟩ := run_put hT hb hm hx hy'
  refine ⟨ρ, _, _, ?_, Env.upTo.refl _ _, Nat.le_refl _, rfl, h1.setMap hl r1, trivial, .inr ⟨rfl, rfl⟩⟩
  simp only [execOp, opd_map hu hc.1 h2, hxe, hye, Sem.run_bind, r2, Result.andThen_ok, Sem.run_pure]

theorem JL.mapEnt (hT : MapT X.P kt vt t kid vid) (hu : opd L om = some (c1, .lf (.mp n))) (hl : lk H n = some (.map kt vt es clk)) (hv : opd L ok = some (c2, .val kt x)) (hd : ltB d X.n = true) (hc : allP (c1 ++ c2))
    (k : JL X true all QA l ⟨(d, .tup (.acons (.val vt (mGet es x vt.dflt)) (.acons (.val (.int .i64) ((mBorn es clk x : Nat) : Int)) .anil))) :: L, updH H n (.map kt vt (mEnt es clk x) (mClk es clk x)), nx⟩) :
    JL X true all QA (⟨some d, .mapEntry t om ok, ty, ps, af, none⟩ :: l) ⟨L, H, nx⟩ := by
  rw [allP_append] at hc
  refine JL.did rfl rfl (ltB_lt hd) (v := .tup (.acons (.val vt (mGet es x vt.dflt)) (.acons (.val (.int .i64) ((mBorn es clk x : Nat) : Int)) .anil))) (s' := ⟨L, updH H n (.map kt vt (mEnt es clk x) (mClk es clk x)), nx⟩) (fun M ρ a w h1 h2 => ?_) k
  obtain ⟨ms, hb, hm⟩ := own_map h1 hl
  obtain ⟨cx, hx, hxe⟩ := opd_val hv hc.2 h2
  obtain ⟨ms', vc, r0, r1, r2⟩ := run_ment hT hb hm hx
  refine ⟨ρ, _, _, ?_, Env.upTo.refl _ _, Nat.le_refl _, rfl, h1.setMap hl r0, ⟨trivial, trivial, trivial⟩, .inl ⟨.tuple #[vt.wrap vc, goInt (mBorn es clk x)], rfl, ?_⟩⟩
  · simp only [execOp, opd_map hu hc.1 h2, hxe, Sem.run_bind, r2, Result.andThen_ok, Sem.run_pure]
  · simp only [AV.rv, AV.rvs]
    exact ⟨[vt.wrap vc, goInt (mBorn es clk x)], ⟨vt.wrap vc, [goInt (mBorn es clk x)], ⟨vc, r1, rfl⟩, ⟨goInt (mBorn es clk x), [], ⟨[goInt (mBorn es clk x)], by simp only [Rep]; rfl, rfl⟩, rfl, rfl⟩, rfl⟩, rfl⟩

theorem JL.mSto (hu : opd L om = some (c1, .lf (.mp n))) (hl : lk H n = some (.map kt vt es clk)) {z : Nat} (hv : opd L ok = some (c2, .val (.int .i64) (z : Int))) {y : vt.den} (hy : opd L ov = some (c3, .val vt y)) (hc : allP (c1 ++ (c2 ++ c3))) (hz : es.any (fun e => e.2.2 == z) = true)
    (k : JL X true all QA l ⟨L, updH H n (.map kt vt (mSet es z y) clk), nx⟩) : JL X true all QA (⟨none, .entryStore t om ok ov, ty, ps, af, none⟩ :: l) ⟨L, H, nx⟩ := by
  rw [allP_append, allP_append] at hc
  refine JL.did rfl rfl trivial (v := .undef) (s' := ⟨L, updH H n (.map kt vt (mSet es z y) clk), nx⟩) (fun M ρ a w h1 h2 => ?_) k
  obtain ⟨ms, hb, hm⟩ := own_map h1 hl
  have hze := (opd_sound (s := ⟨L, H, nx⟩) hv hc.2.1 h2).2
  rw [rv_int] at hze
  obtain ⟨cy, hy', hye⟩ := opd_val hy hc.2.2 h2
  obtain ⟨ms', r1, r2⟩ := run_est (P := X.P) (t := t) hb hm hz hy'
  refine ⟨ρ, _, _, ?_, Env.upTo.refl _ _, Nat.le_refl _, rfl, h1.setMap hl r1, trivial, .inr ⟨rfl, rfl⟩⟩
  simp only [execOp, opd_map hu hc.1 h2, hze, hye, Sem.run_bind, r2, Result.andThen_ok, Sem.run_pure]

/-! ### New objects -/
theorem SAT.newOb (h : SAT X M ρ s w) {ob : Obj} {o : HO} (hat : ∀ ρ' : Env, o.at ρ' s.nx = some (ρ'.blk s.nx)) (hob : o.bd (s.nx + 1)) (hok : o.ok X M (ρ.with s.nx w.heap.size .nil Go.undef) s.nx (w.alloc ob)) :
    SAT X M (ρ.with s.nx w.heap.size .nil Go.undef) ⟨s.L, (s.nx, o) :: s.H, s.nx + 1⟩ (w.alloc ob) := by
  have hlt : ∀ b o, M b = some o → b < w.heap.size := fun b o hb => (Array.getElem?_eq_some_iff.1 (h.mem b o hb)).1
  refine h.add (World.grownBy_alloc w _ none) (fun b hb => by cases hb) (fun l o hl => ⟨hl, fun b _ => by simp⟩) (Env.with_upTo _ _ _ _ _) hob hok ?_
  intro b hb
  rw [hat] at hb
  simp only [Env.with, if_true, Option.some.injEq] at hb
  subst hb
  refine ⟨?_, fun l o1 hl hb => ?_⟩
  · cases hM : M w.heap.size with
    | none => rfl
    | some o => exact absurd (hlt _ _ hM) (Nat.lt_irrefl _)
  · exact absurd (HO.at_lt (h.own l o1 hl).2.2 hb).2 (Nat.lt_irrefl _)

theorem JL.mMake (hT : MapT X.P kt vt t kid vid) (hd : ltB d X.n = true)
    (k : JL X true all QA l ⟨(d, .lf (.mp nx)) :: L, (nx, .map kt vt [] 0) :: H, nx + 1⟩) : JL X true all QA (⟨some d, .makeMap t none, ty, ps, af, none⟩ :: l) ⟨L, H, nx⟩ := by
  refine JL.did rfl rfl (ltB_lt hd) (v := .lf (.mp nx)) (s' := ⟨L, (nx, .map kt vt [] 0) :: H, nx + 1⟩) (fun M ρ a w h1 h2 => ?_) k
  have hs := h1.newOb (ob := .map #[] 0) (o := .map kt vt [] 0) (fun _ => rfl) trivial (by
    simp only [HO.ok, Env.with, if_true]
    exact ⟨h1.below.size, #[], heap_alloc_new w _, trivial⟩)
  refine ⟨_, _, _, ?_, Env.with_upTo _ _ w.heap.size .nil Go.undef, Nat.le_succ _, rfl, hs, Nat.lt_succ_self _, .inl ⟨.map (some w.heap.size), rfl, ?_⟩⟩
  · simp only [execOp, Instr.makeMap, Option.map_none, Sem.run_bind, run_newObj_alloc, Result.andThen_ok, Sem.run_pure]
  · rw [rv_lf]; simp [Leaf.at, Env.with, Value.oneCell']

theorem JL.mRange (hT : MapT X.P kt vt t kid vid) (hu : opd L om = some (c1, .lf (.mp n))) (hl : lk H n = some (.map kt vt es clk)) (hd : ltB d X.n = true) (hc : allP c1)
    (k : JL X true all QA l ⟨(d, .lf (.itr nx)) :: L, (nx, .iter n clk [] clk) :: H, nx + 1⟩) : JL X true all QA (⟨some d, .range t om, ty, ps, af, none⟩ :: l) ⟨L, H, nx⟩ := by
  refine JL.did rfl rfl (ltB_lt hd) (v := .lf (.itr nx)) (s' := ⟨L, (nx, .iter n clk [] clk) :: H, nx + 1⟩) (fun M ρ a w h1 h2 => ?_) k
  obtain ⟨ms, hb, hm⟩ := own_map h1 hl
  have hn := (h1.own n _ hl).1
  have hs := h1.newOb (ob := .mapIter (some (ρ.blk n)) clk #[] clk) (o := .iter n clk [] clk) (fun _ => rfl) (Nat.lt_succ_of_lt hn) (by
    have hne : n ≠ nx := by have : n < nx := hn; omega
    simp only [HO.ok, Env.with, if_true, hne, if_false]
    exact ⟨h1.below.size, heap_alloc_new w _⟩)
  refine ⟨_, _, _, ?_, Env.with_upTo _ _ w.heap.size .nil Go.undef, Nat.le_succ _, rfl, hs, Nat.lt_succ_self _, .inl ⟨.pointer (some ⟨w.heap.size, 0, none⟩), rfl, ?_⟩⟩
  · simp only [execOp, Instr.range, opd_map hu hc h2, Sem.run_bind, run_underlying hT.under, MapKept.run_getObj_map hb, run_newObj_alloc, Result.andThen_ok, Sem.run_pure]
  · rw [rv_lf]; simp [Leaf.at, Env.with, Value.oneCell']
end Ox

namespace Ox
open Go Go.RowKit
variable {X : Ctx} {s : S} {M : Mem} {ρ : Env} {a : Act} {w w' : World} {QA : Exit → S → Prop} {all l : List Oper} {o : Oper} {P : Program}
variable {kt vt : Ty} {t kid vid : TypeId} {es : List (Ent kt vt)} {ms : Array MapEntry} {clk b n d nx : Nat} {x : kt.den} {cx : List Value} {L : List (Nat × AV)} {H : List (Nat × HO)}
  {ty : TypeId} {ps : String} {af : Array Edge} {c1 c2 c3 : List Prop} {om ok ov : Operand}

def mDel {kt vt : Ty} (es : List (Ent kt vt)) (x : kt.den) : List (Ent kt vt) := match mIdx es x with | none => es | some j => es.eraseIdx j

theorem MapRep.erase {kt vt : Ty} : ∀ {es : List (Ent kt vt)} {ms : List MapEntry} (j : Nat), MapRep M kt vt es ms → MapRep M kt vt (es.eraseIdx j) (ms.eraseIdx j)
  | [], [], j, _ => by simp [MapRep]
  | e :: es, m :: ms, 0, h => by simp only [MapRep] at h; simpa using h.2
  | e :: es, m :: ms, j + 1, h => by simp only [MapRep, List.eraseIdx_cons_succ] at h ⊢; exact ⟨h.1, h.2.erase j⟩
  | [], _ :: _, _, h => h.elim
  | _ :: _, [], _, h => h.elim

theorem run_del {tt : TypeId} (hT : MapT P kt vt t kid vid) (hb : w.heap[b]? = some (.map ms clk)) (hm : MapRep M kt vt es ms.toList) (hx : Rep M kt x cx) {ta : TypeId} :
    ∃ ms' : Array MapEntry, MapRep M kt vt (mDel es x) ms'.toList ∧ (Builtin.delete_ #[t, ta] tt #[.map (some b), kt.wrap cx]).run P w = .ok (.tuple #[]) (ChangeMaps.setBlock w b (.map ms' clk)) := by
  have hf := find_run hT.key hx w es ms.toList hm
  unfold Builtin.delete_
  simp only [List.getElem?_toArray, List.getElem?_cons_zero, List.getElem?_cons_succ, Sem.run_bind, run_underlying hT.under, Result.andThen_ok, MapKept.run_getObj_map hb, key_checks hT.key hx]
  unfold mDel
  cases hi : mIdx es x with
  | none =>
    rw [hi] at hf
    refine ⟨ms, hm, ?_⟩
    simp only [hf, Result.andThen_ok, Sem.run_bind, MapKept.run_setObj_map _ hb, Sem.run_pure]
    rfl
  | some j =>
    rw [hi] at hf
    obtain ⟨e, h1, h2⟩ := hf
    refine ⟨ms.eraseIdxIfInBounds j, ?_, ?_⟩
    · rw [Array.toList_eraseIdxIfInBounds]; exact hm.erase j
    · simp only [h2, Result.andThen_ok, Sem.run_bind, MapKept.run_setObj_map _ hb, Sem.run_pure]
      rfl

theorem opd_itr (hu : opd L om = some (c1, .lf (.itr n))) (hc : allP c1) (h2 : REG X M ρ ⟨L, H, nx⟩ a) : a.eval om = .pointer (some ⟨ρ.blk n, 0, none⟩) := by
  have := (opd_sound (s := ⟨L, H, nx⟩) hu hc h2).2
  rw [rv_lf] at this
  simp only [Leaf.at, Option.some.injEq] at this
  exact this.1.symm

theorem JL.mDel (hT : MapT X.P kt vt t kid vid) {ta : TypeId} (hu : opd L om = some (c1, .lf (.mp n))) (hl : lk H n = some (.map kt vt es clk)) (hv : opd L ok = some (c2, .val kt x)) (hc : allP (c1 ++ c2))
    (k : JL X true all QA l ⟨L, updH H n (.map kt vt (Ox.mDel es x) clk), nx⟩) : JL X true all QA (⟨none, .call { callee := .builtin .delete, args := #[om, ok], argTypes := #[t, ta] }, ty, ps, af, none⟩ :: l) ⟨L, H, nx⟩ := by
  rw [allP_append] at hc
  refine JL.did rfl rfl trivial (v := .tup .anil) (s' := ⟨L, updH H n (.map kt vt (Ox.mDel es x) clk), nx⟩) (fun M ρ a w h1 h2 => ?_) k
  obtain ⟨ms, hb, hm⟩ := own_map h1 hl
  obtain ⟨cx, hx, hxe⟩ := opd_val hv hc.2 h2
  obtain ⟨ms', r1, r2⟩ := run_del (tt := ty) (ta := ta) hT hb hm hx
  refine ⟨ρ, _, _, ?_, Env.upTo.refl _ _, Nat.le_refl _, rfl, h1.setMap hl r1, trivial, .inl ⟨.tuple #[], rfl, ?_⟩⟩
  · simp only [execOp, resolve, invoke, builtin, Sem.run_bind, Sem.run_pure, Result.andThen_ok, List.map_toArray, List.map_cons, List.map_nil, opd_map hu hc.1 h2, hxe, r2]
  · simp only [AV.rv, AV.rvs]; exact ⟨[], rfl, rfl⟩

theorem JL.mEntry (hu : opd L om = some (c1, .lf (.itr n))) {m since last : Nat} {seen : List Nat} (hl : lk H n = some (.iter m since seen last)) (hm : lk H m = some (.map kt vt es clk)) {e : Ent kt vt} {seen' : List Nat} (hs : seen = seen' ++ [e.2.2]) (hlast : last = clk)
    (he : e ∈ es) (hnd : (es.map (·.2.2)).Nodup) (hd : ltB d X.n = true) (hc : allP c1)
    (k : JL X true all QA l ⟨(d, .tup (.acons (.val kt e.1) (.acons (.val vt e.2.1) .anil))) :: L, H, nx⟩) : JL X true all QA (⟨some d, .entry om, ty, ps, af, none⟩ :: l) ⟨L, H, nx⟩ := by
  refine JL.did rfl rfl (ltB_lt hd) (v := .tup (.acons (.val kt e.1) (.acons (.val vt e.2.1) .anil))) (s' := ⟨L, H, nx⟩) (fun M ρ a w h1 h2 => ?_) k
  obtain ⟨ms, hb, hmr⟩ := own_map h1 hm
  have hit := own_ok h1 hl
  simp only [HO.ok] at hit
  obtain ⟨_, hit⟩ := hit
  obtain ⟨j, hj, rfl⟩ := List.mem_iff_getElem.1 he
  have hj2 : j < ms.toList.length := by rw [hmr.length]; exact hj
  obtain ⟨e', g1, ⟨⟨kc, g2, g3⟩, ⟨vc, g4, g5⟩, g6⟩⟩ := hmr.get (List.getElem?_eq_getElem hj2)
  rw [List.getElem?_eq_getElem hj] at g1
  injection g1 with g1
  subst g1
  have hborn : ∀ {es : List (Ent kt vt)} {ms : List MapEntry}, MapRep M kt vt es ms → ms.map (·.born) = es.map (·.2.2) := by
    intro es
    induction es with
    | nil => intro ms h; cases ms with
      | nil => rfl
      | cons _ _ => exact h.elim
    | cons e es ih => intro ms h; cases ms with
      | nil => exact h.elim
      | cons m ms => simp only [MapRep] at h; simp only [List.map_cons, h.1.2.2, ih h.2]
  have hrun := run_entry_at (P := X.P) w (ρ.blk n) (ρ.blk m) since seen'.toArray ms clk (ms.toList[j]) (by rw [hit, hs, hlast, g6]; simp) hb (List.getElem_mem hj2) (by rw [hborn hmr]; exact hnd)
  refine ⟨ρ, w, _, ?_, Env.upTo.refl _ _, Nat.le_refl _, rfl, h1, ⟨trivial, trivial, trivial⟩, .inl ⟨.tuple #[kt.wrap kc, vt.wrap vc], rfl, ?_⟩⟩
  · simp only [execOp, opd_itr hu hc h2, Sem.run_bind, hrun, Result.andThen_ok, Sem.run_pure, g3, g5]
  · simp only [AV.rv, AV.rvs]
    exact ⟨[kt.wrap kc, vt.wrap vc], ⟨kt.wrap kc, [vt.wrap vc], ⟨kc, g2, rfl⟩, ⟨vt.wrap vc, [], ⟨vc, g4, rfl⟩, rfl, rfl⟩, rfl⟩, rfl⟩

/-- ONE STEP OF A RANGE over a map, into which nothing has been laid since the range began: any entry that has not been seen, or the end. -/
theorem JL.mNext (hu : opd L om = some (c1, .lf (.itr n))) {m since last : Nat} {seen : List Nat} (hl : lk H n = some (.iter m since seen last)) (hm : lk H m = some (.map kt vt es clk)) (hold : ∀ e ∈ es, e.2.2 < since) (hsl : since ≤ last) (hd : ltB d X.n = true) (hc : allP c1)
    (k0 : (∀ e ∈ es, e.2.2 ∈ seen) → JL X true all QA l ⟨(d, .tup (.acons (.val .bool false) .anil)) :: L, H, nx⟩)
    (k1 : ∀ e ∈ es, e.2.2 ∉ seen → JL X true all QA l ⟨(d, .tup (.acons (.val .bool true) (.acons (.val kt e.1) (.acons (.val vt e.2.1) .anil)))) :: L, updH H n (.iter m since (seen ++ [e.2.2]) clk), nx⟩) :
    JL X true all QA (⟨some d, .next om false, ty, ps, af, none⟩ :: l) ⟨L, H, nx⟩ := by
  intro M ρ a w h1 h2
  obtain ⟨ms, hb, hmr⟩ := own_map h1 hm
  have hit := own_ok h1 hl
  simp only [HO.ok] at hit
  obtain ⟨hge, hit⟩ := hit
  have hent : ∀ x ∈ ms.toList, ∃ e ∈ es, EntRep M kt vt e x := by
    intro x hx
    obtain ⟨j, hj, rfl⟩ := List.mem_iff_getElem.1 hx
    obtain ⟨e, g1, g2⟩ := hmr.get (List.getElem?_eq_getElem hj)
    exact ⟨e, List.mem_of_getElem? g1, g2⟩
  have hent' : ∀ e ∈ es, ∃ x ∈ ms.toList, x.born = e.2.2 := by
    intro e he
    obtain ⟨j, hj, rfl⟩ := List.mem_iff_getElem.1 he
    have hj2 : j < ms.toList.length := by rw [hmr.length]; exact hj
    obtain ⟨e', g1, g2⟩ := hmr.get (List.getElem?_eq_getElem hj2)
    rw [List.getElem?_eq_getElem hj] at g1
    injection g1 with g1
    exact ⟨_, List.getElem_mem hj2, by rw [g2.2.2, ← g1]⟩
  refine wpListIn_w (wanted_none rfl) ?_
  rcases run_next_at (P := X.P) w ty (ρ.blk n) (ρ.blk m) since last seen.toArray ms clk hit hb (fun x hx => by
    obtain ⟨e, he, hr⟩ := hent x hx
    rw [hr.2.2]; exact hold e he) hsl with ⟨h0, hrun⟩ | ⟨x, hx, w1, hw1, hrun⟩
  · refine wpIn_value rfl (v := .tuple #[.bool false]) (by simp only [execOp, opd_itr hu hc h2, Sem.run_bind, hrun, Result.andThen_ok, Sem.run_pure]; rfl) ?_
    refine k0 (fun e he => ?_) M ρ _ w (putS_sat (d := some d) (v := .tup (.acons (.val .bool false) .anil)) h1) (h2.putO (d := some d) (dstOk.spec (ltB_lt hd)) ⟨trivial, trivial⟩ (by simp only [AV.rv, AV.rvs]; exact ⟨[.bool false], ⟨.bool false, [], ⟨[.bool false], by simp only [Rep], rfl⟩, rfl, rfl⟩, rfl⟩))
    obtain ⟨x, hx, hxb⟩ := hent' e he
    have : leftOf ms seen.toArray = #[] := Array.eq_empty_of_size_eq_zero h0
    simp only [leftOf, Array.filter_eq_empty_iff] at this
    have := this x (Array.mem_toList_iff.1 hx)
    rw [hxb] at this
    simpa using this
  · have hx2 : x ∈ ms.toList ∧ x.born ∉ seen := by
      simp only [leftOf, Array.toList_filter, List.mem_filter] at hx
      exact ⟨hx.1, by simpa using hx.2⟩
    obtain ⟨e, he, ⟨⟨kc, g2, g3⟩, ⟨vc, g4, g5⟩, g6⟩⟩ := hent x hx2.1
    refine wpIn_value rfl (v := .tuple #[.bool true, x.key, x.val]) (by simp only [execOp, opd_itr hu hc h2, Sem.run_bind, hrun, Result.andThen_ok, Sem.run_pure]; rfl) ?_
    have h1' : SAT X M ρ ⟨L, H, nx⟩ w1 := by
      rcases hw1 with rfl | rfl
      · exact h1
      · exact h1.drew
    have hit1 : w1.heap[ρ.blk n]? = some (.mapIter (some (ρ.blk m)) since seen.toArray last) := by
      rcases hw1 with rfl | rfl <;> exact hit
    have hlt := (Array.getElem?_eq_some_iff.1 hit1).1
    have hs := h1'.upd (o' := .iter m since (seen ++ [e.2.2]) clk) (w' := ChangeMaps.setBlock w1 (ρ.blk n) (.mapIter (some (ρ.blk m)) since (seen.toArray.push x.born) clk)) hl
      ⟨rfl, rfl, rfl, by simp [ChangeMaps.setBlock], fun k hk hne => by
        have : ρ.blk n ≠ k := fun e => hne (by simp only [HO.at]; rw [e])
        simp only [ChangeMaps.setBlock, Array.getElem?_setIfInBounds]
        rw [if_neg this]⟩ rfl (h1.own n _ hl).2.1 (by
        simp only [HO.ok]
        exact ⟨hge, by simp only [ChangeMaps.setBlock, Array.getElem?_setIfInBounds]; simp [hlt, g6]⟩)
    have hr := h2.grow (H' := updH H n (.iter m since (seen ++ [e.2.2]) clk)) (nx' := nx) (Mem.le_refl M) (Env.upTo.refl ρ nx) (Nat.le_refl _) (Mem.dle_refl M)
    exact k1 e he (by rw [← g6]; exact hx2.2) M ρ _ _ (putS_sat (d := some d) (v := .tup (.acons (.val .bool true) (.acons (.val kt e.1) (.acons (.val vt e.2.1) .anil)))) hs) (hr.putO (d := some d) (dstOk.spec (ltB_lt hd)) ⟨trivial, trivial, trivial, trivial⟩ (by
      simp only [AV.rv, AV.rvs]
      exact ⟨[.bool true, x.key, x.val], ⟨.bool true, [x.key, x.val], ⟨[.bool true], by simp only [Rep], rfl⟩, ⟨x.key, [x.val], ⟨kc, g2, g3⟩, ⟨x.val, [], ⟨vc, g4, g5⟩, rfl, rfl⟩, rfl⟩, rfl⟩, rfl⟩))

/-- '==' and '!=' on values without addresses. -/
theorem JL.eqS (hK : KeyOK X.P kt t) (hag : kt.agg = true) (hgt : X.P.eqGuardType X.P.depth t = false) {y : kt.den} (hu : opd L om = some (c1, .val kt x)) (hv : opd L ok = some (c2, .val kt y)) (hd : ltB d X.n = true) (hc : allP (c1 ++ c2)) {tt : TypeId}
    (k : JL X true all QA l ⟨(d, .val .bool (kt.eqB x y)) :: L, H, nx⟩) : JL X true all QA (⟨some d, .binOp .eql t om ok tt, ty, ps, af, none⟩ :: l) ⟨L, H, nx⟩ := by
  rw [allP_append] at hc
  refine JL.did rfl rfl (ltB_lt hd) (v := .val .bool (kt.eqB x y)) (s' := ⟨L, H, nx⟩) (fun M ρ a w h1 h2 => ?_) k
  obtain ⟨cx, hx, hxe⟩ := opd_val (vt := kt) hu hc.1 h2
  obtain ⟨cy, hy, hye⟩ := opd_val (vt := kt) hv hc.2 h2
  obtain ⟨r, hr, hq⟩ := equal_run hK.ty hK.ok hK.dep hK.flat hx hy w
  have hrb : r = kt.eqB x y := by rw [Bool.eq_iff_iff, Ty.eqB_iff]; exact hq
  rw [Ty.wrap_agg hag, Ty.wrap_agg hag] at hr
  refine ⟨ρ, w, _, ?_, Env.upTo.refl _ _, Nat.le_refl _, rfl, h1, trivial, .inl ⟨.bool (kt.eqB x y), rfl, rv_bool.2 rfl⟩⟩
  simp only [execOp, hxe, hye, Ty.wrap_agg hag, Sem.run_bind, run_eqGuard_agg w _ _ _ _ _ _ hgt, Result.andThen_ok, binOp, hr, Sem.run_pure, hrb]
theorem JL.neS (hK : KeyOK X.P kt t) (hag : kt.agg = true) (hgt : X.P.eqGuardType X.P.depth t = false) {y : kt.den} (hu : opd L om = some (c1, .val kt x)) (hv : opd L ok = some (c2, .val kt y)) (hd : ltB d X.n = true) (hc : allP (c1 ++ c2)) {tt : TypeId}
    (k : JL X true all QA l ⟨(d, .val .bool (!kt.eqB x y)) :: L, H, nx⟩) : JL X true all QA (⟨some d, .binOp .neq t om ok tt, ty, ps, af, none⟩ :: l) ⟨L, H, nx⟩ := by
  rw [allP_append] at hc
  refine JL.did rfl rfl (ltB_lt hd) (v := .val .bool (!kt.eqB x y)) (s' := ⟨L, H, nx⟩) (fun M ρ a w h1 h2 => ?_) k
  obtain ⟨cx, hx, hxe⟩ := opd_val (vt := kt) hu hc.1 h2
  obtain ⟨cy, hy, hye⟩ := opd_val (vt := kt) hv hc.2 h2
  obtain ⟨r, hr, hq⟩ := equal_run hK.ty hK.ok hK.dep hK.flat hx hy w
  have hrb : r = kt.eqB x y := by rw [Bool.eq_iff_iff, Ty.eqB_iff]; exact hq
  rw [Ty.wrap_agg hag, Ty.wrap_agg hag] at hr
  refine ⟨ρ, w, _, ?_, Env.upTo.refl _ _, Nat.le_refl _, rfl, h1, trivial, .inl ⟨.bool (!kt.eqB x y), rfl, rv_bool.2 rfl⟩⟩
  simp only [execOp, hxe, hye, Ty.wrap_agg hag, Sem.run_bind, run_eqGuard_agg w _ _ _ _ _ _ hgt, Result.andThen_ok, binOp, hr, Sem.run_pure, hrb]
end Ox

namespace Ox
open Go Go.RowKit
variable {kt vt : Ty} {es : List (Ent kt vt)} {clk : Nat} {x y : kt.den} {v d : vt.den} {e : Ent kt vt}

theorem mIdx_none : mIdx es x = none ↔ ∀ e ∈ es, e.1 ≠ x := by
  unfold mIdx
  rw [List.findIdx?_eq_none_iff]
  refine ⟨fun h e he hx => ?_, fun h e he => ?_⟩
  · have := h e he
    rw [Ty.eqB_iff.2 hx.symm] at this; cases this
  · cases hb : kt.eqB x e.1
    · rfl
    · exact absurd (Ty.eqB_iff.1 hb).symm (h e he)
theorem mIdx_some {j : Nat} (h : mIdx es x = some j) : ∃ hj : j < es.length, (es[j]).1 = x := by
  unfold mIdx at h
  rw [List.findIdx?_eq_some_iff_getElem] at h
  obtain ⟨hj, h1, _⟩ := h
  exact ⟨hj, (Ty.eqB_iff.1 h1).symm⟩

/-- A map in order: no entry is as young as the clock, none as old as another one, no key comes twice. -/
structure MWF (es : List (Ent kt vt)) (clk : Nat) : Prop where
  lt : ∀ e ∈ es, e.2.2 < clk
  nb : (es.map (·.2.2)).Nodup
  nk : (es.map (·.1)).Nodup

theorem MWF.nil : MWF ([] : List (Ent kt vt)) clk := ⟨(fun _ h => nomatch h), List.nodup_nil, List.nodup_nil⟩

theorem nodup_at {α β : Type} {f : α → β} : ∀ {l : List α}, (l.map f).Nodup → ∀ {a b : α}, a ∈ l → b ∈ l → f a = f b → a = b
  | [], _, _, _, h, _, _ => by cases h
  | c :: l, hn, a, b, ha, hb, e => by
    rw [List.map_cons, List.nodup_cons] at hn
    rcases List.mem_cons.1 ha with h1 | h1
    · rcases List.mem_cons.1 hb with h2 | h2
      · rw [h1, h2]
      · exact absurd (List.mem_map.2 ⟨b, h2, by rw [← e, h1]⟩) hn.1
    · rcases List.mem_cons.1 hb with h2 | h2
      · exact absurd (List.mem_map.2 ⟨a, h1, by rw [e, h2]⟩) hn.1
      · exact nodup_at hn.2 h1 h2 e
theorem idx_at {α β : Type} {f : α → β} {l : List α} (hn : (l.map f).Nodup) {i j : Nat} (hi : i < l.length) (hj : j < l.length) (e : f l[i] = f l[j]) : i = j := by
  have := List.pairwise_iff_getElem.1 hn
  rcases Nat.lt_trichotomy i j with hlt | h | hlt
  · exact absurd (by rw [List.getElem_map, List.getElem_map]; exact e) (this i j (by simpa using hi) (by simpa using hj) hlt)
  · exact h
  · exact absurd (by rw [List.getElem_map, List.getElem_map]; exact e.symm) (this j i (by simpa using hj) (by simpa using hi) hlt)
theorem MWF.eq (h : MWF es clk) {e e' : Ent kt vt} (h1 : e ∈ es) (h2 : e' ∈ es) (hk : e.1 = e'.1) : e = e' := nodup_at h.nk h1 h2 hk
theorem MWF.eqb (h : MWF es clk) {e e' : Ent kt vt} (h1 : e ∈ es) (h2 : e' ∈ es) (hk : e.2.2 = e'.2.2) : e = e' := nodup_at h.nb h1 h2 hk

theorem mGet_mem (h : MWF es clk) (he : e ∈ es) : mGet es e.1 d = e.2.1 := by
  unfold mGet
  split
  · rename_i hn
    exact absurd rfl (mIdx_none.1 hn e he)
  · rename_i j hj
    obtain ⟨hl, hk⟩ := mIdx_some hj
    rw [List.getElem?_eq_getElem hl]
    have := h.eq (List.getElem_mem hl) he hk
    rw [this]; rfl
theorem mGet_not (h : ∀ e ∈ es, e.1 ≠ x) : mGet es x d = d := by
  unfold mGet
  rw [mIdx_none.2 h]

theorem map_mod {α β : Type} {f : α → α} {g : α → β} (hg : ∀ a, g (f a) = g a) : ∀ (l : List α) (j : Nat), (l.modify j f).map g = l.map g
  | [], j => by simp
  | a :: l, 0 => by simp [hg]
  | a :: l, j + 1 => by simp [map_mod hg l j]
theorem mod_snoc {α : Type} {f : α → α} : ∀ (l : List α) (a : α), (l ++ [a]).modify l.length f = l ++ [f a]
  | [], a => by simp
  | b :: l, a => by simp [mod_snoc l a]
theorem mem_mod {α : Type} {f : α → α} {b : α} : ∀ {l : List α} {j : Nat}, b ∈ l.modify j f ↔ (∃ i, ∃ h : i < l.length, i ≠ j ∧ l[i] = b) ∨ (∃ h : j < l.length, f l[j] = b) := by
  intro l j
  rw [List.mem_iff_getElem]
  constructor
  · rintro ⟨i, hi, rfl⟩
    have hi' : i < l.length := by simpa using hi
    by_cases h : i = j
    · subst h; right; exact ⟨hi', by simp⟩
    · left; exact ⟨i, hi', h, by rw [List.getElem_modify, if_neg (fun e => h e.symm)]⟩
  · rintro (⟨i, hi, hne, rfl⟩ | ⟨hj, rfl⟩)
    · exact ⟨i, by simpa using hi, by rw [List.getElem_modify, if_neg (fun e => hne e.symm)]⟩
    · exact ⟨j, by simpa using hj, by simp⟩

theorem mPut_mem (h : MWF es clk) : e ∈ mPut es clk x v ↔ (e ∈ es ∧ e.1 ≠ x) ∨ (e.1 = x ∧ e.2.1 = v ∧ e.2.2 = mBorn es clk x) := by
  unfold mPut mBorn
  split
  · rename_i hn
    rw [mIdx_none] at hn
    rw [List.mem_append, List.mem_singleton]
    refine or_congr ⟨fun he => ⟨he, hn e he⟩, fun he => he.1⟩ ?_
    obtain ⟨a, b, c⟩ := e
    simp
  · rename_i j hj
    obtain ⟨hl, hk⟩ := mIdx_some hj
    rw [mem_mod, List.getElem?_eq_getElem hl]
    constructor
    · rintro (⟨i, hi, hne, rfl⟩ | ⟨_, rfl⟩)
      · refine .inl ⟨List.getElem_mem hi, fun hx => hne (idx_at h.nk hi hl (hx.trans hk.symm))⟩
      · exact .inr ⟨hk, rfl, rfl⟩
    · rintro (⟨he, hne⟩ | ⟨h1, h2, h3⟩)
      · obtain ⟨i, hi, rfl⟩ := List.mem_iff_getElem.1 he
        exact .inl ⟨i, hi, fun hij => hne (by subst hij; exact hk), rfl⟩
      · refine .inr ⟨hl, ?_⟩
        obtain ⟨a, b, c⟩ := e
        simp only [Option.map_some, Option.getD_some] at h1 h2 h3
        rw [hk, h1, h2, h3]

theorem MWF.put (h : MWF es clk) : MWF (mPut es clk x v) (mClk es clk x) := by
  unfold mPut mClk
  split
  · rename_i hn
    rw [mIdx_none] at hn
    refine ⟨fun e he => ?_, ?_, ?_⟩
    · rcases List.mem_append.1 he with he | he
      · have := h.lt e he; omega
      · rw [List.mem_singleton.1 he]; exact Nat.lt_succ_self _
    · rw [List.map_append, List.nodup_append]
      refine ⟨h.nb, by simp, fun a ha b hb => ?_⟩
      obtain ⟨e, he, rfl⟩ := List.mem_map.1 ha
      simp only [List.map_cons, List.map_nil, List.mem_singleton] at hb
      have := h.lt e he
      omega
    · rw [List.map_append, List.nodup_append]
      refine ⟨h.nk, by simp, fun a ha b hb => ?_⟩
      obtain ⟨e, he, rfl⟩ := List.mem_map.1 ha
      simp only [List.map_cons, List.map_nil, List.mem_singleton] at hb
      subst hb
      exact hn e he
  · refine ⟨fun e he => ?_, ?_, ?_⟩
    · obtain ⟨i, hi, rfl⟩ := List.mem_iff_getElem.1 he
      have := h.lt (es[i]'(by simpa using hi)) (List.getElem_mem _)
      rw [List.getElem_modify]
      split
      · exact this
      · exact this
    · rw [map_mod (f := fun e : Ent kt vt => (e.1, v, e.2.2)) (g := fun e => e.2.2) fun _ => rfl]; exact h.nb
    · rw [map_mod (f := fun e : Ent kt vt => (e.1, v, e.2.2)) (g := fun e => e.1) fun _ => rfl]; exact h.nk

theorem mGet_put (h : MWF es clk) (hc : Decidable (y = x)) : mGet (mPut es clk x v) y d = if y = x then v else mGet es y d := by
  split
  · rename_i e; subst e
    exact mGet_mem (h.put) (e := (y, v, mBorn es clk y)) ((mPut_mem h).2 (.inr ⟨rfl, rfl, rfl⟩))
  · rename_i hne
    cases hi : mIdx es y with
    | none =>
      rw [mIdx_none] at hi
      rw [mGet_not hi, mGet_not]
      intro e he hk
      rcases (mPut_mem h).1 he with ⟨h1, _⟩ | ⟨h1, _⟩
      · exact hi e h1 hk
      · exact hne (hk.symm.trans h1)
    | some j =>
      obtain ⟨hl, hk⟩ := mIdx_some hi
      rw [← hk] at hne ⊢
      rw [mGet_mem h (List.getElem_mem hl), mGet_mem h.put ((mPut_mem h).2 (.inl ⟨List.getElem_mem hl, hne⟩))]

theorem mPut_key (h : MWF es clk) {z : kt.den} : (∃ e ∈ mPut es clk x v, e.1 = z) ↔ z = x ∨ ∃ e ∈ es, e.1 = z := by
  constructor
  · rintro ⟨e, he, rfl⟩
    rcases (mPut_mem h).1 he with ⟨h1, _⟩ | ⟨h1, _⟩
    · exact .inr ⟨e, h1, rfl⟩
    · exact .inl h1
  · intro hz
    by_cases hx : z = x
    · exact ⟨(x, v, mBorn es clk x), (mPut_mem h).2 (.inr ⟨rfl, rfl, rfl⟩), hx.symm⟩
    · rcases hz with hz | ⟨e, he, rfl⟩
      · exact absurd hz hx
      · exact ⟨e, (mPut_mem h).2 (.inl ⟨he, hx⟩), rfl⟩

theorem findIdx_born_at (h : (es.map (·.2.2)).Nodup) {j : Nat} (hj : j < es.length) : es.findIdx? (fun e => ((e.2.2 : Nat) : Int) == ((es[j].2.2 : Nat) : Int)) = some j := by
  rw [List.findIdx?_eq_some_iff_getElem]
  refine ⟨hj, by simp, fun i hi => ?_⟩
  have := List.pairwise_iff_getElem.1 h i j (by simp; omega) (by simpa using hj) hi
  simp only [List.getElem_map] at this
  simp only [beq_iff_eq, Bool.not_eq_true, beq_eq_false_iff_ne, ne_eq]
  omega

theorem mSet_ent (h : MWF es clk) : mSet (mEnt es clk x) ((mBorn es clk x : Nat) : Int) v = mPut es clk x v := by
  unfold mSet mEnt mBorn mPut
  cases hi : mIdx es x with
  | none =>
    have hx : es.findIdx? (fun e => ((e.2.2 : Nat) : Int) == ((clk : Nat) : Int)) = none := by
      rw [List.findIdx?_eq_none_iff]
      intro e he
      have := h.lt e he
      simp only [beq_eq_false_iff_ne, ne_eq]; omega
    simp only [List.findIdx?_append, hx]
    simp only [Option.none_or, List.findIdx?_cons, beq_self_eq_true, if_true, Option.map_some, Nat.zero_add]
    exact mod_snoc _ _
  | some j =>
    obtain ⟨hl, hk⟩ := mIdx_some hi
    simp only [List.getElem?_eq_getElem hl, Option.map_some, Option.getD_some, findIdx_born_at h.nb hl]

theorem mBorn_any (h : MWF es clk) : (mEnt es clk x).any (fun e => e.2.2 == mBorn es clk x) = true := by
  unfold mEnt mBorn
  cases hi : mIdx es x with
  | none => simp
  | some j =>
    obtain ⟨hl, hk⟩ := mIdx_some hi
    simp only [List.getElem?_eq_getElem hl, Option.map_some, Option.getD_some]
    rw [List.any_eq_true]
    exact ⟨es[j], List.getElem_mem hl, by simp⟩

theorem mGet_ent (h : MWF es clk) : mGet (mEnt es clk x) x vt.dflt = mGet es x vt.dflt := by
  cases hi : mIdx es x with
  | none =>
    have : mEnt es clk x = mPut es clk x vt.dflt := by unfold mEnt mPut; rw [hi]
    rw [this, mGet_not (mIdx_none.1 hi)]
    exact mGet_mem (h.put) (e := (x, vt.dflt, mBorn es clk x)) ((mPut_mem h).2 (.inr ⟨rfl, rfl, rfl⟩))
  | some j => unfold mEnt; rw [hi]

theorem mDel_sub : (mDel es x).Sublist es := by
  unfold mDel
  split
  · exact List.Sublist.refl _
  · exact List.eraseIdx_sublist _ _
theorem mDel_mem (h : MWF es clk) : e ∈ mDel es x ↔ e ∈ es ∧ e.1 ≠ x := by
  unfold mDel
  split
  · rename_i hn
    rw [mIdx_none] at hn
    exact ⟨fun he => ⟨he, hn e he⟩, fun he => he.1⟩
  · rename_i j hj
    obtain ⟨hl, hk⟩ := mIdx_some hj
    rw [List.mem_eraseIdx_iff_getElem]
    constructor
    · rintro ⟨i, hi, hne, rfl⟩
      refine ⟨List.getElem_mem hi, fun hx => hne (idx_at h.nk hi hl (hx.trans hk.symm))⟩
    · rintro ⟨he, hne⟩
      obtain ⟨i, hi, rfl⟩ := List.mem_iff_getElem.1 he
      exact ⟨i, hi, fun hij => hne (by subst hij; exact hk), rfl⟩
theorem MWF.sub {fs : List (Ent kt vt)} (h : MWF es clk) (hs : fs.Sublist es) : MWF fs clk := ⟨fun e he => h.lt e (hs.subset he), (hs.map _).nodup h.nb, (hs.map _).nodup h.nk⟩
theorem MWF.del (h : MWF es clk) : MWF (mDel es x) clk := h.sub mDel_sub

/-- What a range has not seen yet. -/
def mLeft (es : List (Ent kt vt)) (seen : List Nat) : Nat := (es.filter fun e => !seen.contains e.2.2).length
theorem mLeft_lt {seen : List Nat} (he : e ∈ es) (hs : e.2.2 ∉ seen) : mLeft es (seen ++ [e.2.2]) < mLeft es seen := by
  unfold mLeft
  have key : ∀ (l : List (Ent kt vt)), (l.filter fun a => !(seen ++ [e.2.2]).contains a.2.2).length ≤ (l.filter fun a => !seen.contains a.2.2).length ∧
      (e ∈ l → (l.filter fun a => !(seen ++ [e.2.2]).contains a.2.2).length < (l.filter fun a => !seen.contains a.2.2).length) := by
    intro l
    induction l with
    | nil => exact ⟨Nat.le_refl _, fun h => by cases h⟩
    | cons a l ih =>
      simp only [List.filter_cons]
      by_cases h1 : a.2.2 ∈ seen
      · have e1 : (!(seen ++ [e.2.2]).contains a.2.2) = false := by simp [h1]
        have e2 : (!seen.contains a.2.2) = false := by simp [h1]
        rw [e1, e2]
        simp only [Bool.false_eq_true, if_false]
        refine ⟨ih.1, fun h => ?_⟩
        rcases List.mem_cons.1 h with rfl | h
        · exact absurd h1 hs
        · exact ih.2 h
      · have e2 : (!seen.contains a.2.2) = true := by simp [h1]
        rw [e2]
        simp only [if_true]
        by_cases h3 : a.2.2 = e.2.2
        · have e1 : (!(seen ++ [e.2.2]).contains a.2.2) = false := by simp [h3]
          rw [e1]
          simp only [Bool.false_eq_true, if_false, List.length_cons]
          exact ⟨by omega, fun _ => by omega⟩
        · have e1 : (!(seen ++ [e.2.2]).contains a.2.2) = true := by simp [h1, h3]
          rw [e1]
          simp only [if_true, List.length_cons]
          refine ⟨by omega, fun h => ?_⟩
          rcases List.mem_cons.1 h with rfl | h
          · exact absurd rfl h3
          · have := ih.2 h; omega
  exact (key es).2 he
theorem mLeft_sub {fs : List (Ent kt vt)} {seen : List Nat} (hs : fs.Sublist es) : mLeft fs seen ≤ mLeft es seen := (hs.filter _).length_le

/-! ### Steps of a walk once more -/
section
variable {X : Ctx} {s : S} {M : Mem} {ρ : Env} {a : Act} {w w' : World} {QA : Exit → S → Prop} {all l : List Oper} {o : Oper} {P : Program} {md : Bool}
variable {t kid vid : TypeId} {n dd nx : Nat} {L : List (Nat × AV)} {H : List (Nat × HO)} {ty : TypeId} {ps : String} {af : Array Edge} {c1 c2 c3 : List Prop} {om ok ov : Operand}

/-- An operation that computes a value and leaves the world alone, in whatever later world. -/
theorem JL.vq {v : AV} (hg : o.guard = none) (hn : notDef o.op = true) (hd : dstOk X.n o.dst) (hb : v.bd s.nx) (h : ∀ M ρ a w, SAT X M ρ s w → REG X M ρ s a → ∃ z, v.rv M ρ z ∧ ∀ w1, (execOp a.eval o).run X.P w1 = .ok (.value z) w1)
    (k : JL X md all QA l (putS o.dst v s)) : JL X md all QA (o :: l) s := by
  cases md
  · intro M ρ a w0 h1 h2
    obtain ⟨z, hz, hr⟩ := h M ρ a w0 h1 h2
    simp only [wpQuiet, Region.wanted, hg, if_true]
    refine ⟨z, fun w hw => ?_, k M ρ _ w0 (putS_sat h1) (h2.putO hd.spec hb hz)⟩
    unfold Oper.quietAt
    rw [hr w]
    exact ⟨rfl, rfl⟩
  · intro M ρ a w h1 h2
    obtain ⟨z, hz, hr⟩ := h M ρ a w h1 h2
    exact wpListIn_w (wanted_none hg) (wpIn_value hn (hr w) (k M ρ _ w (putS_sat h1) (h2.putO hd.spec hb hz)))

/-- '==' and '!=' on values without addresses, in any region. -/
theorem JL.eqQ (hK : KeyOK X.P kt t) (hag : kt.agg = true) (hgt : X.P.eqGuardType X.P.depth t = false) (hu : opd L om = some (c1, .val kt x)) (hv : opd L ok = some (c2, .val kt y)) (hd : ltB dd X.n = true) (hc : allP (c1 ++ c2)) {tt : TypeId}
    (k : JL X md all QA l ⟨(dd, .val .bool (kt.eqB x y)) :: L, H, nx⟩) : JL X md all QA (⟨some dd, .binOp .eql t om ok tt, ty, ps, af, none⟩ :: l) ⟨L, H, nx⟩ := by
  rw [allP_append] at hc
  refine JL.vq rfl rfl (ltB_lt hd) trivial (v := .val .bool (kt.eqB x y)) (s := ⟨L, H, nx⟩) (fun M ρ a w h1 h2 => ⟨.bool (kt.eqB x y), rv_bool.2 rfl, fun w1 => ?_⟩) k
  obtain ⟨cx, hx, hxe⟩ := opd_val (vt := kt) hu hc.1 h2
  obtain ⟨cy, hy, hye⟩ := opd_val (vt := kt) hv hc.2 h2
  obtain ⟨r, hr, hq⟩ := equal_run hK.ty hK.ok hK.dep hK.flat hx hy w1
  have hrb : r = kt.eqB x y := by rw [Bool.eq_iff_iff, Ty.eqB_iff]; exact hq
  rw [Ty.wrap_agg hag, Ty.wrap_agg hag] at hr
  simp only [execOp, hxe, hye, Ty.wrap_agg hag, Sem.run_bind, run_eqGuard_agg w1 _ _ _ _ _ _ hgt, Result.andThen_ok, binOp, hr, Sem.run_pure, hrb]
theorem JL.neQ (hK : KeyOK X.P kt t) (hag : kt.agg = true) (hgt : X.P.eqGuardType X.P.depth t = false) (hu : opd L om = some (c1, .val kt x)) (hv : opd L ok = some (c2, .val kt y)) (hd : ltB dd X.n = true) (hc : allP (c1 ++ c2)) {tt : TypeId}
    (k : JL X md all QA l ⟨(dd, .val .bool (!kt.eqB x y)) :: L, H, nx⟩) : JL X md all QA (⟨some dd, .binOp .neq t om ok tt, ty, ps, af, none⟩ :: l) ⟨L, H, nx⟩ := by
  rw [allP_append] at hc
  refine JL.vq rfl rfl (ltB_lt hd) trivial (v := .val .bool (!kt.eqB x y)) (s := ⟨L, H, nx⟩) (fun M ρ a w h1 h2 => ⟨.bool (!kt.eqB x y), rv_bool.2 rfl, fun w1 => ?_⟩) k
  obtain ⟨cx, hx, hxe⟩ := opd_val (vt := kt) hu hc.1 h2
  obtain ⟨cy, hy, hye⟩ := opd_val (vt := kt) hv hc.2 h2
  obtain ⟨r, hr, hq⟩ := equal_run hK.ty hK.ok hK.dep hK.flat hx hy w1
  have hrb : r = kt.eqB x y := by rw [Bool.eq_iff_iff, Ty.eqB_iff]; exact hq
  rw [Ty.wrap_agg hag, Ty.wrap_agg hag] at hr
  simp only [execOp, hxe, hye, Ty.wrap_agg hag, Sem.run_bind, run_eqGuard_agg w1 _ _ _ _ _ _ hgt, Result.andThen_ok, binOp, hr, Sem.run_pure, hrb]

/-- A guard that is decided: nothing is carried out. -/
theorem JL.gF {gg : Nat × Bool} {g : Bool} {op : Op} (hg : gOf all L (some gg) = some g) (hgf : g = false) (hd : ltB dd X.n = true) (k : JL X true all QA l ⟨(dd, .undef) :: L, H, nx⟩) :
    JL X true all QA (⟨some dd, op, ty, ps, af, some gg⟩ :: l) ⟨L, H, nx⟩ := by
  subst hgf
  intro M ρ a w h1 h2
  have hw := gOf_sound (s := ⟨L, H, nx⟩) (o := ⟨some dd, op, ty, ps, af, some gg⟩) hg h2
  refine wpListIn_nw hw ?_
  exact k M ρ _ w (putS_sat (d := some dd) (v := .undef) h1) (h2.putO (d := some dd) (dstOk.spec (ltB_lt hd)) trivial (by simp only [AV.rv]))
end
end Ox

namespace Ox
open Go Go.RowKit
variable {X : Ctx} {s : S} {M : Mem} {ρ : Env} {a : Act} {w w' : World} {QA : Exit → S → Prop} {all l : List Oper} {o : Oper} {P : Program} {md : Bool}
variable {kt vt : Ty} {t kid vid : TypeId} {es : List (Ent kt vt)} {clk n d nx : Nat} {x y : kt.den} {L : List (Nat × AV)} {H : List (Nat × HO)}
  {ty : TypeId} {ps : String} {af : Array Edge} {c1 c2 c3 : List Prop} {om ok ov : Operand}

structure EqT (P : Program) (kt : Ty) (t : TypeId) : Prop where
  key : KeyOK P kt t
  ag : kt.agg = true
  gt : P.eqGuardType P.depth t = false

def keyB (P : Program) (kt : Ty) (t : TypeId) : Bool := tyB P kt t && (eqOkB P kt t && (Nat.ble kt.dep 10000 && kt.flatB))
theorem KeyOK.of {P : Program} {kt : Ty} {t : TypeId} (h : keyB P kt t = true) : KeyOK P kt t := by
  simp only [keyB, Bool.and_eq_true] at h
  exact ⟨tyB_sound h.1, h.2.1, Nat.le_of_ble_eq_true h.2.2.1, h.2.2.2⟩
def eqtB (P : Program) (kt : Ty) (t : TypeId) : Bool := keyB P kt t && (kt.agg && !P.eqGuardType P.depth t)
theorem EqT.of {P : Program} {kt : Ty} {t : TypeId} (h : eqtB P kt t = true) : EqT P kt t := by
  simp only [eqtB, Bool.and_eq_true, Bool.not_eq_true'] at h
  exact ⟨.of h.1, h.2.1, h.2.2⟩
theorem MapT.of {P : Program} {kt vt : Ty} {t kid vid : TypeId} (h : P.underlying t = some (.map kid vid)) (hb : (keyB P kt kid && tyB P vt vid) = true) : MapT P kt vt t kid vid := by
  simp only [Bool.and_eq_true] at hb
  exact ⟨h, .of hb.1, tyB_sound hb.2⟩

theorem JL.MLook (hT : MapT X.P kt vt t kid vid) (hu : opd L om = some (c1, .lf (.mp n))) (hl : lk H n = some (.map kt vt es clk)) (hv : opd L ok = some (c2, .val kt x)) (hd : ltB d X.n = true)
    (k : JL X true all QA l ⟨(d, .val vt (mGet es x vt.dflt)) :: L, H, nx⟩) (hc : allP (c1 ++ c2) := by (first | exact trivial | (try dsimp only [allP, inK, idxC, loC, lohiC, fullC, underG, List.append, List.nil_append, List.cons_append, Ty.den, Ty.dflt, Int.toNat_natCast, List.length_cons, List.length_nil] at *); first | omega | ((repeat' (first | exact trivial | assumption | refine And.intro ?_ ?_ | exact fun h => h | (intro hpk; first | exact hpk | simp only [wantB, hpk, Bool.not_false, Bool.not_true]))) <;> omega) | fail)) : JL X true all QA (⟨some d, .lookup t om ok false, ty, ps, af, none⟩ :: l) ⟨L, H, nx⟩ := JL.mLook hT hu hl hv hd hc k
theorem JL.MIns (hT : MapT X.P kt vt t kid vid) (hu : opd L om = some (c1, .lf (.mp n))) (hl : lk H n = some (.map kt vt es clk)) (hv : opd L ok = some (c2, .val kt x)) {y : vt.den} (hy : opd L ov = some (c3, .val vt y))
    (k : JL X true all QA l ⟨L, updH H n (.map kt vt (mPut es clk x y) (mClk es clk x)), nx⟩) (hc : allP (c1 ++ (c2 ++ c3)) := by (first | exact trivial | (try dsimp only [allP, inK, idxC, loC, lohiC, fullC, underG, List.append, List.nil_append, List.cons_append, Ty.den, Ty.dflt, Int.toNat_natCast, List.length_cons, List.length_nil] at *); first | omega | ((repeat' (first | exact trivial | assumption | refine And.intro ?_ ?_ | exact fun h => h | (intro hpk; first | exact hpk | simp only [wantB, hpk, Bool.not_false, Bool.not_true]))) <;> omega) | fail)) : JL X true all QA (⟨none, .insert t om ok ov, ty, ps, af, none⟩ :: l) ⟨L, H, nx⟩ := JL.mIns hT hu hl hv hy hc k
theorem JL.MEnt (hT : MapT X.P kt vt t kid vid) (hu : opd L om = some (c1, .lf (.mp n))) (hl : lk H n = some (.map kt vt es clk)) (hv : opd L ok = some (c2, .val kt x)) (hd : ltB d X.n = true)
    (k : JL X true all QA l ⟨(d, .tup (.acons (.val vt (mGet es x vt.dflt)) (.acons (.val (.int .i64) ((mBorn es clk x : Nat) : Int)) .anil))) :: L, updH H n (.map kt vt (mEnt es clk x) (mClk es clk x)), nx⟩) (hc : allP (c1 ++ c2) := by (first | exact trivial | (try dsimp only [allP, inK, idxC, loC, lohiC, fullC, underG, List.append, List.nil_append, List.cons_append, Ty.den, Ty.dflt, Int.toNat_natCast, List.length_cons, List.length_nil] at *); first | omega | ((repeat' (first | exact trivial | assumption | refine And.intro ?_ ?_ | exact fun h => h | (intro hpk; first | exact hpk | simp only [wantB, hpk, Bool.not_false, Bool.not_true]))) <;> omega) | fail)) :
    JL X true all QA (⟨some d, .mapEntry t om ok, ty, ps, af, none⟩ :: l) ⟨L, H, nx⟩ := JL.mapEnt hT hu hl hv hd hc k
theorem JL.MSto (hu : opd L om = some (c1, .lf (.mp n))) (hl : lk H n = some (.map kt vt es clk)) {z : Nat} (hv : opd L ok = some (c2, .val (.int .i64) (z : Int))) {y : vt.den} (hy : opd L ov = some (c3, .val vt y)) (hz : es.any (fun e => e.2.2 == z) = true)
    (k : JL X true all QA l ⟨L, updH H n (.map kt vt (mSet es z y) clk), nx⟩) (hc : allP (c1 ++ (c2 ++ c3)) := by (first | exact trivial | (try dsimp only [allP, inK, idxC, loC, lohiC, fullC, underG, List.append, List.nil_append, List.cons_append, Ty.den, Ty.dflt, Int.toNat_natCast, List.length_cons, List.length_nil] at *); first | omega | ((repeat' (first | exact trivial | assumption | refine And.intro ?_ ?_ | exact fun h => h | (intro hpk; first | exact hpk | simp only [wantB, hpk, Bool.not_false, Bool.not_true]))) <;> omega) | fail)) : JL X true all QA (⟨none, .entryStore t om ok ov, ty, ps, af, none⟩ :: l) ⟨L, H, nx⟩ := JL.mSto hu hl hv hy hc hz k
/-- The store of 'm[k] += v', behind its entry: as 'm[k] = ..'. -/
theorem JL.MStoE (hw : MWF es clk) (hu : opd L om = some (c1, .lf (.mp n))) (hl : lk H n = some (.map kt vt (mEnt es clk x) (mClk es clk x))) (hv : opd L ok = some (c2, .val (.int .i64) ((mBorn es clk x : Nat) : Int))) {y : vt.den} (hy : opd L ov = some (c3, .val vt y))
    (k : JL X true all QA l ⟨L, updH H n (.map kt vt (mPut es clk x y) (mClk es clk x)), nx⟩) (hc : allP (c1 ++ (c2 ++ c3)) := by (first | exact trivial | (try dsimp only [allP, inK, idxC, loC, lohiC, fullC, underG, List.append, List.nil_append, List.cons_append, Ty.den, Ty.dflt, Int.toNat_natCast, List.length_cons, List.length_nil] at *); first | omega | ((repeat' (first | exact trivial | assumption | refine And.intro ?_ ?_ | exact fun h => h | (intro hpk; first | exact hpk | simp only [wantB, hpk, Bool.not_false, Bool.not_true]))) <;> omega) | fail)) : JL X true all QA (⟨none, .entryStore t om ok ov, ty, ps, af, none⟩ :: l) ⟨L, H, nx⟩ :=
  JL.mSto hu hl hv hy hc (mBorn_any hw) (by rw [mSet_ent hw]; exact k)
theorem JL.MDel (hT : MapT X.P kt vt t kid vid) {ta : TypeId} (hu : opd L om = some (c1, .lf (.mp n))) (hl : lk H n = some (.map kt vt es clk)) (hv : opd L ok = some (c2, .val kt x))
    (k : JL X true all QA l ⟨L, updH H n (.map kt vt (Ox.mDel es x) clk), nx⟩) (hc : allP (c1 ++ c2) := by (first | exact trivial | (try dsimp only [allP, inK, idxC, loC, lohiC, fullC, underG, List.append, List.nil_append, List.cons_append, Ty.den, Ty.dflt, Int.toNat_natCast, List.length_cons, List.length_nil] at *); first | omega | ((repeat' (first | exact trivial | assumption | refine And.intro ?_ ?_ | exact fun h => h | (intro hpk; first | exact hpk | simp only [wantB, hpk, Bool.not_false, Bool.not_true]))) <;> omega) | fail)) : JL X true all QA (⟨none, .call { callee := .builtin .delete, args := #[om, ok], argTypes := #[t, ta] }, ty, ps, af, none⟩ :: l) ⟨L, H, nx⟩ := JL.mDel hT hu hl hv hc k
theorem JL.MRng (hT : MapT X.P kt vt t kid vid) (hu : opd L om = some (c1, .lf (.mp n))) (hl : lk H n = some (.map kt vt es clk)) (hd : ltB d X.n = true)
    (k : JL X true all QA l ⟨(d, .lf (.itr nx)) :: L, (nx, .iter n clk [] clk) :: H, nx + 1⟩) (hc : allP c1 := by (first | exact trivial | (try dsimp only [allP, inK, idxC, loC, lohiC, fullC, underG, List.append, List.nil_append, List.cons_append, Ty.den, Ty.dflt, Int.toNat_natCast, List.length_cons, List.length_nil] at *); first | omega | ((repeat' (first | exact trivial | assumption | refine And.intro ?_ ?_ | exact fun h => h | (intro hpk; first | exact hpk | simp only [wantB, hpk, Bool.not_false, Bool.not_true]))) <;> omega) | fail)) : JL X true all QA (⟨some d, .range t om, ty, ps, af, none⟩ :: l) ⟨L, H, nx⟩ := JL.mRange hT hu hl hd hc k
theorem JL.MEtr (hu : opd L om = some (c1, .lf (.itr n))) {m since last : Nat} {seen : List Nat} (hl : lk H n = some (.iter m since seen last)) (hm : lk H m = some (.map kt vt es clk)) {e : Ent kt vt} {seen' : List Nat} (hs : seen = seen' ++ [e.2.2]) (hlast : last = clk)
    (he : e ∈ es) (hw : MWF es clk) (hd : ltB d X.n = true)
    (k : JL X true all QA l ⟨(d, .tup (.acons (.val kt e.1) (.acons (.val vt e.2.1) .anil))) :: L, H, nx⟩) (hc : allP c1 := by (first | exact trivial | (try dsimp only [allP, inK, idxC, loC, lohiC, fullC, underG, List.append, List.nil_append, List.cons_append, Ty.den, Ty.dflt, Int.toNat_natCast, List.length_cons, List.length_nil] at *); first | omega | ((repeat' (first | exact trivial | assumption | refine And.intro ?_ ?_ | exact fun h => h | (intro hpk; first | exact hpk | simp only [wantB, hpk, Bool.not_false, Bool.not_true]))) <;> omega) | fail)) : JL X true all QA (⟨some d, .entry om, ty, ps, af, none⟩ :: l) ⟨L, H, nx⟩ := JL.mEntry hu hl hm hs hlast he hw.nb hd hc k
theorem JL.MNxt (hu : opd L om = some (c1, .lf (.itr n))) {m since last : Nat} {seen : List Nat} (hl : lk H n = some (.iter m since seen last)) (hm : lk H m = some (.map kt vt es clk)) (hold : ∀ e ∈ es, e.2.2 < since) (hsl : since ≤ last) (hd : ltB d X.n = true)
    (k0 : (∀ e ∈ es, e.2.2 ∈ seen) → JL X true all QA l ⟨(d, .tup (.acons (.val .bool false) .anil)) :: L, H, nx⟩)
    (k1 : ∀ e ∈ es, e.2.2 ∉ seen → JL X true all QA l ⟨(d, .tup (.acons (.val .bool true) (.acons (.val kt e.1) (.acons (.val vt e.2.1) .anil)))) :: L, updH H n (.iter m since (seen ++ [e.2.2]) clk), nx⟩) (hc : allP c1 := by (first | exact trivial | (try dsimp only [allP, inK, idxC, loC, lohiC, fullC, underG, List.append, List.nil_append, List.cons_append, Ty.den, Ty.dflt, Int.toNat_natCast, List.length_cons, List.length_nil] at *); first | omega | ((repeat' (first | exact trivial | assumption | refine And.intro ?_ ?_ | exact fun h => h | (intro hpk; first | exact hpk | simp only [wantB, hpk, Bool.not_false, Bool.not_true]))) <;> omega) | fail)) :
    JL X true all QA (⟨some d, .next om false, ty, ps, af, none⟩ :: l) ⟨L, H, nx⟩ := JL.mNext hu hl hm hold hsl hd hc k0 k1
theorem JL.EqQ (hK : EqT X.P kt t) (hu : opd L om = some (c1, .val kt x)) (hv : opd L ok = some (c2, .val kt y)) (hd : ltB d X.n = true) {tt : TypeId}
    (k : JL X md all QA l ⟨(d, .val .bool (kt.eqB x y)) :: L, H, nx⟩) (hc : allP (c1 ++ c2) := by (first | exact trivial | (try dsimp only [allP, inK, idxC, loC, lohiC, fullC, underG, List.append, List.nil_append, List.cons_append, Ty.den, Ty.dflt, Int.toNat_natCast, List.length_cons, List.length_nil] at *); first | omega | ((repeat' (first | exact trivial | assumption | refine And.intro ?_ ?_ | exact fun h => h | (intro hpk; first | exact hpk | simp only [wantB, hpk, Bool.not_false, Bool.not_true]))) <;> omega) | fail)) : JL X md all QA (⟨some d, .binOp .eql t om ok tt, ty, ps, af, none⟩ :: l) ⟨L, H, nx⟩ := JL.eqQ hK.key hK.ag hK.gt hu hv hd hc k
theorem JL.NeQ (hK : EqT X.P kt t) (hu : opd L om = some (c1, .val kt x)) (hv : opd L ok = some (c2, .val kt y)) (hd : ltB d X.n = true) {tt : TypeId}
    (k : JL X md all QA l ⟨(d, .val .bool (!kt.eqB x y)) :: L, H, nx⟩) (hc : allP (c1 ++ c2) := by (first | exact trivial | (try dsimp only [allP, inK, idxC, loC, lohiC, fullC, underG, List.append, List.nil_append, List.cons_append, Ty.den, Ty.dflt, Int.toNat_natCast, List.length_cons, List.length_nil] at *); first | omega | ((repeat' (first | exact trivial | assumption | refine And.intro ?_ ?_ | exact fun h => h | (intro hpk; first | exact hpk | simp only [wantB, hpk, Bool.not_false, Bool.not_true]))) <;> omega) | fail)) : JL X md all QA (⟨some d, .binOp .neq t om ok tt, ty, ps, af, none⟩ :: l) ⟨L, H, nx⟩ := JL.neQ hK.key hK.ag hK.gt hu hv hd hc k
end Ox

namespace Go.Proofs.Ytbmgijgnbilnoaa
open Go Go.RowKit Ox
def tys : List (Nat × Ty) := [
  (2, (.int .i64)),
  (3, (.int .i64)),
  (4, .bool),
  (5, (.int .u8)),
  (6, (.int .u8)),
  (7, (.cons (.int .i64) (.cons (.int .i64) (.cons .bool (.cons (.int .u8) .nil))))),
  (8, (.cons (.int .i64) (.cons (.int .i64) (.cons .bool (.cons (.int .u8) .nil))))),
  (12, (.int .u64)),
  (21, (.int .i32)),
  (22, (.slice (.int .i64))),
  (23, (.cons (.int .i64) (.cons (.slice (.int .i64)) .nil))),
  (24, (.cons (.int .i64) (.cons (.slice (.int .i64)) .nil))),
  (27, (.int .i64)),
  (45, (.slice (.int .u8))),
  (46, (.int .u32)),
  (54, (.arr 8 (.int .u8))),
  (60, (.ptr (.cons (.cons (.int .i64) (.cons (.slice (.int .i64)) .nil)) (.cons (.slice (.int .i64)) (.cons (.slice (.int .i64)) .nil))))),
  (63, (.cons (.cons (.int .i64) (.cons (.slice (.int .i64)) .nil)) (.cons (.slice (.int .i64)) (.cons (.slice (.int .i64)) .nil)))),
  (64, (.cons (.cons (.int .i64) (.cons (.slice (.int .i64)) .nil)) (.cons (.slice (.int .i64)) (.cons (.slice (.int .i64)) .nil)))),
  (67, (.slice (.cons (.arr 8 (.int .i64)) (.cons .bool .nil)))),
  (72, (.slice (.slice (.int .i64)))),
  (75, (.arr 8 (.int .i64))),
  (76, (.arr 8 (.int .i64))),
  (77, (.cons (.arr 8 (.int .i64)) (.cons .bool .nil))),
  (78, (.cons (.arr 8 (.int .i64)) (.cons .bool .nil))),
  (92, (.int .u64)),
  (93, (.cons (.int .i64) (.cons (.int .i64) .nil))),
  (94, (.cons (.int .i64) (.cons (.int .i64) .nil))),
  (96, (.slice (.cons (.int .i64) (.cons (.int .i64) .nil)))),
  (99, (.cons (.arr 8 (.int .i64)) (.cons (.int .i64) .nil))),
  (100, (.cons (.arr 8 (.int .i64)) (.cons (.int .i64) .nil))),
  (111, (.int .u8)),
  (112, (.int .u8)),
  (114, (.ptr (.int .u8))),
  (115, (.int .i32)),
  (116, (.int .i32))]
def ets : List (Nat × Nat) := [(22, 3), (45, 5), (67, 78), (72, 22), (96, 94)]
def mts : List (Nat × (Nat × Nat)) := [(101, (100, 2))]
theorem tab : tabB Go.Proofs.Try.prog tys ets mts = true := by decide +kernel
theorem xok {X : Ctx} (h1 : X.P = Go.Proofs.Try.prog) (h2 : X.T = tys) (h3 : X.ET = ets) (h4 : X.MT = mts) : XOK X := XOK.of_tab tab h1 h2 h3 h4
end Go.Proofs.Ytbmgijgnbilnoaa

namespace Go.Proofs.Ytbmgijgnbilnoaa
open Go Go.RowKit Ox
attribute [local irreducible] JC JL JW

abbrev vI (n : Int) : AV := .val (.int .i64) n
abbrev vB (b : Bool) : AV := .val .bool b
abbrev vL (xs : List Int) : AV := .val (.slice (.int .i64)) xs
abbrev dayT : Ty := .cons (.int .i64) (.cons (.slice (.int .i64)) .nil)
abbrev vD (r : Int) (xs : List Int) : AV := .val dayT (r, xs, ())

theorem getD_nat (xs : List Int) {i : Nat} (h : i < xs.length) (d : Int) : xs.getD i d = xs[i] := by
  simp [List.getD_eq_getElem?_getD, List.getElem?_eq_getElem h]

theorem fn43 (xs : List Int) (b : Int) : Ox.Fn Go.Proofs.Try.prog 43 (.acons (vL xs) (.acons (vI b) .anil)) (· = vB (decide (b ∈ xs))) := by
  refine Ox.Fn.intro xok Go.Proofs.Try.func43 rfl Go.Proofs.Try.call43 (Nat.le_of_ble_eq_true rfl) (fun E M0 up => ?_)
  refine JC.lenOf 0 rfl fun hlen => ?_
  replace hlen : xs.length ≤ 9223372036854775807 := hlen.1
  (repeat (first   | refine JL.Q1 (xok rfl rfl rfl rfl) rfl rfl ?_   | refine JL.G1 (xok rfl rfl rfl rfl) rfl rfl rfl ?_   | refine JL.M1 (xok rfl rfl rfl rfl) rfl rfl ?_   | refine JL.M0 (xok rfl rfl rfl rfl) rfl ?_   | refine JL.Q0 (xok rfl rfl rfl rfl) rfl ?_   | refine JL.nilF ?_   | refine JL.nil ?_   | refine JC.scope ?_   | refine QX.tn ?_   | refine JC.seq ?_   | refine JC.region ?_   | refine JC.Draw (xok rfl rfl rfl rfl) ?_   | refine JC.block ?_   | refine JC.skip ?_   | refine JC.label ?_   | refine JC.exit ?_   | refine JC.ret ?_   | refine QX.te ?_ | refine QX.tr ?_ | refine QX.bn ?_ | refine QX.be ?_ | refine QX.bx rfl ?_ | refine QX.br ?_ | refine QX.sn ?_ | refine QX.se ?_ | refine QX.sr ?_ | refine QX.ee ?_ | refine QX.eo rfl ?_ | refine QX.er ?_ | refine QX.en ?_))
  refine JC.loop (fun i : Nat => ⟨[(0, vL xs), (1, vI b), (5, vI (i : Int))], [], 0⟩) (fun i => i ≤ xs.length ∧ b ∉ xs.take i) (fun i => xs.length - i) 0 (by simp) (by (exact JW.Auto rfl)) fun i ⟨hi, hn⟩ => ?_
  (repeat (first   | refine JL.Q1 (xok rfl rfl rfl rfl) rfl rfl ?_   | refine JL.G1 (xok rfl rfl rfl rfl) rfl rfl rfl ?_   | refine JL.M1 (xok rfl rfl rfl rfl) rfl rfl ?_   | refine JL.M0 (xok rfl rfl rfl rfl) rfl ?_   | refine JL.Q0 (xok rfl rfl rfl rfl) rfl ?_   | refine JL.nilF ?_   | refine JL.nil ?_   | refine JC.scope ?_   | refine QX.tn ?_   | refine JC.seq ?_   | refine JC.region ?_   | refine JC.Draw (xok rfl rfl rfl rfl) ?_   | refine JC.block ?_   | refine JC.skip ?_   | refine JC.label ?_   | refine JC.exit ?_   | refine JC.ret ?_   | refine QX.te ?_ | refine QX.tr ?_ | refine QX.bn ?_ | refine QX.be ?_ | refine QX.bx rfl ?_ | refine QX.br ?_ | refine QX.sn ?_ | refine QX.se ?_ | refine QX.sr ?_ | refine QX.ee ?_ | refine QX.eo rfl ?_ | refine QX.er ?_ | refine QX.en ?_))
  refine JC.cond rfl (fun hc => ?_) (fun hc => ?_)
  · (simp only [↓bif_or, ↓bif_and, ↓Bool.or_eq_true, ↓Bool.or_eq_false_iff, ↓Bool.and_eq_true, ↓Bool.and_eq_false_iff, ↓Bool.not_eq_true', ↓Bool.not_eq_false', ↓decide_eq_true_eq, ↓decide_eq_false_iff_not, ↓beq_iff_eq, ↓bne_iff_ne, ↓bne_eq_false_iff_eq, ↓ne_eq, ↓beq_eq_false_iff_ne, ↓Bool.not_eq_true] at hc; try simp only [Ty.dflt, Int.toNat_natCast] at hc)
    have hi' : i < xs.length := by omega
    (repeat (first   | refine JL.Q1 (xok rfl rfl rfl rfl) rfl rfl ?_   | refine JL.G1 (xok rfl rfl rfl rfl) rfl rfl rfl ?_   | refine JL.M1 (xok rfl rfl rfl rfl) rfl rfl ?_   | refine JL.M0 (xok rfl rfl rfl rfl) rfl ?_   | refine JL.Q0 (xok rfl rfl rfl rfl) rfl ?_   | refine JL.nilF ?_   | refine JL.nil ?_   | refine JC.scope ?_   | refine QX.tn ?_   | refine JC.seq ?_   | refine JC.region ?_   | refine JC.Draw (xok rfl rfl rfl rfl) ?_   | refine JC.block ?_   | refine JC.skip ?_   | refine JC.label ?_   | refine JC.exit ?_   | refine JC.ret ?_   | refine QX.te ?_ | refine QX.tr ?_ | refine QX.bn ?_ | refine QX.be ?_ | refine QX.bx rfl ?_ | refine QX.br ?_ | refine QX.sn ?_ | refine QX.se ?_ | refine QX.sr ?_ | refine QX.ee ?_ | refine QX.eo rfl ?_ | refine QX.er ?_ | refine QX.en ?_))
    refine JC.cond rfl (fun hd => ?_) (fun hd => ?_)
    · (simp only [↓bif_or, ↓bif_and, ↓Bool.or_eq_true, ↓Bool.or_eq_false_iff, ↓Bool.and_eq_true, ↓Bool.and_eq_false_iff, ↓Bool.not_eq_true', ↓Bool.not_eq_false', ↓decide_eq_true_eq, ↓decide_eq_false_iff_not, ↓beq_iff_eq, ↓bne_iff_ne, ↓bne_eq_false_iff_eq, ↓ne_eq, ↓beq_eq_false_iff_ne, ↓Bool.not_eq_true] at hd; try simp only [Ty.dflt, Int.toNat_natCast] at hd)
      (repeat (first   | refine JL.Q1 (xok rfl rfl rfl rfl) rfl rfl ?_   | refine JL.G1 (xok rfl rfl rfl rfl) rfl rfl rfl ?_   | refine JL.M1 (xok rfl rfl rfl rfl) rfl rfl ?_   | refine JL.M0 (xok rfl rfl rfl rfl) rfl ?_   | refine JL.Q0 (xok rfl rfl rfl rfl) rfl ?_   | refine JL.nilF ?_   | refine JL.nil ?_   | refine JC.scope ?_   | refine QX.tn ?_   | refine JC.seq ?_   | refine JC.region ?_   | refine JC.Draw (xok rfl rfl rfl rfl) ?_   | refine JC.block ?_   | refine JC.skip ?_   | refine JC.label ?_   | refine JC.exit ?_   | refine JC.ret ?_   | refine QX.te ?_ | refine QX.tr ?_ | refine QX.bn ?_ | refine QX.be ?_ | refine QX.bx rfl ?_ | refine QX.br ?_ | refine QX.sn ?_ | refine QX.se ?_ | refine QX.sr ?_ | refine QX.ee ?_ | refine QX.eo rfl ?_ | refine QX.er ?_ | refine QX.en ?_))
      refine ⟨.inl rfl, _, _, rfl, trivial, ?_⟩
      rw [getD_nat xs hi'] at hd
      simp [← hd]
    · (simp only [↓bif_or, ↓bif_and, ↓Bool.or_eq_true, ↓Bool.or_eq_false_iff, ↓Bool.and_eq_true, ↓Bool.and_eq_false_iff, ↓Bool.not_eq_true', ↓Bool.not_eq_false', ↓decide_eq_true_eq, ↓decide_eq_false_iff_not, ↓beq_iff_eq, ↓bne_iff_ne, ↓bne_eq_false_iff_eq, ↓ne_eq, ↓beq_eq_false_iff_ne, ↓Bool.not_eq_true] at hd; try simp only [Ty.dflt, Int.toNat_natCast] at hd)
      (repeat (first   | refine JL.Q1 (xok rfl rfl rfl rfl) rfl rfl ?_   | refine JL.G1 (xok rfl rfl rfl rfl) rfl rfl rfl ?_   | refine JL.M1 (xok rfl rfl rfl rfl) rfl rfl ?_   | refine JL.M0 (xok rfl rfl rfl rfl) rfl ?_   | refine JL.Q0 (xok rfl rfl rfl rfl) rfl ?_   | refine JL.nilF ?_   | refine JL.nil ?_   | refine JC.scope ?_   | refine QX.tn ?_   | refine JC.seq ?_   | refine JC.region ?_   | refine JC.Draw (xok rfl rfl rfl rfl) ?_   | refine JC.block ?_   | refine JC.skip ?_   | refine JC.label ?_   | refine JC.exit ?_   | refine JC.ret ?_   | refine QX.te ?_ | refine QX.tr ?_ | refine QX.bn ?_ | refine QX.be ?_ | refine QX.bx rfl ?_ | refine QX.br ?_ | refine QX.sn ?_ | refine QX.se ?_ | refine QX.sr ?_ | refine QX.ee ?_ | refine QX.eo rfl ?_ | refine QX.er ?_ | refine QX.en ?_))
      rw [getD_nat xs hi'] at hd
      refine ⟨i + 1, by (exact JW.Auto rfl), ⟨by omega, ?_⟩, by omega⟩
      rw [List.take_succ, List.mem_append, List.getElem?_eq_getElem hi']
      rintro (h | h)
      · exact hn h
      · simp at h; exact hd h.symm
  · (simp only [↓bif_or, ↓bif_and, ↓Bool.or_eq_true, ↓Bool.or_eq_false_iff, ↓Bool.and_eq_true, ↓Bool.and_eq_false_iff, ↓Bool.not_eq_true', ↓Bool.not_eq_false', ↓decide_eq_true_eq, ↓decide_eq_false_iff_not, ↓beq_iff_eq, ↓bne_iff_ne, ↓bne_eq_false_iff_eq, ↓ne_eq, ↓beq_eq_false_iff_ne, ↓Bool.not_eq_true] at hc; try simp only [Ty.dflt, Int.toNat_natCast] at hc)
    (repeat (first   | refine JL.Q1 (xok rfl rfl rfl rfl) rfl rfl ?_   | refine JL.G1 (xok rfl rfl rfl rfl) rfl rfl rfl ?_   | refine JL.M1 (xok rfl rfl rfl rfl) rfl rfl ?_   | refine JL.M0 (xok rfl rfl rfl rfl) rfl ?_   | refine JL.Q0 (xok rfl rfl rfl rfl) rfl ?_   | refine JL.nilF ?_   | refine JL.nil ?_   | refine JC.scope ?_   | refine QX.tn ?_   | refine JC.seq ?_   | refine JC.region ?_   | refine JC.Draw (xok rfl rfl rfl rfl) ?_   | refine JC.block ?_   | refine JC.skip ?_   | refine JC.label ?_   | refine JC.exit ?_   | refine JC.ret ?_   | refine QX.te ?_ | refine QX.tr ?_ | refine QX.bn ?_ | refine QX.be ?_ | refine QX.bx rfl ?_ | refine QX.br ?_ | refine QX.sn ?_ | refine QX.se ?_ | refine QX.sr ?_ | refine QX.ee ?_ | refine QX.eo rfl ?_ | refine QX.er ?_ | refine QX.en ?_))
    refine ⟨.inl rfl, _, _, rfl, trivial, ?_⟩
    have : i = xs.length := by omega
    subst this
    simp at hn
    simp [hn]

theorem fn27 (xs ys : List Int) : Ox.Fn Go.Proofs.Try.prog 27 (.acons (vL xs) (.acons (vL ys) .anil)) (· = vB (decide (xs = ys))) := by
  refine Ox.Fn.intro xok Go.Proofs.Try.func27 rfl Go.Proofs.Try.call27 (Nat.le_of_ble_eq_true rfl) (fun E M0 up => ?_)
  refine JC.lenOf 0 rfl fun hlen => ?_
  replace hlen : xs.length ≤ 9223372036854775807 := hlen.1
  (repeat (first   | refine JL.Q1 (xok rfl rfl rfl rfl) rfl rfl ?_   | refine JL.G1 (xok rfl rfl rfl rfl) rfl rfl rfl ?_   | refine JL.M1 (xok rfl rfl rfl rfl) rfl rfl ?_   | refine JL.M0 (xok rfl rfl rfl rfl) rfl ?_   | refine JL.Q0 (xok rfl rfl rfl rfl) rfl ?_   | refine JL.nilF ?_   | refine JL.nil ?_   | refine JC.scope ?_   | refine QX.tn ?_   | refine JC.seq ?_   | refine JC.region ?_   | refine JC.Draw (xok rfl rfl rfl rfl) ?_   | refine JC.block ?_   | refine JC.skip ?_   | refine JC.label ?_   | refine JC.exit ?_   | refine JC.ret ?_   | refine QX.te ?_ | refine QX.tr ?_ | refine QX.bn ?_ | refine QX.be ?_ | refine QX.bx rfl ?_ | refine QX.br ?_ | refine QX.sn ?_ | refine QX.se ?_ | refine QX.sr ?_ | refine QX.ee ?_ | refine QX.eo rfl ?_ | refine QX.er ?_ | refine QX.en ?_))
  refine JC.cond rfl (fun hc => ?_) (fun hc => ?_)
  · (simp only [↓bif_or, ↓bif_and, ↓Bool.or_eq_true, ↓Bool.or_eq_false_iff, ↓Bool.and_eq_true, ↓Bool.and_eq_false_iff, ↓Bool.not_eq_true', ↓Bool.not_eq_false', ↓decide_eq_true_eq, ↓decide_eq_false_iff_not, ↓beq_iff_eq, ↓bne_iff_ne, ↓bne_eq_false_iff_eq, ↓ne_eq, ↓beq_eq_false_iff_ne, ↓Bool.not_eq_true] at hc; try simp only [Ty.dflt, Int.toNat_natCast] at hc)
    (repeat (first   | refine JL.Q1 (xok rfl rfl rfl rfl) rfl rfl ?_   | refine JL.G1 (xok rfl rfl rfl rfl) rfl rfl rfl ?_   | refine JL.M1 (xok rfl rfl rfl rfl) rfl rfl ?_   | refine JL.M0 (xok rfl rfl rfl rfl) rfl ?_   | refine JL.Q0 (xok rfl rfl rfl rfl) rfl ?_   | refine JL.nilF ?_   | refine JL.nil ?_   | refine JC.scope ?_   | refine QX.tn ?_   | refine JC.seq ?_   | refine JC.region ?_   | refine JC.Draw (xok rfl rfl rfl rfl) ?_   | refine JC.block ?_   | refine JC.skip ?_   | refine JC.label ?_   | refine JC.exit ?_   | refine JC.ret ?_   | refine QX.te ?_ | refine QX.tr ?_ | refine QX.bn ?_ | refine QX.be ?_ | refine QX.bx rfl ?_ | refine QX.br ?_ | refine QX.sn ?_ | refine QX.se ?_ | refine QX.sr ?_ | refine QX.ee ?_ | refine QX.eo rfl ?_ | refine QX.er ?_ | refine QX.en ?_))
    refine ⟨.inl rfl, _, _, rfl, trivial, ?_⟩
    have : xs ≠ ys := by rintro rfl; simp at hc
    simp [this]
  · (simp only [↓bif_or, ↓bif_and, ↓Bool.or_eq_true, ↓Bool.or_eq_false_iff, ↓Bool.and_eq_true, ↓Bool.and_eq_false_iff, ↓Bool.not_eq_true', ↓Bool.not_eq_false', ↓decide_eq_true_eq, ↓decide_eq_false_iff_not, ↓beq_iff_eq, ↓bne_iff_ne, ↓bne_eq_false_iff_eq, ↓ne_eq, ↓beq_eq_false_iff_ne, ↓Bool.not_eq_true] at hc; try simp only [Ty.dflt, Int.toNat_natCast] at hc)
    have hl : xs.length = ys.length := by omega
    (repeat (first   | refine JL.Q1 (xok rfl rfl rfl rfl) rfl rfl ?_   | refine JL.G1 (xok rfl rfl rfl rfl) rfl rfl rfl ?_   | refine JL.M1 (xok rfl rfl rfl rfl) rfl rfl ?_   | refine JL.M0 (xok rfl rfl rfl rfl) rfl ?_   | refine JL.Q0 (xok rfl rfl rfl rfl) rfl ?_   | refine JL.nilF ?_   | refine JL.nil ?_   | refine JC.scope ?_   | refine QX.tn ?_   | refine JC.seq ?_   | refine JC.region ?_   | refine JC.Draw (xok rfl rfl rfl rfl) ?_   | refine JC.block ?_   | refine JC.skip ?_   | refine JC.label ?_   | refine JC.exit ?_   | refine JC.ret ?_   | refine QX.te ?_ | refine QX.tr ?_ | refine QX.bn ?_ | refine QX.be ?_ | refine QX.bx rfl ?_ | refine QX.br ?_ | refine QX.sn ?_ | refine QX.se ?_ | refine QX.sr ?_ | refine QX.ee ?_ | refine QX.eo rfl ?_ | refine QX.er ?_ | refine QX.en ?_))
    refine JC.loop (fun i : Nat => ⟨[(0, vL xs), (1, vL ys), (5, vI (i : Int))], [], 0⟩) (fun i => i ≤ xs.length ∧ xs.take i = ys.take i) (fun i => xs.length - i) 0 (by simp) (by (exact JW.Auto rfl)) fun i ⟨hi, hn⟩ => ?_
    (repeat (first   | refine JL.Q1 (xok rfl rfl rfl rfl) rfl rfl ?_   | refine JL.G1 (xok rfl rfl rfl rfl) rfl rfl rfl ?_   | refine JL.M1 (xok rfl rfl rfl rfl) rfl rfl ?_   | refine JL.M0 (xok rfl rfl rfl rfl) rfl ?_   | refine JL.Q0 (xok rfl rfl rfl rfl) rfl ?_   | refine JL.nilF ?_   | refine JL.nil ?_   | refine JC.scope ?_   | refine QX.tn ?_   | refine JC.seq ?_   | refine JC.region ?_   | refine JC.Draw (xok rfl rfl rfl rfl) ?_   | refine JC.block ?_   | refine JC.skip ?_   | refine JC.label ?_   | refine JC.exit ?_   | refine JC.ret ?_   | refine QX.te ?_ | refine QX.tr ?_ | refine QX.bn ?_ | refine QX.be ?_ | refine QX.bx rfl ?_ | refine QX.br ?_ | refine QX.sn ?_ | refine QX.se ?_ | refine QX.sr ?_ | refine QX.ee ?_ | refine QX.eo rfl ?_ | refine QX.er ?_ | refine QX.en ?_))
    refine JC.cond rfl (fun hc => ?_) (fun hc => ?_)
    · (simp only [↓bif_or, ↓bif_and, ↓Bool.or_eq_true, ↓Bool.or_eq_false_iff, ↓Bool.and_eq_true, ↓Bool.and_eq_false_iff, ↓Bool.not_eq_true', ↓Bool.not_eq_false', ↓decide_eq_true_eq, ↓decide_eq_false_iff_not, ↓beq_iff_eq, ↓bne_iff_ne, ↓bne_eq_false_iff_eq, ↓ne_eq, ↓beq_eq_false_iff_ne, ↓Bool.not_eq_true] at hc; try simp only [Ty.dflt, Int.toNat_natCast] at hc)
      have hi' : i < xs.length := by omega
      have hj' : i < ys.length := by omega
      (repeat (first   | refine JL.Q1 (xok rfl rfl rfl rfl) rfl rfl ?_   | refine JL.G1 (xok rfl rfl rfl rfl) rfl rfl rfl ?_   | refine JL.M1 (xok rfl rfl rfl rfl) rfl rfl ?_   | refine JL.M0 (xok rfl rfl rfl rfl) rfl ?_   | refine JL.Q0 (xok rfl rfl rfl rfl) rfl ?_   | refine JL.nilF ?_   | refine JL.nil ?_   | refine JC.scope ?_   | refine QX.tn ?_   | refine JC.seq ?_   | refine JC.region ?_   | refine JC.Draw (xok rfl rfl rfl rfl) ?_   | refine JC.block ?_   | refine JC.skip ?_   | refine JC.label ?_   | refine JC.exit ?_   | refine JC.ret ?_   | refine QX.te ?_ | refine QX.tr ?_ | refine QX.bn ?_ | refine QX.be ?_ | refine QX.bx rfl ?_ | refine QX.br ?_ | refine QX.sn ?_ | refine QX.se ?_ | refine QX.sr ?_ | refine QX.ee ?_ | refine QX.eo rfl ?_ | refine QX.er ?_ | refine QX.en ?_))
      refine JC.cond rfl (fun hd => ?_) (fun hd => ?_)
      · (simp only [↓bif_or, ↓bif_and, ↓Bool.or_eq_true, ↓Bool.or_eq_false_iff, ↓Bool.and_eq_true, ↓Bool.and_eq_false_iff, ↓Bool.not_eq_true', ↓Bool.not_eq_false', ↓decide_eq_true_eq, ↓decide_eq_false_iff_not, ↓beq_iff_eq, ↓bne_iff_ne, ↓bne_eq_false_iff_eq, ↓ne_eq, ↓beq_eq_false_iff_ne, ↓Bool.not_eq_true] at hd; try simp only [Ty.dflt, Int.toNat_natCast] at hd)
        (repeat (first   | refine JL.Q1 (xok rfl rfl rfl rfl) rfl rfl ?_   | refine JL.G1 (xok rfl rfl rfl rfl) rfl rfl rfl ?_   | refine JL.M1 (xok rfl rfl rfl rfl) rfl rfl ?_   | refine JL.M0 (xok rfl rfl rfl rfl) rfl ?_   | refine JL.Q0 (xok rfl rfl rfl rfl) rfl ?_   | refine JL.nilF ?_   | refine JL.nil ?_   | refine JC.scope ?_   | refine QX.tn ?_   | refine JC.seq ?_   | refine JC.region ?_   | refine JC.Draw (xok rfl rfl rfl rfl) ?_   | refine JC.block ?_   | refine JC.skip ?_   | refine JC.label ?_   | refine JC.exit ?_   | refine JC.ret ?_   | refine QX.te ?_ | refine QX.tr ?_ | refine QX.bn ?_ | refine QX.be ?_ | refine QX.bx rfl ?_ | refine QX.br ?_ | refine QX.sn ?_ | refine QX.se ?_ | refine QX.sr ?_ | refine QX.ee ?_ | refine QX.eo rfl ?_ | refine QX.er ?_ | refine QX.en ?_))
        refine ⟨.inl rfl, _, _, rfl, trivial, ?_⟩
        rw [getD_nat xs hi', getD_nat ys hj'] at hd
        have : xs ≠ ys := by rintro rfl; exact hd rfl
        simp [this]
      · (simp only [↓bif_or, ↓bif_and, ↓Bool.or_eq_true, ↓Bool.or_eq_false_iff, ↓Bool.and_eq_true, ↓Bool.and_eq_false_iff, ↓Bool.not_eq_true', ↓Bool.not_eq_false', ↓decide_eq_true_eq, ↓decide_eq_false_iff_not, ↓beq_iff_eq, ↓bne_iff_ne, ↓bne_eq_false_iff_eq, ↓ne_eq, ↓beq_eq_false_iff_ne, ↓Bool.not_eq_true] at hd; try simp only [Ty.dflt, Int.toNat_natCast] at hd)
        (repeat (first   | refine JL.Q1 (xok rfl rfl rfl rfl) rfl rfl ?_   | refine JL.G1 (xok rfl rfl rfl rfl) rfl rfl rfl ?_   | refine JL.M1 (xok rfl rfl rfl rfl) rfl rfl ?_   | refine JL.M0 (xok rfl rfl rfl rfl) rfl ?_   | refine JL.Q0 (xok rfl rfl rfl rfl) rfl ?_   | refine JL.nilF ?_   | refine JL.nil ?_   | refine JC.scope ?_   | refine QX.tn ?_   | refine JC.seq ?_   | refine JC.region ?_   | refine JC.Draw (xok rfl rfl rfl rfl) ?_   | refine JC.block ?_   | refine JC.skip ?_   | refine JC.label ?_   | refine JC.exit ?_   | refine JC.ret ?_   | refine QX.te ?_ | refine QX.tr ?_ | refine QX.bn ?_ | refine QX.be ?_ | refine QX.bx rfl ?_ | refine QX.br ?_ | refine QX.sn ?_ | refine QX.se ?_ | refine QX.sr ?_ | refine QX.ee ?_ | refine QX.eo rfl ?_ | refine QX.er ?_ | refine QX.en ?_))
        rw [getD_nat xs hi', getD_nat ys hj'] at hd
        refine ⟨i + 1, by (exact JW.Auto rfl), ⟨by omega, ?_⟩, by omega⟩
        rw [List.take_succ, List.take_succ, List.getElem?_eq_getElem hi', List.getElem?_eq_getElem hj', hn, hd]
    · (simp only [↓bif_or, ↓bif_and, ↓Bool.or_eq_true, ↓Bool.or_eq_false_iff, ↓Bool.and_eq_true, ↓Bool.and_eq_false_iff, ↓Bool.not_eq_true', ↓Bool.not_eq_false', ↓decide_eq_true_eq, ↓decide_eq_false_iff_not, ↓beq_iff_eq, ↓bne_iff_ne, ↓bne_eq_false_iff_eq, ↓ne_eq, ↓beq_eq_false_iff_ne, ↓Bool.not_eq_true] at hc; try simp only [Ty.dflt, Int.toNat_natCast] at hc)
      (repeat (first   | refine JL.Q1 (xok rfl rfl rfl rfl) rfl rfl ?_   | refine JL.G1 (xok rfl rfl rfl rfl) rfl rfl rfl ?_   | refine JL.M1 (xok rfl rfl rfl rfl) rfl rfl ?_   | refine JL.M0 (xok rfl rfl rfl rfl) rfl ?_   | refine JL.Q0 (xok rfl rfl rfl rfl) rfl ?_   | refine JL.nilF ?_   | refine JL.nil ?_   | refine JC.scope ?_   | refine QX.tn ?_   | refine JC.seq ?_   | refine JC.region ?_   | refine JC.Draw (xok rfl rfl rfl rfl) ?_   | refine JC.block ?_   | refine JC.skip ?_   | refine JC.label ?_   | refine JC.exit ?_   | refine JC.ret ?_   | refine QX.te ?_ | refine QX.tr ?_ | refine QX.bn ?_ | refine QX.be ?_ | refine QX.bx rfl ?_ | refine QX.br ?_ | refine QX.sn ?_ | refine QX.se ?_ | refine QX.sr ?_ | refine QX.ee ?_ | refine QX.eo rfl ?_ | refine QX.er ?_ | refine QX.en ?_))
      refine ⟨.inl rfl, _, _, rfl, trivial, ?_⟩
      have : i = xs.length := by omega
      subst this
      rw [List.take_length, hl, List.take_length] at hn
      simp [hn]

theorem fn47 (r : Int) (xs : List Int) (n : Int) : Ox.Fn Go.Proofs.Try.prog 47 (.acons (vD r xs) (.acons (vI n) .anil)) (· = vB (decide (0 ≤ n ∧ n < xs.length))) := by
  refine Ox.Fn.intro xok Go.Proofs.Try.func47 rfl Go.Proofs.Try.call47 (Nat.le_of_ble_eq_true rfl) (fun E M0 up => ?_)
  (repeat (first   | refine JL.Q1 (xok rfl rfl rfl rfl) rfl rfl ?_   | refine JL.G1 (xok rfl rfl rfl rfl) rfl rfl rfl ?_   | refine JL.M1 (xok rfl rfl rfl rfl) rfl rfl ?_   | refine JL.M0 (xok rfl rfl rfl rfl) rfl ?_   | refine JL.Q0 (xok rfl rfl rfl rfl) rfl ?_   | refine JL.nilF ?_   | refine JL.nil ?_   | refine JC.scope ?_   | refine QX.tn ?_   | refine JC.seq ?_   | refine JC.region ?_   | refine JC.Draw (xok rfl rfl rfl rfl) ?_   | refine JC.block ?_   | refine JC.skip ?_   | refine JC.label ?_   | refine JC.exit ?_   | refine JC.ret ?_   | refine QX.te ?_ | refine QX.tr ?_ | refine QX.bn ?_ | refine QX.be ?_ | refine QX.bx rfl ?_ | refine QX.br ?_ | refine QX.sn ?_ | refine QX.se ?_ | refine QX.sr ?_ | refine QX.ee ?_ | refine QX.eo rfl ?_ | refine QX.er ?_ | refine QX.en ?_))
  refine ⟨.inl rfl, _, _, rfl, trivial, ?_⟩
  by_cases h : 0 ≤ n <;> simp [h]

/-- The nearest place before the i-th whose element is 'x', or -1. -/
def lastB (xs : List Int) (x : Int) : Nat → Int
  | 0 => -1
  | i + 1 => if xs.getD i 0 = x then i else lastB xs x i

theorem fn48 (r : Int) (xs : List Int) (n : Nat) (h : n < xs.length) : Ox.Fn Go.Proofs.Try.prog 48 (.acons (vD r xs) (.acons (vI n) .anil)) (· = vI (lastB xs (xs.getD n 0) n)) := by
  refine Ox.Fn.intro xok Go.Proofs.Try.func48 rfl Go.Proofs.Try.call48 (Nat.le_of_ble_eq_true rfl) (fun E M0 up => ?_)
  refine JC.lenOf 0 rfl fun hlen => ?_
  replace hlen : xs.length ≤ 9223372036854775807 := hlen.2.1.1
  (repeat (first   | refine JL.Q1 (xok rfl rfl rfl rfl) rfl rfl ?_   | refine JL.G1 (xok rfl rfl rfl rfl) rfl rfl rfl ?_   | refine JL.M1 (xok rfl rfl rfl rfl) rfl rfl ?_   | refine JL.M0 (xok rfl rfl rfl rfl) rfl ?_   | refine JL.Q0 (xok rfl rfl rfl rfl) rfl ?_   | refine JL.nilF ?_   | refine JL.nil ?_   | refine JC.scope ?_   | refine QX.tn ?_   | refine JC.seq ?_   | refine JC.region ?_   | refine JC.Draw (xok rfl rfl rfl rfl) ?_   | refine JC.block ?_   | refine JC.skip ?_   | refine JC.label ?_   | refine JC.exit ?_   | refine JC.ret ?_   | refine QX.te ?_ | refine QX.tr ?_ | refine QX.bn ?_ | refine QX.be ?_ | refine QX.bx rfl ?_ | refine QX.br ?_ | refine QX.sn ?_ | refine QX.se ?_ | refine QX.sr ?_ | refine QX.ee ?_ | refine QX.eo rfl ?_ | refine QX.er ?_ | refine QX.en ?_))
  refine JC.loop (fun k : Nat => ⟨[(1, vI n), (2, .lf (.optr 0 [])), (5, vI ((k : Int) - 1))], [(0, .cell dayT (vD r xs))], 1⟩) (fun k => k ≤ n ∧ lastB xs (xs.getD n 0) n = lastB xs (xs.getD n 0) k) (fun k => k) n (by simp) (by (exact JW.Auto rfl)) fun k ⟨hk, hn⟩ => ?_
  (repeat (first   | refine JL.Q1 (xok rfl rfl rfl rfl) rfl rfl ?_   | refine JL.G1 (xok rfl rfl rfl rfl) rfl rfl rfl ?_   | refine JL.M1 (xok rfl rfl rfl rfl) rfl rfl ?_   | refine JL.M0 (xok rfl rfl rfl rfl) rfl ?_   | refine JL.Q0 (xok rfl rfl rfl rfl) rfl ?_   | refine JL.nilF ?_   | refine JL.nil ?_   | refine JC.scope ?_   | refine QX.tn ?_   | refine JC.seq ?_   | refine JC.region ?_   | refine JC.Draw (xok rfl rfl rfl rfl) ?_   | refine JC.block ?_   | refine JC.skip ?_   | refine JC.label ?_   | refine JC.exit ?_   | refine JC.ret ?_   | refine QX.te ?_ | refine QX.tr ?_ | refine QX.bn ?_ | refine QX.be ?_ | refine QX.bx rfl ?_ | refine QX.br ?_ | refine QX.sn ?_ | refine QX.se ?_ | refine QX.sr ?_ | refine QX.ee ?_ | refine QX.eo rfl ?_ | refine QX.er ?_ | refine QX.en ?_))
  refine JC.cond rfl (fun hc => ?_) (fun hc => ?_)
  · (simp only [↓bif_or, ↓bif_and, ↓Bool.or_eq_true, ↓Bool.or_eq_false_iff, ↓Bool.and_eq_true, ↓Bool.and_eq_false_iff, ↓Bool.not_eq_true', ↓Bool.not_eq_false', ↓decide_eq_true_eq, ↓decide_eq_false_iff_not, ↓beq_iff_eq, ↓bne_iff_ne, ↓bne_eq_false_iff_eq, ↓ne_eq, ↓beq_eq_false_iff_ne, ↓Bool.not_eq_true] at hc; try simp only [Ty.dflt, Int.toNat_natCast] at hc)
    obtain ⟨k, rfl⟩ : ∃ j, k = j + 1 := ⟨k - 1, by omega⟩
    (repeat (first   | refine JL.Q1 (xok rfl rfl rfl rfl) rfl rfl ?_   | refine JL.G1 (xok rfl rfl rfl rfl) rfl rfl rfl ?_   | refine JL.M1 (xok rfl rfl rfl rfl) rfl rfl ?_   | refine JL.M0 (xok rfl rfl rfl rfl) rfl ?_   | refine JL.Q0 (xok rfl rfl rfl rfl) rfl ?_   | refine JL.nilF ?_   | refine JL.nil ?_   | refine JC.scope ?_   | refine QX.tn ?_   | refine JC.seq ?_   | refine JC.region ?_   | refine JC.Draw (xok rfl rfl rfl rfl) ?_   | refine JC.block ?_   | refine JC.skip ?_   | refine JC.label ?_   | refine JC.exit ?_   | refine JC.ret ?_   | refine QX.te ?_ | refine QX.tr ?_ | refine QX.bn ?_ | refine QX.be ?_ | refine QX.bx rfl ?_ | refine QX.br ?_ | refine QX.sn ?_ | refine QX.se ?_ | refine QX.sr ?_ | refine QX.ee ?_ | refine QX.eo rfl ?_ | refine QX.er ?_ | refine QX.en ?_))
    refine JC.cond rfl (fun hd => ?_) (fun hd => ?_)
    · (simp only [↓bif_or, ↓bif_and, ↓Bool.or_eq_true, ↓Bool.or_eq_false_iff, ↓Bool.and_eq_true, ↓Bool.and_eq_false_iff, ↓Bool.not_eq_true', ↓Bool.not_eq_false', ↓decide_eq_true_eq, ↓decide_eq_false_iff_not, ↓beq_iff_eq, ↓bne_iff_ne, ↓bne_eq_false_iff_eq, ↓ne_eq, ↓beq_eq_false_iff_ne, ↓Bool.not_eq_true] at hd; try simp only [Ty.dflt, Int.toNat_natCast] at hd)
      (repeat (first   | refine JL.Q1 (xok rfl rfl rfl rfl) rfl rfl ?_   | refine JL.G1 (xok rfl rfl rfl rfl) rfl rfl rfl ?_   | refine JL.M1 (xok rfl rfl rfl rfl) rfl rfl ?_   | refine JL.M0 (xok rfl rfl rfl rfl) rfl ?_   | refine JL.Q0 (xok rfl rfl rfl rfl) rfl ?_   | refine JL.nilF ?_   | refine JL.nil ?_   | refine JC.scope ?_   | refine QX.tn ?_   | refine JC.seq ?_   | refine JC.region ?_   | refine JC.Draw (xok rfl rfl rfl rfl) ?_   | refine JC.block ?_   | refine JC.skip ?_   | refine JC.label ?_   | refine JC.exit ?_   | refine JC.ret ?_   | refine QX.te ?_ | refine QX.tr ?_ | refine QX.bn ?_ | refine QX.be ?_ | refine QX.bx rfl ?_ | refine QX.br ?_ | refine QX.sn ?_ | refine QX.se ?_ | refine QX.sr ?_ | refine QX.ee ?_ | refine QX.eo rfl ?_ | refine QX.er ?_ | refine QX.en ?_))
      refine ⟨.inl rfl, _, _, rfl, trivial, ?_⟩
      have e : (((k + 1 : Nat) : Int) - 1).toNat = k := by omega
      rw [e] at hd
      rw [hn, lastB, if_pos hd]
      exact congrArg vI (by omega)
    · (simp only [↓bif_or, ↓bif_and, ↓Bool.or_eq_true, ↓Bool.or_eq_false_iff, ↓Bool.and_eq_true, ↓Bool.and_eq_false_iff, ↓Bool.not_eq_true', ↓Bool.not_eq_false', ↓decide_eq_true_eq, ↓decide_eq_false_iff_not, ↓beq_iff_eq, ↓bne_iff_ne, ↓bne_eq_false_iff_eq, ↓ne_eq, ↓beq_eq_false_iff_ne, ↓Bool.not_eq_true] at hd; try simp only [Ty.dflt, Int.toNat_natCast] at hd)
      (repeat (first   | refine JL.Q1 (xok rfl rfl rfl rfl) rfl rfl ?_   | refine JL.G1 (xok rfl rfl rfl rfl) rfl rfl rfl ?_   | refine JL.M1 (xok rfl rfl rfl rfl) rfl rfl ?_   | refine JL.M0 (xok rfl rfl rfl rfl) rfl ?_   | refine JL.Q0 (xok rfl rfl rfl rfl) rfl ?_   | refine JL.nilF ?_   | refine JL.nil ?_   | refine JC.scope ?_   | refine QX.tn ?_   | refine JC.seq ?_   | refine JC.region ?_   | refine JC.Draw (xok rfl rfl rfl rfl) ?_   | refine JC.block ?_   | refine JC.skip ?_   | refine JC.label ?_   | refine JC.exit ?_   | refine JC.ret ?_   | refine QX.te ?_ | refine QX.tr ?_ | refine QX.bn ?_ | refine QX.be ?_ | refine QX.bx rfl ?_ | refine QX.br ?_ | refine QX.sn ?_ | refine QX.se ?_ | refine QX.sr ?_ | refine QX.ee ?_ | refine QX.eo rfl ?_ | refine QX.er ?_ | refine QX.en ?_))
      have e : (((k + 1 : Nat) : Int) - 1).toNat = k := by omega
      rw [e] at hd
      refine ⟨k, by (exact JW.Auto rfl), ⟨by omega, ?_⟩, by omega⟩
      rw [hn, lastB, if_neg hd]
  · (simp only [↓bif_or, ↓bif_and, ↓Bool.or_eq_true, ↓Bool.or_eq_false_iff, ↓Bool.and_eq_true, ↓Bool.and_eq_false_iff, ↓Bool.not_eq_true', ↓Bool.not_eq_false', ↓decide_eq_true_eq, ↓decide_eq_false_iff_not, ↓beq_iff_eq, ↓bne_iff_ne, ↓bne_eq_false_iff_eq, ↓ne_eq, ↓beq_eq_false_iff_ne, ↓Bool.not_eq_true] at hc; try simp only [Ty.dflt, Int.toNat_natCast] at hc)
    (repeat (first   | refine JL.Q1 (xok rfl rfl rfl rfl) rfl rfl ?_   | refine JL.G1 (xok rfl rfl rfl rfl) rfl rfl rfl ?_   | refine JL.M1 (xok rfl rfl rfl rfl) rfl rfl ?_   | refine JL.M0 (xok rfl rfl rfl rfl) rfl ?_   | refine JL.Q0 (xok rfl rfl rfl rfl) rfl ?_   | refine JL.nilF ?_   | refine JL.nil ?_   | refine JC.scope ?_   | refine QX.tn ?_   | refine JC.seq ?_   | refine JC.region ?_   | refine JC.Draw (xok rfl rfl rfl rfl) ?_   | refine JC.block ?_   | refine JC.skip ?_   | refine JC.label ?_   | refine JC.exit ?_   | refine JC.ret ?_   | refine QX.te ?_ | refine QX.tr ?_ | refine QX.bn ?_ | refine QX.be ?_ | refine QX.bx rfl ?_ | refine QX.br ?_ | refine QX.sn ?_ | refine QX.se ?_ | refine QX.sr ?_ | refine QX.ee ?_ | refine QX.eo rfl ?_ | refine QX.er ?_ | refine QX.en ?_))
    refine ⟨.inl rfl, _, _, rfl, trivial, ?_⟩
    obtain rfl : k = 0 := by omega
    rw [hn]; rfl

/-- The error of a day: 0 is none. -/
def dayErr (r : Int) (xs : List Int) : Int :=
  if r < 1 ∨ r > 4 then 2 else if xs.length < 1 ∨ xs.length > 24 then 6 else if ∀ x ∈ xs, 0 ≤ x ∧ x ≤ 7 then 0 else 3

theorem fn20 (r : Int) (xs : List Int) : Ox.Fn Go.Proofs.Try.prog 20 (.acons (vD r xs) .anil) (· = vI (dayErr r xs)) := by
  refine Ox.Fn.intro xok Go.Proofs.Try.func20 rfl Go.Proofs.Try.call20 (Nat.le_of_ble_eq_true rfl) (fun E M0 up => ?_)
  refine JC.lenOf 0 rfl fun hlen => ?_
  replace hlen : xs.length ≤ 9223372036854775807 := hlen.2.1.1
  (repeat (first   | refine JL.Q1 (xok rfl rfl rfl rfl) rfl rfl ?_   | refine JL.G1 (xok rfl rfl rfl rfl) rfl rfl rfl ?_   | refine JL.M1 (xok rfl rfl rfl rfl) rfl rfl ?_   | refine JL.M0 (xok rfl rfl rfl rfl) rfl ?_   | refine JL.Q0 (xok rfl rfl rfl rfl) rfl ?_   | refine JL.nilF ?_   | refine JL.nil ?_   | refine JC.scope ?_   | refine QX.tn ?_   | refine JC.seq ?_   | refine JC.region ?_   | refine JC.Draw (xok rfl rfl rfl rfl) ?_   | refine JC.block ?_   | refine JC.skip ?_   | refine JC.label ?_   | refine JC.exit ?_   | refine JC.ret ?_   | refine QX.te ?_ | refine QX.tr ?_ | refine QX.bn ?_ | refine QX.be ?_ | refine QX.bx rfl ?_ | refine QX.br ?_ | refine QX.sn ?_ | refine QX.se ?_ | refine QX.sr ?_ | refine QX.ee ?_ | refine QX.eo rfl ?_ | refine QX.er ?_ | refine QX.en ?_))
  refine JC.cond rfl (fun hc => ?_) (fun hc => ?_)
  · (simp only [↓bif_or, ↓bif_and, ↓Bool.or_eq_true, ↓Bool.or_eq_false_iff, ↓Bool.and_eq_true, ↓Bool.and_eq_false_iff, ↓Bool.not_eq_true', ↓Bool.not_eq_false', ↓decide_eq_true_eq, ↓decide_eq_false_iff_not, ↓beq_iff_eq, ↓bne_iff_ne, ↓bne_eq_false_iff_eq, ↓ne_eq, ↓beq_eq_false_iff_ne, ↓Bool.not_eq_true] at hc; try simp only [Ty.dflt, Int.toNat_natCast] at hc)
    (repeat (first   | refine JL.Q1 (xok rfl rfl rfl rfl) rfl rfl ?_   | refine JL.G1 (xok rfl rfl rfl rfl) rfl rfl rfl ?_   | refine JL.M1 (xok rfl rfl rfl rfl) rfl rfl ?_   | refine JL.M0 (xok rfl rfl rfl rfl) rfl ?_   | refine JL.Q0 (xok rfl rfl rfl rfl) rfl ?_   | refine JL.nilF ?_   | refine JL.nil ?_   | refine JC.scope ?_   | refine QX.tn ?_   | refine JC.seq ?_   | refine JC.region ?_   | refine JC.Draw (xok rfl rfl rfl rfl) ?_   | refine JC.block ?_   | refine JC.skip ?_   | refine JC.label ?_   | refine JC.exit ?_   | refine JC.ret ?_   | refine QX.te ?_ | refine QX.tr ?_ | refine QX.bn ?_ | refine QX.be ?_ | refine QX.bx rfl ?_ | refine QX.br ?_ | refine QX.sn ?_ | refine QX.se ?_ | refine QX.sr ?_ | refine QX.ee ?_ | refine QX.eo rfl ?_ | refine QX.er ?_ | refine QX.en ?_))
    refine ⟨.inl rfl, _, _, rfl, trivial, ?_⟩
    rw [dayErr, if_pos hc]
  · (simp only [↓bif_or, ↓bif_and, ↓Bool.or_eq_true, ↓Bool.or_eq_false_iff, ↓Bool.and_eq_true, ↓Bool.and_eq_false_iff, ↓Bool.not_eq_true', ↓Bool.not_eq_false', ↓decide_eq_true_eq, ↓decide_eq_false_iff_not, ↓beq_iff_eq, ↓bne_iff_ne, ↓bne_eq_false_iff_eq, ↓ne_eq, ↓beq_eq_false_iff_ne, ↓Bool.not_eq_true] at hc; try simp only [Ty.dflt, Int.toNat_natCast] at hc)
    have hr : ¬ (r < 1 ∨ r > 4) := by omega
    (repeat (first   | refine JL.Q1 (xok rfl rfl rfl rfl) rfl rfl ?_   | refine JL.G1 (xok rfl rfl rfl rfl) rfl rfl rfl ?_   | refine JL.M1 (xok rfl rfl rfl rfl) rfl rfl ?_   | refine JL.M0 (xok rfl rfl rfl rfl) rfl ?_   | refine JL.Q0 (xok rfl rfl rfl rfl) rfl ?_   | refine JL.nilF ?_   | refine JL.nil ?_   | refine JC.scope ?_   | refine QX.tn ?_   | refine JC.seq ?_   | refine JC.region ?_   | refine JC.Draw (xok rfl rfl rfl rfl) ?_   | refine JC.block ?_   | refine JC.skip ?_   | refine JC.label ?_   | refine JC.exit ?_   | refine JC.ret ?_   | refine QX.te ?_ | refine QX.tr ?_ | refine QX.bn ?_ | refine QX.be ?_ | refine QX.bx rfl ?_ | refine QX.br ?_ | refine QX.sn ?_ | refine QX.se ?_ | refine QX.sr ?_ | refine QX.ee ?_ | refine QX.eo rfl ?_ | refine QX.er ?_ | refine QX.en ?_))
    refine JC.cond rfl (fun hc2 => ?_) (fun hc2 => ?_)
    · (simp only [↓bif_or, ↓bif_and, ↓Bool.or_eq_true, ↓Bool.or_eq_false_iff, ↓Bool.and_eq_true, ↓Bool.and_eq_false_iff, ↓Bool.not_eq_true', ↓Bool.not_eq_false', ↓decide_eq_true_eq, ↓decide_eq_false_iff_not, ↓beq_iff_eq, ↓bne_iff_ne, ↓bne_eq_false_iff_eq, ↓ne_eq, ↓beq_eq_false_iff_ne, ↓Bool.not_eq_true] at hc2; try simp only [Ty.dflt, Int.toNat_natCast] at hc2)
      (repeat (first   | refine JL.Q1 (xok rfl rfl rfl rfl) rfl rfl ?_   | refine JL.G1 (xok rfl rfl rfl rfl) rfl rfl rfl ?_   | refine JL.M1 (xok rfl rfl rfl rfl) rfl rfl ?_   | refine JL.M0 (xok rfl rfl rfl rfl) rfl ?_   | refine JL.Q0 (xok rfl rfl rfl rfl) rfl ?_   | refine JL.nilF ?_   | refine JL.nil ?_   | refine JC.scope ?_   | refine QX.tn ?_   | refine JC.seq ?_   | refine JC.region ?_   | refine JC.Draw (xok rfl rfl rfl rfl) ?_   | refine JC.block ?_   | refine JC.skip ?_   | refine JC.label ?_   | refine JC.exit ?_   | refine JC.ret ?_   | refine QX.te ?_ | refine QX.tr ?_ | refine QX.bn ?_ | refine QX.be ?_ | refine QX.bx rfl ?_ | refine QX.br ?_ | refine QX.sn ?_ | refine QX.se ?_ | refine QX.sr ?_ | refine QX.ee ?_ | refine QX.eo rfl ?_ | refine QX.er ?_ | refine QX.en ?_))
      refine ⟨.inl rfl, _, _, rfl, trivial, ?_⟩
      rw [dayErr, if_neg hr, if_pos (by omega)]
    · (simp only [↓bif_or, ↓bif_and, ↓Bool.or_eq_true, ↓Bool.or_eq_false_iff, ↓Bool.and_eq_true, ↓Bool.and_eq_false_iff, ↓Bool.not_eq_true', ↓Bool.not_eq_false', ↓decide_eq_true_eq, ↓decide_eq_false_iff_not, ↓beq_iff_eq, ↓bne_iff_ne, ↓bne_eq_false_iff_eq, ↓ne_eq, ↓beq_eq_false_iff_ne, ↓Bool.not_eq_true] at hc2; try simp only [Ty.dflt, Int.toNat_natCast] at hc2)
      have hl : ¬ (xs.length < 1 ∨ xs.length > 24) := by omega
      (repeat (first   | refine JL.Q1 (xok rfl rfl rfl rfl) rfl rfl ?_   | refine JL.G1 (xok rfl rfl rfl rfl) rfl rfl rfl ?_   | refine JL.M1 (xok rfl rfl rfl rfl) rfl rfl ?_   | refine JL.M0 (xok rfl rfl rfl rfl) rfl ?_   | refine JL.Q0 (xok rfl rfl rfl rfl) rfl ?_   | refine JL.nilF ?_   | refine JL.nil ?_   | refine JC.scope ?_   | refine QX.tn ?_   | refine JC.seq ?_   | refine JC.region ?_   | refine JC.Draw (xok rfl rfl rfl rfl) ?_   | refine JC.block ?_   | refine JC.skip ?_   | refine JC.label ?_   | refine JC.exit ?_   | refine JC.ret ?_   | refine QX.te ?_ | refine QX.tr ?_ | refine QX.bn ?_ | refine QX.be ?_ | refine QX.bx rfl ?_ | refine QX.br ?_ | refine QX.sn ?_ | refine QX.se ?_ | refine QX.sr ?_ | refine QX.ee ?_ | refine QX.eo rfl ?_ | refine QX.er ?_ | refine QX.en ?_))
      refine JC.loop (fun i : Nat => ⟨[(1, .lf (.optr 0 [])), (3, vI (i : Int))], [(0, .cell dayT (vD r xs))], 1⟩) (fun i => i ≤ xs.length ∧ ∀ x ∈ xs.take i, 0 ≤ x ∧ x ≤ 7) (fun i => xs.length - i) 0 (by simp) (by (exact JW.Auto rfl)) fun i ⟨hi, hn⟩ => ?_
      (repeat (first   | refine JL.Q1 (xok rfl rfl rfl rfl) rfl rfl ?_   | refine JL.G1 (xok rfl rfl rfl rfl) rfl rfl rfl ?_   | refine JL.M1 (xok rfl rfl rfl rfl) rfl rfl ?_   | refine JL.M0 (xok rfl rfl rfl rfl) rfl ?_   | refine JL.Q0 (xok rfl rfl rfl rfl) rfl ?_   | refine JL.nilF ?_   | refine JL.nil ?_   | refine JC.scope ?_   | refine QX.tn ?_   | refine JC.seq ?_   | refine JC.region ?_   | refine JC.Draw (xok rfl rfl rfl rfl) ?_   | refine JC.block ?_   | refine JC.skip ?_   | refine JC.label ?_   | refine JC.exit ?_   | refine JC.ret ?_   | refine QX.te ?_ | refine QX.tr ?_ | refine QX.bn ?_ | refine QX.be ?_ | refine QX.bx rfl ?_ | refine QX.br ?_ | refine QX.sn ?_ | refine QX.se ?_ | refine QX.sr ?_ | refine QX.ee ?_ | refine QX.eo rfl ?_ | refine QX.er ?_ | refine QX.en ?_))
      refine JC.cond rfl (fun hd => ?_) (fun hd => ?_)
      · (simp only [↓bif_or, ↓bif_and, ↓Bool.or_eq_true, ↓Bool.or_eq_false_iff, ↓Bool.and_eq_true, ↓Bool.and_eq_false_iff, ↓Bool.not_eq_true', ↓Bool.not_eq_false', ↓decide_eq_true_eq, ↓decide_eq_false_iff_not, ↓beq_iff_eq, ↓bne_iff_ne, ↓bne_eq_false_iff_eq, ↓ne_eq, ↓beq_eq_false_iff_ne, ↓Bool.not_eq_true] at hd; try simp only [Ty.dflt, Int.toNat_natCast] at hd)
        have hi' : i < xs.length := by omega
        (repeat (first   | refine JL.Q1 (xok rfl rfl rfl rfl) rfl rfl ?_   | refine JL.G1 (xok rfl rfl rfl rfl) rfl rfl rfl ?_   | refine JL.M1 (xok rfl rfl rfl rfl) rfl rfl ?_   | refine JL.M0 (xok rfl rfl rfl rfl) rfl ?_   | refine JL.Q0 (xok rfl rfl rfl rfl) rfl ?_   | refine JL.nilF ?_   | refine JL.nil ?_   | refine JC.scope ?_   | refine QX.tn ?_   | refine JC.seq ?_   | refine JC.region ?_   | refine JC.Draw (xok rfl rfl rfl rfl) ?_   | refine JC.block ?_   | refine JC.skip ?_   | refine JC.label ?_   | refine JC.exit ?_   | refine JC.ret ?_   | refine QX.te ?_ | refine QX.tr ?_ | refine QX.bn ?_ | refine QX.be ?_ | refine QX.bx rfl ?_ | refine QX.br ?_ | refine QX.sn ?_ | refine QX.se ?_ | refine QX.sr ?_ | refine QX.ee ?_ | refine QX.eo rfl ?_ | refine QX.er ?_ | refine QX.en ?_))
        refine JC.cond rfl (fun he => ?_) (fun he => ?_)
        · (simp only [↓bif_or, ↓bif_and, ↓Bool.or_eq_true, ↓Bool.or_eq_false_iff, ↓Bool.and_eq_true, ↓Bool.and_eq_false_iff, ↓Bool.not_eq_true', ↓Bool.not_eq_false', ↓decide_eq_true_eq, ↓decide_eq_false_iff_not, ↓beq_iff_eq, ↓bne_iff_ne, ↓bne_eq_false_iff_eq, ↓ne_eq, ↓beq_eq_false_iff_ne, ↓Bool.not_eq_true] at he; try simp only [Ty.dflt, Int.toNat_natCast] at he)
          (repeat (first   | refine JL.Q1 (xok rfl rfl rfl rfl) rfl rfl ?_   | refine JL.G1 (xok rfl rfl rfl rfl) rfl rfl rfl ?_   | refine JL.M1 (xok rfl rfl rfl rfl) rfl rfl ?_   | refine JL.M0 (xok rfl rfl rfl rfl) rfl ?_   | refine JL.Q0 (xok rfl rfl rfl rfl) rfl ?_   | refine JL.nilF ?_   | refine JL.nil ?_   | refine JC.scope ?_   | refine QX.tn ?_   | refine JC.seq ?_   | refine JC.region ?_   | refine JC.Draw (xok rfl rfl rfl rfl) ?_   | refine JC.block ?_   | refine JC.skip ?_   | refine JC.label ?_   | refine JC.exit ?_   | refine JC.ret ?_   | refine QX.te ?_ | refine QX.tr ?_ | refine QX.bn ?_ | refine QX.be ?_ | refine QX.bx rfl ?_ | refine QX.br ?_ | refine QX.sn ?_ | refine QX.se ?_ | refine QX.sr ?_ | refine QX.ee ?_ | refine QX.eo rfl ?_ | refine QX.er ?_ | refine QX.en ?_))
          refine ⟨.inl rfl, _, _, rfl, trivial, ?_⟩
          rw [getD_nat xs hi'] at he
          rw [dayErr, if_neg hr, if_neg hl, if_neg]
          intro h
          have := h _ (List.getElem_mem hi')
          omega
        · (simp only [↓bif_or, ↓bif_and, ↓Bool.or_eq_true, ↓Bool.or_eq_false_iff, ↓Bool.and_eq_true, ↓Bool.and_eq_false_iff, ↓Bool.not_eq_true', ↓Bool.not_eq_false', ↓decide_eq_true_eq, ↓decide_eq_false_iff_not, ↓beq_iff_eq, ↓bne_iff_ne, ↓bne_eq_false_iff_eq, ↓ne_eq, ↓beq_eq_false_iff_ne, ↓Bool.not_eq_true] at he; try simp only [Ty.dflt, Int.toNat_natCast] at he)
          (repeat (first   | refine JL.Q1 (xok rfl rfl rfl rfl) rfl rfl ?_   | refine JL.G1 (xok rfl rfl rfl rfl) rfl rfl rfl ?_   | refine JL.M1 (xok rfl rfl rfl rfl) rfl rfl ?_   | refine JL.M0 (xok rfl rfl rfl rfl) rfl ?_   | refine JL.Q0 (xok rfl rfl rfl rfl) rfl ?_   | refine JL.nilF ?_   | refine JL.nil ?_   | refine JC.scope ?_   | refine QX.tn ?_   | refine JC.seq ?_   | refine JC.region ?_   | refine JC.Draw (xok rfl rfl rfl rfl) ?_   | refine JC.block ?_   | refine JC.skip ?_   | refine JC.label ?_   | refine JC.exit ?_   | refine JC.ret ?_   | refine QX.te ?_ | refine QX.tr ?_ | refine QX.bn ?_ | refine QX.be ?_ | refine QX.bx rfl ?_ | refine QX.br ?_ | refine QX.sn ?_ | refine QX.se ?_ | refine QX.sr ?_ | refine QX.ee ?_ | refine QX.eo rfl ?_ | refine QX.er ?_ | refine QX.en ?_))
          rw [getD_nat xs hi'] at he
          refine ⟨i + 1, by (exact JW.Auto rfl), ⟨by omega, ?_⟩, by omega⟩
          rw [List.take_succ, List.getElem?_eq_getElem hi']
          intro x hx
          rcases List.mem_append.1 hx with h | h
          · exact hn x h
          · simp at h; subst h; omega
      · (simp only [↓bif_or, ↓bif_and, ↓Bool.or_eq_true, ↓Bool.or_eq_false_iff, ↓Bool.and_eq_true, ↓Bool.and_eq_false_iff, ↓Bool.not_eq_true', ↓Bool.not_eq_false', ↓decide_eq_true_eq, ↓decide_eq_false_iff_not, ↓beq_iff_eq, ↓bne_iff_ne, ↓bne_eq_false_iff_eq, ↓ne_eq, ↓beq_eq_false_iff_ne, ↓Bool.not_eq_true] at hd; try simp only [Ty.dflt, Int.toNat_natCast] at hd)
        (repeat (first   | refine JL.Q1 (xok rfl rfl rfl rfl) rfl rfl ?_   | refine JL.G1 (xok rfl rfl rfl rfl) rfl rfl rfl ?_   | refine JL.M1 (xok rfl rfl rfl rfl) rfl rfl ?_   | refine JL.M0 (xok rfl rfl rfl rfl) rfl ?_   | refine JL.Q0 (xok rfl rfl rfl rfl) rfl ?_   | refine JL.nilF ?_   | refine JL.nil ?_   | refine JC.scope ?_   | refine QX.tn ?_   | refine JC.seq ?_   | refine JC.region ?_   | refine JC.Draw (xok rfl rfl rfl rfl) ?_   | refine JC.block ?_   | refine JC.skip ?_   | refine JC.label ?_   | refine JC.exit ?_   | refine JC.ret ?_   | refine QX.te ?_ | refine QX.tr ?_ | refine QX.bn ?_ | refine QX.be ?_ | refine QX.bx rfl ?_ | refine QX.br ?_ | refine QX.sn ?_ | refine QX.se ?_ | refine QX.sr ?_ | refine QX.ee ?_ | refine QX.eo rfl ?_ | refine QX.er ?_ | refine QX.en ?_))
        refine ⟨.inl rfl, _, _, rfl, trivial, ?_⟩
        obtain rfl : i = xs.length := by omega
        rw [List.take_length] at hn
        rw [dayErr, if_neg hr, if_neg hl, if_pos hn]
end Go.Proofs.Ytbmgijgnbilnoaa

namespace Go.Proofs.Ytbmgijgnbilnoaa
open Go Go.RowKit Ox
attribute [local irreducible] JC JL JW
abbrev pI (n : Int) : AV := .val (.ptr (.int .i64)) (some n)

theorem fn67 (x lo hi : Int) : Ox.Fn Go.Proofs.Try.prog 67 (.acons (vI x) (.acons (pI lo) (.acons (pI hi) .anil))) (· = vB (decide (x < lo ∨ x > hi))) := by
  refine Ox.Fn.intro xok Go.Proofs.Try.func67 rfl Go.Proofs.Try.call67 (Nat.le_of_ble_eq_true rfl) (fun E M0 up => ?_)
  (repeat (first   | refine JL.Q1 (xok rfl rfl rfl rfl) rfl rfl ?_   | refine JL.G1 (xok rfl rfl rfl rfl) rfl rfl rfl ?_   | refine JL.M1 (xok rfl rfl rfl rfl) rfl rfl ?_   | refine JL.M0 (xok rfl rfl rfl rfl) rfl ?_   | refine JL.Q0 (xok rfl rfl rfl rfl) rfl ?_   | refine JL.nilF ?_   | refine JL.nil ?_   | refine JC.scope ?_   | refine QX.tn ?_   | refine JC.seq ?_   | refine JC.region ?_   | refine JC.Draw (xok rfl rfl rfl rfl) ?_   | refine JC.block ?_   | refine JC.skip ?_   | refine JC.label ?_   | refine JC.exit ?_   | refine JC.ret ?_   | refine QX.te ?_ | refine QX.tr ?_ | refine QX.bn ?_ | refine QX.be ?_ | refine QX.bx rfl ?_ | refine QX.br ?_ | refine QX.sn ?_ | refine QX.se ?_ | refine QX.sr ?_ | refine QX.ee ?_ | refine QX.eo rfl ?_ | refine QX.er ?_ | refine QX.en ?_))
  refine ⟨.inl rfl, _, _, rfl, trivial, ?_⟩
  by_cases h : x < lo <;> simp [h]

/-- The first place whose element is good, or -1. -/
def idxB (p : Int → Bool) : List Int → Nat → Int
  | [], _ => -1
  | x :: r, i => if p x then (i : Int) else idxB p r (i + 1)

theorem fn70 {f : FuncId} {t1 t2 : Ty} {x1 : t1.den} {x2 : t2.den} (xs : List Int) (p : Int → Bool) (h : ∀ x ∈ xs, Ox.Fn Go.Proofs.Try.prog f (.acons (vI x) (.acons (.val t1 x1) (.acons (.val t2 x2) .anil))) (· = vB (p x))) :
    Ox.Fn Go.Proofs.Try.prog 70 (.acons (vL xs) (.acons (.fn f .anil (.acons (.val t1 x1) (.acons (.val t2 x2) .anil))) .anil)) (· = vI (idxB p xs 0)) := by
  refine Ox.Fn.intro xok Go.Proofs.Try.func70 rfl Go.Proofs.Try.call70 (Nat.le_of_ble_eq_true rfl) (fun E M0 up => ?_)
  refine JC.lenOf 0 rfl fun hlen => ?_
  replace hlen : xs.length ≤ 9223372036854775807 := hlen.1
  (repeat (first   | refine JL.Q1 (xok rfl rfl rfl rfl) rfl rfl ?_   | refine JL.G1 (xok rfl rfl rfl rfl) rfl rfl rfl ?_   | refine JL.M1 (xok rfl rfl rfl rfl) rfl rfl ?_   | refine JL.M0 (xok rfl rfl rfl rfl) rfl ?_   | refine JL.Q0 (xok rfl rfl rfl rfl) rfl ?_   | refine JL.nilF ?_   | refine JL.nil ?_   | refine JC.scope ?_   | refine QX.tn ?_   | refine JC.seq ?_   | refine JC.region ?_   | refine JC.Draw (xok rfl rfl rfl rfl) ?_   | refine JC.block ?_   | refine JC.skip ?_   | refine JC.label ?_   | refine JC.exit ?_   | refine JC.ret ?_   | refine QX.te ?_ | refine QX.tr ?_ | refine QX.bn ?_ | refine QX.be ?_ | refine QX.bx rfl ?_ | refine QX.br ?_ | refine QX.sn ?_ | refine QX.se ?_ | refine QX.sr ?_ | refine QX.ee ?_ | refine QX.eo rfl ?_ | refine QX.er ?_ | refine QX.en ?_))
  refine JC.loop (fun i : Nat => ⟨[(0, vL xs), (1, .fn f .anil (.acons (.val t1 x1) (.acons (.val t2 x2) .anil))), (7, vI xs.length), (8, vI (i : Int))], [], 0⟩) (fun i => i ≤ xs.length ∧ idxB p xs 0 = idxB p (xs.drop i) i) (fun i => xs.length - i) 0 (by simp) (by (exact JW.Auto rfl)) fun i ⟨hi, hn⟩ => ?_
  (repeat (first   | refine JL.Q1 (xok rfl rfl rfl rfl) rfl rfl ?_   | refine JL.G1 (xok rfl rfl rfl rfl) rfl rfl rfl ?_   | refine JL.M1 (xok rfl rfl rfl rfl) rfl rfl ?_   | refine JL.M0 (xok rfl rfl rfl rfl) rfl ?_   | refine JL.Q0 (xok rfl rfl rfl rfl) rfl ?_   | refine JL.nilF ?_   | refine JL.nil ?_   | refine JC.scope ?_   | refine QX.tn ?_   | refine JC.seq ?_   | refine JC.region ?_   | refine JC.Draw (xok rfl rfl rfl rfl) ?_   | refine JC.block ?_   | refine JC.skip ?_   | refine JC.label ?_   | refine JC.exit ?_   | refine JC.ret ?_   | refine QX.te ?_ | refine QX.tr ?_ | refine QX.bn ?_ | refine QX.be ?_ | refine QX.bx rfl ?_ | refine QX.br ?_ | refine QX.sn ?_ | refine QX.se ?_ | refine QX.sr ?_ | refine QX.ee ?_ | refine QX.eo rfl ?_ | refine QX.er ?_ | refine QX.en ?_))
  refine JC.cond rfl (fun hc => ?_) (fun hc => ?_)
  · (simp only [↓bif_or, ↓bif_and, ↓Bool.or_eq_true, ↓Bool.or_eq_false_iff, ↓Bool.and_eq_true, ↓Bool.and_eq_false_iff, ↓Bool.not_eq_true', ↓Bool.not_eq_false', ↓decide_eq_true_eq, ↓decide_eq_false_iff_not, ↓beq_iff_eq, ↓bne_iff_ne, ↓bne_eq_false_iff_eq, ↓ne_eq, ↓beq_eq_false_iff_ne, ↓Bool.not_eq_true] at hc; try simp only [Ty.dflt, Int.toNat_natCast] at hc)
    have hi' : i < xs.length := by omega
    have hx := h (xs.getD i 0) (by rw [getD_nat xs hi']; exact List.getElem_mem hi')
    (repeat (first   | refine JL.Q1 (xok rfl rfl rfl rfl) rfl rfl ?_   | refine JL.G1 (xok rfl rfl rfl rfl) rfl rfl rfl ?_   | refine JL.M1 (xok rfl rfl rfl rfl) rfl rfl ?_   | refine JL.M0 (xok rfl rfl rfl rfl) rfl ?_   | refine JL.Q0 (xok rfl rfl rfl rfl) rfl ?_   | refine JL.nilF ?_   | refine JL.nil ?_   | refine JC.scope ?_   | refine QX.tn ?_   | refine JC.seq ?_   | refine JC.region ?_   | refine JC.Draw (xok rfl rfl rfl rfl) ?_   | refine JC.block ?_   | refine JC.skip ?_   | refine JC.label ?_   | refine JC.exit ?_   | refine JC.ret ?_   | refine QX.te ?_ | refine QX.tr ?_ | refine QX.bn ?_ | refine QX.be ?_ | refine QX.bx rfl ?_ | refine QX.br ?_ | refine QX.sn ?_ | refine QX.se ?_ | refine QX.sr ?_ | refine QX.ee ?_ | refine QX.eo rfl ?_ | refine QX.er ?_ | refine QX.en ?_ | refine JL.S1 rfl (hx) rfl trivial rfl ?_ | refine JL.C1 rfl (hx) rfl (fun r hr => ?_); subst hr | refine JL.S1g rfl rfl (fun hgd => hx) rfl trivial rfl ?_))
    refine JC.cond rfl (fun hd => ?_) (fun hd => ?_)
    · (repeat (first   | refine JL.Q1 (xok rfl rfl rfl rfl) rfl rfl ?_   | refine JL.G1 (xok rfl rfl rfl rfl) rfl rfl rfl ?_   | refine JL.M1 (xok rfl rfl rfl rfl) rfl rfl ?_   | refine JL.M0 (xok rfl rfl rfl rfl) rfl ?_   | refine JL.Q0 (xok rfl rfl rfl rfl) rfl ?_   | refine JL.nilF ?_   | refine JL.nil ?_   | refine JC.scope ?_   | refine QX.tn ?_   | refine JC.seq ?_   | refine JC.region ?_   | refine JC.Draw (xok rfl rfl rfl rfl) ?_   | refine JC.block ?_   | refine JC.skip ?_   | refine JC.label ?_   | refine JC.exit ?_   | refine JC.ret ?_   | refine QX.te ?_ | refine QX.tr ?_ | refine QX.bn ?_ | refine QX.be ?_ | refine QX.bx rfl ?_ | refine QX.br ?_ | refine QX.sn ?_ | refine QX.se ?_ | refine QX.sr ?_ | refine QX.ee ?_ | refine QX.eo rfl ?_ | refine QX.er ?_ | refine QX.en ?_))
      refine ⟨.inl rfl, _, _, rfl, trivial, ?_⟩
      rw [getD_nat xs hi'] at hd
      rw [hn, List.drop_eq_getElem_cons hi', idxB, if_pos hd]
    · (repeat (first   | refine JL.Q1 (xok rfl rfl rfl rfl) rfl rfl ?_   | refine JL.G1 (xok rfl rfl rfl rfl) rfl rfl rfl ?_   | refine JL.M1 (xok rfl rfl rfl rfl) rfl rfl ?_   | refine JL.M0 (xok rfl rfl rfl rfl) rfl ?_   | refine JL.Q0 (xok rfl rfl rfl rfl) rfl ?_   | refine JL.nilF ?_   | refine JL.nil ?_   | refine JC.scope ?_   | refine QX.tn ?_   | refine JC.seq ?_   | refine JC.region ?_   | refine JC.Draw (xok rfl rfl rfl rfl) ?_   | refine JC.block ?_   | refine JC.skip ?_   | refine JC.label ?_   | refine JC.exit ?_   | refine JC.ret ?_   | refine QX.te ?_ | refine QX.tr ?_ | refine QX.bn ?_ | refine QX.be ?_ | refine QX.bx rfl ?_ | refine QX.br ?_ | refine QX.sn ?_ | refine QX.se ?_ | refine QX.sr ?_ | refine QX.ee ?_ | refine QX.eo rfl ?_ | refine QX.er ?_ | refine QX.en ?_))
      rw [getD_nat xs hi'] at hd
      refine ⟨i + 1, by (exact JW.Auto rfl), ⟨by omega, ?_⟩, by omega⟩
      rw [hn, List.drop_eq_getElem_cons hi', idxB, if_neg (by rw [hd]; simp)]
  · (simp only [↓bif_or, ↓bif_and, ↓Bool.or_eq_true, ↓Bool.or_eq_false_iff, ↓Bool.and_eq_true, ↓Bool.and_eq_false_iff, ↓Bool.not_eq_true', ↓Bool.not_eq_false', ↓decide_eq_true_eq, ↓decide_eq_false_iff_not, ↓beq_iff_eq, ↓bne_iff_ne, ↓bne_eq_false_iff_eq, ↓ne_eq, ↓beq_eq_false_iff_ne, ↓Bool.not_eq_true] at hc; try simp only [Ty.dflt, Int.toNat_natCast] at hc)
    (repeat (first   | refine JL.Q1 (xok rfl rfl rfl rfl) rfl rfl ?_   | refine JL.G1 (xok rfl rfl rfl rfl) rfl rfl rfl ?_   | refine JL.M1 (xok rfl rfl rfl rfl) rfl rfl ?_   | refine JL.M0 (xok rfl rfl rfl rfl) rfl ?_   | refine JL.Q0 (xok rfl rfl rfl rfl) rfl ?_   | refine JL.nilF ?_   | refine JL.nil ?_   | refine JC.scope ?_   | refine QX.tn ?_   | refine JC.seq ?_   | refine JC.region ?_   | refine JC.Draw (xok rfl rfl rfl rfl) ?_   | refine JC.block ?_   | refine JC.skip ?_   | refine JC.label ?_   | refine JC.exit ?_   | refine JC.ret ?_   | refine QX.te ?_ | refine QX.tr ?_ | refine QX.bn ?_ | refine QX.be ?_ | refine QX.bx rfl ?_ | refine QX.br ?_ | refine QX.sn ?_ | refine QX.se ?_ | refine QX.sr ?_ | refine QX.ee ?_ | refine QX.eo rfl ?_ | refine QX.er ?_ | refine QX.en ?_))
    refine ⟨.inl rfl, _, _, rfl, trivial, ?_⟩
    obtain rfl : i = xs.length := by omega
    rw [hn, List.drop_length]; rfl

theorem idxB_nonneg {p : Int → Bool} : ∀ {xs : List Int} {i : Nat}, (0 ≤ idxB p xs i) ↔ xs.any p = true
  | [], i => by simp [idxB]
  | x :: r, i => by
    simp only [idxB, List.any_cons, Bool.or_eq_true]
    by_cases h : p x = true
    · simp [h]
    · rw [if_neg h, idxB_nonneg]; simp [h]

theorem fn66 {f : FuncId} {t1 t2 : Ty} {x1 : t1.den} {x2 : t2.den} (xs : List Int) (p : Int → Bool) (h : ∀ x ∈ xs, Ox.Fn Go.Proofs.Try.prog f (.acons (vI x) (.acons (.val t1 x1) (.acons (.val t2 x2) .anil))) (· = vB (p x))) :
    Ox.Fn Go.Proofs.Try.prog 66 (.acons (vL xs) (.acons (.fn f .anil (.acons (.val t1 x1) (.acons (.val t2 x2) .anil))) .anil)) (· = vB (xs.any p)) := by
  refine Ox.Fn.intro xok Go.Proofs.Try.func66 rfl Go.Proofs.Try.call66 (Nat.le_of_ble_eq_true rfl) (fun E M0 up => ?_)
  (repeat (first   | refine JL.Q1 (xok rfl rfl rfl rfl) rfl rfl ?_   | refine JL.G1 (xok rfl rfl rfl rfl) rfl rfl rfl ?_   | refine JL.M1 (xok rfl rfl rfl rfl) rfl rfl ?_   | refine JL.M0 (xok rfl rfl rfl rfl) rfl ?_   | refine JL.Q0 (xok rfl rfl rfl rfl) rfl ?_   | refine JL.nilF ?_   | refine JL.nil ?_   | refine JC.scope ?_   | refine QX.tn ?_   | refine JC.seq ?_   | refine JC.region ?_   | refine JC.Draw (xok rfl rfl rfl rfl) ?_   | refine JC.block ?_   | refine JC.skip ?_   | refine JC.label ?_   | refine JC.exit ?_   | refine JC.ret ?_   | refine QX.te ?_ | refine QX.tr ?_ | refine QX.bn ?_ | refine QX.be ?_ | refine QX.bx rfl ?_ | refine QX.br ?_ | refine QX.sn ?_ | refine QX.se ?_ | refine QX.sr ?_ | refine QX.ee ?_ | refine QX.eo rfl ?_ | refine QX.er ?_ | refine QX.en ?_ | refine JL.S1 rfl (fn70 xs p h) rfl trivial rfl ?_ | refine JL.C1 rfl (fn70 xs p h) rfl (fun r hr => ?_); subst hr | refine JL.S1g rfl rfl (fun hgd => fn70 xs p h) rfl trivial rfl ?_))
  refine ⟨.inl rfl, _, _, rfl, trivial, ?_⟩
  refine congrArg vB ?_
  rw [Bool.eq_iff_iff, ← idxB_nonneg (p := p) (i := 0)]
  simp

theorem fn49 (lo hi : Int) (xs : List Int) : Ox.Fn Go.Proofs.Try.prog 49 (.acons (vI lo) (.acons (vI hi) (.acons (vL xs) .anil))) (· = vB (decide (∀ x ∈ xs, lo ≤ x ∧ x ≤ hi))) := by
  refine Ox.Fn.intro xok Go.Proofs.Try.func49 rfl Go.Proofs.Try.call49 (Nat.le_of_ble_eq_true rfl) (fun E M0 up => ?_)
  (repeat (first   | refine JL.Q1 (xok rfl rfl rfl rfl) rfl rfl ?_   | refine JL.G1 (xok rfl rfl rfl rfl) rfl rfl rfl ?_   | refine JL.M1 (xok rfl rfl rfl rfl) rfl rfl ?_   | refine JL.M0 (xok rfl rfl rfl rfl) rfl ?_   | refine JL.Q0 (xok rfl rfl rfl rfl) rfl ?_   | refine JL.nilF ?_   | refine JL.nil ?_   | refine JC.scope ?_   | refine QX.tn ?_   | refine JC.seq ?_   | refine JC.region ?_   | refine JC.Draw (xok rfl rfl rfl rfl) ?_   | refine JC.block ?_   | refine JC.skip ?_   | refine JC.label ?_   | refine JC.exit ?_   | refine JC.ret ?_   | refine QX.te ?_ | refine QX.tr ?_ | refine QX.bn ?_ | refine QX.be ?_ | refine QX.bx rfl ?_ | refine QX.br ?_ | refine QX.sn ?_ | refine QX.se ?_ | refine QX.sr ?_ | refine QX.ee ?_ | refine QX.eo rfl ?_ | refine QX.er ?_ | refine QX.en ?_ | refine JL.S1 rfl (fn66 xs (fun x => decide (x < lo ∨ x > hi)) (fun x _ => fn67 x lo hi)) rfl trivial rfl ?_ | refine JL.C1 rfl (fn66 xs (fun x => decide (x < lo ∨ x > hi)) (fun x _ => fn67 x lo hi)) rfl (fun r hr => ?_); subst hr | refine JL.S1g rfl rfl (fun hgd => fn66 xs (fun x => decide (x < lo ∨ x > hi)) (fun x _ => fn67 x lo hi)) rfl trivial rfl ?_))
  refine ⟨.inl rfl, _, _, rfl, trivial, ?_⟩
  refine congrArg vB ?_
  rw [Bool.eq_iff_iff]
  simp only [Bool.not_eq_true', List.any_eq_false, decide_eq_true_eq]
  refine ⟨fun h x hx => ?_, fun h x hx => ?_⟩
  · have := h x hx; omega
  · have := h x hx; omega

theorem fn19 (r : Int) (xs : List Int) : Ox.Fn Go.Proofs.Try.prog 19 (.acons (vD r xs) .anil) (· = vI (dayErr r xs)) := by
  refine Ox.Fn.intro xok Go.Proofs.Try.func19 rfl Go.Proofs.Try.call19 (Nat.le_of_ble_eq_true rfl) (fun E M0 up => ?_)
  (repeat (first   | refine JL.Q1 (xok rfl rfl rfl rfl) rfl rfl ?_   | refine JL.G1 (xok rfl rfl rfl rfl) rfl rfl rfl ?_   | refine JL.M1 (xok rfl rfl rfl rfl) rfl rfl ?_   | refine JL.M0 (xok rfl rfl rfl rfl) rfl ?_   | refine JL.Q0 (xok rfl rfl rfl rfl) rfl ?_   | refine JL.nilF ?_   | refine JL.nil ?_   | refine JC.scope ?_   | refine QX.tn ?_   | refine JC.seq ?_   | refine JC.region ?_   | refine JC.Draw (xok rfl rfl rfl rfl) ?_   | refine JC.block ?_   | refine JC.skip ?_   | refine JC.label ?_   | refine JC.exit ?_   | refine JC.ret ?_   | refine QX.te ?_ | refine QX.tr ?_ | refine QX.bn ?_ | refine QX.be ?_ | refine QX.bx rfl ?_ | refine QX.br ?_ | refine QX.sn ?_ | refine QX.se ?_ | refine QX.sr ?_ | refine QX.ee ?_ | refine QX.eo rfl ?_ | refine QX.er ?_ | refine QX.en ?_ | refine JL.S1 rfl (fn49 _ _ _) rfl trivial rfl ?_ | refine JL.C1 rfl (fn49 _ _ _) rfl (fun r hr => ?_); subst hr | refine JL.S1g rfl rfl (fun hgd => fn49 _ _ _) rfl trivial rfl ?_))
  refine JC.cond rfl (fun hc => ?_) (fun hc => ?_)
  · (simp only [↓bif_or, ↓bif_and, ↓Bool.or_eq_true, ↓Bool.or_eq_false_iff, ↓Bool.and_eq_true, ↓Bool.and_eq_false_iff, ↓Bool.not_eq_true', ↓Bool.not_eq_false', ↓decide_eq_true_eq, ↓decide_eq_false_iff_not, ↓beq_iff_eq, ↓bne_iff_ne, ↓bne_eq_false_iff_eq, ↓ne_eq, ↓beq_eq_false_iff_ne, ↓Bool.not_eq_true] at hc; try simp only [Ty.dflt, Int.toNat_natCast] at hc)
    have hr : r < 1 ∨ r > 4 := by
      by_cases h : r < 1 ∨ r > 4
      · exact h
      · exact absurd (fun x hx => by simp at hx; subst hx; (try dsimp only); omega) hc
    (repeat (first   | refine JL.Q1 (xok rfl rfl rfl rfl) rfl rfl ?_   | refine JL.G1 (xok rfl rfl rfl rfl) rfl rfl rfl ?_   | refine JL.M1 (xok rfl rfl rfl rfl) rfl rfl ?_   | refine JL.M0 (xok rfl rfl rfl rfl) rfl ?_   | refine JL.Q0 (xok rfl rfl rfl rfl) rfl ?_   | refine JL.nilF ?_   | refine JL.nil ?_   | refine JC.scope ?_   | refine QX.tn ?_   | refine JC.seq ?_   | refine JC.region ?_   | refine JC.Draw (xok rfl rfl rfl rfl) ?_   | refine JC.block ?_   | refine JC.skip ?_   | refine JC.label ?_   | refine JC.exit ?_   | refine JC.ret ?_   | refine QX.te ?_ | refine QX.tr ?_ | refine QX.bn ?_ | refine QX.be ?_ | refine QX.bx rfl ?_ | refine QX.br ?_ | refine QX.sn ?_ | refine QX.se ?_ | refine QX.sr ?_ | refine QX.ee ?_ | refine QX.eo rfl ?_ | refine QX.er ?_ | refine QX.en ?_))
    refine ⟨.inl rfl, _, _, rfl, trivial, ?_⟩
    rw [dayErr, if_pos hr]
  · (simp only [↓bif_or, ↓bif_and, ↓Bool.or_eq_true, ↓Bool.or_eq_false_iff, ↓Bool.and_eq_true, ↓Bool.and_eq_false_iff, ↓Bool.not_eq_true', ↓Bool.not_eq_false', ↓decide_eq_true_eq, ↓decide_eq_false_iff_not, ↓beq_iff_eq, ↓bne_iff_ne, ↓bne_eq_false_iff_eq, ↓ne_eq, ↓beq_eq_false_iff_ne, ↓Bool.not_eq_true] at hc; try simp only [Ty.dflt, Int.toNat_natCast] at hc)
    have hr : ¬ (r < 1 ∨ r > 4) := by have := hc r (by simp); omega
    (repeat (first   | refine JL.Q1 (xok rfl rfl rfl rfl) rfl rfl ?_   | refine JL.G1 (xok rfl rfl rfl rfl) rfl rfl rfl ?_   | refine JL.M1 (xok rfl rfl rfl rfl) rfl rfl ?_   | refine JL.M0 (xok rfl rfl rfl rfl) rfl ?_   | refine JL.Q0 (xok rfl rfl rfl rfl) rfl ?_   | refine JL.nilF ?_   | refine JL.nil ?_   | refine JC.scope ?_   | refine QX.tn ?_   | refine JC.seq ?_   | refine JC.region ?_   | refine JC.Draw (xok rfl rfl rfl rfl) ?_   | refine JC.block ?_   | refine JC.skip ?_   | refine JC.label ?_   | refine JC.exit ?_   | refine JC.ret ?_   | refine QX.te ?_ | refine QX.tr ?_ | refine QX.bn ?_ | refine QX.be ?_ | refine QX.bx rfl ?_ | refine QX.br ?_ | refine QX.sn ?_ | refine QX.se ?_ | refine QX.sr ?_ | refine QX.ee ?_ | refine QX.eo rfl ?_ | refine QX.er ?_ | refine QX.en ?_ | refine JL.S1 rfl (fn49 _ _ _) rfl trivial rfl ?_ | refine JL.C1 rfl (fn49 _ _ _) rfl (fun r hr => ?_); subst hr | refine JL.S1g rfl rfl (fun hgd => fn49 _ _ _) rfl trivial rfl ?_))
    refine JC.cond rfl (fun hc2 => ?_) (fun hc2 => ?_)
    · (simp only [↓bif_or, ↓bif_and, ↓Bool.or_eq_true, ↓Bool.or_eq_false_iff, ↓Bool.and_eq_true, ↓Bool.and_eq_false_iff, ↓Bool.not_eq_true', ↓Bool.not_eq_false', ↓decide_eq_true_eq, ↓decide_eq_false_iff_not, ↓beq_iff_eq, ↓bne_iff_ne, ↓bne_eq_false_iff_eq, ↓ne_eq, ↓beq_eq_false_iff_ne, ↓Bool.not_eq_true] at hc2; try simp only [Ty.dflt, Int.toNat_natCast] at hc2)
      have hl : xs.length < 1 ∨ xs.length > 24 := by
        by_cases h : xs.length < 1 ∨ xs.length > 24
        · exact h
        · exact absurd (fun x hx => by simp at hx; subst hx; (try dsimp only); omega) hc2
      (repeat (first   | refine JL.Q1 (xok rfl rfl rfl rfl) rfl rfl ?_   | refine JL.G1 (xok rfl rfl rfl rfl) rfl rfl rfl ?_   | refine JL.M1 (xok rfl rfl rfl rfl) rfl rfl ?_   | refine JL.M0 (xok rfl rfl rfl rfl) rfl ?_   | refine JL.Q0 (xok rfl rfl rfl rfl) rfl ?_   | refine JL.nilF ?_   | refine JL.nil ?_   | refine JC.scope ?_   | refine QX.tn ?_   | refine JC.seq ?_   | refine JC.region ?_   | refine JC.Draw (xok rfl rfl rfl rfl) ?_   | refine JC.block ?_   | refine JC.skip ?_   | refine JC.label ?_   | refine JC.exit ?_   | refine JC.ret ?_   | refine QX.te ?_ | refine QX.tr ?_ | refine QX.bn ?_ | refine QX.be ?_ | refine QX.bx rfl ?_ | refine QX.br ?_ | refine QX.sn ?_ | refine QX.se ?_ | refine QX.sr ?_ | refine QX.ee ?_ | refine QX.eo rfl ?_ | refine QX.er ?_ | refine QX.en ?_))
      refine ⟨.inl rfl, _, _, rfl, trivial, ?_⟩
      rw [dayErr, if_neg hr, if_pos hl]
    · (simp only [↓bif_or, ↓bif_and, ↓Bool.or_eq_true, ↓Bool.or_eq_false_iff, ↓Bool.and_eq_true, ↓Bool.and_eq_false_iff, ↓Bool.not_eq_true', ↓Bool.not_eq_false', ↓decide_eq_true_eq, ↓decide_eq_false_iff_not, ↓beq_iff_eq, ↓bne_iff_ne, ↓bne_eq_false_iff_eq, ↓ne_eq, ↓beq_eq_false_iff_ne, ↓Bool.not_eq_true] at hc2; try simp only [Ty.dflt, Int.toNat_natCast] at hc2)
      have hl : ¬ (xs.length < 1 ∨ xs.length > 24) := by have := hc2 xs.length (by simp); omega
      (repeat (first   | refine JL.Q1 (xok rfl rfl rfl rfl) rfl rfl ?_   | refine JL.G1 (xok rfl rfl rfl rfl) rfl rfl rfl ?_   | refine JL.M1 (xok rfl rfl rfl rfl) rfl rfl ?_   | refine JL.M0 (xok rfl rfl rfl rfl) rfl ?_   | refine JL.Q0 (xok rfl rfl rfl rfl) rfl ?_   | refine JL.nilF ?_   | refine JL.nil ?_   | refine JC.scope ?_   | refine QX.tn ?_   | refine JC.seq ?_   | refine JC.region ?_   | refine JC.Draw (xok rfl rfl rfl rfl) ?_   | refine JC.block ?_   | refine JC.skip ?_   | refine JC.label ?_   | refine JC.exit ?_   | refine JC.ret ?_   | refine QX.te ?_ | refine QX.tr ?_ | refine QX.bn ?_ | refine QX.be ?_ | refine QX.bx rfl ?_ | refine QX.br ?_ | refine QX.sn ?_ | refine QX.se ?_ | refine QX.sr ?_ | refine QX.ee ?_ | refine QX.eo rfl ?_ | refine QX.er ?_ | refine QX.en ?_ | refine JL.S1 rfl (fn49 _ _ _) rfl trivial rfl ?_ | refine JL.C1 rfl (fn49 _ _ _) rfl (fun r hr => ?_); subst hr | refine JL.S1g rfl rfl (fun hgd => fn49 _ _ _) rfl trivial rfl ?_))
      refine JC.cond rfl (fun hc3 => ?_) (fun hc3 => ?_)
      · (simp only [↓bif_or, ↓bif_and, ↓Bool.or_eq_true, ↓Bool.or_eq_false_iff, ↓Bool.and_eq_true, ↓Bool.and_eq_false_iff, ↓Bool.not_eq_true', ↓Bool.not_eq_false', ↓decide_eq_true_eq, ↓decide_eq_false_iff_not, ↓beq_iff_eq, ↓bne_iff_ne, ↓bne_eq_false_iff_eq, ↓ne_eq, ↓beq_eq_false_iff_ne, ↓Bool.not_eq_true] at hc3; try simp only [Ty.dflt, Int.toNat_natCast] at hc3)
        (repeat (first   | refine JL.Q1 (xok rfl rfl rfl rfl) rfl rfl ?_   | refine JL.G1 (xok rfl rfl rfl rfl) rfl rfl rfl ?_   | refine JL.M1 (xok rfl rfl rfl rfl) rfl rfl ?_   | refine JL.M0 (xok rfl rfl rfl rfl) rfl ?_   | refine JL.Q0 (xok rfl rfl rfl rfl) rfl ?_   | refine JL.nilF ?_   | refine JL.nil ?_   | refine JC.scope ?_   | refine QX.tn ?_   | refine JC.seq ?_   | refine JC.region ?_   | refine JC.Draw (xok rfl rfl rfl rfl) ?_   | refine JC.block ?_   | refine JC.skip ?_   | refine JC.label ?_   | refine JC.exit ?_   | refine JC.ret ?_   | refine QX.te ?_ | refine QX.tr ?_ | refine QX.bn ?_ | refine QX.be ?_ | refine QX.bx rfl ?_ | refine QX.br ?_ | refine QX.sn ?_ | refine QX.se ?_ | refine QX.sr ?_ | refine QX.ee ?_ | refine QX.eo rfl ?_ | refine QX.er ?_ | refine QX.en ?_))
        refine ⟨.inl rfl, _, _, rfl, trivial, ?_⟩
        rw [dayErr, if_neg hr, if_neg hl, if_neg hc3]
      · (simp only [↓bif_or, ↓bif_and, ↓Bool.or_eq_true, ↓Bool.or_eq_false_iff, ↓Bool.and_eq_true, ↓Bool.and_eq_false_iff, ↓Bool.not_eq_true', ↓Bool.not_eq_false', ↓decide_eq_true_eq, ↓decide_eq_false_iff_not, ↓beq_iff_eq, ↓bne_iff_ne, ↓bne_eq_false_iff_eq, ↓ne_eq, ↓beq_eq_false_iff_ne, ↓Bool.not_eq_true] at hc3; try simp only [Ty.dflt, Int.toNat_natCast] at hc3)
        (repeat (first   | refine JL.Q1 (xok rfl rfl rfl rfl) rfl rfl ?_   | refine JL.G1 (xok rfl rfl rfl rfl) rfl rfl rfl ?_   | refine JL.M1 (xok rfl rfl rfl rfl) rfl rfl ?_   | refine JL.M0 (xok rfl rfl rfl rfl) rfl ?_   | refine JL.Q0 (xok rfl rfl rfl rfl) rfl ?_   | refine JL.nilF ?_   | refine JL.nil ?_   | refine JC.scope ?_   | refine QX.tn ?_   | refine JC.seq ?_   | refine JC.region ?_   | refine JC.Draw (xok rfl rfl rfl rfl) ?_   | refine JC.block ?_   | refine JC.skip ?_   | refine JC.label ?_   | refine JC.exit ?_   | refine JC.ret ?_   | refine QX.te ?_ | refine QX.tr ?_ | refine QX.bn ?_ | refine QX.be ?_ | refine QX.bx rfl ?_ | refine QX.br ?_ | refine QX.sn ?_ | refine QX.se ?_ | refine QX.sr ?_ | refine QX.ee ?_ | refine QX.eo rfl ?_ | refine QX.er ?_ | refine QX.en ?_))
        refine ⟨.inl rfl, _, _, rfl, trivial, ?_⟩
        rw [dayErr, if_neg hr, if_neg hl, if_pos hc3]

/-- The book before a book, or the error. -/
def beforeS (r : Int) (xs : List Int) (n : Int) : Int × Int :=
  if dayErr r xs ≠ 0 then (0, dayErr r xs) else if 0 ≤ n ∧ n < xs.length then (if lastB xs (xs.getD n.toNat 0) n.toNat < 0 then (0, 5) else (lastB xs (xs.getD n.toNat 0) n.toNat, 0)) else (0, 2)

abbrev vT2 (a b : Int) : AV := .tup (.acons (vI a) (.acons (vI b) .anil))

theorem fn18 (r : Int) (xs : List Int) (n : Int) : Ox.Fn Go.Proofs.Try.prog 18 (.acons (vD r xs) (.acons (vI n) .anil)) (· = vT2 (beforeS r xs n).1 (beforeS r xs n).2) := by
  refine Ox.Fn.intro xok Go.Proofs.Try.func18 rfl Go.Proofs.Try.call18 (Nat.le_of_ble_eq_true rfl) (fun E M0 up => ?_)
  (repeat (first   | refine JL.Q1 (xok rfl rfl rfl rfl) rfl rfl ?_   | refine JL.G1 (xok rfl rfl rfl rfl) rfl rfl rfl ?_   | refine JL.M1 (xok rfl rfl rfl rfl) rfl rfl ?_   | refine JL.M0 (xok rfl rfl rfl rfl) rfl ?_   | refine JL.Q0 (xok rfl rfl rfl rfl) rfl ?_   | refine JL.nilF ?_   | refine JL.nil ?_   | refine JC.scope ?_   | refine QX.tn ?_   | refine JC.seq ?_   | refine JC.region ?_   | refine JC.Draw (xok rfl rfl rfl rfl) ?_   | refine JC.block ?_   | refine JC.skip ?_   | refine JC.label ?_   | refine JC.exit ?_   | refine JC.ret ?_   | refine QX.te ?_ | refine QX.tr ?_ | refine QX.bn ?_ | refine QX.be ?_ | refine QX.bx rfl ?_ | refine QX.br ?_ | refine QX.sn ?_ | refine QX.se ?_ | refine QX.sr ?_ | refine QX.ee ?_ | refine QX.eo rfl ?_ | refine QX.er ?_ | refine QX.en ?_ | refine JL.S1 rfl (fn20 _ _) rfl trivial rfl ?_ | refine JL.C1 rfl (fn20 _ _) rfl (fun r hr => ?_); subst hr | refine JL.S1g rfl rfl (fun hgd => fn20 _ _) rfl trivial rfl ?_))
  refine JC.cond rfl (fun hc => ?_) (fun hc => ?_)
  · (simp only [↓bif_or, ↓bif_and, ↓Bool.or_eq_true, ↓Bool.or_eq_false_iff, ↓Bool.and_eq_true, ↓Bool.and_eq_false_iff, ↓Bool.not_eq_true', ↓Bool.not_eq_false', ↓decide_eq_true_eq, ↓decide_eq_false_iff_not, ↓beq_iff_eq, ↓bne_iff_ne, ↓bne_eq_false_iff_eq, ↓ne_eq, ↓beq_eq_false_iff_ne, ↓Bool.not_eq_true] at hc; try simp only [Ty.dflt, Int.toNat_natCast] at hc)
    (repeat (first   | refine JL.Q1 (xok rfl rfl rfl rfl) rfl rfl ?_   | refine JL.G1 (xok rfl rfl rfl rfl) rfl rfl rfl ?_   | refine JL.M1 (xok rfl rfl rfl rfl) rfl rfl ?_   | refine JL.M0 (xok rfl rfl rfl rfl) rfl ?_   | refine JL.Q0 (xok rfl rfl rfl rfl) rfl ?_   | refine JL.nilF ?_   | refine JL.nil ?_   | refine JC.scope ?_   | refine QX.tn ?_   | refine JC.seq ?_   | refine JC.region ?_   | refine JC.Draw (xok rfl rfl rfl rfl) ?_   | refine JC.block ?_   | refine JC.skip ?_   | refine JC.label ?_   | refine JC.exit ?_   | refine JC.ret ?_   | refine QX.te ?_ | refine QX.tr ?_ | refine QX.bn ?_ | refine QX.be ?_ | refine QX.bx rfl ?_ | refine QX.br ?_ | refine QX.sn ?_ | refine QX.se ?_ | refine QX.sr ?_ | refine QX.ee ?_ | refine QX.eo rfl ?_ | refine QX.er ?_ | refine QX.en ?_ | refine JL.S1 rfl (fn20 _ _) rfl trivial rfl ?_ | refine JL.C1 rfl (fn20 _ _) rfl (fun r hr => ?_); subst hr | refine JL.S1g rfl rfl (fun hgd => fn20 _ _) rfl trivial rfl ?_))
    refine ⟨.inl rfl, _, _, rfl, trivial, ?_⟩
    rw [beforeS, if_pos hc]
  · (simp only [↓bif_or, ↓bif_and, ↓Bool.or_eq_true, ↓Bool.or_eq_false_iff, ↓Bool.and_eq_true, ↓Bool.and_eq_false_iff, ↓Bool.not_eq_true', ↓Bool.not_eq_false', ↓decide_eq_true_eq, ↓decide_eq_false_iff_not, ↓beq_iff_eq, ↓bne_iff_ne, ↓bne_eq_false_iff_eq, ↓ne_eq, ↓beq_eq_false_iff_ne, ↓Bool.not_eq_true] at hc; try simp only [Ty.dflt, Int.toNat_natCast] at hc)
    (repeat (first   | refine JL.Q1 (xok rfl rfl rfl rfl) rfl rfl ?_   | refine JL.G1 (xok rfl rfl rfl rfl) rfl rfl rfl ?_   | refine JL.M1 (xok rfl rfl rfl rfl) rfl rfl ?_   | refine JL.M0 (xok rfl rfl rfl rfl) rfl ?_   | refine JL.Q0 (xok rfl rfl rfl rfl) rfl ?_   | refine JL.nilF ?_   | refine JL.nil ?_   | refine JC.scope ?_   | refine QX.tn ?_   | refine JC.seq ?_   | refine JC.region ?_   | refine JC.Draw (xok rfl rfl rfl rfl) ?_   | refine JC.block ?_   | refine JC.skip ?_   | refine JC.label ?_   | refine JC.exit ?_   | refine JC.ret ?_   | refine QX.te ?_ | refine QX.tr ?_ | refine QX.bn ?_ | refine QX.be ?_ | refine QX.bx rfl ?_ | refine QX.br ?_ | refine QX.sn ?_ | refine QX.se ?_ | refine QX.sr ?_ | refine QX.ee ?_ | refine QX.eo rfl ?_ | refine QX.er ?_ | refine QX.en ?_ | refine JL.S1 rfl (fn47 _ _ _) rfl trivial rfl ?_ | refine JL.C1 rfl (fn47 _ _ _) rfl (fun r hr => ?_); subst hr | refine JL.S1g rfl rfl (fun hgd => fn47 _ _ _) rfl trivial rfl ?_))
    refine JC.cond rfl (fun hc2 => ?_) (fun hc2 => ?_)
    · (simp only [↓bif_or, ↓bif_and, ↓Bool.or_eq_true, ↓Bool.or_eq_false_iff, ↓Bool.and_eq_true, ↓Bool.and_eq_false_iff, ↓Bool.not_eq_true', ↓Bool.not_eq_false', ↓decide_eq_true_eq, ↓decide_eq_false_iff_not, ↓beq_iff_eq, ↓bne_iff_ne, ↓bne_eq_false_iff_eq, ↓ne_eq, ↓beq_eq_false_iff_ne, ↓Bool.not_eq_true] at hc2; try simp only [Ty.dflt, Int.toNat_natCast] at hc2)
      (repeat (first   | refine JL.Q1 (xok rfl rfl rfl rfl) rfl rfl ?_   | refine JL.G1 (xok rfl rfl rfl rfl) rfl rfl rfl ?_   | refine JL.M1 (xok rfl rfl rfl rfl) rfl rfl ?_   | refine JL.M0 (xok rfl rfl rfl rfl) rfl ?_   | refine JL.Q0 (xok rfl rfl rfl rfl) rfl ?_   | refine JL.nilF ?_   | refine JL.nil ?_   | refine JC.scope ?_   | refine QX.tn ?_   | refine JC.seq ?_   | refine JC.region ?_   | refine JC.Draw (xok rfl rfl rfl rfl) ?_   | refine JC.block ?_   | refine JC.skip ?_   | refine JC.label ?_   | refine JC.exit ?_   | refine JC.ret ?_   | refine QX.te ?_ | refine QX.tr ?_ | refine QX.bn ?_ | refine QX.be ?_ | refine QX.bx rfl ?_ | refine QX.br ?_ | refine QX.sn ?_ | refine QX.se ?_ | refine QX.sr ?_ | refine QX.ee ?_ | refine QX.eo rfl ?_ | refine QX.er ?_ | refine QX.en ?_))
      refine ⟨.inl rfl, _, _, rfl, trivial, ?_⟩
      rw [beforeS, if_neg (by simpa using hc), if_neg hc2]
    · (simp only [↓bif_or, ↓bif_and, ↓Bool.or_eq_true, ↓Bool.or_eq_false_iff, ↓Bool.and_eq_true, ↓Bool.and_eq_false_iff, ↓Bool.not_eq_true', ↓Bool.not_eq_false', ↓decide_eq_true_eq, ↓decide_eq_false_iff_not, ↓beq_iff_eq, ↓bne_iff_ne, ↓bne_eq_false_iff_eq, ↓ne_eq, ↓beq_eq_false_iff_ne, ↓Bool.not_eq_true] at hc2; try simp only [Ty.dflt, Int.toNat_natCast] at hc2)
      obtain ⟨m, rfl⟩ := Int.eq_ofNat_of_zero_le hc2.1
      have hm : m < xs.length := by omega
      (repeat (first   | refine JL.Q1 (xok rfl rfl rfl rfl) rfl rfl ?_   | refine JL.G1 (xok rfl rfl rfl rfl) rfl rfl rfl ?_   | refine JL.M1 (xok rfl rfl rfl rfl) rfl rfl ?_   | refine JL.M0 (xok rfl rfl rfl rfl) rfl ?_   | refine JL.Q0 (xok rfl rfl rfl rfl) rfl ?_   | refine JL.nilF ?_   | refine JL.nil ?_   | refine JC.scope ?_   | refine QX.tn ?_   | refine JC.seq ?_   | refine JC.region ?_   | refine JC.Draw (xok rfl rfl rfl rfl) ?_   | refine JC.block ?_   | refine JC.skip ?_   | refine JC.label ?_   | refine JC.exit ?_   | refine JC.ret ?_   | refine QX.te ?_ | refine QX.tr ?_ | refine QX.bn ?_ | refine QX.be ?_ | refine QX.bx rfl ?_ | refine QX.br ?_ | refine QX.sn ?_ | refine QX.se ?_ | refine QX.sr ?_ | refine QX.ee ?_ | refine QX.eo rfl ?_ | refine QX.er ?_ | refine QX.en ?_ | refine JL.S1 rfl (fn48 _ _ _ hm) rfl trivial rfl ?_ | refine JL.C1 rfl (fn48 _ _ _ hm) rfl (fun r hr => ?_); subst hr | refine JL.S1g rfl rfl (fun hgd => fn48 _ _ _ hm) rfl trivial rfl ?_))
      refine JC.cond rfl (fun hc3 => ?_) (fun hc3 => ?_)
      · (simp only [↓bif_or, ↓bif_and, ↓Bool.or_eq_true, ↓Bool.or_eq_false_iff, ↓Bool.and_eq_true, ↓Bool.and_eq_false_iff, ↓Bool.not_eq_true', ↓Bool.not_eq_false', ↓decide_eq_true_eq, ↓decide_eq_false_iff_not, ↓beq_iff_eq, ↓bne_iff_ne, ↓bne_eq_false_iff_eq, ↓ne_eq, ↓beq_eq_false_iff_ne, ↓Bool.not_eq_true] at hc3; try simp only [Ty.dflt, Int.toNat_natCast] at hc3)
        (repeat (first   | refine JL.Q1 (xok rfl rfl rfl rfl) rfl rfl ?_   | refine JL.G1 (xok rfl rfl rfl rfl) rfl rfl rfl ?_   | refine JL.M1 (xok rfl rfl rfl rfl) rfl rfl ?_   | refine JL.M0 (xok rfl rfl rfl rfl) rfl ?_   | refine JL.Q0 (xok rfl rfl rfl rfl) rfl ?_   | refine JL.nilF ?_   | refine JL.nil ?_   | refine JC.scope ?_   | refine QX.tn ?_   | refine JC.seq ?_   | refine JC.region ?_   | refine JC.Draw (xok rfl rfl rfl rfl) ?_   | refine JC.block ?_   | refine JC.skip ?_   | refine JC.label ?_   | refine JC.exit ?_   | refine JC.ret ?_   | refine QX.te ?_ | refine QX.tr ?_ | refine QX.bn ?_ | refine QX.be ?_ | refine QX.bx rfl ?_ | refine QX.br ?_ | refine QX.sn ?_ | refine QX.se ?_ | refine QX.sr ?_ | refine QX.ee ?_ | refine QX.eo rfl ?_ | refine QX.er ?_ | refine QX.en ?_))
        refine ⟨.inl rfl, _, _, rfl, trivial, ?_⟩
        rw [beforeS, if_neg (by simpa using hc), if_pos hc2, Int.toNat_natCast, if_pos hc3]
      · (simp only [↓bif_or, ↓bif_and, ↓Bool.or_eq_true, ↓Bool.or_eq_false_iff, ↓Bool.and_eq_true, ↓Bool.and_eq_false_iff, ↓Bool.not_eq_true', ↓Bool.not_eq_false', ↓decide_eq_true_eq, ↓decide_eq_false_iff_not, ↓beq_iff_eq, ↓bne_iff_ne, ↓bne_eq_false_iff_eq, ↓ne_eq, ↓beq_eq_false_iff_ne, ↓Bool.not_eq_true] at hc3; try simp only [Ty.dflt, Int.toNat_natCast] at hc3)
        (repeat (first   | refine JL.Q1 (xok rfl rfl rfl rfl) rfl rfl ?_   | refine JL.G1 (xok rfl rfl rfl rfl) rfl rfl rfl ?_   | refine JL.M1 (xok rfl rfl rfl rfl) rfl rfl ?_   | refine JL.M0 (xok rfl rfl rfl rfl) rfl ?_   | refine JL.Q0 (xok rfl rfl rfl rfl) rfl ?_   | refine JL.nilF ?_   | refine JL.nil ?_   | refine JC.scope ?_   | refine QX.tn ?_   | refine JC.seq ?_   | refine JC.region ?_   | refine JC.Draw (xok rfl rfl rfl rfl) ?_   | refine JC.block ?_   | refine JC.skip ?_   | refine JC.label ?_   | refine JC.exit ?_   | refine JC.ret ?_   | refine QX.te ?_ | refine QX.tr ?_ | refine QX.bn ?_ | refine QX.be ?_ | refine QX.bx rfl ?_ | refine QX.br ?_ | refine QX.sn ?_ | refine QX.se ?_ | refine QX.sr ?_ | refine QX.ee ?_ | refine QX.eo rfl ?_ | refine QX.er ?_ | refine QX.en ?_ | refine JL.S1 rfl (fn48 _ _ _ hm) rfl trivial rfl ?_ | refine JL.C1 rfl (fn48 _ _ _ hm) rfl (fun r hr => ?_); subst hr | refine JL.S1g rfl rfl (fun hgd => fn48 _ _ _ hm) rfl trivial rfl ?_))
        refine ⟨.inl rfl, _, _, rfl, trivial, ?_⟩
        rw [beforeS, if_neg (by simpa using hc), if_pos hc2, Int.toNat_natCast, if_neg hc3]
end Go.Proofs.Ytbmgijgnbilnoaa

namespace Go.Proofs.Ytbmgijgnbilnoaa
open Go Go.RowKit Ox
set_option maxHeartbeats 1000000
attribute [local irreducible] JC JL JW

abbrev binT : Ty := .cons dayT (.cons (.slice (.int .i64)) (.cons (.slice (.int .i64)) .nil))

/-- The books before the first 'k' books. -/
def lasts (xs : List Int) (k : Nat) : List Int := (List.range k).map fun i => lastB xs (xs.getD i 0) i
/-- The next books, as far as the first 'k' books say. -/
def nexts (xs : List Int) : Nat → List Int
  | 0 => []
  | k + 1 => bif decide (0 ≤ lastB xs (xs.getD k 0) k) then (nexts xs k ++ [-1]).set (lastB xs (xs.getD k 0) k).toNat k else nexts xs k ++ [-1]
/-- One more than the last book before the k-th for each block. -/
def seenB (xs : List Int) (k : Nat) : List Int := (List.range 8).map fun (b : Nat) => lastB xs (b : Int) k + 1

abbrev vBin (r : Int) (xs : List Int) : AV := .val (.ptr binT) (some ((r, xs, ()), lasts xs xs.length, nexts xs xs.length, ()))

theorem lasts_succ (xs : List Int) (k : Nat) : lasts xs (k + 1) = lasts xs k ++ [lastB xs (xs.getD k 0) k] := by simp [lasts, List.range_succ]
theorem lasts_length (xs : List Int) (k : Nat) : (lasts xs k).length = k := by simp [lasts]
theorem nexts_length (xs : List Int) : ∀ k, (nexts xs k).length = k
  | 0 => rfl
  | k + 1 => by rw [nexts]; cases decide (0 ≤ lastB xs (xs.getD k 0) k) <;> simp [nexts_length xs k]
theorem lastB_bd (xs : List Int) (x : Int) : ∀ k, -1 ≤ lastB xs x k ∧ lastB xs x k < k
  | 0 => by simp [lastB]
  | k + 1 => by have := lastB_bd xs x k; rw [lastB]; split <;> omega
theorem seenB_get (xs : List Int) (k : Nat) {b : Int} (h0 : 0 ≤ b) (h7 : b ≤ 7) : (seenB xs k).getD b.toNat 0 = lastB xs b k + 1 := by
  have h : b.toNat < 8 := by omega
  rw [seenB, List.getD_eq_getElem?_getD, List.getElem?_map, List.getElem?_range h]
  simp [Int.toNat_of_nonneg h0]
theorem seenB_succ (xs : List Int) (k : Nat) {b : Int} (h0 : 0 ≤ b) (h7 : b ≤ 7) (hb : xs.getD k 0 = b) : (seenB xs k).set b.toNat (k + 1) = seenB xs (k + 1) := by
  apply List.ext_getElem (by simp [seenB])
  intro i h1 h2
  have h2' : i < 8 := by simpa [seenB] using h2
  rw [List.getElem_set]
  simp only [seenB, List.getElem_map, List.getElem_range, lastB, hb]
  split
  · rename_i e; rw [if_pos (by omega)]
  · rename_i e; rw [if_neg (by omega)]

theorem fn56 (r : Int) (xs : List Int) (hx : ∀ x ∈ xs, 0 ≤ x ∧ x ≤ 7) (hl : xs.length ≤ 24) : Ox.Fn Go.Proofs.Try.prog 56 (.acons (vD r xs) .anil) (· = vBin r xs) := by
  refine Ox.Fn.intro xok Go.Proofs.Try.func56 rfl Go.Proofs.Try.call56 (Nat.le_of_ble_eq_true rfl) (fun E M0 up => ?_)
  (repeat (first   | refine JL.Q1 (xok rfl rfl rfl rfl) rfl rfl ?_   | refine JL.G1 (xok rfl rfl rfl rfl) rfl rfl rfl ?_   | refine JL.M1 (xok rfl rfl rfl rfl) rfl rfl ?_   | refine JL.M0 (xok rfl rfl rfl rfl) rfl ?_   | refine JL.Q0 (xok rfl rfl rfl rfl) rfl ?_   | refine JL.nilF ?_   | refine JL.nil ?_   | refine JC.scope ?_   | refine QX.tn ?_   | refine JC.seq ?_   | refine JC.region ?_   | refine JC.Draw (xok rfl rfl rfl rfl) ?_   | refine JC.block ?_   | refine JC.skip ?_   | refine JC.label ?_   | refine JC.exit ?_   | refine JC.ret ?_   | refine QX.te ?_ | refine QX.tr ?_ | refine QX.bn ?_ | refine QX.be ?_ | refine QX.bx rfl ?_ | refine QX.br ?_ | refine QX.sn ?_ | refine QX.se ?_ | refine QX.sr ?_ | refine QX.ee ?_ | refine QX.eo rfl ?_ | refine QX.er ?_ | refine QX.en ?_))
  refine JC.ghostC 1 1 3 (.int .i64) rfl rfl ?_
  refine JC.ghostC 1 2 3 (.int .i64) rfl rfl ?_
  refine JC.loop (fun k : Nat => ⟨[(3, .lf (.optr 1 [])), (4, .lf (.optr 2 [])), (12, vL xs), (13, vI xs.length), (14, vI (k : Int))],
    [(1, .cell binT (.mix (vD r xs) (.mix (.lf (.osl 3)) (.mix (.lf (.osl 4)) (.val .nil ()))))), (2, .cell (.arr 8 (.int .i64)) (.val (.arr 8 (.int .i64)) (seenB xs k))), (3, .sl 3 (.int .i64) (lasts xs k)), (4, .sl 3 (.int .i64) (nexts xs k))], 5⟩)
    (fun k => k ≤ xs.length) (fun k => xs.length - k) 0 (by simp) (by (exact JW.Auto rfl)) fun k hk => ?_
  (repeat (first   | refine JL.Q1 (xok rfl rfl rfl rfl) rfl rfl ?_   | refine JL.G1 (xok rfl rfl rfl rfl) rfl rfl rfl ?_   | refine JL.M1 (xok rfl rfl rfl rfl) rfl rfl ?_   | refine JL.M0 (xok rfl rfl rfl rfl) rfl ?_   | refine JL.Q0 (xok rfl rfl rfl rfl) rfl ?_   | refine JL.nilF ?_   | refine JL.nil ?_   | refine JC.scope ?_   | refine QX.tn ?_   | refine JC.seq ?_   | refine JC.region ?_   | refine JC.Draw (xok rfl rfl rfl rfl) ?_   | refine JC.block ?_   | refine JC.skip ?_   | refine JC.label ?_   | refine JC.exit ?_   | refine JC.ret ?_   | refine QX.te ?_ | refine QX.tr ?_ | refine QX.bn ?_ | refine QX.be ?_ | refine QX.bx rfl ?_ | refine QX.br ?_ | refine QX.sn ?_ | refine QX.se ?_ | refine QX.sr ?_ | refine QX.ee ?_ | refine QX.eo rfl ?_ | refine QX.er ?_ | refine QX.en ?_))
  refine JC.cond rfl (fun hc => ?_) (fun hc => ?_)
  · (simp only [↓bif_or, ↓bif_and, ↓Bool.or_eq_true, ↓Bool.or_eq_false_iff, ↓Bool.and_eq_true, ↓Bool.and_eq_false_iff, ↓Bool.not_eq_true', ↓Bool.not_eq_false', ↓decide_eq_true_eq, ↓decide_eq_false_iff_not, ↓beq_iff_eq, ↓bne_iff_ne, ↓bne_eq_false_iff_eq, ↓ne_eq, ↓beq_eq_false_iff_ne, ↓Bool.not_eq_true] at hc; try simp only [Ty.dflt, Int.toNat_natCast] at hc)
    have hk' : k < xs.length := by omega
    have hb := hx (xs.getD k 0) (by rw [getD_nat xs hk']; exact List.getElem_mem hk')
    have hlb := lastB_bd xs (xs.getD k 0) k
    have hsb := seenB_get xs k hb.1 hb.2
    have hll := lasts_length xs k
    have hnl := nexts_length xs k
    generalize hlv : lastB xs (xs.getD k 0) k = lv at hlb hsb
    (repeat (first   | refine JL.Q1 (xok rfl rfl rfl rfl) rfl rfl ?_   | refine JL.G1 (xok rfl rfl rfl rfl) rfl rfl rfl ?_   | refine JL.M1 (xok rfl rfl rfl rfl) rfl rfl ?_   | refine JL.M0 (xok rfl rfl rfl rfl) rfl ?_   | refine JL.Q0 (xok rfl rfl rfl rfl) rfl ?_   | refine JL.nilF ?_   | refine JL.nil ?_   | refine JC.scope ?_   | refine QX.tn ?_   | refine JC.seq ?_   | refine JC.region ?_      | refine JC.block ?_   | refine JC.skip ?_   | refine JC.label ?_   | refine JC.exit ?_   | refine JC.ret ?_   | refine QX.te ?_ | refine QX.tr ?_ | refine QX.bn ?_ | refine QX.be ?_ | refine QX.bx rfl ?_ | refine QX.br ?_ | refine QX.sn ?_ | refine QX.se ?_ | refine QX.sr ?_ | refine QX.ee ?_ | refine QX.eo rfl ?_ | refine QX.er ?_ | refine QX.en ?_))
    refine JC.drawF (xok rfl rfl rfl rfl) (Go.Proofs.Try.f56.body.getD .skip) ⟨[(3, .lf (.optr 1 [])), (4, .lf (.optr 2 [])), (5, vI k), (6, vI (xs.getD k 0)), (12, vL xs), (13, vI xs.length), (14, vI (k : Int))],
    [(1, .cell binT (.mix (vD r xs) (.mix (.lf (.osl 3)) (.mix (.lf (.osl 4)) (.val .nil ()))))), (2, .cell (.arr 8 (.int .i64)) (.val (.arr 8 (.int .i64)) (seenB xs k))), (3, .sl 3 (.int .i64) (lasts xs k ++ [(seenB xs k).getD (xs.getD k 0).toNat 0 - 1])), (4, .sl 3 (.int .i64) (nexts xs k ++ [-1]))], 5⟩ rfl 24 rfl ?_ ?_
    · (refine JF.First 0 (xok rfl rfl rfl rfl) rfl rfl ?_; refine JF.First 1 (xok rfl rfl rfl rfl) rfl rfl ?_; refine JF.First 2 (xok rfl rfl rfl rfl) rfl rfl ?_; refine JF.First 3 (xok rfl rfl rfl rfl) rfl rfl ?_; refine JF.First 4 (xok rfl rfl rfl rfl) rfl rfl ?_; refine JF.First 6 (xok rfl rfl rfl rfl) rfl rfl ?_; refine JF.First 7 (xok rfl rfl rfl rfl) rfl rfl ?_; refine JF.First 12 (xok rfl rfl rfl rfl) rfl rfl ?_; refine JF.First 13 (xok rfl rfl rfl rfl) rfl rfl ?_; refine JF.First 14 (xok rfl rfl rfl rfl) rfl rfl ?_; refine JF.Float 5 (xok rfl rfl rfl rfl) rfl rfl ?_; refine JF.Float 8 (xok rfl rfl rfl rfl) rfl rfl ?_; refine JF.Float 9 (xok rfl rfl rfl rfl) rfl rfl ?_; refine JF.Float 15 (xok rfl rfl rfl rfl) rfl rfl ?_; refine JF.Branch 10 [16] (xok rfl rfl rfl rfl) ?_ ?_; (focus (repeat (first | exact StF.nil | refine StF.One rfl rfl rfl ?_))); refine BrF.one rfl rfl ?_ (BrF.one rfl rfl ?_ BrF.nil); (· (first | refine JL.Q1 (xok rfl rfl rfl rfl) rfl rfl ?_ | refine JL.G1 (xok rfl rfl rfl rfl) rfl rfl rfl ?_ | refine JL.M1 (xok rfl rfl rfl rfl) rfl rfl ?_ | refine JL.M0 (xok rfl rfl rfl rfl) rfl ?_ | refine JL.Q0 (xok rfl rfl rfl rfl) rfl ?_); refine JL.finN ?_; refine JF.Branch 11 [16] (xok rfl rfl rfl rfl) ?_ ?_; (focus (repeat (first | exact StF.nil | refine StF.One rfl rfl rfl ?_))); refine BrF.one rfl rfl ?_ (BrF.one rfl rfl ?_ BrF.nil); (· (first | refine JL.Q1 (xok rfl rfl rfl rfl) rfl rfl ?_ | refine JL.G1 (xok rfl rfl rfl rfl) rfl rfl rfl ?_ | refine JL.M1 (xok rfl rfl rfl rfl) rfl rfl ?_ | refine JL.M0 (xok rfl rfl rfl rfl) rfl ?_ | refine JL.Q0 (xok rfl rfl rfl rfl) rfl ?_); refine JL.finN ?_; refine JF.Branch 16 [] (xok rfl rfl rfl rfl) ?_ ?_; (focus (repeat (first | exact StF.nil | refine StF.One rfl rfl rfl ?_))); refine BrF.one rfl rfl ?_ BrF.nil; (· (first | refine JL.Q1 (xok rfl rfl rfl rfl) rfl rfl ?_ | refine JL.G1 (xok rfl rfl rfl rfl) rfl rfl rfl ?_ | refine JL.M1 (xok rfl rfl rfl rfl) rfl rfl ?_ | refine JL.M0 (xok rfl rfl rfl rfl) rfl ?_ | refine JL.Q0 (xok rfl rfl rfl rfl) rfl ?_); refine JL.finN ?_; refine JF.Branch 17 [] (xok rfl rfl rfl rfl) ?_ ?_; (focus (repeat (first | exact StF.nil | refine StF.One rfl rfl rfl ?_))); refine BrF.one rfl rfl ?_ BrF.nil; (· (first | refine JL.Q1 (xok rfl rfl rfl rfl) rfl rfl ?_ | refine JL.G1 (xok rfl rfl rfl rfl) rfl rfl rfl ?_ | refine JL.M1 (xok rfl rfl rfl rfl) rfl rfl ?_ | refine JL.M0 (xok rfl rfl rfl rfl) rfl ?_ | refine JL.Q0 (xok rfl rfl rfl rfl) rfl ?_); refine JL.finN ?_; refine JF.Float 18 (xok rfl rfl rfl rfl) rfl rfl ?_; refine JF.Float 19 (xok rfl rfl rfl rfl) rfl rfl ?_; refine JF.Branch 20 [] (xok rfl rfl rfl rfl) ?_ ?_; (focus (repeat (first | exact StF.nil | refine StF.One rfl rfl rfl ?_))); refine BrF.one rfl rfl ?_ BrF.nil; (· (first | refine JL.Q1 (xok rfl rfl rfl rfl) rfl rfl ?_ | refine JL.G1 (xok rfl rfl rfl rfl) rfl rfl rfl ?_ | refine JL.M1 (xok rfl rfl rfl rfl) rfl rfl ?_ | refine JL.M0 (xok rfl rfl rfl rfl) rfl ?_ | refine JL.Q0 (xok rfl rfl rfl rfl) rfl ?_); refine JL.finN ?_; refine JF.Float 21 (xok rfl rfl rfl rfl) rfl rfl ?_; refine JF.Float 22 (xok rfl rfl rfl rfl) rfl rfl ?_; refine JF.Branch 23 [] (xok rfl rfl rfl rfl) ?_ ?_; (focus (repeat (first | exact StF.nil | refine StF.One rfl rfl rfl ?_))); refine BrF.one rfl rfl ?_ BrF.nil; (· (first | refine JL.Q1 (xok rfl rfl rfl rfl) rfl rfl ?_ | refine JL.G1 (xok rfl rfl rfl rfl) rfl rfl rfl ?_ | refine JL.M1 (xok rfl rfl rfl rfl) rfl rfl ?_ | refine JL.M0 (xok rfl rfl rfl rfl) rfl ?_ | refine JL.Q0 (xok rfl rfl rfl rfl) rfl ?_); refine JL.finN ?_; refine JF.Done (xok rfl rfl rfl rfl) ?_ ?_; (focus (repeat (first | exact StF.nil | refine StF.One rfl rfl rfl ?_))); ((exact JW.Auto rfl))))))); (· (first | refine JL.Q1 (xok rfl rfl rfl rfl) rfl rfl ?_ | refine JL.G1 (xok rfl rfl rfl rfl) rfl rfl rfl ?_ | refine JL.M1 (xok rfl rfl rfl rfl) rfl rfl ?_ | refine JL.M0 (xok rfl rfl rfl rfl) rfl ?_ | refine JL.Q0 (xok rfl rfl rfl rfl) rfl ?_); refine JL.finN ?_; refine JF.Branch 11 [] (xok rfl rfl rfl rfl) ?_ ?_; (focus (repeat (first | exact StF.nil | refine StF.One rfl rfl rfl ?_))); refine BrF.one rfl rfl ?_ BrF.nil; (· (first | refine JL.Q1 (xok rfl rfl rfl rfl) rfl rfl ?_ | refine JL.G1 (xok rfl rfl rfl rfl) rfl rfl rfl ?_ | refine JL.M1 (xok rfl rfl rfl rfl) rfl rfl ?_ | refine JL.M0 (xok rfl rfl rfl rfl) rfl ?_ | refine JL.Q0 (xok rfl rfl rfl rfl) rfl ?_); refine JL.finN ?_; refine JF.Branch 17 [] (xok rfl rfl rfl rfl) ?_ ?_; (focus (repeat (first | exact StF.nil | refine StF.One rfl rfl rfl ?_))); refine BrF.one rfl rfl ?_ BrF.nil; (· (first | refine JL.Q1 (xok rfl rfl rfl rfl) rfl rfl ?_ | refine JL.G1 (xok rfl rfl rfl rfl) rfl rfl rfl ?_ | refine JL.M1 (xok rfl rfl rfl rfl) rfl rfl ?_ | refine JL.M0 (xok rfl rfl rfl rfl) rfl ?_ | refine JL.Q0 (xok rfl rfl rfl rfl) rfl ?_); refine JL.finN ?_; refine JF.Float 18 (xok rfl rfl rfl rfl) rfl rfl ?_; refine JF.Float 19 (xok rfl rfl rfl rfl) rfl rfl ?_; refine JF.Branch 20 [] (xok rfl rfl rfl rfl) ?_ ?_; (focus (repeat (first | exact StF.nil | refine StF.One rfl rfl rfl ?_))); refine BrF.one rfl rfl ?_ BrF.nil; (· (first | refine JL.Q1 (xok rfl rfl rfl rfl) rfl rfl ?_ | refine JL.G1 (xok rfl rfl rfl rfl) rfl rfl rfl ?_ | refine JL.M1 (xok rfl rfl rfl rfl) rfl rfl ?_ | refine JL.M0 (xok rfl rfl rfl rfl) rfl ?_ | refine JL.Q0 (xok rfl rfl rfl rfl) rfl ?_); refine JL.finN ?_; refine JF.Float 21 (xok rfl rfl rfl rfl) rfl rfl ?_; refine JF.Float 22 (xok rfl rfl rfl rfl) rfl rfl ?_; refine JF.Branch 23 [] (xok rfl rfl rfl rfl) ?_ ?_; (focus (repeat (first | exact StF.nil | refine StF.One rfl rfl rfl ?_))); refine BrF.one rfl rfl ?_ BrF.nil; (· (first | refine JL.Q1 (xok rfl rfl rfl rfl) rfl rfl ?_ | refine JL.G1 (xok rfl rfl rfl rfl) rfl rfl rfl ?_ | refine JL.M1 (xok rfl rfl rfl rfl) rfl rfl ?_ | refine JL.M0 (xok rfl rfl rfl rfl) rfl ?_ | refine JL.Q0 (xok rfl rfl rfl rfl) rfl ?_); refine JL.finN ?_; refine JF.Done (xok rfl rfl rfl rfl) ?_ ?_; (focus (repeat (first | exact StF.nil | refine StF.One rfl rfl rfl ?_))); ((exact JW.Auto rfl)))))))); (· (first | refine JL.Q1 (xok rfl rfl rfl rfl) rfl rfl ?_ | refine JL.G1 (xok rfl rfl rfl rfl) rfl rfl rfl ?_ | refine JL.M1 (xok rfl rfl rfl rfl) rfl rfl ?_ | refine JL.M0 (xok rfl rfl rfl rfl) rfl ?_ | refine JL.Q0 (xok rfl rfl rfl rfl) rfl ?_); refine JL.finN ?_; refine JF.Branch 10 [] (xok rfl rfl rfl rfl) ?_ ?_; (focus (repeat (first | exact StF.nil | refine StF.One rfl rfl rfl ?_))); refine BrF.one rfl rfl ?_ BrF.nil; (· (first | refine JL.Q1 (xok rfl rfl rfl rfl) rfl rfl ?_ | refine JL.G1 (xok rfl rfl rfl rfl) rfl rfl rfl ?_ | refine JL.M1 (xok rfl rfl rfl rfl) rfl rfl ?_ | refine JL.M0 (xok rfl rfl rfl rfl) rfl ?_ | refine JL.Q0 (xok rfl rfl rfl rfl) rfl ?_); refine JL.finN ?_; refine JF.Branch 11 [] (xok rfl rfl rfl rfl) ?_ ?_; (focus (repeat (first | exact StF.nil | refine StF.One rfl rfl rfl ?_))); refine BrF.one rfl rfl ?_ BrF.nil; (· (first | refine JL.Q1 (xok rfl rfl rfl rfl) rfl rfl ?_ | refine JL.G1 (xok rfl rfl rfl rfl) rfl rfl rfl ?_ | refine JL.M1 (xok rfl rfl rfl rfl) rfl rfl ?_ | refine JL.M0 (xok rfl rfl rfl rfl) rfl ?_ | refine JL.Q0 (xok rfl rfl rfl rfl) rfl ?_); refine JL.finN ?_; refine JF.Branch 17 [] (xok rfl rfl rfl rfl) ?_ ?_; (focus (repeat (first | exact StF.nil | refine StF.One rfl rfl rfl ?_))); refine BrF.one rfl rfl ?_ BrF.nil; (· (first | refine JL.Q1 (xok rfl rfl rfl rfl) rfl rfl ?_ | refine JL.G1 (xok rfl rfl rfl rfl) rfl rfl rfl ?_ | refine JL.M1 (xok rfl rfl rfl rfl) rfl rfl ?_ | refine JL.M0 (xok rfl rfl rfl rfl) rfl ?_ | refine JL.Q0 (xok rfl rfl rfl rfl) rfl ?_); refine JL.finN ?_; refine JF.Float 18 (xok rfl rfl rfl rfl) rfl rfl ?_; refine JF.Float 19 (xok rfl rfl rfl rfl) rfl rfl ?_; refine JF.Branch 20 [] (xok rfl rfl rfl rfl) ?_ ?_; (focus (repeat (first | exact StF.nil | refine StF.One rfl rfl rfl ?_))); refine BrF.one rfl rfl ?_ BrF.nil; (· (first | refine JL.Q1 (xok rfl rfl rfl rfl) rfl rfl ?_ | refine JL.G1 (xok rfl rfl rfl rfl) rfl rfl rfl ?_ | refine JL.M1 (xok rfl rfl rfl rfl) rfl rfl ?_ | refine JL.M0 (xok rfl rfl rfl rfl) rfl ?_ | refine JL.Q0 (xok rfl rfl rfl rfl) rfl ?_); refine JL.finN ?_; refine JF.Float 21 (xok rfl rfl rfl rfl) rfl rfl ?_; refine JF.Float 22 (xok rfl rfl rfl rfl) rfl rfl ?_; refine JF.Branch 23 [] (xok rfl rfl rfl rfl) ?_ ?_; (focus (repeat (first | exact StF.nil | refine StF.One rfl rfl rfl ?_))); refine BrF.one rfl rfl ?_ BrF.nil; (· (first | refine JL.Q1 (xok rfl rfl rfl rfl) rfl rfl ?_ | refine JL.G1 (xok rfl rfl rfl rfl) rfl rfl rfl ?_ | refine JL.M1 (xok rfl rfl rfl rfl) rfl rfl ?_ | refine JL.M0 (xok rfl rfl rfl rfl) rfl ?_ | refine JL.Q0 (xok rfl rfl rfl rfl) rfl ?_); refine JL.finN ?_; refine JF.Done (xok rfl rfl rfl rfl) ?_ ?_; (focus (repeat (first | exact StF.nil | refine StF.One rfl rfl rfl ?_))); ((exact JW.Auto rfl)))))))))
    · rw [hsb, show lv + 1 - 1 = lv by omega, show lasts xs k ++ [lv] = lasts xs (k + 1) by rw [lasts_succ, hlv]]
      (repeat (first   | refine JL.Q1 (xok rfl rfl rfl rfl) rfl rfl ?_   | refine JL.G1 (xok rfl rfl rfl rfl) rfl rfl rfl ?_   | refine JL.M1 (xok rfl rfl rfl rfl) rfl rfl ?_   | refine JL.M0 (xok rfl rfl rfl rfl) rfl ?_   | refine JL.Q0 (xok rfl rfl rfl rfl) rfl ?_   | refine JL.nilF ?_   | refine JL.nil ?_   | refine JC.scope ?_   | refine QX.tn ?_   | refine JC.seq ?_   | refine JC.region ?_   | refine JC.Draw (xok rfl rfl rfl rfl) ?_   | refine JC.block ?_   | refine JC.skip ?_   | refine JC.label ?_   | refine JC.exit ?_   | refine JC.ret ?_   | refine QX.te ?_ | refine QX.tr ?_ | refine QX.bn ?_ | refine QX.be ?_ | refine QX.bx rfl ?_ | refine QX.br ?_ | refine QX.sn ?_ | refine QX.se ?_ | refine QX.sr ?_ | refine QX.ee ?_ | refine QX.eo rfl ?_ | refine QX.er ?_ | refine QX.en ?_))
      refine JC.cond rfl (fun hd => ?_) (fun hd => ?_)
      · (simp only [↓bif_or, ↓bif_and, ↓Bool.or_eq_true, ↓Bool.or_eq_false_iff, ↓Bool.and_eq_true, ↓Bool.and_eq_false_iff, ↓Bool.not_eq_true', ↓Bool.not_eq_false', ↓decide_eq_true_eq, ↓decide_eq_false_iff_not, ↓beq_iff_eq, ↓bne_iff_ne, ↓bne_eq_false_iff_eq, ↓ne_eq, ↓beq_eq_false_iff_ne, ↓Bool.not_eq_true] at hd; try simp only [Ty.dflt, Int.toNat_natCast] at hd)
        rw [hsb] at hd
        have hnl1 : (nexts xs k ++ [(-1 : Int)]).length = k + 1 := by simp [hnl]
        (repeat (first   | refine JL.Q1 (xok rfl rfl rfl rfl) rfl rfl ?_   | refine JL.G1 (xok rfl rfl rfl rfl) rfl rfl rfl ?_   | refine JL.M1 (xok rfl rfl rfl rfl) rfl rfl ?_   | refine JL.M0 (xok rfl rfl rfl rfl) rfl ?_   | refine JL.Q0 (xok rfl rfl rfl rfl) rfl ?_   | refine JL.nilF ?_   | refine JL.nil ?_   | refine JC.scope ?_   | refine QX.tn ?_   | refine JC.seq ?_   | refine JC.region ?_      | refine JC.block ?_   | refine JC.skip ?_   | refine JC.label ?_   | refine JC.exit ?_   | refine JC.ret ?_   | refine QX.te ?_ | refine QX.tr ?_ | refine QX.bn ?_ | refine QX.be ?_ | refine QX.bx rfl ?_ | refine QX.br ?_ | refine QX.sn ?_ | refine QX.se ?_ | refine QX.sr ?_ | refine QX.ee ?_ | refine QX.eo rfl ?_ | refine QX.er ?_ | refine QX.en ?_))
        refine JC.drawF (xok rfl rfl rfl rfl) (Go.Proofs.Try.f56.body.getD .skip) ⟨[(3, .lf (.optr 1 [])), (4, .lf (.optr 2 [])), (5, vI k), (6, vI (xs.getD k 0)), (12, vL xs), (13, vI xs.length), (14, vI (k : Int))],
          [(1, .cell binT (.mix (vD r xs) (.mix (.lf (.osl 3)) (.mix (.lf (.osl 4)) (.val .nil ()))))), (2, .cell (.arr 8 (.int .i64)) (.val (.arr 8 (.int .i64)) (seenB xs k))), (3, .sl 3 (.int .i64) (lasts xs (k + 1))), (4, .sl 3 (.int .i64) ((nexts xs k ++ [-1]).set ((seenB xs k).getD (xs.getD k 0).toNat 0 - 1).toNat k))], 5⟩ rfl 11 rfl ?_ ?_
        · (refine JF.First 0 (xok rfl rfl rfl rfl) rfl rfl ?_; refine JF.First 1 (xok rfl rfl rfl rfl) rfl rfl ?_; refine JF.First 2 (xok rfl rfl rfl rfl) rfl rfl ?_; refine JF.First 4 (xok rfl rfl rfl rfl) rfl rfl ?_; refine JF.First 5 (xok rfl rfl rfl rfl) rfl rfl ?_; refine JF.First 8 (xok rfl rfl rfl rfl) rfl rfl ?_; refine JF.Float 3 (xok rfl rfl rfl rfl) rfl rfl ?_; refine JF.Float 6 (xok rfl rfl rfl rfl) rfl rfl ?_; refine JF.Float 7 (xok rfl rfl rfl rfl) rfl rfl ?_; refine JF.Float 9 (xok rfl rfl rfl rfl) rfl rfl ?_; refine JF.Branch 10 [] (xok rfl rfl rfl rfl) ?_ ?_; (focus (repeat (first | exact StF.nil | refine StF.One rfl rfl rfl ?_))); refine BrF.one rfl rfl ?_ BrF.nil; (· (first | refine JL.Q1 (xok rfl rfl rfl rfl) rfl rfl ?_ | refine JL.G1 (xok rfl rfl rfl rfl) rfl rfl rfl ?_ | refine JL.M1 (xok rfl rfl rfl rfl) rfl rfl ?_ | refine JL.M0 (xok rfl rfl rfl rfl) rfl ?_ | refine JL.Q0 (xok rfl rfl rfl rfl) rfl ?_); refine JL.finN ?_; refine JF.Done (xok rfl rfl rfl rfl) ?_ ?_; (focus (repeat (first | exact StF.nil | refine StF.One rfl rfl rfl ?_))); ((exact JW.Auto rfl))))
        · rw [hsb, show lv + 1 - 1 = lv by omega, show (nexts xs k ++ [(-1 : Int)]).set lv.toNat (k : Int) = nexts xs (k + 1) by rw [nexts, hlv, decide_eq_true (by omega : 0 ≤ lv)]; rfl]
          (repeat (first   | refine JL.Q1 (xok rfl rfl rfl rfl) rfl rfl ?_   | refine JL.G1 (xok rfl rfl rfl rfl) rfl rfl rfl ?_   | refine JL.M1 (xok rfl rfl rfl rfl) rfl rfl ?_   | refine JL.M0 (xok rfl rfl rfl rfl) rfl ?_   | refine JL.Q0 (xok rfl rfl rfl rfl) rfl ?_   | refine JL.nilF ?_   | refine JL.nil ?_   | refine JC.scope ?_   | refine QX.tn ?_   | refine JC.seq ?_   | refine JC.region ?_   | refine JC.Draw (xok rfl rfl rfl rfl) ?_   | refine JC.block ?_   | refine JC.skip ?_   | refine JC.label ?_   | refine JC.exit ?_   | refine JC.ret ?_   | refine QX.te ?_ | refine QX.tr ?_ | refine QX.bn ?_ | refine QX.be ?_ | refine QX.bx rfl ?_ | refine QX.br ?_ | refine QX.sn ?_ | refine QX.se ?_ | refine QX.sr ?_ | refine QX.ee ?_ | refine QX.eo rfl ?_ | refine QX.er ?_ | refine QX.en ?_))
          exact ⟨k + 1, by (refine JW.auto rfl ?_ ?_ ?_ ?_ rfl <;> (repeat' (first | exact trivial | exact rfl | refine And.intro ?_ ?_ | exact Nat.le_of_ble_eq_true rfl | refine HO.bdF ?_ | refine HO.bdP ?_ | (refine congrArg (fun z : Int => some (AV.val (.int .i64) z)) ?_; push_cast; omega) | (refine congrArg (fun z : List Int => some (HO.cell (.arr 8 (.int .i64)) (AV.val (.arr 8 (.int .i64)) z))) ?_; exact seenB_succ xs k hb.1 hb.2 rfl)))), by omega, by omega⟩
      · (simp only [↓bif_or, ↓bif_and, ↓Bool.or_eq_true, ↓Bool.or_eq_false_iff, ↓Bool.and_eq_true, ↓Bool.and_eq_false_iff, ↓Bool.not_eq_true', ↓Bool.not_eq_false', ↓decide_eq_true_eq, ↓decide_eq_false_iff_not, ↓beq_iff_eq, ↓bne_iff_ne, ↓bne_eq_false_iff_eq, ↓ne_eq, ↓beq_eq_false_iff_ne, ↓Bool.not_eq_true] at hd; try simp only [Ty.dflt, Int.toNat_natCast] at hd)
        rw [hsb] at hd
        rw [show nexts xs k ++ [(-1 : Int)] = nexts xs (k + 1) by rw [nexts, hlv, decide_eq_false (by omega : ¬ 0 ≤ lv)]; rfl]
        (repeat (first   | refine JL.Q1 (xok rfl rfl rfl rfl) rfl rfl ?_   | refine JL.G1 (xok rfl rfl rfl rfl) rfl rfl rfl ?_   | refine JL.M1 (xok rfl rfl rfl rfl) rfl rfl ?_   | refine JL.M0 (xok rfl rfl rfl rfl) rfl ?_   | refine JL.Q0 (xok rfl rfl rfl rfl) rfl ?_   | refine JL.nilF ?_   | refine JL.nil ?_   | refine JC.scope ?_   | refine QX.tn ?_   | refine JC.seq ?_   | refine JC.region ?_   | refine JC.Draw (xok rfl rfl rfl rfl) ?_   | refine JC.block ?_   | refine JC.skip ?_   | refine JC.label ?_   | refine JC.exit ?_   | refine JC.ret ?_   | refine QX.te ?_ | refine QX.tr ?_ | refine QX.bn ?_ | refine QX.be ?_ | refine QX.bx rfl ?_ | refine QX.br ?_ | refine QX.sn ?_ | refine QX.se ?_ | refine QX.sr ?_ | refine QX.ee ?_ | refine QX.eo rfl ?_ | refine QX.er ?_ | refine QX.en ?_))
        exact ⟨k + 1, by (refine JW.auto rfl ?_ ?_ ?_ ?_ rfl <;> (repeat' (first | exact trivial | exact rfl | refine And.intro ?_ ?_ | exact Nat.le_of_ble_eq_true rfl | refine HO.bdF ?_ | refine HO.bdP ?_ | (refine congrArg (fun z : Int => some (AV.val (.int .i64) z)) ?_; push_cast; omega) | (refine congrArg (fun z : List Int => some (HO.cell (.arr 8 (.int .i64)) (AV.val (.arr 8 (.int .i64)) z))) ?_; exact seenB_succ xs k hb.1 hb.2 rfl)))), by omega, by omega⟩
  · (simp only [↓bif_or, ↓bif_and, ↓Bool.or_eq_true, ↓Bool.or_eq_false_iff, ↓Bool.and_eq_true, ↓Bool.and_eq_false_iff, ↓Bool.not_eq_true', ↓Bool.not_eq_false', ↓decide_eq_true_eq, ↓decide_eq_false_iff_not, ↓beq_iff_eq, ↓bne_iff_ne, ↓bne_eq_false_iff_eq, ↓ne_eq, ↓beq_eq_false_iff_ne, ↓Bool.not_eq_true] at hc; try simp only [Ty.dflt, Int.toNat_natCast] at hc)
    (repeat (first   | refine JL.Q1 (xok rfl rfl rfl rfl) rfl rfl ?_   | refine JL.G1 (xok rfl rfl rfl rfl) rfl rfl rfl ?_   | refine JL.M1 (xok rfl rfl rfl rfl) rfl rfl ?_   | refine JL.M0 (xok rfl rfl rfl rfl) rfl ?_   | refine JL.Q0 (xok rfl rfl rfl rfl) rfl ?_   | refine JL.nilF ?_   | refine JL.nil ?_   | refine JC.scope ?_   | refine QX.tn ?_   | refine JC.seq ?_   | refine JC.region ?_   | refine JC.Draw (xok rfl rfl rfl rfl) ?_   | refine JC.block ?_   | refine JC.skip ?_   | refine JC.label ?_   | refine JC.exit ?_   | refine JC.ret ?_   | refine QX.te ?_ | refine QX.tr ?_ | refine QX.bn ?_ | refine QX.be ?_ | refine QX.bx rfl ?_ | refine QX.br ?_ | refine QX.sn ?_ | refine QX.se ?_ | refine QX.sr ?_ | refine QX.ee ?_ | refine QX.eo rfl ?_ | refine QX.er ?_ | refine QX.en ?_))
    obtain rfl : k = xs.length := by omega
    refine ⟨.inl rfl, _, _, rfl, trivial, ?_⟩
    rfl
end Go.Proofs.Ytbmgijgnbilnoaa
