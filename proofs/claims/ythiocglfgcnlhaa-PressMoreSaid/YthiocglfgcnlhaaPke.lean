/- Texts of the proof, part 5 of 6.
  count.
  Best, Two, Kind, Count: the reference and the program.
  A range over all orders.
  Spares.
  Bounds, plain.
  CheckBound: the reference and the program.
  The bound that is returned; orders by numbers; best.
  The bound that is returned; orders by numbers; best: walks.
  Orders by numbers; days; best: walks.
  Works.
  The laws PressEnds, PressRows, PressBests, PressKinds, PressSpares.
  The engine, part ZAA: a cell's content at another reading; the nil slice as the empty list.
  The law PressProved.
  Days turned round, longer works, one sheet more, times, spares: plain.
  Longer works, one sheet more, times, spares: plain.
  The law PressMore. -/
import Derived.Test.YthiocglfgcnlhaaPkd
set_option linter.all false
set_option maxHeartbeats 2000000
namespace Go.Proofs.Ythiocglfgcnlhaa
open Go Go.RowKit Ox Ox.Sh
attribute [local irreducible] JC JL JK JW

theorem eqP : EqT Go.Proofs.Try.prog shT 111 := .of (by decide +kernel)
set_option maxRecDepth 4096 in
theorem mpP : MapT Go.Proofs.Try.prog shT (.int .i64) 119 111 3 := .of (by rfl) (by decide +kernel)
/-- What a place after some sheets is like. -/
def PB (i : Nat) (p : Sh) : Prop := (0 ≤ p.1 ∧ p.1 < 256) ∧ (0 ≤ p.2.1 ∧ p.2.1 ≤ 1000 * i) ∧ 0 ≤ p.2.2.1 ∧ p.2.2.1 ≤ 2000 + 1000 * i
theorem cm_start : CM (PB 0) (mPut [] 0 T0 1) 1 fun p => ([T0] : List Sh).count p := by
  have hT : PB 0 T0 := ⟨⟨Int.le_refl _, by decide⟩, ⟨Int.le_refl _, Int.le_refl _⟩, Int.le_refl _, by show (0 : Int) ≤ 2000 + 1000 * ((0 : Nat) : Int); omega⟩
  refine CM.congr (CM.add (CM.nil (PB 0) 0) T0 1 hT (v := 1) (by simp)) fun p => ?_
  rw [List.count_cons, List.count_nil]
  by_cases h : p = T0
  · rw [if_pos h, if_pos (by rw [h]; exact beq_self_eq_true _)]
  · rw [if_neg h, if_neg (by simpa using fun e => h e.symm)]
theorem nx_PB {l : List Sh} (hl : okD l) {i : Nat} {p : Sh} (h : PB i p) {n : Nat} (hn : n < 8) : PB (i + 1) (nxP l p n) := by
  obtain ⟨⟨h1, h2⟩, ⟨h3, h4⟩, h5, h6⟩ := h
  have h7 := or_lt (t := p.1.toNat) (n := n) (by omega) hn
  have h8 := nx_bd hl n (p := (p.2.1, p.2.2.1)) (B := 1000 * i) ⟨h3, h4⟩ ⟨h5, by dsimp only; omega⟩
  unfold PB nxP
  dsimp only at h8 ⊢
  push_cast
  refine ⟨⟨by omega, by omega⟩, ⟨by omega, by omega⟩, by omega, by omega⟩
theorem places_len (l : List Sh) (one two le : Int) (h8 : l.length ≤ 8) : ∀ i, (placesC l one two le i).length ≤ 8 ^ i
  | 0 => by simp [placesC]
  | i + 1 => by
    have h1 := places_len l one two le h8 i
    have h2 := flat_len (m := 8) (fun p => Nat.le_trans (ext_len l one two p l.length) h8) (placesC l one two le i)
    have h3 := List.length_filter_le (keepP le) ((placesC l one two le i).flatMap fun p => extC l one two p l.length)
    rw [placesC, Nat.pow_succ]; omega
set_option maxHeartbeats 4000000 in
theorem fn62 (l : List Sh) (pr : Int) (one two : Int) (hl : okD l) (h8 : l.length ≤ 8) (h1 : one < l.length) :
    Ox.Fn Go.Proofs.Try.prog 62 (.acons (vH l pr (leS l)) (.acons (vI one) (.acons (vI two) .anil))) (· = vI (cntS l one two)) := by
  refine Ox.Fn.intro xok Go.Proofs.Try.func62 rfl Go.Proofs.Try.call62 (Nat.le_of_ble_eq_true rfl) (fun E M0 up => ?_)
  refine JK.start ?_
  have hres : cntS l one two = ((placesC l one two (leS l) l.length).length : Nat) := rfl
  rw [hres]
  clear hres
  generalize leS l = le
  (repeat (first | refine zs rfl ?_ | refine zg rfl rfl rfl ?_ | refine zd ?_ | refine JK.fin ?_ | refine JK.ret ?_ | refine zml mpP rfl rfl rfl rfl ?_ | refine zmo mpP rfl rfl rfl rfl ?_ | refine zmi mpP rfl rfl rfl rfl ?_ | refine zmu mpP rfl rfl rfl rfl ?_ | refine zmd mpP rfl rfl rfl ?_ | refine zmr mpP rfl rfl rfl ?_ | refine zmm mpP rfl ?_ | refine zeq eqP rfl rfl rfl ?_ | refine zne eqP rfl rfl rfl ?_ | refine zeqg eqP rfl rfl rfl rfl ?_ | refine zneg eqP rfl rfl rfl rfl ?_))
  refine JK.loop (σ := Nat × List shE × Nat) (fun q => ⟨[(0, vH l pr le), (1, vI one), (2, vI two), (7, .lf (.optr 0 [])), (8, .lf (.mp 1)), (26, vI l.length), (27, vI (q.1 : Int))],
      [(0, .cell shT (vP T0)), (1, .map shT (.int .i64) q.2.1 q.2.2)], 2⟩)
    (fun q => q.1 ≤ l.length ∧ CM (PB q.1) q.2.1 q.2.2 fun p => (placesC l one two le q.1).count p) (fun q => l.length - q.1)
    (0, mPut [] 0 T0 1, 1) ⟨by simp, cm_start⟩ (by (exact JW.Auto (by conv => lhs; reduce))) fun q hq => ?_
  obtain ⟨i, es, clk⟩ := q
  obtain ⟨hi, hcm⟩ := hq
  dsimp only at hi hcm
  (repeat (first | refine zs rfl ?_ | refine zg rfl rfl rfl ?_ | refine zd ?_ | refine JK.fin ?_ | refine JK.ret ?_ | refine zml mpP rfl rfl rfl rfl ?_ | refine zmo mpP rfl rfl rfl rfl ?_ | refine zmi mpP rfl rfl rfl rfl ?_ | refine zmu mpP rfl rfl rfl rfl ?_ | refine zmd mpP rfl rfl rfl ?_ | refine zmr mpP rfl rfl rfl ?_ | refine zmm mpP rfl ?_ | refine zeq eqP rfl rfl rfl ?_ | refine zne eqP rfl rfl rfl ?_ | refine zeqg eqP rfl rfl rfl rfl ?_ | refine zneg eqP rfl rfl rfl rfl ?_))
  refine JK.cond rfl (fun hc => ?_) (fun hc => ?_)
  · (simp only [↓bif_or, ↓bif_and, ↓Bool.or_eq_true, ↓Bool.or_eq_false_iff, ↓Bool.and_eq_true, ↓Bool.and_eq_false_iff, ↓Bool.not_eq_true', ↓Bool.not_eq_false', ↓decide_eq_true_eq, ↓decide_eq_false_iff_not, ↓beq_iff_eq, ↓bne_iff_ne, ↓bne_eq_false_iff_eq, ↓ne_eq, ↓beq_eq_false_iff_ne, ↓Bool.not_eq_true] at hc; try simp only [Ty.dflt, Int.toNat_natCast] at hc)
    have hi' : i < l.length := by omega
    (repeat (first | refine zs rfl ?_ | refine zg rfl rfl rfl ?_ | refine zd ?_ | refine JK.fin ?_ | refine JK.ret ?_ | refine zml mpP rfl rfl rfl rfl ?_ | refine zmo mpP rfl rfl rfl rfl ?_ | refine zmi mpP rfl rfl rfl rfl ?_ | refine zmu mpP rfl rfl rfl rfl ?_ | refine zmd mpP rfl rfl rfl ?_ | refine zmr mpP rfl rfl rfl ?_ | refine zmm mpP rfl ?_ | refine zeq eqP rfl rfl rfl ?_ | refine zne eqP rfl rfl rfl ?_ | refine zeqg eqP rfl rfl rfl rfl ?_ | refine zneg eqP rfl rfl rfl rfl ?_))
    refine JK.loopE (σ := List shE × List shE × Nat × Nat) (τ := List shE × Nat) (fun q => ⟨[(0, vH l pr le), (1, vI one), (2, vI two), (7, .lf (.optr 0 [])), (8, .lf (.mp 1)), (9, .lf (.mp 2)), (26, vI l.length), (27, vI (i : Int)), (31, .lf (.itr 3))],
        [(0, .cell shT (vP T0)), (1, .map shT (.int .i64) es clk), (2, .map shT (.int .i64) q.2.1 q.2.2.1), (3, .iter 1 clk (q.1.map (·.2.2)) q.2.2.2)], 4⟩)
      (fun q => Far es q.1 ∧ clk ≤ q.2.2.2 ∧ CM (PB (i + 1)) q.2.1 q.2.2.1 fun p => ((bag q.1).flatMap (fun p => extC l one two p l.length)).count p) (fun q => mLeft es (q.1.map (·.2.2)))
      ([], [], 0, clk) ⟨Far.nil es, Nat.le_refl _, CM.nil _ 0⟩ (by (exact JW.Auto (by conv => lhs; reduce)))
      (fun q => ⟨[(0, vH l pr le), (1, vI one), (2, vI two), (7, .lf (.optr 0 [])), (9, .lf (.mp 1)), (26, vI l.length), (27, vI (i : Int))],
        [(0, .cell shT (vP T0)), (1, .map shT (.int .i64) q.1 q.2)], 2⟩) (fun q => CM (PB (i + 1)) q.1 q.2 fun p => ((placesC l one two le i).flatMap (fun p => extC l one two p l.length)).count p) (fun q hcm2 => ?_) (fun q hq => ?_)
    · obtain ⟨es2, clk2⟩ := q
      dsimp only at hcm2
      (repeat (first | refine zs rfl ?_ | refine zg rfl rfl rfl ?_ | refine zd ?_ | refine JK.fin ?_ | refine JK.ret ?_ | refine zml mpP rfl rfl rfl rfl ?_ | refine zmo mpP rfl rfl rfl rfl ?_ | refine zmi mpP rfl rfl rfl rfl ?_ | refine zmu mpP rfl rfl rfl rfl ?_ | refine zmd mpP rfl rfl rfl ?_ | refine zmr mpP rfl rfl rfl ?_ | refine zmm mpP rfl ?_ | refine zeq eqP rfl rfl rfl ?_ | refine zne eqP rfl rfl rfl ?_ | refine zeqg eqP rfl rfl rfl rfl ?_ | refine zneg eqP rfl rfl rfl rfl ?_))
      have hnx : ∀ {l : List shE}, l.Sublist es2 → MWF l clk2 := fun h => hcm2.wf.sub h
      refine JK.loopE (σ := List shE × List Nat × Nat) (τ := List shE) (fun q => ⟨[(0, vH l pr le), (1, vI one), (2, vI two), (7, .lf (.optr 0 [])), (9, .lf (.mp 1)), (26, vI l.length), (27, vI (i : Int)), (81, .lf (.itr 2))],
          [(0, .cell shT (vP T0)), (1, .map shT (.int .i64) q.1 clk2), (2, .iter 1 clk2 q.2.1 q.2.2)], 3⟩)
        (fun q => q.1.Sublist es2 ∧ clk2 ≤ q.2.2 ∧ ∀ e ∈ es2, e ∈ q.1 ↔ (e.2.2 ∈ q.2.1 → keepP le e.1 = true)) (fun q => mLeft q.1 q.2.1)
        (es2, [], clk2) ⟨List.Sublist.refl _, Nat.le_refl _, fun e he => ⟨fun _ => (fun h => by cases h), fun _ => he⟩⟩ (by (exact JW.Auto (by conv => lhs; reduce)))
        (fun q => ⟨[(0, vH l pr le), (1, vI one), (2, vI two), (7, .lf (.optr 0 [])), (9, .lf (.mp 1)), (26, vI l.length), (27, vI (i : Int))],
          [(0, .cell shT (vP T0)), (1, .map shT (.int .i64) q clk2)], 2⟩) (fun q => CM (PB (i + 1)) q clk2 fun p => (placesC l one two le (i + 1)).count p) (fun es3 hcm3 => ?_) (fun q hq => ?_)
      · (repeat (first | refine zs rfl ?_ | refine zg rfl rfl rfl ?_ | refine zd ?_ | refine JK.fin ?_ | refine JK.ret ?_ | refine zml mpP rfl rfl rfl rfl ?_ | refine zmo mpP rfl rfl rfl rfl ?_ | refine zmi mpP rfl rfl rfl rfl ?_ | refine zmu mpP rfl rfl rfl rfl ?_ | refine zmd mpP rfl rfl rfl ?_ | refine zmr mpP rfl rfl rfl ?_ | refine zmm mpP rfl ?_ | refine zeq eqP rfl rfl rfl ?_ | refine zne eqP rfl rfl rfl ?_ | refine zeqg eqP rfl rfl rfl rfl ?_ | refine zneg eqP rfl rfl rfl rfl ?_))
        exact ⟨(i + 1, es3, clk2), by (exact JW.Auto (by conv => lhs; reduce)), ⟨by omega, hcm3⟩, by dsimp only; omega⟩
      · obtain ⟨es3, seen, last⟩ := q
        obtain ⟨hsub, hlast, hiff⟩ := hq
        dsimp only at hsub hlast hiff
        have hw3 := hnx hsub
        (repeat (first | refine zs rfl ?_ | refine zg rfl rfl rfl ?_ | refine zd ?_ | refine JK.fin ?_ | refine JK.ret ?_ | refine zml mpP rfl rfl rfl rfl ?_ | refine zmo mpP rfl rfl rfl rfl ?_ | refine zmi mpP rfl rfl rfl rfl ?_ | refine zmu mpP rfl rfl rfl rfl ?_ | refine zmd mpP rfl rfl rfl ?_ | refine zmr mpP rfl rfl rfl ?_ | refine zmm mpP rfl ?_ | refine zeq eqP rfl rfl rfl ?_ | refine zne eqP rfl rfl rfl ?_ | refine zeqg eqP rfl rfl rfl rfl ?_ | refine zneg eqP rfl rfl rfl rfl ?_))
        refine JK.nxt rfl rfl rfl hw3.lt hlast rfl (fun hall => ?_) (fun e he hes => ?_)
        · (repeat (first | refine zs rfl ?_ | refine zg rfl rfl rfl ?_ | refine zd ?_ | refine JK.fin ?_ | refine JK.ret ?_ | refine zml mpP rfl rfl rfl rfl ?_ | refine zmo mpP rfl rfl rfl rfl ?_ | refine zmi mpP rfl rfl rfl rfl ?_ | refine zmu mpP rfl rfl rfl rfl ?_ | refine zmd mpP rfl rfl rfl ?_ | refine zmr mpP rfl rfl rfl ?_ | refine zmm mpP rfl ?_ | refine zeq eqP rfl rfl rfl ?_ | refine zne eqP rfl rfl rfl ?_ | refine zeqg eqP rfl rfl rfl rfl ?_ | refine zneg eqP rfl rfl rfl rfl ?_))
          refine JK.cond rfl (fun hc => absurd hc (by decide)) (fun _ => ?_)
          (repeat (first | refine zs rfl ?_ | refine zg rfl rfl rfl ?_ | refine zd ?_ | refine JK.fin ?_ | refine JK.ret ?_ | refine zml mpP rfl rfl rfl rfl ?_ | refine zmo mpP rfl rfl rfl rfl ?_ | refine zmi mpP rfl rfl rfl rfl ?_ | refine zmu mpP rfl rfl rfl rfl ?_ | refine zmd mpP rfl rfl rfl ?_ | refine zmr mpP rfl rfl rfl ?_ | refine zmm mpP rfl ?_ | refine zeq eqP rfl rfl rfl ?_ | refine zne eqP rfl rfl rfl ?_ | refine zeqg eqP rfl rfl rfl rfl ?_ | refine zneg eqP rfl rfl rfl rfl ?_))
          refine ⟨es3, by (exact JW.Auto (by conv => lhs; reduce)), (cm_filter hcm2 hsub fun e he => ⟨fun h => (hiff e he).1 h (hall e h), fun h => (hiff e he).2 fun _ => h⟩).congr fun p => ?_⟩
          rw [placesC]; exact (count_filt _ _ _).symm
        · have hlt := mLeft_lt he hes
          have he2 := hsub.subset he
          obtain ⟨e1, e2, e3, many, born, rfl⟩ : ∃ (e1 e2 e3 many : Int) (born : Nat), e = ((e1, e2, e3, ()), many, born) := ⟨e.1.1, e.1.2.1, e.1.2.2.1, e.2.1, e.2.2, rfl⟩
          have hok : PB (i + 1) (e1, e2, e3, ()) := hcm2.ok _ he2
          obtain ⟨hk1, hk2, hk3⟩ := hok
          dsimp only at hk1 hk2 hk3
          (repeat (first | refine zs rfl ?_ | refine zg rfl rfl rfl ?_ | refine zd ?_ | refine JK.fin ?_ | refine JK.ret ?_ | refine zml mpP rfl rfl rfl rfl ?_ | refine zmo mpP rfl rfl rfl rfl ?_ | refine zmi mpP rfl rfl rfl rfl ?_ | refine zmu mpP rfl rfl rfl rfl ?_ | refine zmd mpP rfl rfl rfl ?_ | refine zmr mpP rfl rfl rfl ?_ | refine zmm mpP rfl ?_ | refine zeq eqP rfl rfl rfl ?_ | refine zne eqP rfl rfl rfl ?_ | refine zeqg eqP rfl rfl rfl rfl ?_ | refine zneg eqP rfl rfl rfl rfl ?_))
          refine JK.cond rfl (fun _ => ?_) (fun hc => absurd hc (by decide))
          (repeat (first | refine zs rfl ?_ | refine zg rfl rfl rfl ?_ | refine zd ?_ | refine JK.fin ?_ | refine JK.ret ?_ | refine zml mpP rfl rfl rfl rfl ?_ | refine zmo mpP rfl rfl rfl rfl ?_ | refine zmi mpP rfl rfl rfl rfl ?_ | refine zmu mpP rfl rfl rfl rfl ?_ | refine zmd mpP rfl rfl rfl ?_ | refine zmr mpP rfl rfl rfl ?_ | refine zmm mpP rfl ?_ | refine zeq eqP rfl rfl rfl ?_ | refine zne eqP rfl rfl rfl ?_ | refine zeqg eqP rfl rfl rfl rfl ?_ | refine zneg eqP rfl rfl rfl rfl ?_))
          refine JK.etr rfl rfl rfl rfl rfl he hw3 rfl ?_
          (repeat (first | refine zs rfl ?_ | refine zg rfl rfl rfl ?_ | refine zd ?_ | refine JK.fin ?_ | refine JK.ret ?_ | refine zml mpP rfl rfl rfl rfl ?_ | refine zmo mpP rfl rfl rfl rfl ?_ | refine zmi mpP rfl rfl rfl rfl ?_ | refine zmu mpP rfl rfl rfl rfl ?_ | refine zmd mpP rfl rfl rfl ?_ | refine zmr mpP rfl rfl rfl ?_ | refine zmm mpP rfl ?_ | refine zeq eqP rfl rfl rfl ?_ | refine zne eqP rfl rfl rfl ?_ | refine zeqg eqP rfl rfl rfl rfl ?_ | refine zneg eqP rfl rfl rfl rfl ?_))
          have hkf : keepP le (e1, e2, e3, ()) = !(bif shT.eqB (e1, e2, e3, ()) T0 then true else decide (e3 > le)) := by
            unfold keepP
            have : shT.eqB (e1, e2, e3, ()) T0 = decide ((e1, e2, e3, ()) = T0) := by
              rw [Bool.eq_iff_iff, Ty.eqB_iff, decide_eq_true_iff]
            rw [this]
            cases decide ((e1, e2, e3, ()) = T0) <;> rfl
          refine JK.cond rfl (fun hf => ?_) (fun hf => ?_)
          · have hkf : keepP le (e1, e2, e3, ()) = false := by rw [hkf]; exact congrArg (!·) hf
            (repeat (first | refine zs rfl ?_ | refine zg rfl rfl rfl ?_ | refine zd ?_ | refine JK.fin ?_ | refine JK.ret ?_ | refine zml mpP rfl rfl rfl rfl ?_ | refine zmo mpP rfl rfl rfl rfl ?_ | refine zmi mpP rfl rfl rfl rfl ?_ | refine zmu mpP rfl rfl rfl rfl ?_ | refine zmd mpP rfl rfl rfl ?_ | refine zmr mpP rfl rfl rfl ?_ | refine zmm mpP rfl ?_ | refine zeq eqP rfl rfl rfl ?_ | refine zne eqP rfl rfl rfl ?_ | refine zeqg eqP rfl rfl rfl rfl ?_ | refine zneg eqP rfl rfl rfl rfl ?_))
            refine ⟨(mDel es3 (e1, e2, e3, ()), seen ++ [born], clk2), by (exact JW.Auto (by conv => lhs; reduce)), ⟨mDel_sub.trans hsub, Nat.le_refl _, fun a ha => ?_⟩, Nat.lt_of_le_of_lt (mLeft_sub mDel_sub) hlt⟩
            rw [mDel_mem hw3, hiff a ha]
            refine ⟨fun h hs => ?_, fun h => ⟨fun hs => h (List.mem_append_left _ hs), fun hk => ?_⟩⟩
            · rcases List.mem_append.1 hs with hs | hs
              · exact h.1 hs
              · exact absurd (congrArg (·.1) (hcm2.wf.eqb ha he2 (List.mem_singleton.1 hs))) h.2
            · have := h (List.mem_append_right _ (List.mem_singleton.2 (congrArg (·.2.2) (hcm2.wf.eq ha he2 hk))))
              rw [hk, hkf] at this; cases this
          · have hkf : keepP le (e1, e2, e3, ()) = true := by rw [hkf]; exact congrArg (!·) hf
            (repeat (first | refine zs rfl ?_ | refine zg rfl rfl rfl ?_ | refine zd ?_ | refine JK.fin ?_ | refine JK.ret ?_ | refine zml mpP rfl rfl rfl rfl ?_ | refine zmo mpP rfl rfl rfl rfl ?_ | refine zmi mpP rfl rfl rfl rfl ?_ | refine zmu mpP rfl rfl rfl rfl ?_ | refine zmd mpP rfl rfl rfl ?_ | refine zmr mpP rfl rfl rfl ?_ | refine zmm mpP rfl ?_ | refine zeq eqP rfl rfl rfl ?_ | refine zne eqP rfl rfl rfl ?_ | refine zeqg eqP rfl rfl rfl rfl ?_ | refine zneg eqP rfl rfl rfl rfl ?_))
            refine ⟨(es3, seen ++ [born], clk2), by (exact JW.Auto (by conv => lhs; reduce)), ⟨hsub, Nat.le_refl _, fun a ha => ?_⟩, hlt⟩
            rw [hiff a ha]
            refine ⟨fun h hs => ?_, fun h => fun hs => h (List.mem_append_left _ hs)⟩
            rcases List.mem_append.1 hs with hs | hs
            · exact h hs
            · rw [hcm2.wf.eqb ha he2 (List.mem_singleton.1 hs)]; exact hkf
    · obtain ⟨done, es2, clk2, last⟩ := q
      obtain ⟨hfar, hlast, hcm2⟩ := hq
      dsimp only at hfar hlast hcm2
      have hw := hcm2.wf
      (repeat (first | refine zs rfl ?_ | refine zg rfl rfl rfl ?_ | refine zd ?_ | refine JK.fin ?_ | refine JK.ret ?_ | refine zml mpP rfl rfl rfl rfl ?_ | refine zmo mpP rfl rfl rfl rfl ?_ | refine zmi mpP rfl rfl rfl rfl ?_ | refine zmu mpP rfl rfl rfl rfl ?_ | refine zmd mpP rfl rfl rfl ?_ | refine zmr mpP rfl rfl rfl ?_ | refine zmm mpP rfl ?_ | refine zeq eqP rfl rfl rfl ?_ | refine zne eqP rfl rfl rfl ?_ | refine zeqg eqP rfl rfl rfl rfl ?_ | refine zneg eqP rfl rfl rfl rfl ?_))
      refine JK.nxt rfl rfl rfl hcm.wf.lt hlast rfl (fun hall => ?_) (fun e he hes => ?_)
      · (repeat (first | refine zs rfl ?_ | refine zg rfl rfl rfl ?_ | refine zd ?_ | refine JK.fin ?_ | refine JK.ret ?_ | refine zml mpP rfl rfl rfl rfl ?_ | refine zmo mpP rfl rfl rfl rfl ?_ | refine zmi mpP rfl rfl rfl rfl ?_ | refine zmu mpP rfl rfl rfl rfl ?_ | refine zmd mpP rfl rfl rfl ?_ | refine zmr mpP rfl rfl rfl ?_ | refine zmm mpP rfl ?_ | refine zeq eqP rfl rfl rfl ?_ | refine zne eqP rfl rfl rfl ?_ | refine zeqg eqP rfl rfl rfl rfl ?_ | refine zneg eqP rfl rfl rfl rfl ?_))
        refine JK.cond rfl (fun hc => absurd hc (by decide)) (fun _ => ?_)
        (repeat (first | refine zs rfl ?_ | refine zg rfl rfl rfl ?_ | refine zd ?_ | refine JK.fin ?_ | refine JK.ret ?_ | refine zml mpP rfl rfl rfl rfl ?_ | refine zmo mpP rfl rfl rfl rfl ?_ | refine zmi mpP rfl rfl rfl rfl ?_ | refine zmu mpP rfl rfl rfl rfl ?_ | refine zmd mpP rfl rfl rfl ?_ | refine zmr mpP rfl rfl rfl ?_ | refine zmm mpP rfl ?_ | refine zeq eqP rfl rfl rfl ?_ | refine zne eqP rfl rfl rfl ?_ | refine zeqg eqP rfl rfl rfl rfl ?_ | refine zneg eqP rfl rfl rfl rfl ?_))
        refine ⟨(es2, clk2), by (exact JW.Auto (by conv => lhs; reduce)), hcm2.congr fun p => ?_⟩
        exact (perm_flat ((perm_flat (hfar.all hcm.wf hall)).trans (bag_perm hcm))).count_eq p
      · have hfar' := hfar.snoc hcm.wf he hes
        have hlt := mLeft_lt he hes
        obtain ⟨e1, e2, e3, many, born, rfl⟩ : ∃ (e1 e2 e3 many : Int) (born : Nat), e = ((e1, e2, e3, ()), many, born) := ⟨e.1.1, e.1.2.1, e.1.2.2.1, e.2.1, e.2.2, rfl⟩
        have hok : PB i (e1, e2, e3, ()) := hcm.ok _ he
        obtain ⟨hk1, hk2, hk3⟩ := hok
        dsimp only at hk1 hk2 hk3
        have hnn : 0 ≤ many := hcm.nn _ he
        obtain ⟨t, rfl⟩ : ∃ t : Nat, e1 = (t : Int) := ⟨e1.toNat, by omega⟩
        (repeat (first | refine zs rfl ?_ | refine zg rfl rfl rfl ?_ | refine zd ?_ | refine JK.fin ?_ | refine JK.ret ?_ | refine zml mpP rfl rfl rfl rfl ?_ | refine zmo mpP rfl rfl rfl rfl ?_ | refine zmi mpP rfl rfl rfl rfl ?_ | refine zmu mpP rfl rfl rfl rfl ?_ | refine zmd mpP rfl rfl rfl ?_ | refine zmr mpP rfl rfl rfl ?_ | refine zmm mpP rfl ?_ | refine zeq eqP rfl rfl rfl ?_ | refine zne eqP rfl rfl rfl ?_ | refine zeqg eqP rfl rfl rfl rfl ?_ | refine zneg eqP rfl rfl rfl rfl ?_))
        refine JK.cond rfl (fun _ => ?_) (fun hc => absurd hc (by decide))
        (repeat (first | refine zs rfl ?_ | refine zg rfl rfl rfl ?_ | refine zd ?_ | refine JK.fin ?_ | refine JK.ret ?_ | refine zml mpP rfl rfl rfl rfl ?_ | refine zmo mpP rfl rfl rfl rfl ?_ | refine zmi mpP rfl rfl rfl rfl ?_ | refine zmu mpP rfl rfl rfl rfl ?_ | refine zmd mpP rfl rfl rfl ?_ | refine zmr mpP rfl rfl rfl ?_ | refine zmm mpP rfl ?_ | refine zeq eqP rfl rfl rfl ?_ | refine zne eqP rfl rfl rfl ?_ | refine zeqg eqP rfl rfl rfl rfl ?_ | refine zneg eqP rfl rfl rfl rfl ?_))
        refine JK.etr rfl rfl rfl rfl rfl he hcm.wf rfl ?_
        (repeat (first | refine zs rfl ?_ | refine zg rfl rfl rfl ?_ | refine zd ?_ | refine JK.fin ?_ | refine JK.ret ?_ | refine zml mpP rfl rfl rfl rfl ?_ | refine zmo mpP rfl rfl rfl rfl ?_ | refine zmi mpP rfl rfl rfl rfl ?_ | refine zmu mpP rfl rfl rfl rfl ?_ | refine zmd mpP rfl rfl rfl ?_ | refine zmr mpP rfl rfl rfl ?_ | refine zmm mpP rfl ?_ | refine zeq eqP rfl rfl rfl ?_ | refine zne eqP rfl rfl rfl ?_ | refine zeqg eqP rfl rfl rfl rfl ?_ | refine zneg eqP rfl rfl rfl rfl ?_))
        have hfs := fun q => far_step (done := done) (p := ((t : Int), e2, e3, ())) (many := many) (born := born) (f := fun p => extC l one two p l.length) q
        refine JK.loop (σ := Nat × List shE × Nat) (fun q => ⟨[(0, vH l pr le), (1, vI one), (2, vI two), (7, .lf (.optr 0 [])), (8, .lf (.mp 1)), (9, .lf (.mp 2)), (10, .lf (.optr 4 [])), (11, vI many), (26, vI l.length), (27, vI (i : Int)), (31, .lf (.itr 3)), (42, vI l.length), (43, vI (q.1 : Int))],
          [(0, .cell shT (vP T0)), (1, .map shT (.int .i64) es clk), (2, .map shT (.int .i64) q.2.1 q.2.2), (3, .iter 1 clk (done.map (·.2.2) ++ [born]) clk), (4, .cell shT (vP ((t : Int), e2, e3, ())))], 5⟩)
          (fun q => q.1 ≤ l.length ∧ CM (PB (i + 1)) q.2.1 q.2.2 fun p => ((bag done).flatMap (fun p => extC l one two p l.length)).count p + many.toNat * (extC l one two ((t : Int), e2, e3, ()) q.1).count p) (fun q => l.length - q.1)
          (0, es2, clk2) ⟨Nat.zero_le _, hcm2.congr fun p => by simp [extC]⟩ (by (exact JW.Auto (by conv => lhs; reduce))) fun q hq => ?_
        obtain ⟨n, es3, clk3⟩ := q
        obtain ⟨hn, hcm3⟩ := hq
        dsimp only at hn hcm3
        (repeat (first | refine zs rfl ?_ | refine zg rfl rfl rfl ?_ | refine zd ?_ | refine JK.fin ?_ | refine JK.ret ?_ | refine zml mpP rfl rfl rfl rfl ?_ | refine zmo mpP rfl rfl rfl rfl ?_ | refine zmi mpP rfl rfl rfl rfl ?_ | refine zmu mpP rfl rfl rfl rfl ?_ | refine zmd mpP rfl rfl rfl ?_ | refine zmr mpP rfl rfl rfl ?_ | refine zmm mpP rfl ?_ | refine zeq eqP rfl rfl rfl ?_ | refine zne eqP rfl rfl rfl ?_ | refine zeqg eqP rfl rfl rfl rfl ?_ | refine zneg eqP rfl rfl rfl rfl ?_))
        refine JK.cond rfl (fun hd => ?_) (fun hd => ?_)
        · (simp only [↓bif_or, ↓bif_and, ↓Bool.or_eq_true, ↓Bool.or_eq_false_iff, ↓Bool.and_eq_true, ↓Bool.and_eq_false_iff, ↓Bool.not_eq_true', ↓Bool.not_eq_false', ↓decide_eq_true_eq, ↓decide_eq_false_iff_not, ↓beq_iff_eq, ↓bne_iff_ne, ↓bne_eq_false_iff_eq, ↓ne_eq, ↓beq_eq_false_iff_ne, ↓Bool.not_eq_true] at hd; try simp only [Ty.dflt, Int.toNat_natCast] at hd)
          have hn' : n < l.length := by omega
          have hdv : ∀ k : Nat, 0 ≤ (t : Int) / 2 ^ k ∧ (t : Int) / 2 ^ k ≤ 256 := fun k => by
            have e : (t : Int) / 2 ^ k = ((t / 2 ^ k : Nat) : Int) := by push_cast; rfl
            rw [e]
            have := Nat.div_le_self t (2 ^ k)
            generalize t / 2 ^ k = z at this ⊢
            omega
          have hdn := hdv n
          have hdo := hdv one.toNat
          have hskA : bitB ((t : Int), e2, e3, ()) n = (((((t : Int) / 2 ^ ((n : Int)).toNat).toNat &&& ((1 : Int)).toNat : Nat) : Int) == 1) := by
            rw [bit_term]
            unfold bitB
            rw [Int.toNat_natCast, Bool.eq_iff_iff, decide_eq_true_iff, beq_iff_eq]
            omega
          have hskB : ∀ k : Nat, bitB ((t : Int), e2, e3, ()) k = !(((((t : Int) / 2 ^ k).toNat &&& ((1 : Int)).toNat : Nat) : Int) == 0) := fun k => by
            have := bit_term t k
            rw [Int.toNat_natCast] at this
            rw [this]
            unfold bitB
            rw [Int.toNat_natCast, Bool.eq_iff_iff, decide_eq_true_iff, Bool.not_eq_true', beq_eq_false_iff_ne, ne_eq, Nat.and_one_is_mod]
            omega
          have hnxt : ∀ p, (extC l one two ((t : Int), e2, e3, ()) (n + 1)).count p = (extC l one two ((t : Int), e2, e3, ()) n).count p + (if skipB one two ((t : Int), e2, e3, ()) n = true then [] else [nxP l ((t : Int), e2, e3, ()) n]).count p := fun p => by rw [extC, List.count_append]
          iterate 9 (refine zs rfl ?_)
          refine JK.cut (σ := Unit) (fun _ => ⟨[(0, vH l pr le), (1, vI one), (2, vI two), (7, .lf (.optr 0 [])), (8, .lf (.mp 1)), (9, .lf (.mp 2)), (10, .lf (.optr 4 [])), (11, vI many), (12, vI (n : Int)), (26, vI l.length), (27, vI (i : Int)), (31, .lf (.itr 3)), (42, vI l.length), (43, vI (n : Int))],
            [(0, .cell shT (vP T0)), (1, .map shT (.int .i64) es clk), (2, .map shT (.int .i64) es3 clk3), (3, .iter 1 clk (done.map (·.2.2) ++ [born]) clk), (4, .cell shT (vP ((t : Int), e2, e3, ())))], 5⟩)
            (fun _ => skipB one two ((t : Int), e2, e3, ()) n = false) ?_ (fun _ hsk => ?_)
          · by_cases h0 : 0 ≤ one
            · have hskC : skipB one two ((t : Int), e2, e3, ()) n = (bif ((((t : Int) / 2 ^ ((n : Int)).toNat).toNat &&& ((1 : Int)).toNat : Nat) : Int) == 1 then true else bif (bif decide (one ≥ 0) then ((n : Int) == two) else false) then ((((t : Int) / 2 ^ one.toNat).toNat &&& ((1 : Int)).toNat : Nat) : Int) == 0 else false) := by
                unfold skipB
                rw [← hskA, hskB one.toNat, Bool.not_not, decide_eq_true h0, Bool.true_and]
                have : decide ((n : Int) = two) = ((n : Int) == two) := rfl
                rw [this]
                cases bitB ((t : Int), e2, e3, ()) n <;> cases ((n : Int) == two) <;> rfl
              (repeat (first | refine zs rfl ?_ | refine zg rfl rfl rfl ?_ | refine zd ?_ | refine JK.fin ?_ | refine JK.ret ?_ | refine zml mpP rfl rfl rfl rfl ?_ | refine zmo mpP rfl rfl rfl rfl ?_ | refine zmi mpP rfl rfl rfl rfl ?_ | refine zmu mpP rfl rfl rfl rfl ?_ | refine zmd mpP rfl rfl rfl ?_ | refine zmr mpP rfl rfl rfl ?_ | refine zmm mpP rfl ?_ | refine zeq eqP rfl rfl rfl ?_ | refine zne eqP rfl rfl rfl ?_ | refine zeqg eqP rfl rfl rfl rfl ?_ | refine zneg eqP rfl rfl rfl rfl ?_))
              refine JK.cond rfl (fun hf => ?_) (fun hf => ?_)
              · have hsk : skipB one two ((t : Int), e2, e3, ()) n = true := hskC.trans hf
                (repeat (first | refine zs rfl ?_ | refine zg rfl rfl rfl ?_ | refine zd ?_ | refine JK.fin ?_ | refine JK.ret ?_ | refine zml mpP rfl rfl rfl rfl ?_ | refine zmo mpP rfl rfl rfl rfl ?_ | refine zmi mpP rfl rfl rfl rfl ?_ | refine zmu mpP rfl rfl rfl rfl ?_ | refine zmd mpP rfl rfl rfl ?_ | refine zmr mpP rfl rfl rfl ?_ | refine zmm mpP rfl ?_ | refine zeq eqP rfl rfl rfl ?_ | refine zne eqP rfl rfl rfl ?_ | refine zeqg eqP rfl rfl rfl rfl ?_ | refine zneg eqP rfl rfl rfl rfl ?_))
                refine ⟨(n + 1, es3, clk3), by (exact JW.Auto (by conv => lhs; reduce)), ⟨by dsimp only; omega, hcm3.congr fun p => ?_⟩, by dsimp only; omega⟩
                rw [hnxt, if_pos hsk]; simp
              · have hsk : skipB one two ((t : Int), e2, e3, ()) n = false := hskC.trans hf
                (repeat (first | refine zs rfl ?_ | refine zg rfl rfl rfl ?_ | refine zd ?_ | refine JK.fin ?_ | refine JK.ret ?_ | refine zml mpP rfl rfl rfl rfl ?_ | refine zmo mpP rfl rfl rfl rfl ?_ | refine zmi mpP rfl rfl rfl rfl ?_ | refine zmu mpP rfl rfl rfl rfl ?_ | refine zmd mpP rfl rfl rfl ?_ | refine zmr mpP rfl rfl rfl ?_ | refine zmm mpP rfl ?_ | refine zeq eqP rfl rfl rfl ?_ | refine zne eqP rfl rfl rfl ?_ | refine zeqg eqP rfl rfl rfl rfl ?_ | refine zneg eqP rfl rfl rfl rfl ?_))
                exact ⟨(), by (exact JW.Auto (by conv => lhs; reduce)), hsk⟩
            · by_cases hb : bitB ((t : Int), e2, e3, ()) n = true
              · have hsk : skipB one two ((t : Int), e2, e3, ()) n = true := by unfold skipB; rw [hb]; rfl
                have hb' : (((((t : Int) / 2 ^ ((n : Int)).toNat).toNat &&& ((1 : Int)).toNat : Nat) : Int) == 1) = true := hskA.symm.trans hb
                (repeat (first | refine zs rfl ?_ | refine zg rfl rfl rfl ?_ | refine zfl rfl (by simp only [wantB]; rw [hb']; rfl) rfl ?_ | refine JK.pickT rfl hb' rfl rfl trivial trivial ?_))
                refine JK.cond rfl (fun _ => ?_) (fun h => absurd h (by decide))
                (repeat (first | refine zs rfl ?_ | refine zg rfl rfl rfl ?_ | refine zd ?_ | refine JK.fin ?_ | refine JK.ret ?_ | refine zml mpP rfl rfl rfl rfl ?_ | refine zmo mpP rfl rfl rfl rfl ?_ | refine zmi mpP rfl rfl rfl rfl ?_ | refine zmu mpP rfl rfl rfl rfl ?_ | refine zmd mpP rfl rfl rfl ?_ | refine zmr mpP rfl rfl rfl ?_ | refine zmm mpP rfl ?_ | refine zeq eqP rfl rfl rfl ?_ | refine zne eqP rfl rfl rfl ?_ | refine zeqg eqP rfl rfl rfl rfl ?_ | refine zneg eqP rfl rfl rfl rfl ?_))
                refine ⟨(n + 1, es3, clk3), by (exact JW.Auto (by conv => lhs; reduce)), ⟨by dsimp only; omega, hcm3.congr fun p => ?_⟩, by dsimp only; omega⟩
                rw [hnxt, if_pos hsk]; simp
              · have hsk : skipB one two ((t : Int), e2, e3, ()) n = false := by unfold skipB; rw [Bool.eq_false_iff.2 hb, decide_eq_false h0]; rfl
                have hb' : (((((t : Int) / 2 ^ ((n : Int)).toNat).toNat &&& ((1 : Int)).toNat : Nat) : Int) == 1) = false := hskA.symm.trans (Bool.eq_false_iff.2 hb)
                (repeat (first | refine zt rfl (by simp only [wantB]; rw [hb']; rfl) ?_ | refine zfl rfl (by first | rfl | (simp only [wantB]; exact decide_eq_false h0)) rfl ?_ | refine JK.pickF rfl (by first | rfl | exact hb' | exact decide_eq_false h0) rfl rfl trivial trivial ?_ | refine zs rfl ?_))
                refine JK.cond rfl (fun h => absurd h (by decide)) (fun _ => ?_)
                (repeat (first | refine zs rfl ?_ | refine zg rfl rfl rfl ?_ | refine zd ?_ | refine JK.fin ?_ | refine JK.ret ?_ | refine zml mpP rfl rfl rfl rfl ?_ | refine zmo mpP rfl rfl rfl rfl ?_ | refine zmi mpP rfl rfl rfl rfl ?_ | refine zmu mpP rfl rfl rfl rfl ?_ | refine zmd mpP rfl rfl rfl ?_ | refine zmr mpP rfl rfl rfl ?_ | refine zmm mpP rfl ?_ | refine zeq eqP rfl rfl rfl ?_ | refine zne eqP rfl rfl rfl ?_ | refine zeqg eqP rfl rfl rfl rfl ?_ | refine zneg eqP rfl rfl rfl rfl ?_))
                exact ⟨(), by (exact JW.Auto (by conv => lhs; reduce)), hsk⟩
          · have h75 := fn75 l pr le t e2 e3 n hl hn' h8 (by omega) (by omega) (by omega)
            have hQ : (((t ||| 2 ^ n : Nat) : Int), (nx l (e2, e3) n).1, (nx l (e2, e3) n).2, ()) = nxP l ((t : Int), e2, e3, ()) n := by unfold nxP; rw [Int.toNat_natCast]
            rw [hQ] at h75
            have hPB := nx_PB hl (i := i) (p := ((t : Int), e2, e3, ())) ⟨hk1, hk2, hk3⟩ (n := n) (by omega)
            rw [if_neg (by rw [hsk]; simp)] at hnxt
            generalize nxP l ((t : Int), e2, e3, ()) n = Q at h75 hPB hnxt
            have hw3 := hcm3.wf
            have g4 := (bag_perm hcm).length_eq
            have g5 := places_len l one two le h8 i
            have g6 : 8 ^ i ≤ 8 ^ 7 := Nat.pow_le_pow_right (by omega) (by omega)
            have g7 : 8 ^ 7 = 2097152 := rfl
            have hmn : many ≤ 2097152 := by
              have q1 : (many : Int) = _ := (mGet_mem hcm.wf he).symm.trans (hcm.eq ((t : Int), e2, e3, ()))
              have q2 := List.count_le_length (a := (((t : Int), e2, e3, ()) : Sh)) (l := placesC l one two le i)
              omega
            have hcb : (((bag done).flatMap (fun p => extC l one two p l.length)).count Q + many.toNat * (extC l one two ((t : Int), e2, e3, ()) n).count Q : Nat) ≤ 40000000 := by
              have q1 := List.count_le_length (a := Q) (l := (bag done).flatMap (fun p => extC l one two p l.length))
              have q2 := flat_len (m := 8) (fun p => Nat.le_trans (ext_len l one two p l.length) h8) (bag done)
              have q3 := hfar.len
              have q4 := List.count_le_length (a := Q) (l := extC l one two ((t : Int), e2, e3, ()) n)
              have q5 := ext_len l one two ((t : Int), e2, e3, ()) n
              have q6 : many.toNat * (extC l one two ((t : Int), e2, e3, ()) n).count Q ≤ 2097152 * 8 := Nat.mul_le_mul (by omega) (by omega)
              omega
            have hq0 : (mGet es3 Q (Ty.dflt (.int .i64)) : Int) = _ := hcm3.eq Q
            have hq1 : (0 : Int) ≤ mGet es3 Q (Ty.dflt (.int .i64)) ∧ (mGet es3 Q (Ty.dflt (.int .i64)) : Int) + many ≤ 50000000 := by
              rw [hq0]
              dsimp only [Ty.den]
              omega
            have hq1' : (0 : Int) ≤ mGet (mEnt es3 clk3 Q) Q (Ty.dflt (.int .i64)) ∧ (mGet (mEnt es3 clk3 Q) Q (Ty.dflt (.int .i64)) : Int) + many ≤ 50000000 := by
              rw [mGet_ent hw3]; exact hq1
            refine JK.drawB (xok rfl rfl rfl rfl) (Go.Proofs.Try.f62.body.getD .skip) ⟨[(0, vH l pr le), (1, vI one), (2, vI two), (7, .lf (.optr 0 [])), (8, .lf (.mp 1)), (9, .lf (.mp 2)), (10, .lf (.optr 4 [])), (11, vI many), (12, vI (n : Int)), (26, vI l.length), (27, vI (i : Int)), (31, .lf (.itr 3)), (42, vI l.length), (43, vI (n : Int))],
              [(0, .cell shT (vP T0)), (1, .map shT (.int .i64) es clk), (2, .map shT (.int .i64) (mPut es3 clk3 Q ((mGet es3 Q (Ty.dflt (.int .i64)) : Int) + many)) (mClk es3 clk3 Q)), (3, .iter 1 clk (done.map (·.2.2) ++ [born]) clk), (4, .cell shT (vP ((t : Int), e2, e3, ())))], 5⟩ rfl 11 rfl ?_ ?_
            · (refine JF.First 0 (xok rfl rfl rfl rfl) rfl rfl ?_; refine JF.First 1 (xok rfl rfl rfl rfl) rfl rfl ?_; refine JF.First 3 (xok rfl rfl rfl rfl) rfl rfl ?_; refine JF.First 6 (xok rfl rfl rfl rfl) rfl rfl ?_; refine JF.Float 2 (xok rfl rfl rfl rfl) rfl rfl ?_; refine JF.Branch 4 [] (xok rfl rfl rfl rfl) ?_ ?_; (focus (repeat (first | exact StF.nil | refine StF.One rfl rfl rfl ?_))); refine BrF.one rfl rfl ?_ BrF.nil; (· (first | refine JL.Q1 (xok rfl rfl rfl rfl) rfl rfl ?_ | refine JL.G1 (xok rfl rfl rfl rfl) rfl rfl rfl ?_ | refine JL.M1 (xok rfl rfl rfl rfl) rfl rfl ?_ | refine JL.M0 (xok rfl rfl rfl rfl) rfl ?_ | refine JL.Q0 (xok rfl rfl rfl rfl) rfl ?_ | refine JL.MLook mpP rfl rfl rfl rfl ?_ | refine JL.MIns mpP rfl rfl rfl rfl ?_ | refine JL.MEnt mpP rfl rfl rfl rfl ?_ | refine JL.MDel mpP rfl rfl rfl ?_ | refine JL.MRng mpP rfl rfl rfl ?_ | refine JL.mMake mpP rfl ?_ | refine JL.MStoE (by assumption) rfl rfl rfl rfl ?_ | refine JL.EqQ eqP rfl rfl rfl ?_ | refine JL.NeQ eqP rfl rfl rfl ?_ | refine JL.S1 rfl (h75) rfl trivial rfl ?_ | refine JL.T1 rfl (h75) rfl rfl ?_ | refine JL.C1 rfl (h75) rfl (fun r hr => ?_); subst hr | refine JL.S1g rfl rfl (fun hgd => h75) rfl trivial rfl ?_); refine JL.finN ?_; refine JF.Branch 5 [8] (xok rfl rfl rfl rfl) ?_ ?_; (focus (repeat (first | exact StF.nil | refine StF.One rfl rfl rfl ?_))); refine BrF.one rfl rfl ?_ (BrF.one rfl rfl ?_ BrF.nil); (· (first | refine JL.Q1 (xok rfl rfl rfl rfl) rfl rfl ?_ | refine JL.G1 (xok rfl rfl rfl rfl) rfl rfl rfl ?_ | refine JL.M1 (xok rfl rfl rfl rfl) rfl rfl ?_ | refine JL.M0 (xok rfl rfl rfl rfl) rfl ?_ | refine JL.Q0 (xok rfl rfl rfl rfl) rfl ?_ | refine JL.MLook mpP rfl rfl rfl rfl ?_ | refine JL.MIns mpP rfl rfl rfl rfl ?_ | refine JL.MEnt mpP rfl rfl rfl rfl ?_ | refine JL.MDel mpP rfl rfl rfl ?_ | refine JL.MRng mpP rfl rfl rfl ?_ | refine JL.mMake mpP rfl ?_ | refine JL.MStoE (by assumption) rfl rfl rfl rfl ?_ | refine JL.EqQ eqP rfl rfl rfl ?_ | refine JL.NeQ eqP rfl rfl rfl ?_ | refine JL.S1 rfl (h75) rfl trivial rfl ?_ | refine JL.T1 rfl (h75) rfl rfl ?_ | refine JL.C1 rfl (h75) rfl (fun r hr => ?_); subst hr | refine JL.S1g rfl rfl (fun hgd => h75) rfl trivial rfl ?_); refine JL.finN ?_; refine JF.First 7 (xok rfl rfl rfl rfl) rfl rfl ?_; refine JF.Branch 8 [] (xok rfl rfl rfl rfl) ?_ ?_; (focus (repeat (first | exact StF.nil | refine StF.One rfl rfl rfl ?_))); refine BrF.one rfl rfl ?_ BrF.nil; (· (first | refine JL.Q1 (xok rfl rfl rfl rfl) rfl rfl ?_ | refine JL.G1 (xok rfl rfl rfl rfl) rfl rfl rfl ?_ | refine JL.M1 (xok rfl rfl rfl rfl) rfl rfl ?_ | refine JL.M0 (xok rfl rfl rfl rfl) rfl ?_ | refine JL.Q0 (xok rfl rfl rfl rfl) rfl ?_ | refine JL.MLook mpP rfl rfl rfl rfl ?_ | refine JL.MIns mpP rfl rfl rfl rfl ?_ | refine JL.MEnt mpP rfl rfl rfl rfl ?_ | refine JL.MDel mpP rfl rfl rfl ?_ | refine JL.MRng mpP rfl rfl rfl ?_ | refine JL.mMake mpP rfl ?_ | refine JL.MStoE (by assumption) rfl rfl rfl rfl ?_ | refine JL.EqQ eqP rfl rfl rfl ?_ | refine JL.NeQ eqP rfl rfl rfl ?_ | refine JL.S1 rfl (h75) rfl trivial rfl ?_ | refine JL.T1 rfl (h75) rfl rfl ?_ | refine JL.C1 rfl (h75) rfl (fun r hr => ?_); subst hr | refine JL.S1g rfl rfl (fun hgd => h75) rfl trivial rfl ?_); refine JL.finN ?_; refine JF.First 9 (xok rfl rfl rfl rfl) rfl rfl ?_; refine JF.Branch 10 [] (xok rfl rfl rfl rfl) ?_ ?_; (focus (repeat (first | exact StF.nil | refine StF.One rfl rfl rfl ?_))); refine BrF.one rfl rfl ?_ BrF.nil; (· (first | refine JL.Q1 (xok rfl rfl rfl rfl) rfl rfl ?_ | refine JL.G1 (xok rfl rfl rfl rfl) rfl rfl rfl ?_ | refine JL.M1 (xok rfl rfl rfl rfl) rfl rfl ?_ | refine JL.M0 (xok rfl rfl rfl rfl) rfl ?_ | refine JL.Q0 (xok rfl rfl rfl rfl) rfl ?_ | refine JL.MLook mpP rfl rfl rfl rfl ?_ | refine JL.MIns mpP rfl rfl rfl rfl ?_ | refine JL.MEnt mpP rfl rfl rfl rfl ?_ | refine JL.MDel mpP rfl rfl rfl ?_ | refine JL.MRng mpP rfl rfl rfl ?_ | refine JL.mMake mpP rfl ?_ | refine JL.MStoE (by assumption) rfl rfl rfl rfl ?_ | refine JL.EqQ eqP rfl rfl rfl ?_ | refine JL.NeQ eqP rfl rfl rfl ?_ | refine JL.S1 rfl (h75) rfl trivial rfl ?_ | refine JL.T1 rfl (h75) rfl rfl ?_ | refine JL.C1 rfl (h75) rfl (fun r hr => ?_); subst hr | refine JL.S1g rfl rfl (fun hgd => h75) rfl trivial rfl ?_); refine JL.finN ?_; refine JF.Done (xok rfl rfl rfl rfl) ?_ ?_; (focus (repeat (first | exact StF.nil | refine StF.One rfl rfl rfl ?_))); ((refine JW.auto (by conv => lhs; reduce) ?_ ?_ ?_ ?_ rfl <;> (repeat' (first | exact trivial | exact rfl | refine And.intro ?_ ?_ | exact Nat.le_of_ble_eq_true rfl | refine HO.bdF ?_ | refine HO.bdP ?_ | (refine congrArg (fun z : Int => some (AV.val (.int .i64) z)) ?_; push_cast; omega) | exact congrArg (fun z : Int => some (HO.map shT (.int .i64) (mPut es3 clk3 Q z) (mClk es3 clk3 Q))) (congrArg (fun z : Int => z + many) (mGet_ent hw3))))))))); (· (first | refine JL.Q1 (xok rfl rfl rfl rfl) rfl rfl ?_ | refine JL.G1 (xok rfl rfl rfl rfl) rfl rfl rfl ?_ | refine JL.M1 (xok rfl rfl rfl rfl) rfl rfl ?_ | refine JL.M0 (xok rfl rfl rfl rfl) rfl ?_ | refine JL.Q0 (xok rfl rfl rfl rfl) rfl ?_ | refine JL.MLook mpP rfl rfl rfl rfl ?_ | refine JL.MIns mpP rfl rfl rfl rfl ?_ | refine JL.MEnt mpP rfl rfl rfl rfl ?_ | refine JL.MDel mpP rfl rfl rfl ?_ | refine JL.MRng mpP rfl rfl rfl ?_ | refine JL.mMake mpP rfl ?_ | refine JL.MStoE (by assumption) rfl rfl rfl rfl ?_ | refine JL.EqQ eqP rfl rfl rfl ?_ | refine JL.NeQ eqP rfl rfl rfl ?_ | refine JL.S1 rfl (h75) rfl trivial rfl ?_ | refine JL.T1 rfl (h75) rfl rfl ?_ | refine JL.C1 rfl (h75) rfl (fun r hr => ?_); subst hr | refine JL.S1g rfl rfl (fun hgd => h75) rfl trivial rfl ?_); refine JL.finN ?_; refine JF.First 9 (xok rfl rfl rfl rfl) rfl rfl ?_; refine JF.Branch 5 [] (xok rfl rfl rfl rfl) ?_ ?_; (focus (repeat (first | exact StF.nil | refine StF.One rfl rfl rfl ?_))); refine BrF.one rfl rfl ?_ BrF.nil; (· (first | refine JL.Q1 (xok rfl rfl rfl rfl) rfl rfl ?_ | refine JL.G1 (xok rfl rfl rfl rfl) rfl rfl rfl ?_ | refine JL.M1 (xok rfl rfl rfl rfl) rfl rfl ?_ | refine JL.M0 (xok rfl rfl rfl rfl) rfl ?_ | refine JL.Q0 (xok rfl rfl rfl rfl) rfl ?_ | refine JL.MLook mpP rfl rfl rfl rfl ?_ | refine JL.MIns mpP rfl rfl rfl rfl ?_ | refine JL.MEnt mpP rfl rfl rfl rfl ?_ | refine JL.MDel mpP rfl rfl rfl ?_ | refine JL.MRng mpP rfl rfl rfl ?_ | refine JL.mMake mpP rfl ?_ | refine JL.MStoE (by assumption) rfl rfl rfl rfl ?_ | refine JL.EqQ eqP rfl rfl rfl ?_ | refine JL.NeQ eqP rfl rfl rfl ?_ | refine JL.S1 rfl (h75) rfl trivial rfl ?_ | refine JL.T1 rfl (h75) rfl rfl ?_ | refine JL.C1 rfl (h75) rfl (fun r hr => ?_); subst hr | refine JL.S1g rfl rfl (fun hgd => h75) rfl trivial rfl ?_); refine JL.finN ?_; refine JF.First 7 (xok rfl rfl rfl rfl) rfl rfl ?_; refine JF.Branch 10 [] (xok rfl rfl rfl rfl) ?_ ?_; (focus (repeat (first | exact StF.nil | refine StF.One rfl rfl rfl ?_))); refine BrF.one rfl rfl ?_ BrF.nil; (· (first | refine JL.Q1 (xok rfl rfl rfl rfl) rfl rfl ?_ | refine JL.G1 (xok rfl rfl rfl rfl) rfl rfl rfl ?_ | refine JL.M1 (xok rfl rfl rfl rfl) rfl rfl ?_ | refine JL.M0 (xok rfl rfl rfl rfl) rfl ?_ | refine JL.Q0 (xok rfl rfl rfl rfl) rfl ?_ | refine JL.MLook mpP rfl rfl rfl rfl ?_ | refine JL.MIns mpP rfl rfl rfl rfl ?_ | refine JL.MEnt mpP rfl rfl rfl rfl ?_ | refine JL.MDel mpP rfl rfl rfl ?_ | refine JL.MRng mpP rfl rfl rfl ?_ | refine JL.mMake mpP rfl ?_ | refine JL.MStoE (by assumption) rfl rfl rfl rfl ?_ | refine JL.EqQ eqP rfl rfl rfl ?_ | refine JL.NeQ eqP rfl rfl rfl ?_ | refine JL.S1 rfl (h75) rfl trivial rfl ?_ | refine JL.T1 rfl (h75) rfl rfl ?_ | refine JL.C1 rfl (h75) rfl (fun r hr => ?_); subst hr | refine JL.S1g rfl rfl (fun hgd => h75) rfl trivial rfl ?_); refine JL.finN ?_; refine JF.Done (xok rfl rfl rfl rfl) ?_ ?_; (focus (repeat (first | exact StF.nil | refine StF.One rfl rfl rfl ?_))); ((refine JW.auto (by conv => lhs; reduce) ?_ ?_ ?_ ?_ rfl <;> (repeat' (first | exact trivial | exact rfl | refine And.intro ?_ ?_ | exact Nat.le_of_ble_eq_true rfl | refine HO.bdF ?_ | refine HO.bdP ?_ | (refine congrArg (fun z : Int => some (AV.val (.int .i64) z)) ?_; push_cast; omega) | exact congrArg (fun z : Int => some (HO.map shT (.int .i64) (mPut es3 clk3 Q z) (mClk es3 clk3 Q))) (congrArg (fun z : Int => z + many) (mGet_ent hw3)))))))))))
            have hcm4 := hcm3.add Q many.toNat hPB (v := (mGet es3 Q (Ty.dflt (.int .i64)) : Int) + many) (by
              rw [hq0]; omega)
            generalize (mPut es3 clk3 Q ((mGet es3 Q (Ty.dflt (.int .i64)) : Int) + many)) = es4 at hcm4 ⊢
            generalize mClk es3 clk3 Q = clk4 at hcm4 ⊢
            (repeat (first | refine zs rfl ?_ | refine zg rfl rfl rfl ?_ | refine zd ?_ | refine JK.fin ?_ | refine JK.ret ?_ | refine zml mpP rfl rfl rfl rfl ?_ | refine zmo mpP rfl rfl rfl rfl ?_ | refine zmi mpP rfl rfl rfl rfl ?_ | refine zmu mpP rfl rfl rfl rfl ?_ | refine zmd mpP rfl rfl rfl ?_ | refine zmr mpP rfl rfl rfl ?_ | refine zmm mpP rfl ?_ | refine zeq eqP rfl rfl rfl ?_ | refine zne eqP rfl rfl rfl ?_ | refine zeqg eqP rfl rfl rfl rfl ?_ | refine zneg eqP rfl rfl rfl rfl ?_))
            refine ⟨(n + 1, es4, clk4), by (exact JW.Auto (by conv => lhs; reduce)), ⟨by dsimp only; omega, hcm4.congr fun p => ?_⟩, by dsimp only; omega⟩
            rw [hnxt, Nat.mul_add, ← Nat.add_assoc]
            exact cnt1 _ _ _ _
        · (simp only [↓bif_or, ↓bif_and, ↓Bool.or_eq_true, ↓Bool.or_eq_false_iff, ↓Bool.and_eq_true, ↓Bool.and_eq_false_iff, ↓Bool.not_eq_true', ↓Bool.not_eq_false', ↓decide_eq_true_eq, ↓decide_eq_false_iff_not, ↓beq_iff_eq, ↓bne_iff_ne, ↓bne_eq_false_iff_eq, ↓ne_eq, ↓beq_eq_false_iff_ne, ↓Bool.not_eq_true] at hd; try simp only [Ty.dflt, Int.toNat_natCast] at hd)
          obtain rfl : n = l.length := by omega
          (repeat (first | refine zs rfl ?_ | refine zg rfl rfl rfl ?_ | refine zd ?_ | refine JK.fin ?_ | refine JK.ret ?_ | refine zml mpP rfl rfl rfl rfl ?_ | refine zmo mpP rfl rfl rfl rfl ?_ | refine zmi mpP rfl rfl rfl rfl ?_ | refine zmu mpP rfl rfl rfl rfl ?_ | refine zmd mpP rfl rfl rfl ?_ | refine zmr mpP rfl rfl rfl ?_ | refine zmm mpP rfl ?_ | refine zeq eqP rfl rfl rfl ?_ | refine zne eqP rfl rfl rfl ?_ | refine zeqg eqP rfl rfl rfl rfl ?_ | refine zneg eqP rfl rfl rfl rfl ?_))
          refine ⟨(done ++ [(((t : Int), e2, e3, ()), many, born)], es3, clk3, clk), by (refine JW.auto (by conv => lhs; reduce) ?_ ?_ ?_ ?_ rfl <;> (repeat' (first | exact trivial | exact rfl | refine And.intro ?_ ?_ | exact Nat.le_of_ble_eq_true rfl | refine HO.bdF ?_ | refine HO.bdP ?_ | (refine congrArg (fun z : Int => some (AV.val (.int .i64) z)) ?_; push_cast; omega) | (simp)))), ⟨hfar', Nat.le_refl _, hcm3.congr fun p => (hfs p).symm⟩, by simpa using hlt⟩
  · (simp only [↓bif_or, ↓bif_and, ↓Bool.or_eq_true, ↓Bool.or_eq_false_iff, ↓Bool.and_eq_true, ↓Bool.and_eq_false_iff, ↓Bool.not_eq_true', ↓Bool.not_eq_false', ↓decide_eq_true_eq, ↓decide_eq_false_iff_not, ↓beq_iff_eq, ↓bne_iff_ne, ↓bne_eq_false_iff_eq, ↓ne_eq, ↓beq_eq_false_iff_ne, ↓Bool.not_eq_true] at hc; try simp only [Ty.dflt, Int.toNat_natCast] at hc)
    obtain rfl : i = l.length := by omega
    have hbp := bag_perm hcm
    have hbl := places_len l one two le h8 l.length
    have g6 : 8 ^ l.length ≤ 8 ^ 8 := Nat.pow_le_pow_right (by omega) (by omega)
    have g7 : 8 ^ 8 = 16777216 := rfl
    (repeat (first | refine zs rfl ?_ | refine zg rfl rfl rfl ?_ | refine zd ?_ | refine JK.fin ?_ | refine JK.ret ?_ | refine zml mpP rfl rfl rfl rfl ?_ | refine zmo mpP rfl rfl rfl rfl ?_ | refine zmi mpP rfl rfl rfl rfl ?_ | refine zmu mpP rfl rfl rfl rfl ?_ | refine zmd mpP rfl rfl rfl ?_ | refine zmr mpP rfl rfl rfl ?_ | refine zmm mpP rfl ?_ | refine zeq eqP rfl rfl rfl ?_ | refine zne eqP rfl rfl rfl ?_ | refine zeqg eqP rfl rfl rfl rfl ?_ | refine zneg eqP rfl rfl rfl rfl ?_))
    refine JK.loop (σ := List shE × Nat) (fun q => ⟨[(14, vI ((bag q.1).length : Nat)), (103, .lf (.itr 2))],
        [(1, .map shT (.int .i64) es clk), (2, .iter 1 clk (q.1.map (·.2.2)) q.2)], 3⟩)
      (fun q => Far es q.1 ∧ clk ≤ q.2) (fun q => mLeft es (q.1.map (·.2.2))) ([], clk) ⟨Far.nil es, Nat.le_refl _⟩ (by (exact JW.Auto (by conv => lhs; reduce))) fun q hq => ?_
    obtain ⟨done, last⟩ := q
    obtain ⟨hfar, hlast⟩ := hq
    dsimp only at hfar hlast
    (repeat (first | refine zs rfl ?_ | refine zg rfl rfl rfl ?_ | refine zd ?_ | refine JK.fin ?_ | refine JK.ret ?_ | refine zml mpP rfl rfl rfl rfl ?_ | refine zmo mpP rfl rfl rfl rfl ?_ | refine zmi mpP rfl rfl rfl rfl ?_ | refine zmu mpP rfl rfl rfl rfl ?_ | refine zmd mpP rfl rfl rfl ?_ | refine zmr mpP rfl rfl rfl ?_ | refine zmm mpP rfl ?_ | refine zeq eqP rfl rfl rfl ?_ | refine zne eqP rfl rfl rfl ?_ | refine zeqg eqP rfl rfl rfl rfl ?_ | refine zneg eqP rfl rfl rfl rfl ?_))
    refine JK.nxt rfl rfl rfl hcm.wf.lt hlast rfl (fun hall => ?_) (fun e he hes => ?_)
    · have hfin : (bag done).length = (placesC l one two le l.length).length := by
        rw [← hbp.length_eq]
        exact (perm_flat (hfar.all hcm.wf hall)).length_eq
      (repeat (first | refine zs rfl ?_ | refine zg rfl rfl rfl ?_ | refine zd ?_ | refine JK.fin ?_ | refine JK.ret ?_ | refine zml mpP rfl rfl rfl rfl ?_ | refine zmo mpP rfl rfl rfl rfl ?_ | refine zmi mpP rfl rfl rfl rfl ?_ | refine zmu mpP rfl rfl rfl rfl ?_ | refine zmd mpP rfl rfl rfl ?_ | refine zmr mpP rfl rfl rfl ?_ | refine zmm mpP rfl ?_ | refine zeq eqP rfl rfl rfl ?_ | refine zne eqP rfl rfl rfl ?_ | refine zeqg eqP rfl rfl rfl rfl ?_ | refine zneg eqP rfl rfl rfl rfl ?_))
      refine JK.cond rfl (fun hc => absurd hc (by decide)) (fun _ => ?_)
      (repeat (first | refine zs rfl ?_ | refine zg rfl rfl rfl ?_ | refine zd ?_ | refine JK.fin ?_ | refine JK.ret ?_ | refine zml mpP rfl rfl rfl rfl ?_ | refine zmo mpP rfl rfl rfl rfl ?_ | refine zmi mpP rfl rfl rfl rfl ?_ | refine zmu mpP rfl rfl rfl rfl ?_ | refine zmd mpP rfl rfl rfl ?_ | refine zmr mpP rfl rfl rfl ?_ | refine zmm mpP rfl ?_ | refine zeq eqP rfl rfl rfl ?_ | refine zne eqP rfl rfl rfl ?_ | refine zeqg eqP rfl rfl rfl rfl ?_ | refine zneg eqP rfl rfl rfl rfl ?_))
      refine ⟨.inl rfl, _, _, rfl, trivial, ?_⟩
      exact congrArg (fun n : Nat => vI (n : Int)) hfin
    · have hfar' := hfar.snoc hcm.wf he hes
      have hlt := mLeft_lt he hes
      obtain ⟨p, many, born, rfl⟩ : ∃ (p : Sh) (many : Int) (born : Nat), e = (p, many, born) := ⟨e.1, e.2.1, e.2.2, rfl⟩
      have hnn : 0 ≤ many := hcm.nn _ he
      have hb1 := hfar'.len
      rw [hbp.length_eq] at hb1
      have hb2 : (bag (done ++ [(p, many, born)])).length = (bag done).length + many.toNat := by
        rw [bag_snoc, List.length_append, List.length_replicate]
      generalize hbd : (bag done).length = B at hb2
      have hB : ((bag (done ++ [(p, many, born)])).length : Int) = (B : Int) + many := by omega
      (repeat (first | refine zs rfl ?_ | refine zg rfl rfl rfl ?_ | refine zd ?_ | refine JK.fin ?_ | refine JK.ret ?_ | refine zml mpP rfl rfl rfl rfl ?_ | refine zmo mpP rfl rfl rfl rfl ?_ | refine zmi mpP rfl rfl rfl rfl ?_ | refine zmu mpP rfl rfl rfl rfl ?_ | refine zmd mpP rfl rfl rfl ?_ | refine zmr mpP rfl rfl rfl ?_ | refine zmm mpP rfl ?_ | refine zeq eqP rfl rfl rfl ?_ | refine zne eqP rfl rfl rfl ?_ | refine zeqg eqP rfl rfl rfl rfl ?_ | refine zneg eqP rfl rfl rfl rfl ?_))
      refine JK.cond rfl (fun _ => ?_) (fun hc => absurd hc (by decide))
      (repeat (first | refine zs rfl ?_ | refine zg rfl rfl rfl ?_ | refine zd ?_ | refine JK.fin ?_ | refine JK.ret ?_ | refine zml mpP rfl rfl rfl rfl ?_ | refine zmo mpP rfl rfl rfl rfl ?_ | refine zmi mpP rfl rfl rfl rfl ?_ | refine zmu mpP rfl rfl rfl rfl ?_ | refine zmd mpP rfl rfl rfl ?_ | refine zmr mpP rfl rfl rfl ?_ | refine zmm mpP rfl ?_ | refine zeq eqP rfl rfl rfl ?_ | refine zne eqP rfl rfl rfl ?_ | refine zeqg eqP rfl rfl rfl rfl ?_ | refine zneg eqP rfl rfl rfl rfl ?_))
      refine JK.etr rfl rfl rfl rfl rfl he hcm.wf rfl ?_
      (repeat (first | refine zs rfl ?_ | refine zg rfl rfl rfl ?_ | refine zd ?_ | refine JK.fin ?_ | refine JK.ret ?_ | refine zml mpP rfl rfl rfl rfl ?_ | refine zmo mpP rfl rfl rfl rfl ?_ | refine zmi mpP rfl rfl rfl rfl ?_ | refine zmu mpP rfl rfl rfl rfl ?_ | refine zmd mpP rfl rfl rfl ?_ | refine zmr mpP rfl rfl rfl ?_ | refine zmm mpP rfl ?_ | refine zeq eqP rfl rfl rfl ?_ | refine zne eqP rfl rfl rfl ?_ | refine zeqg eqP rfl rfl rfl rfl ?_ | refine zneg eqP rfl rfl rfl rfl ?_))
      refine ⟨(done ++ [(p, many, born)], clk), ?_, ⟨hfar', Nat.le_refl _⟩, by simpa using hlt⟩
      dsimp only
      rw [hB, ← hbd]
      (refine JW.auto (by conv => lhs; reduce) ?_ ?_ ?_ ?_ rfl <;> (repeat' (first | exact trivial | exact rfl | refine And.intro ?_ ?_ | exact Nat.le_of_ble_eq_true rfl | refine HO.bdF ?_ | refine HO.bdP ?_ | (refine congrArg (fun z : Int => some (AV.val (.int .i64) z)) ?_; push_cast; omega) | (simp))))
end Go.Proofs.Ythiocglfgcnlhaa

namespace Go.Proofs.Ythiocglfgcnlhaa
open Go Go.RowKit Ox Ox.Sh
attribute [local irreducible] JC JL JK JW

def bstI (l : List Sh) : List Int := if dayE l = 0 then iL (bestO l) else []
def lstI (l : List Sh) : Int := if dayE l = 0 then leS l else 0
abbrev vB3 (a : List Int) (b c : Int) : AV := .tup (.acons (vL a) (.acons (vI b) (.acons (vI c) .anil)))
theorem fn30 (l : List Sh) (h6 : dayE l = 0 → l.length ≤ 6) : Ox.Fn Go.Proofs.Try.prog 30 (.acons (vD l) .anil) (· = vB3 (bstI l) (lstI l) (dayE l)) := by
  refine Ox.Fn.intro xok Go.Proofs.Try.func30 rfl Go.Proofs.Try.call30 (Nat.le_of_ble_eq_true rfl) (fun E M0 up => ?_)
  refine JK.start ?_
  (repeat (first | refine zs rfl ?_ | refine zg rfl rfl rfl ?_ | refine zd ?_ | refine JK.fin ?_ | refine JK.ret ?_ | refine zc rfl (fn22 l) rfl rfl ?_ | refine ze rfl (fn22 l) rfl ?_ | refine zk rfl rfl (fun _ => fn22 l) rfl rfl ?_))
  refine JK.cond rfl (fun hc => ?_) (fun hc => ?_)
  · (simp only [↓bif_or, ↓bif_and, ↓Bool.or_eq_true, ↓Bool.or_eq_false_iff, ↓Bool.and_eq_true, ↓Bool.and_eq_false_iff, ↓Bool.not_eq_true', ↓Bool.not_eq_false', ↓decide_eq_true_eq, ↓decide_eq_false_iff_not, ↓beq_iff_eq, ↓bne_iff_ne, ↓bne_eq_false_iff_eq, ↓ne_eq, ↓beq_eq_false_iff_ne, ↓Bool.not_eq_true] at hc; try simp only [Ty.dflt, Int.toNat_natCast] at hc)
    (repeat (first | refine zs rfl ?_ | refine zg rfl rfl rfl ?_ | refine zd ?_ | refine JK.fin ?_ | refine JK.ret ?_ | refine zc rfl (fn22 l) rfl rfl ?_ | refine ze rfl (fn22 l) rfl ?_ | refine zk rfl rfl (fun _ => fn22 l) rfl rfl ?_))
    refine ⟨.inl rfl, _, _, rfl, trivial, ?_⟩
    unfold bstI lstI; rw [if_neg hc, if_neg hc]
  · (simp only [↓bif_or, ↓bif_and, ↓Bool.or_eq_true, ↓Bool.or_eq_false_iff, ↓Bool.and_eq_true, ↓Bool.and_eq_false_iff, ↓Bool.not_eq_true', ↓Bool.not_eq_false', ↓decide_eq_true_eq, ↓decide_eq_false_iff_not, ↓beq_iff_eq, ↓bne_iff_ne, ↓bne_eq_false_iff_eq, ↓ne_eq, ↓beq_eq_false_iff_ne, ↓Bool.not_eq_true] at hc; try simp only [Ty.dflt, Int.toNat_natCast] at hc)
    have hz : dayE l = 0 := by omega
    obtain ⟨d1, d8, dl⟩ := day_ok hz
    have h57 := fn57 l dl d1 (h6 hz)
    obtain ⟨r, hr⟩ := best_first dl
    have hlen : 0 < (iLL (bestsL l)).length := by rw [hr]; simp
    have hg : (iLL (bestsL l)).getD 0 [] = iL (bestO l) := by rw [iLL_getD, hr]; rfl
    have e1 : bstI l = iL (bestO l) := by unfold bstI; rw [if_pos hz]
    have e2 : lstI l = leS l := by unfold lstI; rw [if_pos hz]
    rw [e1, e2, hz, ← hg]
    generalize iLL (bestsL l) = B at h57 hlen
    (repeat (first | refine zs rfl ?_ | refine zg rfl rfl rfl ?_ | refine zd ?_ | refine JK.fin ?_ | refine JK.ret ?_ | refine zc rfl (h57) rfl rfl ?_ | refine ze rfl (h57) rfl ?_ | refine zk rfl rfl (fun _ => h57) rfl rfl ?_))
    refine ⟨.inl rfl, _, _, rfl, trivial, ?_⟩
    rfl
theorem bestO_len {l : List Sh} (hl : okD l) : (bestO l).length = l.length := (mem_lvl.1 (mem_bests.1 (best_in hl)).1).1
theorem fn29 (l : List Sh) : Ox.Fn Go.Proofs.Try.prog 29 (.acons (vD l) .anil) (· = vB3 (bstI l) (lstI l) (dayE l)) := by
  refine Ox.Fn.intro xok Go.Proofs.Try.func29 rfl Go.Proofs.Try.call29 (Nat.le_of_ble_eq_true rfl) (fun E M0 up => ?_)
  refine JK.start ?_
  have h55 := fn55 l
  unfold vOp at h55
  by_cases hc : dayE l = 0
  · obtain ⟨d1, d8, dl⟩ := day_ok hc
    rw [if_pos hc, hc] at h55
    have h56 := fn56 l (prS l) (leS l) dl d8
    have hbl := bestO_len dl
    have e1 : bstI l = iL (bestO l) := by unfold bstI; rw [if_pos hc]
    have e2 : lstI l = leS l := by unfold lstI; rw [if_pos hc]
    rw [e1, e2, hc]
    change Ox.Fn Go.Proofs.Try.prog 56 _ (· = vL (iL (bestO l))) at h56
    have hil : (iL (bestO l)).length = l.length := by rw [List.length_map]; exact hbl
    generalize iL (bestO l) = B at h56 hil ⊢
    (repeat (first | refine zs rfl ?_ | refine zg rfl rfl rfl ?_ | refine zd ?_ | refine JK.fin ?_ | refine JK.ret ?_ | refine zc rfl (h55) rfl rfl ?_ | refine ze rfl (h55) rfl ?_ | refine zk rfl rfl (fun _ => h55) rfl rfl ?_ | refine zc rfl (h56) rfl rfl ?_ | refine ze rfl (h56) rfl ?_ | refine zk rfl rfl (fun _ => h56) rfl rfl ?_))
    refine JK.cond rfl (fun h => absurd h (by decide)) (fun _ => ?_)
    have hrep : (List.replicate ((B.length : Int)).toNat (Ty.dflt (.int .i64))).length = B.length := by simp
    (repeat (first | refine zs rfl ?_ | refine zg rfl rfl rfl ?_ | refine JK.fin ?_ | refine JK.ret ?_ | refine zc rfl (h56) rfl rfl ?_ | refine ze rfl (h56) rfl ?_ | refine zk rfl rfl (fun _ => h56) rfl rfl ?_))
    (refine JK.frz [0] [5,8] rfl (by (first | exact trivial | (try dsimp only [allP, inK, idxC, loC, lohiC, fullC, underG, List.append, List.nil_append, List.cons_append, Ty.den, Ty.dflt, Int.toNat_natCast, List.length_cons, List.length_nil] at *); first | omega | ((repeat' (first | exact trivial | assumption | refine And.intro ?_ ?_ | exact fun h => h | (intro hpk; first | exact hpk | simp only [wantB, hpk, Bool.not_false, Bool.not_true]))) <;> omega) | fail)) ?_)
    (repeat (first | refine zs rfl ?_ | refine zg rfl rfl rfl ?_ | refine zd ?_ | refine JK.fin ?_ | refine JK.ret ?_))
    refine ⟨.inl rfl, _, _, rfl, trivial, ?_⟩
    rfl
  · have e1 : bstI l = [] := by unfold bstI; rw [if_neg hc]
    have e2 : lstI l = 0 := by unfold lstI; rw [if_neg hc]
    rw [e1, e2]
    rw [if_neg hc] at h55
    generalize dayE l = z at hc h55 ⊢
    (repeat (first | refine zs rfl ?_ | refine zg rfl rfl rfl ?_ | refine zd ?_ | refine JK.fin ?_ | refine JK.ret ?_ | refine zc rfl (h55) rfl rfl ?_ | refine ze rfl (h55) rfl ?_ | refine zk rfl rfl (fun _ => h55) rfl rfl ?_))
    refine JK.cond rfl (fun _ => ?_) (fun h => ?_)
    · (repeat (first | refine zs rfl ?_ | refine zg rfl rfl rfl ?_ | refine zd ?_ | refine JK.fin ?_ | refine JK.ret ?_))
      refine ⟨.inl rfl, _, _, rfl, trivial, ?_⟩
      rfl
    · (simp only [↓bif_or, ↓bif_and, ↓Bool.or_eq_true, ↓Bool.or_eq_false_iff, ↓Bool.and_eq_true, ↓Bool.and_eq_false_iff, ↓Bool.not_eq_true', ↓Bool.not_eq_false', ↓decide_eq_true_eq, ↓decide_eq_false_iff_not, ↓beq_iff_eq, ↓bne_iff_ne, ↓bne_eq_false_iff_eq, ↓ne_eq, ↓beq_eq_false_iff_ne, ↓Bool.not_eq_true] at h; try simp only [Ty.dflt, Int.toNat_natCast] at h)
      omega
/-! Kinds. -/
def kindE (l : List Sh) (one two : Int) : Int := if dayE l ≠ 0 then dayE l else if (0 ≤ one ∧ one < (l.length : Int)) ∧ (0 ≤ two ∧ two < (l.length : Int)) ∧ one ≠ two then 0 else 2
def kindV (l : List Sh) (a b : Nat) : Int := if (bestsL l).all (befB a b) = true then 2 else if (bestsL l).any (befB a b) = true then 1 else 0
def kindI (l : List Sh) (one two : Int) : Int := if kindE l one two = 0 then kindV l one.toNat two.toNat else 0
theorem kind_ok {l : List Sh} {one two : Int} : kindE l one two = 0 ↔ dayE l = 0 ∧ (0 ≤ one ∧ one < (l.length : Int)) ∧ (0 ≤ two ∧ two < (l.length : Int)) ∧ one ≠ two := by
  unfold kindE
  split
  · rename_i h; exact ⟨fun h' => absurd h' h, fun h' => absurd h'.1 h⟩
  · rename_i h
    split
    · rename_i h'; exact ⟨fun _ => ⟨by omega, h'⟩, fun _ => rfl⟩
    · rename_i h'; exact ⟨fun e => by omega, fun e => absurd e.2 h'⟩
theorem fn63 (l : List Sh) (one two : Int) : Ox.Fn Go.Proofs.Try.prog 63 (.acons (vD l) (.acons (vI one) (.acons (vI two) .anil))) (· = vI (kindE l one two)) := by
  refine Ox.Fn.intro xok Go.Proofs.Try.func63 rfl Go.Proofs.Try.call63 (Nat.le_of_ble_eq_true rfl) (fun E M0 up => ?_)
  refine JK.start ?_
  (repeat (first | refine zs rfl ?_ | refine zg rfl rfl rfl ?_ | refine zd ?_ | refine JK.fin ?_ | refine JK.ret ?_ | refine zc rfl (fn22 l) rfl rfl ?_ | refine ze rfl (fn22 l) rfl ?_ | refine zk rfl rfl (fun _ => fn22 l) rfl rfl ?_))
  refine JK.cond rfl (fun hc => ?_) (fun hc => ?_)
  · (simp only [↓bif_or, ↓bif_and, ↓Bool.or_eq_true, ↓Bool.or_eq_false_iff, ↓Bool.and_eq_true, ↓Bool.and_eq_false_iff, ↓Bool.not_eq_true', ↓Bool.not_eq_false', ↓decide_eq_true_eq, ↓decide_eq_false_iff_not, ↓beq_iff_eq, ↓bne_iff_ne, ↓bne_eq_false_iff_eq, ↓ne_eq, ↓beq_eq_false_iff_ne, ↓Bool.not_eq_true] at hc; try simp only [Ty.dflt, Int.toNat_natCast] at hc)
    (repeat (first | refine zs rfl ?_ | refine zg rfl rfl rfl ?_ | refine zd ?_ | refine JK.fin ?_ | refine JK.ret ?_ | refine zc rfl (fn22 l) rfl rfl ?_ | refine ze rfl (fn22 l) rfl ?_ | refine zk rfl rfl (fun _ => fn22 l) rfl rfl ?_))
    refine ⟨.inl rfl, _, _, rfl, trivial, ?_⟩
    unfold kindE; rw [if_pos hc]
  · (simp only [↓bif_or, ↓bif_and, ↓Bool.or_eq_true, ↓Bool.or_eq_false_iff, ↓Bool.and_eq_true, ↓Bool.and_eq_false_iff, ↓Bool.not_eq_true', ↓Bool.not_eq_false', ↓decide_eq_true_eq, ↓decide_eq_false_iff_not, ↓beq_iff_eq, ↓bne_iff_ne, ↓bne_eq_false_iff_eq, ↓ne_eq, ↓beq_eq_false_iff_ne, ↓Bool.not_eq_true] at hc; try simp only [Ty.dflt, Int.toNat_natCast] at hc)
    (repeat (first | refine zs rfl ?_ | refine zg rfl rfl rfl ?_ | refine zd ?_ | refine JK.fin ?_ | refine JK.ret ?_))
    refine JK.cond rfl (fun hd => ?_) (fun hd => ?_)
    · (simp only [↓bif_or, ↓bif_and, ↓Bool.or_eq_true, ↓Bool.or_eq_false_iff, ↓Bool.and_eq_true, ↓Bool.and_eq_false_iff, ↓Bool.not_eq_true', ↓Bool.not_eq_false', ↓decide_eq_true_eq, ↓decide_eq_false_iff_not, ↓beq_iff_eq, ↓bne_iff_ne, ↓bne_eq_false_iff_eq, ↓ne_eq, ↓beq_eq_false_iff_ne, ↓Bool.not_eq_true] at hd; try simp only [Ty.dflt, Int.toNat_natCast] at hd)
      (repeat (first | refine zs rfl ?_ | refine zg rfl rfl rfl ?_ | refine zd ?_ | refine JK.fin ?_ | refine JK.ret ?_))
      refine ⟨.inl rfl, _, _, rfl, trivial, ?_⟩
      unfold kindE; rw [if_neg (by omega), if_neg (by omega)]
    · (simp only [↓bif_or, ↓bif_and, ↓Bool.or_eq_true, ↓Bool.or_eq_false_iff, ↓Bool.and_eq_true, ↓Bool.and_eq_false_iff, ↓Bool.not_eq_true', ↓Bool.not_eq_false', ↓decide_eq_true_eq, ↓decide_eq_false_iff_not, ↓beq_iff_eq, ↓bne_iff_ne, ↓bne_eq_false_iff_eq, ↓ne_eq, ↓beq_eq_false_iff_ne, ↓Bool.not_eq_true] at hd; try simp only [Ty.dflt, Int.toNat_natCast] at hd)
      (repeat (first | refine zs rfl ?_ | refine zg rfl rfl rfl ?_ | refine zd ?_ | refine JK.fin ?_ | refine JK.ret ?_))
      refine ⟨.inl rfl, _, _, rfl, trivial, ?_⟩
      unfold kindE; rw [if_neg (by omega), if_pos (by omega)]
theorem bef_at {a b : Nat} : ∀ {o : List Nat} {k : Nat}, k < o.length → o.getD k 0 = b → b ∉ o.take k → befB a b o = decide (a ∈ o.take k)
  | [], k, h, _, _ => absurd h (Nat.not_lt_zero _)
  | m :: r, 0, _, h, _ => by
    have : m = b := h
    rw [befB, if_pos this]; simp
  | m :: r, k + 1, h1, h2, h3 => by
    rw [List.take_succ_cons, List.mem_cons, not_or] at h3
    rw [befB, if_neg (fun e => h3.1 e.symm), List.take_succ_cons]
    by_cases e : m = a
    · rw [if_pos e]; simp [e]
    · rw [if_neg e, bef_at (o := r) (k := k) (by simpa using h1) (show r.getD k 0 = b from h2) h3.2]
      exact decide_eq_decide.2 ⟨fun h => List.mem_cons_of_mem _ h, fun h => (List.mem_cons.1 h).resolve_left fun e' => e e'.symm⟩
theorem kind_cnt {l : List Sh} (a b : Nat) : kindV l a b = if (((bestsL l).filter (befB a b)).length : Int) = 0 then 0 else if (((bestsL l).filter (befB a b)).length : Int) = (bestsL l).length then 2 else 1 := by
  have hne := bests_ne l
  unfold kindV
  generalize bestsL l = L at hne
  have h1 : L.all (befB a b) = true ↔ (L.filter (befB a b)).length = L.length := by
    rw [List.length_filter_eq_length_iff, List.all_eq_true]
  have h2 : L.any (befB a b) = true ↔ ¬ (L.filter (befB a b)).length = 0 := by
    rw [List.length_eq_zero_iff, List.filter_eq_nil_iff, List.any_eq_true]
    constructor
    · rintro ⟨x, hx, h⟩ h'; exact h' x hx h
    · intro h
      refine Classical.byContradiction fun hn => h fun x hx hb => hn ⟨x, hx, hb⟩
  have h3 : L.length ≠ 0 := fun e => hne (List.length_eq_zero_iff.1 e)
  by_cases c1 : (L.filter (befB a b)).length = 0
  · rw [if_neg (fun h => by have := h1.1 h; omega), if_neg (fun h => h2.1 h c1), if_pos (by omega)]
  · rw [if_neg (by omega : ¬ ((L.filter (befB a b)).length : Int) = 0)]
    by_cases c2 : (L.filter (befB a b)).length = L.length
    · rw [if_pos (h1.2 c2), if_pos (by omega)]
    · rw [if_neg (fun h => c2 (h1.1 h)), if_pos (h2.2 c1), if_neg (by omega)]
def countI (l : List Sh) : Int := if dayE l = 0 then ((bestsL l).length : Int) else 0
theorem fn38 (l : List Sh) (h6 : dayE l = 0 → l.length ≤ 6) : Ox.Fn Go.Proofs.Try.prog 38 (.acons (vD l) .anil) (· = vT2 (countI l) (dayE l)) := by
  refine Ox.Fn.intro xok Go.Proofs.Try.func38 rfl Go.Proofs.Try.call38 (Nat.le_of_ble_eq_true rfl) (fun E M0 up => ?_)
  refine JK.start ?_
  (repeat (first | refine zs rfl ?_ | refine zg rfl rfl rfl ?_ | refine zd ?_ | refine JK.fin ?_ | refine JK.ret ?_ | refine zc rfl (fn22 l) rfl rfl ?_ | refine ze rfl (fn22 l) rfl ?_ | refine zk rfl rfl (fun _ => fn22 l) rfl rfl ?_))
  refine JK.cond rfl (fun hc => ?_) (fun hc => ?_)
  · (simp only [↓bif_or, ↓bif_and, ↓Bool.or_eq_true, ↓Bool.or_eq_false_iff, ↓Bool.and_eq_true, ↓Bool.and_eq_false_iff, ↓Bool.not_eq_true', ↓Bool.not_eq_false', ↓decide_eq_true_eq, ↓decide_eq_false_iff_not, ↓beq_iff_eq, ↓bne_iff_ne, ↓bne_eq_false_iff_eq, ↓ne_eq, ↓beq_eq_false_iff_ne, ↓Bool.not_eq_true] at hc; try simp only [Ty.dflt, Int.toNat_natCast] at hc)
    (repeat (first | refine zs rfl ?_ | refine zg rfl rfl rfl ?_ | refine zd ?_ | refine JK.fin ?_ | refine JK.ret ?_ | refine zc rfl (fn22 l) rfl rfl ?_ | refine ze rfl (fn22 l) rfl ?_ | refine zk rfl rfl (fun _ => fn22 l) rfl rfl ?_))
    refine ⟨.inl rfl, _, _, rfl, trivial, ?_⟩
    unfold countI; rw [if_neg hc]
  · (simp only [↓bif_or, ↓bif_and, ↓Bool.or_eq_true, ↓Bool.or_eq_false_iff, ↓Bool.and_eq_true, ↓Bool.and_eq_false_iff, ↓Bool.not_eq_true', ↓Bool.not_eq_false', ↓decide_eq_true_eq, ↓decide_eq_false_iff_not, ↓beq_iff_eq, ↓bne_iff_ne, ↓bne_eq_false_iff_eq, ↓ne_eq, ↓beq_eq_false_iff_ne, ↓Bool.not_eq_true] at hc; try simp only [Ty.dflt, Int.toNat_natCast] at hc)
    have hz : dayE l = 0 := by omega
    obtain ⟨d1, d8, dl⟩ := day_ok hz
    have h57 := fn57 l dl d1 (h6 hz)
    have e1 : countI l = (((iLL (bestsL l)).length : Nat) : Int) := by unfold countI; rw [if_pos hz, List.length_map]
    rw [e1, hz]
    have hbl : (iLL (bestsL l)).length ≤ 46656 := by rw [List.length_map]; exact bests_len (h6 hz)
    generalize iLL (bestsL l) = B at h57 hbl
    (repeat (first | refine zs rfl ?_ | refine zg rfl rfl rfl ?_ | refine zd ?_ | refine JK.fin ?_ | refine JK.ret ?_ | refine zc rfl (h57) rfl rfl ?_ | refine ze rfl (h57) rfl ?_ | refine zk rfl rfl (fun _ => h57) rfl rfl ?_))
    refine ⟨.inl rfl, _, _, rfl, trivial, ?_⟩
    rfl
theorem fn37 (l : List Sh) : Ox.Fn Go.Proofs.Try.prog 37 (.acons (vD l) .anil) (· = vT2 (countI l) (dayE l)) := by
  refine Ox.Fn.intro xok Go.Proofs.Try.func37 rfl Go.Proofs.Try.call37 (Nat.le_of_ble_eq_true rfl) (fun E M0 up => ?_)
  refine JK.start ?_
  have h55 := fn55 l
  unfold vOp at h55
  by_cases hc : dayE l = 0
  · obtain ⟨d1, d8, dl⟩ := day_ok hc
    rw [if_pos hc, hc] at h55
    have h62 := fn62 l (prS l) (-1) (-1) dl d8 (by omega)
    rw [cnt_all dl (by decide)] at h62
    have e1 : countI l = ((bestsL l).length : Nat) := by unfold countI; rw [if_pos hc]
    rw [e1, hc]
    (repeat (first | refine zs rfl ?_ | refine zg rfl rfl rfl ?_ | refine zd ?_ | refine JK.fin ?_ | refine JK.ret ?_ | refine zc rfl (h55) rfl rfl ?_ | refine ze rfl (h55) rfl ?_ | refine zk rfl rfl (fun _ => h55) rfl rfl ?_ | refine zc rfl (h62) rfl rfl ?_ | refine ze rfl (h62) rfl ?_ | refine zk rfl rfl (fun _ => h62) rfl rfl ?_))
    refine JK.cond rfl (fun h => absurd h (by decide)) (fun _ => ?_)
    (repeat (first | refine zs rfl ?_ | refine zg rfl rfl rfl ?_ | refine zd ?_ | refine JK.fin ?_ | refine JK.ret ?_ | refine zc rfl (h62) rfl rfl ?_ | refine ze rfl (h62) rfl ?_ | refine zk rfl rfl (fun _ => h62) rfl rfl ?_))
    refine ⟨.inl rfl, _, _, rfl, trivial, ?_⟩
    rfl
  · have e1 : countI l = 0 := by unfold countI; rw [if_neg hc]
    rw [e1]
    rw [if_neg hc] at h55
    generalize dayE l = z at hc h55 ⊢
    (repeat (first | refine zs rfl ?_ | refine zg rfl rfl rfl ?_ | refine zd ?_ | refine JK.fin ?_ | refine JK.ret ?_ | refine zc rfl (h55) rfl rfl ?_ | refine ze rfl (h55) rfl ?_ | refine zk rfl rfl (fun _ => h55) rfl rfl ?_))
    refine JK.cond rfl (fun _ => ?_) (fun h => ?_)
    · (repeat (first | refine zs rfl ?_ | refine zg rfl rfl rfl ?_ | refine zd ?_ | refine JK.fin ?_ | refine JK.ret ?_))
      refine ⟨.inl rfl, _, _, rfl, trivial, ?_⟩
      rfl
    · (simp only [↓bif_or, ↓bif_and, ↓Bool.or_eq_true, ↓Bool.or_eq_false_iff, ↓Bool.and_eq_true, ↓Bool.and_eq_false_iff, ↓Bool.not_eq_true', ↓Bool.not_eq_false', ↓decide_eq_true_eq, ↓decide_eq_false_iff_not, ↓beq_iff_eq, ↓bne_iff_ne, ↓bne_eq_false_iff_eq, ↓ne_eq, ↓beq_eq_false_iff_ne, ↓Bool.not_eq_true] at h; try simp only [Ty.dflt, Int.toNat_natCast] at h)
      omega
theorem fn35 (l : List Sh) (one two : Int) : Ox.Fn Go.Proofs.Try.prog 35 (.acons (vD l) (.acons (vI one) (.acons (vI two) .anil))) (· = vT2 (kindI l one two) (kindE l one two)) := by
  refine Ox.Fn.intro xok Go.Proofs.Try.func35 rfl Go.Proofs.Try.call35 (Nat.le_of_ble_eq_true rfl) (fun E M0 up => ?_)
  refine JK.start ?_
  have h55 := fn55 l
  unfold vOp at h55
  by_cases hc : dayE l = 0
  · obtain ⟨d1, d8, dl⟩ := day_ok hc
    rw [if_pos hc, hc] at h55
    have h52 := fn52 0 ((l.length : Int) - 1) [one, two]
    have e52 : decide (∀ x ∈ [one, two], 0 ≤ x ∧ x ≤ (l.length : Int) - 1) = decide ((0 ≤ one ∧ one < (l.length : Int)) ∧ (0 ≤ two ∧ two < (l.length : Int))) := decide_eq_decide.2 (by
      simp only [List.mem_cons, List.not_mem_nil, or_false, forall_eq_or_imp, forall_eq]
      omega)
    rw [e52] at h52
    (repeat (first | refine zs rfl ?_ | refine zg rfl rfl rfl ?_ | refine zd ?_ | refine JK.fin ?_ | refine JK.ret ?_ | refine zc rfl (h55) rfl rfl ?_ | refine ze rfl (h55) rfl ?_ | refine zk rfl rfl (fun _ => h55) rfl rfl ?_ | refine zc rfl (h52) rfl rfl ?_ | refine ze rfl (h52) rfl ?_ | refine zk rfl rfl (fun _ => h52) rfl rfl ?_))
    refine JK.cond rfl (fun h => absurd h (by decide)) (fun _ => ?_)
    (repeat (first | refine zs rfl ?_ | refine zg rfl rfl rfl ?_ | refine zd ?_ | refine JK.fin ?_ | refine JK.ret ?_ | refine zc rfl (h52) rfl rfl ?_ | refine ze rfl (h52) rfl ?_ | refine zk rfl rfl (fun _ => h52) rfl rfl ?_))
    refine JK.cond rfl (fun hd => ?_) (fun hd => ?_)
    · have hno : ¬ ((0 ≤ one ∧ one < (l.length : Int)) ∧ (0 ≤ two ∧ two < (l.length : Int)) ∧ one ≠ two) := by
        rintro ⟨q1, q2, q3⟩
        have hd2 : (bif !decide ((0 ≤ one ∧ one < (l.length : Int)) ∧ 0 ≤ two ∧ two < (l.length : Int)) then true else one == two) = true := hd
        rw [decide_eq_true ⟨q1, q2⟩] at hd2
        exact q3 (beq_iff_eq.1 hd2)
      have e2 : kindE l one two = 2 := by unfold kindE; rw [if_neg (by omega), if_neg hno]
      have e1 : kindI l one two = 0 := by unfold kindI; rw [if_neg (by rw [e2]; decide)]
      rw [e1, e2]
      (repeat (first | refine zs rfl ?_ | refine zg rfl rfl rfl ?_ | refine zd ?_ | refine JK.fin ?_ | refine JK.ret ?_))
      refine ⟨.inl rfl, _, _, rfl, trivial, ?_⟩
      rfl
    · have hyes : (0 ≤ one ∧ one < (l.length : Int)) ∧ (0 ≤ two ∧ two < (l.length : Int)) ∧ one ≠ two := by
        have hd2 : (bif !decide ((0 ≤ one ∧ one < (l.length : Int)) ∧ 0 ≤ two ∧ two < (l.length : Int)) then true else one == two) = false := hd
        by_cases q : (0 ≤ one ∧ one < (l.length : Int)) ∧ 0 ≤ two ∧ two < (l.length : Int)
        · rw [decide_eq_true q] at hd2
          exact ⟨q.1, q.2, fun e => by rw [e] at hd2; simp at hd2⟩
        · rw [decide_eq_false q] at hd2; cases hd2
      have hz : kindE l one two = 0 := kind_ok.2 ⟨hc, hyes⟩
      have e1 : kindI l one two = kindV l one.toNat two.toNat := by unfold kindI; rw [if_pos hz]
      rw [e1, hz]
      have hA := fn62 l (prS l) (-1) (-1) dl d8 (by omega)
      have hB := fn62 l (prS l) one two dl d8 hyes.1.2
      have eB : cntS l one two = (((bestsL l).filter (befB one.toNat two.toNat)).length : Nat) := by
        have := cnt_bef dl one.toNat two.toNat
        rw [show ((one.toNat : Nat) : Int) = one by omega, show ((two.toNat : Nat) : Int) = two by omega] at this
        exact this
      rw [cnt_all dl (by decide)] at hA
      rw [eB] at hB
      rw [kind_cnt]
      generalize ((bestsL l).length : Nat) = nA at hA ⊢
      generalize (((bestsL l).filter (befB one.toNat two.toNat)).length : Nat) = nB at hB ⊢
      (repeat (first | refine zs rfl ?_ | refine zg rfl rfl rfl ?_ | refine zd ?_ | refine JK.fin ?_ | refine JK.ret ?_ | refine zc rfl (hA) rfl rfl ?_ | refine ze rfl (hA) rfl ?_ | refine zk rfl rfl (fun _ => hA) rfl rfl ?_ | refine zc rfl (hB) rfl rfl ?_ | refine ze rfl (hB) rfl ?_ | refine zk rfl rfl (fun _ => hB) rfl rfl ?_))
      refine JK.cond rfl (fun he => ?_) (fun he => ?_)
      · have he' : (nB : Int) = 0 := beq_iff_eq.1 he
        rw [if_pos he']
        (repeat (first | refine zs rfl ?_ | refine zg rfl rfl rfl ?_ | refine zd ?_ | refine JK.fin ?_ | refine JK.ret ?_))
        refine ⟨.inl rfl, _, _, rfl, trivial, ?_⟩
        rfl
      · have he' : ¬ (nB : Int) = 0 := beq_eq_false_iff_ne.1 he
        rw [if_neg he']
        (repeat (first | refine zs rfl ?_ | refine zg rfl rfl rfl ?_ | refine zd ?_ | refine JK.fin ?_ | refine JK.ret ?_))
        refine JK.cond rfl (fun hf => ?_) (fun hf => ?_)
        · have hf' : (nB : Int) = (nA : Int) := beq_iff_eq.1 hf
          rw [if_pos hf']
          (repeat (first | refine zs rfl ?_ | refine zg rfl rfl rfl ?_ | refine zd ?_ | refine JK.fin ?_ | refine JK.ret ?_))
          refine ⟨.inl rfl, _, _, rfl, trivial, ?_⟩
          rfl
        · have hf' : ¬ (nB : Int) = (nA : Int) := beq_eq_false_iff_ne.1 hf
          rw [if_neg hf']
          (repeat (first | refine zs rfl ?_ | refine zg rfl rfl rfl ?_ | refine zd ?_ | refine JK.fin ?_ | refine JK.ret ?_))
          refine ⟨.inl rfl, _, _, rfl, trivial, ?_⟩
          rfl
  · have e2 : kindE l one two = dayE l := by unfold kindE; rw [if_pos hc]
    have e1 : kindI l one two = 0 := by unfold kindI; rw [if_neg (by rw [e2]; exact hc)]
    rw [e1, e2]
    rw [if_neg hc] at h55
    generalize dayE l = z at hc h55 ⊢
    (repeat (first | refine zs rfl ?_ | refine zg rfl rfl rfl ?_ | refine zd ?_ | refine JK.fin ?_ | refine JK.ret ?_ | refine zc rfl (h55) rfl rfl ?_ | refine ze rfl (h55) rfl ?_ | refine zk rfl rfl (fun _ => h55) rfl rfl ?_))
    refine JK.cond rfl (fun _ => ?_) (fun h => ?_)
    · (repeat (first | refine zs rfl ?_ | refine zg rfl rfl rfl ?_ | refine zd ?_ | refine JK.fin ?_ | refine JK.ret ?_))
      refine ⟨.inl rfl, _, _, rfl, trivial, ?_⟩
      rfl
    · (simp only [↓bif_or, ↓bif_and, ↓Bool.or_eq_true, ↓Bool.or_eq_false_iff, ↓Bool.and_eq_true, ↓Bool.and_eq_false_iff, ↓Bool.not_eq_true', ↓Bool.not_eq_false', ↓decide_eq_true_eq, ↓decide_eq_false_iff_not, ↓beq_iff_eq, ↓bne_iff_ne, ↓bne_eq_false_iff_eq, ↓ne_eq, ↓beq_eq_false_iff_ne, ↓Bool.not_eq_true] at h; try simp only [Ty.dflt, Int.toNat_natCast] at h)
      omega
set_option maxHeartbeats 4000000 in
theorem fn36 (l : List Sh) (one two : Int) (h6 : dayE l = 0 → l.length ≤ 6) : Ox.Fn Go.Proofs.Try.prog 36 (.acons (vD l) (.acons (vI one) (.acons (vI two) .anil))) (· = vT2 (kindI l one two) (kindE l one two)) := by
  refine Ox.Fn.intro xok Go.Proofs.Try.func36 rfl Go.Proofs.Try.call36 (Nat.le_of_ble_eq_true rfl) (fun E M0 up => ?_)
  refine JK.start ?_
  (repeat (first | refine zs rfl ?_ | refine zg rfl rfl rfl ?_ | refine zd ?_ | refine JK.fin ?_ | refine JK.ret ?_ | refine zc rfl (fn63 l one two) rfl rfl ?_ | refine ze rfl (fn63 l one two) rfl ?_ | refine zk rfl rfl (fun _ => fn63 l one two) rfl rfl ?_))
  refine JK.cond rfl (fun hc => ?_) (fun hc => ?_)
  · (simp only [↓bif_or, ↓bif_and, ↓Bool.or_eq_true, ↓Bool.or_eq_false_iff, ↓Bool.and_eq_true, ↓Bool.and_eq_false_iff, ↓Bool.not_eq_true', ↓Bool.not_eq_false', ↓decide_eq_true_eq, ↓decide_eq_false_iff_not, ↓beq_iff_eq, ↓bne_iff_ne, ↓bne_eq_false_iff_eq, ↓ne_eq, ↓beq_eq_false_iff_ne, ↓Bool.not_eq_true] at hc; try simp only [Ty.dflt, Int.toNat_natCast] at hc)
    (repeat (first | refine zs rfl ?_ | refine zg rfl rfl rfl ?_ | refine zd ?_ | refine JK.fin ?_ | refine JK.ret ?_ | refine zc rfl (fn63 l one two) rfl rfl ?_ | refine ze rfl (fn63 l one two) rfl ?_ | refine zk rfl rfl (fun _ => fn63 l one two) rfl rfl ?_))
    refine ⟨.inl rfl, _, _, rfl, trivial, ?_⟩
    unfold kindI; rw [if_neg hc]
  · (simp only [↓bif_or, ↓bif_and, ↓Bool.or_eq_true, ↓Bool.or_eq_false_iff, ↓Bool.and_eq_true, ↓Bool.and_eq_false_iff, ↓Bool.not_eq_true', ↓Bool.not_eq_false', ↓decide_eq_true_eq, ↓decide_eq_false_iff_not, ↓beq_iff_eq, ↓bne_iff_ne, ↓bne_eq_false_iff_eq, ↓ne_eq, ↓beq_eq_false_iff_ne, ↓Bool.not_eq_true] at hc; try simp only [Ty.dflt, Int.toNat_natCast] at hc)
    have hz : kindE l one two = 0 := by omega
    obtain ⟨hd0, ho1, ho2, hne⟩ := kind_ok.1 hz
    obtain ⟨d1, d8, dl⟩ := day_ok hd0
    have h57 := fn57 l dl d1 (h6 hd0)
    have e1 : kindI l one two = kindV l one.toNat two.toNat := by unfold kindI; rw [if_pos hz]
    rw [e1, hz]
    obtain ⟨a, rfl⟩ : ∃ a : Nat, one = (a : Int) := ⟨one.toNat, by omega⟩
    obtain ⟨b, rfl⟩ : ∃ b : Nat, two = (b : Int) := ⟨two.toNat, by omega⟩
    rw [Int.toNat_natCast, Int.toNat_natCast]
    have hbl := bests_len (h6 hd0)
    have hmem : ∀ o ∈ bestsL l, o.length = l.length ∧ b ∈ o := fun o ho => by
      have := (mem_bests.1 ho).1
      exact ⟨(mem_lvl.1 this).1, (lvl_perm this).mem_iff.2 (List.mem_range.2 (by omega))⟩
    unfold kindV
    have hg := iLL_getD (bestsL l)
    have hiL : (iLL (bestsL l)).length = (bestsL l).length := by rw [List.length_map]
    generalize bestsL l = B at h57 hbl hmem hg hiL ⊢
    generalize iLL B = C at h57 hg hiL
    (repeat (first | refine zs rfl ?_ | refine zg rfl rfl rfl ?_ | refine zd ?_ | refine JK.fin ?_ | refine JK.ret ?_ | refine zc rfl (h57) rfl rfl ?_ | refine ze rfl (h57) rfl ?_ | refine zk rfl rfl (fun _ => h57) rfl rfl ?_))
    refine JK.loop (fun i : Nat => ⟨[(1, vI (a : Int)), (2, vI (b : Int)), (8, vLL C), (10, vB ((B.take i).any (befB a b))), (11, vB ((B.take i).all (befB a b))), (12, vI (i : Int))], [], 0⟩)
      (fun i => i ≤ B.length) (fun i => B.length - i) 0 (Nat.zero_le _) (by (exact JW.Auto (by conv => lhs; reduce))) fun i hi => ?_
    have hs1 : i < B.length → (B.take (i + 1)).any (befB a b) = ((B.take i).any (befB a b) || befB a b (B.getD i [])) := fun h => by rw [take_snoc B h []]; simp
    have hs2 : i < B.length → (B.take (i + 1)).all (befB a b) = ((B.take i).all (befB a b) && befB a b (B.getD i [])) := fun h => by rw [take_snoc B h []]; simp
    have hf1 : i = B.length → (B.take i).any (befB a b) = B.any (befB a b) := fun e => by rw [e, List.take_length]
    have hf2 : i = B.length → (B.take i).all (befB a b) = B.all (befB a b) := fun e => by rw [e, List.take_length]
    generalize (B.take i).any (befB a b) = so at hs1 hf1 ⊢
    generalize (B.take i).all (befB a b) = ea at hs2 hf2 ⊢
    (repeat (first | refine zs rfl ?_ | refine zg rfl rfl rfl ?_ | refine zd ?_ | refine JK.fin ?_ | refine JK.ret ?_))
    refine JK.cond rfl (fun hd => ?_) (fun hd => ?_)
    · (simp only [↓bif_or, ↓bif_and, ↓Bool.or_eq_true, ↓Bool.or_eq_false_iff, ↓Bool.and_eq_true, ↓Bool.and_eq_false_iff, ↓Bool.not_eq_true', ↓Bool.not_eq_false', ↓decide_eq_true_eq, ↓decide_eq_false_iff_not, ↓beq_iff_eq, ↓bne_iff_ne, ↓bne_eq_false_iff_eq, ↓ne_eq, ↓beq_eq_false_iff_ne, ↓Bool.not_eq_true] at hd; try simp only [Ty.dflt, Int.toNat_natCast] at hd)
      have hi' : i < B.length := by omega
      have hs1' := hs1 hi'
      have hs2' := hs2 hi'
      have hm := hmem (B.getD i []) (by rw [getD_nat B hi']; exact List.getElem_mem hi')
      have hgi := hg i
      have hba := fun k => bef_at (a := a) (b := b) (o := B.getD i []) (k := k)
      generalize befB a b (B.getD i []) = bv at hs1' hs2' hba
      generalize B.getD i [] = o at hm hgi hba
      have hol : (iL o).length = o.length := by rw [List.length_map]
      have hCl : (C.getD i []).length = l.length := by rw [hgi, hol]; exact hm.1
      have hx : ∀ k, (C.getD i []).getD k 0 = ((o.getD k 0 : Nat) : Int) := fun k => by rw [hgi]; exact iL_getD o k
      (repeat (first | refine zs rfl ?_ | refine zg rfl rfl rfl ?_ | refine zd ?_ | refine JK.fin ?_ | refine JK.ret ?_))
      refine JK.loop (fun k : Nat => ⟨[(1, vI (a : Int)), (2, vI (b : Int)), (8, vLL C), (10, vB so), (11, vB ea), (12, vI (i : Int)), (13, vB (decide (a ∈ o.take k))), (14, vI (k : Int))], [], 0⟩)
        (fun k => k < o.length ∧ b ∉ o.take k) (fun k => o.length - k) 0 ⟨by omega, by simp⟩ ?_ fun k hk => ?_
      · have e : decide (a ∈ o.take 0) = false := by simp
        rw [e]
        (exact JW.Auto (by conv => lhs; reduce))
      obtain ⟨hk1, hk2⟩ := hk
      have hxk := hx k
      have hbk := hba k hk1
      have htk : decide (a ∈ o.take (k + 1)) = (decide (a ∈ o.take k) || decide (o.getD k 0 = a)) := by
        rw [take_snoc o hk1 0]
        simp only [List.mem_append, List.mem_singleton, Bool.decide_or]
        congr 1
        exact decide_eq_decide.2 eq_comm
      have hlast : k + 1 = o.length → o.getD k 0 = b := fun e => by
        have h1 := hm.2
        rw [← List.take_append_drop k o, List.mem_append] at h1
        have h2 := h1.resolve_left hk2
        rw [List.drop_eq_getElem_cons hk1, List.drop_of_length_le (by omega), List.mem_singleton] at h2
        rw [getD_nat o hk1]; exact h2.symm
      have hdec := Decidable.em (a ∈ o.take k)
      generalize decide (a ∈ o.take k) = be at htk hbk ⊢
      (repeat (first | refine zs rfl ?_ | refine zg rfl rfl rfl ?_ | refine zd ?_ | refine JK.fin ?_ | refine JK.ret ?_))
      refine JK.cond rfl (fun he => ?_) (fun he => ?_)
      · have he' : o.getD k 0 ≠ b := by
          have he2 : ((C.getD i []).getD k 0 != (b : Int)) = true := he
          rw [hxk, bne_iff_ne] at he2
          exact fun e => he2 (by rw [e])
        (repeat (first | refine zs rfl ?_ | refine zg rfl rfl rfl ?_ | refine zd ?_ | refine JK.fin ?_ | refine JK.ret ?_))
        refine ⟨k + 1, ?_, ⟨by have := fun e => he' (hlast e); omega, ?_⟩, by omega⟩
        · have htk2 : decide (a ∈ o.take (k + 1)) = (bif be then true else ((C.getD i []).getD k 0 == (a : Int))) := by
            rw [htk, hxk]
            have : ((((o.getD k 0 : Nat) : Int)) == (a : Int)) = decide (o.getD k 0 = a) := by
              rw [Bool.eq_iff_iff, beq_iff_eq, decide_eq_true_iff, Int.ofNat_inj]
            rw [this]
            cases be <;> rfl
          rw [htk2]
          (exact JW.Auto (by conv => lhs; reduce))
        · rw [take_snoc o hk1 0, List.mem_append, List.mem_singleton, not_or]
          exact ⟨hk2, fun e => he' e.symm⟩
      · have he' : o.getD k 0 = b := by
          have he2 : ((C.getD i []).getD k 0 != (b : Int)) = false := he
          rw [hxk, bne_eq_false_iff_eq] at he2
          exact Int.ofNat_inj.1 he2
        rw [hbk he' hk2] at hs1' hs2'
        (repeat (first | refine zs rfl ?_ | refine zg rfl rfl rfl ?_ | refine zd ?_ | refine JK.fin ?_ | refine JK.ret ?_))
        refine ⟨i + 1, ?_, by omega, by omega⟩
        have g1 : (so || be) = (bif so then true else be) := by cases so <;> rfl
        have g2 : (ea && be) = (bif ea then be else false) := by cases ea <;> rfl
        rw [hs1', hs2', g1, g2]
        (exact JW.Auto (by conv => lhs; reduce))
    · (simp only [↓bif_or, ↓bif_and, ↓Bool.or_eq_true, ↓Bool.or_eq_false_iff, ↓Bool.and_eq_true, ↓Bool.and_eq_false_iff, ↓Bool.not_eq_true', ↓Bool.not_eq_false', ↓decide_eq_true_eq, ↓decide_eq_false_iff_not, ↓beq_iff_eq, ↓bne_iff_ne, ↓bne_eq_false_iff_eq, ↓ne_eq, ↓beq_eq_false_iff_ne, ↓Bool.not_eq_true] at hd; try simp only [Ty.dflt, Int.toNat_natCast] at hd)
      have h1 := hf1 (by omega)
      have h2 := hf2 (by omega)
      rw [← h1, ← h2]
      (repeat (first | refine zs rfl ?_ | refine zg rfl rfl rfl ?_ | refine zd ?_ | refine JK.fin ?_ | refine JK.ret ?_))
      refine JK.cond rfl (fun he => ?_) (fun he => ?_)
      · rw [if_pos he]
        (repeat (first | refine zs rfl ?_ | refine zg rfl rfl rfl ?_ | refine zd ?_ | refine JK.fin ?_ | refine JK.ret ?_))
        refine ⟨.inl rfl, _, _, rfl, trivial, ?_⟩
        rfl
      · rw [if_neg (by rw [he]; simp)]
        (repeat (first | refine zs rfl ?_ | refine zg rfl rfl rfl ?_ | refine zd ?_ | refine JK.fin ?_ | refine JK.ret ?_))
        refine JK.cond rfl (fun hf => ?_) (fun hf => ?_)
        · rw [if_pos hf]
          (repeat (first | refine zs rfl ?_ | refine zg rfl rfl rfl ?_ | refine zd ?_ | refine JK.fin ?_ | refine JK.ret ?_))
          refine ⟨.inl rfl, _, _, rfl, trivial, ?_⟩
          rfl
        · rw [if_neg (by rw [hf]; simp)]
          (repeat (first | refine zs rfl ?_ | refine zg rfl rfl rfl ?_ | refine zd ?_ | refine JK.fin ?_ | refine JK.ret ?_))
          refine ⟨.inl rfl, _, _, rfl, trivial, ?_⟩
          rfl
end Go.Proofs.Ythiocglfgcnlhaa

namespace Go.Proofs.Ythiocglfgcnlhaa
open Go Go.RowKit Ox Ox.Sh
attribute [local irreducible] JC JL JK JW

theorem fn64 (l : List Sh) (pr le : Int) : Ox.Fn Go.Proofs.Try.prog 64 (.acons (vH l pr le) .anil) (· = .fn 81 .anil (.acons (ppH l pr le) .anil)) := by
  refine Ox.Fn.intro xok Go.Proofs.Try.func64 rfl Go.Proofs.Try.call64 (Nat.le_of_ble_eq_true rfl) (fun E M0 up => ?_)
  refine JK.start ?_
  (repeat (first | refine znf ?_ | refine zs rfl ?_ | refine JK.ret ?_))
  refine ⟨.inl rfl, _, _, rfl, trivial, ?_⟩
  rfl
variable {E : World} {Mx M0 : Mem} {nX : Nat} {rdX : Option Nat} {up : Nat → Nat → Value} {dp lab : Nat} {r : List Fr} {QA : Exit → S → Prop}
def partD (N f : Nat) (row : List Nat) (j : Nat) : List (List Nat) := (Sh.freeL j row).flatMap fun n => dfsL N f (row ++ [n])
theorem partD_succ (N f : Nat) (row : List Nat) (j : Nat) : partD N f row (j + 1) = partD N f row j ++ if j ∈ row then [] else dfsL N f (row ++ [j]) := by
  unfold partD
  rw [free_succ, List.flatMap_append]
  by_cases h : j ∈ row
  · rw [if_pos h, if_pos h]; rfl
  · rw [if_neg h, if_neg h]; simp
theorem partD_all (N f : Nat) (row : List Nat) : partD N f row N = dfsL N (f + 1) row := rfl
theorem partD_split (N f : Nat) (row : List Nat) {j : Nat} (hj : j ≤ N) : ∃ post, dfsL N (f + 1) row = partD N f row j ++ post := by
  have key : ∀ M, j ≤ M → ∃ rest, Sh.freeL M row = Sh.freeL j row ++ rest := by
    intro M
    induction M with
    | zero => intro h; exact ⟨[], by rw [show j = 0 by omega]; simp⟩
    | succ M ih =>
      intro h
      rcases Nat.lt_or_ge M j with e | e
      · exact ⟨[], by rw [show j = M + 1 by omega]; simp⟩
      · obtain ⟨rest, hr⟩ := ih e
        exact ⟨_, by rw [free_succ, hr, List.append_assoc]⟩
  obtain ⟨rest, hr⟩ := key N hj
  exact ⟨rest.flatMap fun n => dfsL N f (row ++ [n]), by rw [dfsL, hr, List.flatMap_append]; rfl⟩
theorem ext_fo (i m : Nat) (hdp : dp ≠ 0) (l : List Sh) (pr le : Int) (h8 : l.length ≤ 8) (all : List (List Nat)) (K : List (List Nat) → List (Nat × HO)) (hb : ∀ pre, bdH 100 (K pre)) (hlab : lab < 100) (hk : ∀ pre, hasY i m lab (K pre))
    (hY : ∀ pre z post, all = pre ++ z :: post → YO ⟨Go.Proofs.Try.prog, tys, ets, mts, E, Mx, nX, rdX, up, dp⟩ 49 lab (.acons (vL (iL z)) .anil) (K pre) 100 true (K (pre ++ [z])) 100) :
    ∀ (f : Nat) (row : List Nat) (pre post : List (List Nat)), row.length + f = l.length → all = pre ++ dfsL l.length f row ++ post →
      FO ⟨Go.Proofs.Try.prog, tys, ets, mts, E, Mx, nX, rdX, up, dp⟩ 82 (.acons (vH l pr le) (.acons (vL (iL row)) (.acons (.lf (.yld lab)) .anil))) (K pre) 100
        (fun z H nx => nx = 100 ∧ z = vB true ∧ H = K (pre ++ dfsL l.length f row)) := by
  intro f
  induction f with
  | zero =>
    intro row pre post hlen hall
    have hil : (iL row).length = row.length := by rw [List.length_map]
    refine FO.intro (fn := Go.Proofs.Try.f82) rfl rfl (Nat.le_of_ble_eq_true rfl) hdp fun M1 => JK.start ?_
    (repeat (first | refine zs rfl ?_ | refine zg rfl rfl rfl ?_ | refine zd ?_ | refine JK.fin ?_ | refine JK.ret ?_))
    refine JK.cond rfl (fun hc => ?_) (fun hc => ?_)
    · (simp only [↓bif_or, ↓bif_and, ↓Bool.or_eq_true, ↓Bool.or_eq_false_iff, ↓Bool.and_eq_true, ↓Bool.and_eq_false_iff, ↓Bool.not_eq_true', ↓Bool.not_eq_false', ↓decide_eq_true_eq, ↓decide_eq_false_iff_not, ↓beq_iff_eq, ↓bne_iff_ne, ↓bne_eq_false_iff_eq, ↓ne_eq, ↓beq_eq_false_iff_ne, ↓Bool.not_eq_true] at hc; try simp only [Ty.dflt, Int.toNat_natCast] at hc)
      have y := hY pre row post (by rw [hall]; simp [dfsL])
      (repeat (first | refine zs rfl ?_ | refine zg rfl rfl rfl ?_ | refine zd ?_ | refine JK.fin ?_ | refine JK.ret ?_))
      refine JK.yieldO (X := ⟨Go.Proofs.Try.prog, tys, ets, mts, E, Mx, nX, rdX, up, dp⟩) [0] y rfl rfl rfl rfl trivial ?_
      (repeat (first | refine zs rfl ?_ | refine zg rfl rfl rfl ?_ | refine zd ?_ | refine JK.fin ?_ | refine JK.ret ?_))
      refine foQ.ret _ (JW.refl _) rfl ⟨rfl, rfl, ?_⟩
      show K _ = K _; rw [dfsL]
    · (simp only [↓bif_or, ↓bif_and, ↓Bool.or_eq_true, ↓Bool.or_eq_false_iff, ↓Bool.and_eq_true, ↓Bool.and_eq_false_iff, ↓Bool.not_eq_true', ↓Bool.not_eq_false', ↓decide_eq_true_eq, ↓decide_eq_false_iff_not, ↓beq_iff_eq, ↓bne_iff_ne, ↓bne_eq_false_iff_eq, ↓ne_eq, ↓beq_eq_false_iff_ne, ↓Bool.not_eq_true] at hc; try simp only [Ty.dflt, Int.toNat_natCast] at hc)
      exact absurd (by omega) hc
  | succ f ih =>
    intro row pre post hlen hall
    have hil : (iL row).length = row.length := by rw [List.length_map]
    refine FO.intro (fn := Go.Proofs.Try.f82) rfl rfl (Nat.le_of_ble_eq_true rfl) hdp fun M1 => JK.start ?_
    (repeat (first | refine zs rfl ?_ | refine zg rfl rfl rfl ?_ | refine zd ?_ | refine JK.fin ?_ | refine JK.ret ?_))
    refine JK.cond rfl (fun hc => ?_) (fun hc => ?_)
    · (simp only [↓bif_or, ↓bif_and, ↓Bool.or_eq_true, ↓Bool.or_eq_false_iff, ↓Bool.and_eq_true, ↓Bool.and_eq_false_iff, ↓Bool.not_eq_true', ↓Bool.not_eq_false', ↓decide_eq_true_eq, ↓decide_eq_false_iff_not, ↓beq_iff_eq, ↓bne_iff_ne, ↓bne_eq_false_iff_eq, ↓ne_eq, ↓beq_eq_false_iff_ne, ↓Bool.not_eq_true] at hc; try simp only [Ty.dflt, Int.toNat_natCast] at hc)
      exact absurd hc (by omega)
    · (simp only [↓bif_or, ↓bif_and, ↓Bool.or_eq_true, ↓Bool.or_eq_false_iff, ↓Bool.and_eq_true, ↓Bool.and_eq_false_iff, ↓Bool.not_eq_true', ↓Bool.not_eq_false', ↓decide_eq_true_eq, ↓decide_eq_false_iff_not, ↓beq_iff_eq, ↓bne_iff_ne, ↓bne_eq_false_iff_eq, ↓ne_eq, ↓beq_eq_false_iff_ne, ↓Bool.not_eq_true] at hc; try simp only [Ty.dflt, Int.toNat_natCast] at hc)
      (repeat (first | refine zs rfl ?_ | refine zg rfl rfl rfl ?_ | refine zd ?_ | refine JK.fin ?_ | refine JK.ret ?_))
      refine JK.loop (fun j : Nat => ⟨[(0, vH l pr le), (1, vL (iL row)), (2, .lf (.yld lab)), (25, vI l.length), (26, vI (j : Int))], K (pre ++ partD l.length f row j), 100⟩) (fun j => j ≤ l.length) (fun j => l.length - j) 0 (Nat.zero_le _) ?_ fun j hj => ?_
      · rw [show pre ++ partD l.length f row ((0 : Nat)) = pre by simp [partD, Sh.freeL]]
        exact JW.same ⟨rfl, rfl, rfl, rfl, rfl, trivial⟩
      have hpt := partD_succ l.length f row j
      have hpa := partD_all l.length f row
      (repeat (first | refine zs rfl ?_ | refine zg rfl rfl rfl ?_ | refine zd ?_ | refine JK.fin ?_ | refine JK.ret ?_))
      refine JK.cond rfl (fun hd => ?_) (fun hd => ?_)
      · (simp only [↓bif_or, ↓bif_and, ↓Bool.or_eq_true, ↓Bool.or_eq_false_iff, ↓Bool.and_eq_true, ↓Bool.and_eq_false_iff, ↓Bool.not_eq_true', ↓Bool.not_eq_false', ↓decide_eq_true_eq, ↓decide_eq_false_iff_not, ↓beq_iff_eq, ↓bne_iff_ne, ↓bne_eq_false_iff_eq, ↓ne_eq, ↓beq_eq_false_iff_ne, ↓Bool.not_eq_true] at hd; try simp only [Ty.dflt, Int.toNat_natCast] at hd)
        have hj' : j < l.length := by omega
        obtain ⟨post1, hp1⟩ := partD_split l.length f row (j := j + 1) hj'
        have c1 := fn85 (iL row) (j : Int)
        have hmi : decide ((j : Int) ∈ iL row) = decide (j ∈ row) := decide_eq_decide.2 mem_iL
        rw [hmi] at c1
        have hlt : (List.take (iL row).length (iL row)).length ≤ 8 := by rw [List.length_take]; omega
        by_cases hm : j ∈ row
        · rw [decide_eq_true hm] at c1
          rw [if_pos hm, List.append_nil] at hpt
          (repeat (first | refine zfl rfl rfl rfl ?_ | refine zs rfl ?_ | refine zc rfl (c1) rfl rfl ?_))
          refine JK.pickF rfl rfl rfl rfl trivial trivial ?_
          (repeat (first | refine zs rfl ?_ | refine zg rfl rfl rfl ?_ | refine zd ?_ | refine JK.fin ?_ | refine JK.ret ?_))
          refine JK.cond rfl (fun h => by cases h) (fun _ => ?_)
          (repeat (first | refine zs rfl ?_ | refine zg rfl rfl rfl ?_ | refine zd ?_ | refine JK.fin ?_ | refine JK.ret ?_))
          refine ⟨j + 1, ?_, by omega, by omega⟩
          rw [hpt]
          exact JW.same ⟨rfl, rfl, rfl, rfl, rfl, trivial⟩
        · rw [decide_eq_false hm] at c1
          rw [if_neg hm] at hpt
          rw [hpt] at hp1
          rw [hp1] at hall
          generalize partD l.length f row j = pj at hpt hp1 hall ⊢
          have q := ih (row ++ [j]) (pre ++ pj) (post1 ++ post) (by simp; omega) (by rw [hall]; simp)
          rw [iL_snoc] at q
          (repeat (first | refine zt rfl rfl ?_ | refine zs rfl ?_ | refine zc rfl (c1) rfl rfl ?_))
          have e1 : List.take (((iL row).length : Int)).toNat (iL row) ++ [(j : Int)] = iL row ++ [(j : Int)] := by rw [Int.toNat_natCast, List.take_length]
          refine JK.frzR 101 43 (eid := 3) (e := .int .i64) (xs := iL row ++ [(j : Int)]) (congrArg (fun z => some (HO.sl 3 (.int .i64) z)) e1) rfl (L' := [(0, vH l pr le), (1, vL (iL row)), (2, .lf (.yld lab)), (25, vI l.length), (26, vI (j : Int)), (33, vB true), (34, vH l pr le), (44, .lf (.yld lab))]) ⟨rfl, rfl, rfl, rfl, rfl, rfl, rfl, rfl, trivial⟩ (H' := K (pre ++ pj)) (nx' := 100) (((subH.refl _).cons (hb _) (Nat.le_of_ble_eq_true rfl)).cons (hb _) (Nat.le_of_ble_eq_true rfl)) (bdH_none (hb _) (Nat.le_of_ble_eq_true rfl)) ⟨trivial, trivial, hlab, trivial, trivial, trivial, trivial, hlab, trivial⟩ (hb _) ?_
          refine JK.callO [0, 1, 2, 25, 26, 33] i m lab rfl rfl Go.Proofs.Try.call82 rfl (hk _) (by simp [stayL, stayB, svL, lk]) q trivial ?_
          rintro z H' nx' ⟨rfl, rfl, rfl⟩
          refine ⟨hk _, ?_⟩
          (repeat (first | refine zt rfl rfl ?_ | refine zs rfl ?_))
          refine JK.cond rfl (fun he => by cases he) (fun _ => ?_)
          (repeat (first | refine zs rfl ?_ | refine zg rfl rfl rfl ?_ | refine zd ?_ | refine JK.fin ?_ | refine JK.ret ?_))
          refine ⟨j + 1, ?_, by omega, by omega⟩
          rw [hpt, ← List.append_assoc]
          exact JW.same ⟨rfl, rfl, rfl, rfl, rfl, trivial⟩
      · (simp only [↓bif_or, ↓bif_and, ↓Bool.or_eq_true, ↓Bool.or_eq_false_iff, ↓Bool.and_eq_true, ↓Bool.and_eq_false_iff, ↓Bool.not_eq_true', ↓Bool.not_eq_false', ↓decide_eq_true_eq, ↓decide_eq_false_iff_not, ↓beq_iff_eq, ↓bne_iff_ne, ↓bne_eq_false_iff_eq, ↓ne_eq, ↓beq_eq_false_iff_ne, ↓Bool.not_eq_true] at hd; try simp only [Ty.dflt, Int.toNat_natCast] at hd)
        have hj2 : j = l.length := by omega
        rw [hj2] at hpt ⊢
        (repeat (first | refine zs rfl ?_ | refine zg rfl rfl rfl ?_ | refine zd ?_ | refine JK.fin ?_ | refine JK.ret ?_))
        refine foQ.ret _ (JW.refl _) rfl ⟨rfl, rfl, ?_⟩
        show K _ = K _
        rw [hpa]
theorem nil_args {M : Mem} {ρ : Env} {vs : List Value} (a : AV) (b : AV) (h : (AV.acons a (.acons (.lf .nils) b)).rvs M ρ vs) : (AV.acons a (.acons (vL []) b)).rvs M ρ vs := by
  simp only [AV.rvs, AV.rv, Leaf.at] at h ⊢
  obtain ⟨v, r, h1, ⟨v2, r2, ⟨h2, h3⟩, h4, h5⟩, h6⟩ := h
  simp only [Option.some.injEq] at h2
  subst h2
  refine ⟨v, r, h1, ⟨_, r2, ⟨[.slice none 0 0], ?_, rfl⟩, h4, h5⟩, h6⟩
  simp only [Rep]
  exact ⟨none, 0, rfl, Nat.le_refl _, by decide, fun _ => rfl, .inl rfl⟩
theorem or_it (i m : Nat) (hdp : dp ≠ 0) (l : List Sh) (pr le : Int) (h8 : l.length ≤ 8) (K : List (List Nat) → List (Nat × HO)) (hb : ∀ pre, bdH 100 (K pre)) (hlab : lab < 100) (hk : ∀ pre, hasY i m lab (K pre))
    (hY : ∀ pre z post, allL l = pre ++ z :: post → YO ⟨Go.Proofs.Try.prog, tys, ets, mts, E, Mx, nX, rdX, up, dp⟩ 49 lab (.acons (vL (iL z)) .anil) (K pre) 100 true (K (pre ++ [z])) 100)
    (k : ∀ L, QA .normal ⟨L, K (allL l), 100⟩) :
    JK ⟨Go.Proofs.Try.prog, tys, ets, mts, E, M0, 6, none, up, dp⟩ [.code (Go.Proofs.Try.f81.body.getD .skip)] QA ⟨[(0, .lf (.yld lab)), (1, ppH l pr le)], K [], 100⟩ := by
  have hall : allL l = dfsL l.length l.length [] := lvl_all l.length
  rw [hall] at k
  rw [hall] at hY
  have q := ext_fo (Mx := Mx) (nX := nX) (rdX := rdX) i m hdp l pr le h8 _ K hb hlab hk hY l.length [] [] [] (by simp) (by simp)
  rw [List.nil_append] at q
  (repeat (first | refine zs rfl ?_ | refine zg rfl rfl rfl ?_ | refine zd ?_ | refine JK.fin ?_ | refine JK.ret ?_))
  refine JK.callO [0] i m lab rfl rfl Go.Proofs.Try.call82 rfl (hk _) (by simp [stayL, stayB, svL, lk]) (q.args ?_ fun M ρ vs h => nil_args _ _ h) trivial ?_
  · exact ⟨trivial, trivial, hlab, trivial⟩
  · rintro z H' nx' ⟨rfl, rfl, rfl⟩
    refine ⟨hk _, ?_⟩
    (repeat (first | refine zs rfl ?_ | refine zg rfl rfl rfl ?_ | refine zd ?_ | refine JK.fin ?_ | refine JK.ret ?_))
    exact JK.done (k _)
end Go.Proofs.Ythiocglfgcnlhaa

namespace Go.Proofs.Ythiocglfgcnlhaa
open Go Go.RowKit Ox Ox.Sh
attribute [local irreducible] JC JL JK JW

def gSp (l : List Sh) (s : Nat) (o : List Nat) : Int := leS l - rowA l o (o.idxOf s)
def spF (l : List Sh) (s : Nat) (L : List (List Nat)) : Int := L.foldl (fun m o => Max.max m (gSp l s o)) 0
theorem spF_snoc (l : List Sh) (s : Nat) (L : List (List Nat)) (o : List Nat) : spF l s (L ++ [o]) = Max.max (spF l s L) (gSp l s o) := by unfold spF; rw [List.foldl_append]; rfl
theorem spF_bd {l : List Sh} (hl : okD l) (s : Nat) (h8 : l.length ≤ 8) : ∀ L : List (List Nat), (∀ o ∈ L, o.length ≤ 1000) → 0 ≤ spF l s L ∧ spF l s L ≤ leS l := by
  have hp := le_pos hl
  intro L hL
  have key : ∀ (L : List (List Nat)) (m : Int), (∀ o ∈ L, o.length ≤ 1000) → 0 ≤ m ∧ m ≤ leS l → 0 ≤ L.foldl (fun m o => Max.max m (gSp l s o)) m ∧ L.foldl (fun m o => Max.max m (gSp l s o)) m ≤ leS l := by
    intro L
    induction L with
    | nil => intro m _ h; exact h
    | cons o L ih =>
      intro m hL h
      rw [List.foldl_cons]
      have hr := row_bd hl o (o.idxOf s) (hL o List.mem_cons_self)
      refine ih _ (fun x hx => hL x (List.mem_cons_of_mem _ hx)) ?_
      unfold gSp
      omega
  exact key L 0 hL ⟨Int.le_refl _, hp⟩
def spE (l : List Sh) (s : Int) : Int := if dayE l ≠ 0 then dayE l else if 0 ≤ s ∧ s < (l.length : Int) then 0 else 2
def spI (l : List Sh) (s : Int) : Int := if spE l s = 0 then spF l s.toNat (bestsL l) else 0
theorem sp_ok {l : List Sh} {s : Int} : spE l s = 0 ↔ dayE l = 0 ∧ 0 ≤ s ∧ s < (l.length : Int) := by
  unfold spE
  split
  · rename_i h; exact ⟨fun h' => absurd h' h, fun h' => absurd h'.1 h⟩
  · rename_i h
    split
    · rename_i h'; exact ⟨fun _ => ⟨by omega, h'⟩, fun _ => rfl⟩
    · rename_i h'; exact ⟨fun e => by omega, fun e => absurd e.2 h'⟩
theorem idx_lt {o : List Nat} {s : Nat} (h : s ∈ o) : o.idxOf s < o.length := List.idxOf_lt_length_of_mem h
theorem idx_get {o : List Nat} {s : Nat} (h : s ∈ o) : o.getD (o.idxOf s) 0 = s := by
  rw [getD_nat o (idx_lt h)]; exact List.getElem_idxOf _
theorem idx_eq {o : List Nat} {s k : Nat} (hn : o.Nodup) (hk : k < o.length) (h : o.getD k 0 = s) : o.idxOf s = k := by
  have hs : s ∈ o := by rw [← h, getD_nat o hk]; exact List.getElem_mem hk
  have h1 := idx_get hs
  have h2 := idx_lt hs
  rw [getD_nat o h2] at h1
  rw [getD_nat o hk] at h
  rcases Nat.lt_trichotomy (o.idxOf s) k with e | e | e
  · exact absurd (h1.trans h.symm) (List.pairwise_iff_getElem.1 hn _ _ h2 hk e)
  · exact e
  · exact absurd (h.trans h1.symm) (List.pairwise_iff_getElem.1 hn _ _ hk h2 e)
theorem le_top {l : List Sh} (hl : okD l) (h8 : l.length ≤ 8) : leS l ≤ 2000000 := end_top hl (ruleL l) (by rw [rule_len]; omega)
set_option maxHeartbeats 4000000 in
theorem fn40 (l : List Sh) (s : Int) (h6 : dayE l = 0 → l.length ≤ 6) : Ox.Fn Go.Proofs.Try.prog 40 (.acons (vD l) (.acons (vI s) .anil)) (· = vT2 (spI l s) (spE l s)) := by
  refine Ox.Fn.intro xok Go.Proofs.Try.func40 rfl Go.Proofs.Try.call40 (Nat.le_of_ble_eq_true rfl) (fun E M0 up => ?_)
  refine JK.start ?_
  (repeat (first | refine zs rfl ?_ | refine zg rfl rfl rfl ?_ | refine zd ?_ | refine JK.fin ?_ | refine JK.ret ?_ | refine zc rfl (fn22 l) rfl rfl ?_ | refine ze rfl (fn22 l) rfl ?_ | refine zk rfl rfl (fun _ => fn22 l) rfl rfl ?_))
  refine JK.cond rfl (fun hc => ?_) (fun hc => ?_)
  · (simp only [↓bif_or, ↓bif_and, ↓Bool.or_eq_true, ↓Bool.or_eq_false_iff, ↓Bool.and_eq_true, ↓Bool.and_eq_false_iff, ↓Bool.not_eq_true', ↓Bool.not_eq_false', ↓decide_eq_true_eq, ↓decide_eq_false_iff_not, ↓beq_iff_eq, ↓bne_iff_ne, ↓bne_eq_false_iff_eq, ↓ne_eq, ↓beq_eq_false_iff_ne, ↓Bool.not_eq_true] at hc; try simp only [Ty.dflt, Int.toNat_natCast] at hc)
    (repeat (first | refine zs rfl ?_ | refine zg rfl rfl rfl ?_ | refine zd ?_ | refine JK.fin ?_ | refine JK.ret ?_ | refine zc rfl (fn22 l) rfl rfl ?_ | refine ze rfl (fn22 l) rfl ?_ | refine zk rfl rfl (fun _ => fn22 l) rfl rfl ?_))
    refine ⟨.inl rfl, _, _, rfl, trivial, ?_⟩
    have e : spE l s = dayE l := by unfold spE; rw [if_pos hc]
    unfold spI; rw [e, if_neg hc]
  · (simp only [↓bif_or, ↓bif_and, ↓Bool.or_eq_true, ↓Bool.or_eq_false_iff, ↓Bool.and_eq_true, ↓Bool.and_eq_false_iff, ↓Bool.not_eq_true', ↓Bool.not_eq_false', ↓decide_eq_true_eq, ↓decide_eq_false_iff_not, ↓beq_iff_eq, ↓bne_iff_ne, ↓bne_eq_false_iff_eq, ↓ne_eq, ↓beq_eq_false_iff_ne, ↓Bool.not_eq_true] at hc; try simp only [Ty.dflt, Int.toNat_natCast] at hc)
    have hz : dayE l = 0 := by omega
    obtain ⟨d1, d8, dl⟩ := day_ok hz
    (repeat (first | refine zs rfl ?_ | refine zg rfl rfl rfl ?_ | refine zd ?_ | refine JK.fin ?_ | refine JK.ret ?_))
    refine JK.cond rfl (fun hd => ?_) (fun hd => ?_)
    · (simp only [↓bif_or, ↓bif_and, ↓Bool.or_eq_true, ↓Bool.or_eq_false_iff, ↓Bool.and_eq_true, ↓Bool.and_eq_false_iff, ↓Bool.not_eq_true', ↓Bool.not_eq_false', ↓decide_eq_true_eq, ↓decide_eq_false_iff_not, ↓beq_iff_eq, ↓bne_iff_ne, ↓bne_eq_false_iff_eq, ↓ne_eq, ↓beq_eq_false_iff_ne, ↓Bool.not_eq_true] at hd; try simp only [Ty.dflt, Int.toNat_natCast] at hd)
      have e : spE l s = 2 := by unfold spE; rw [if_neg (by omega), if_neg (by omega)]
      (repeat (first | refine zs rfl ?_ | refine zg rfl rfl rfl ?_ | refine zd ?_ | refine JK.fin ?_ | refine JK.ret ?_))
      refine ⟨.inl rfl, _, _, rfl, trivial, ?_⟩
      unfold spI; rw [e]; rfl
    · (simp only [↓bif_or, ↓bif_and, ↓Bool.or_eq_true, ↓Bool.or_eq_false_iff, ↓Bool.and_eq_true, ↓Bool.and_eq_false_iff, ↓Bool.not_eq_true', ↓Bool.not_eq_false', ↓decide_eq_true_eq, ↓decide_eq_false_iff_not, ↓beq_iff_eq, ↓bne_iff_ne, ↓bne_eq_false_iff_eq, ↓ne_eq, ↓beq_eq_false_iff_ne, ↓Bool.not_eq_true] at hd; try simp only [Ty.dflt, Int.toNat_natCast] at hd)
      have hs : 0 ≤ s ∧ s < (l.length : Int) := by omega
      have e : spE l s = 0 := sp_ok.2 ⟨hz, hs⟩
      have e2 : spI l s = spF l s.toNat (bestsL l) := by unfold spI; rw [if_pos e]
      rw [e, e2]
      obtain ⟨a, rfl⟩ : ∃ a : Nat, s = (a : Int) := ⟨s.toNat, by omega⟩
      rw [Int.toNat_natCast]
      have h57 := fn57 l dl d1 (h6 hz)
      have hbl := bests_len (h6 hz)
      have hmem : ∀ o ∈ bestsL l, o.length = l.length ∧ o.Nodup ∧ (∀ n ∈ o, n < l.length) ∧ a ∈ o := fun o ho => by
        have := (mem_bests.1 ho).1
        have h := mem_lvl.1 this
        exact ⟨h.1, h.2.1, h.2.2, (lvl_perm this).mem_iff.2 (List.mem_range.2 (by omega))⟩
      have hg := iLL_getD (bestsL l)
      have hiL : (iLL (bestsL l)).length = (bestsL l).length := by rw [List.length_map]
      have hlt := le_top dl d8
      have hlp := le_pos dl
      generalize bestsL l = B at h57 hbl hmem hg hiL ⊢
      generalize iLL B = C at h57 hg hiL
      (repeat (first | refine zs rfl ?_ | refine zg rfl rfl rfl ?_ | refine zd ?_ | refine JK.fin ?_ | refine JK.ret ?_ | refine zc rfl (h57) rfl rfl ?_ | refine ze rfl (h57) rfl ?_ | refine zk rfl rfl (fun _ => h57) rfl rfl ?_))
      refine JK.loop (fun i : Nat => ⟨[(0, vD l), (1, vI (a : Int)), (6, vLL C), (7, vI (leS l)), (8, vI (spF l a (B.take i))), (9, vI (i : Int))], [], 0⟩)
        (fun i => i ≤ B.length) (fun i => B.length - i) 0 (Nat.zero_le _) (by (exact JW.Auto (by conv => lhs; reduce))) fun i hi => ?_
      have hsn : i < B.length → spF l a (B.take (i + 1)) = Max.max (spF l a (B.take i)) (gSp l a (B.getD i [])) := fun h => by rw [take_snoc B h []]; exact spF_snoc _ _ _ _
      have hfin : i = B.length → spF l a (B.take i) = spF l a B := fun e => by rw [e, List.take_length]
      have hsb := spF_bd dl a d8 (B.take i) fun o ho => by have := (hmem o (List.mem_of_mem_take ho)).1; omega
      generalize spF l a (B.take i) = m at hsn hfin hsb ⊢
      (repeat (first | refine zs rfl ?_ | refine zg rfl rfl rfl ?_ | refine zd ?_ | refine JK.fin ?_ | refine JK.ret ?_))
      refine JK.cond rfl (fun hc => ?_) (fun hc => ?_)
      · (simp only [↓bif_or, ↓bif_and, ↓Bool.or_eq_true, ↓Bool.or_eq_false_iff, ↓Bool.and_eq_true, ↓Bool.and_eq_false_iff, ↓Bool.not_eq_true', ↓Bool.not_eq_false', ↓decide_eq_true_eq, ↓decide_eq_false_iff_not, ↓beq_iff_eq, ↓bne_iff_ne, ↓bne_eq_false_iff_eq, ↓ne_eq, ↓beq_eq_false_iff_ne, ↓Bool.not_eq_true] at hc; try simp only [Ty.dflt, Int.toNat_natCast] at hc)
        have hi' : i < B.length := by omega
        have hsn' := hsn hi'
        have hm := hmem (B.getD i []) (by rw [getD_nat B hi']; exact List.getElem_mem hi')
        have hgi := hg i
        generalize B.getD i [] = o at hm hgi hsn'
        obtain ⟨m1, m2, m3, m4⟩ := hm
        have hol : (iL o).length = o.length := by rw [List.length_map]
        have hCl : (C.getD i []).length = l.length := by rw [hgi, hol]; exact m1
        have hx : ∀ k, (C.getD i []).getD k 0 = ((o.getD k 0 : Nat) : Int) := fun k => by rw [hgi]; exact iL_getD o k
        have h44 := fun k hk => fn44 l o k dl m3 (by omega) hk
        rw [← hgi] at h44
        have hrb := fun k => row_bd dl o k (by omega)
        have hil := idx_lt m4
        have hie := fun k h1 h2 => idx_eq (s := a) (k := k) m2 h1 h2
        have hgt := idx_get m4
        unfold gSp at hsn'
        generalize o.idxOf a = ix at hsn' hil hie hgt
        (repeat (first | refine zs rfl ?_ | refine zg rfl rfl rfl ?_ | refine zd ?_ | refine JK.fin ?_ | refine JK.ret ?_))
        refine JK.loop (fun k : Nat => ⟨[(0, vD l), (1, vI (a : Int)), (6, vLL C), (7, vI (leS l)), (8, vI (if ix < k then Max.max m (leS l - rowA l o ix) else m)), (9, vI (i : Int)), (10, vI (k : Int))], [], 0⟩)
          (fun k => k ≤ l.length) (fun k => l.length - k) 0 (Nat.zero_le _) ?_ fun k hk => ?_
        · rw [if_neg (by omega)]; (exact JW.Auto (by conv => lhs; reduce))
        have hbk := hrb ix
        have hvb : 0 ≤ (if ix < k then Max.max m (leS l - rowA l o ix) else m) ∧ (if ix < k then Max.max m (leS l - rowA l o ix) else m) ≤ 2000000 := by split <;> omega
        have hst : ∀ v, (v = if ix < k then Max.max m (leS l - rowA l o ix) else m) → (if ix < k + 1 then Max.max m (leS l - rowA l o ix) else m) = if ix = k then Max.max v (leS l - rowA l o k) else v := fun v hv => by
          by_cases e : ix = k
          · subst e
            rw [if_pos (by omega), if_pos rfl]
            rw [if_neg (by omega)] at hv
            rw [hv]
          · rw [if_neg e, hv]
            by_cases e2 : ix < k
            · rw [if_pos e2, if_pos (by omega)]
            · rw [if_neg e2, if_neg (by omega)]
        have hend : k = l.length → (if ix < k then Max.max m (leS l - rowA l o ix) else m) = Max.max m (leS l - rowA l o ix) := fun e => if_pos (by omega)
        generalize hv : (if ix < k then Max.max m (leS l - rowA l o ix) else m) = v at hvb hend ⊢
        have hst' := hst v hv.symm
        (repeat (first | refine zs rfl ?_ | refine zg rfl rfl rfl ?_ | refine zd ?_ | refine JK.fin ?_ | refine JK.ret ?_))
        refine JK.cond rfl (fun hd => ?_) (fun hd => ?_)
        · (simp only [↓bif_or, ↓bif_and, ↓Bool.or_eq_true, ↓Bool.or_eq_false_iff, ↓Bool.and_eq_true, ↓Bool.and_eq_false_iff, ↓Bool.not_eq_true', ↓Bool.not_eq_false', ↓decide_eq_true_eq, ↓decide_eq_false_iff_not, ↓beq_iff_eq, ↓bne_iff_ne, ↓bne_eq_false_iff_eq, ↓ne_eq, ↓beq_eq_false_iff_ne, ↓Bool.not_eq_true] at hd; try simp only [Ty.dflt, Int.toNat_natCast] at hd)
          have hxk := hx k
          have hk' : k < l.length := by omega
          have h44k := h44 k (by omega)
          have hrk := hrb k
          (repeat (first | refine zs rfl ?_ | refine zg rfl rfl rfl ?_ | refine zd ?_ | refine JK.fin ?_ | refine JK.ret ?_))
          refine JK.cond rfl (fun he => ?_) (fun he => ?_)
          · have he2 : ((C.getD i []).getD k 0 == (a : Int)) = true := he
            rw [hxk, beq_iff_eq] at he2
            rw [if_pos (show ix = k from hie k (by omega) (Int.ofNat_inj.1 he2))] at hst'
            generalize rowA l o k = rw at h44k hrk hst'
            (repeat (first | refine zs rfl ?_ | refine zg rfl rfl rfl ?_ | refine zd ?_ | refine JK.fin ?_ | refine JK.ret ?_ | refine zc rfl (h44k) rfl rfl ?_ | refine ze rfl (h44k) rfl ?_ | refine zk rfl rfl (fun _ => h44k) rfl rfl ?_))
            refine ⟨k + 1, ?_, by omega, by omega⟩
            rw [hst']
            (exact JW.Auto (by conv => lhs; reduce))
          · have he2 : ((C.getD i []).getD k 0 == (a : Int)) = false := he
            rw [hxk, beq_eq_false_iff_ne] at he2
            rw [if_neg (show ¬ ix = k from fun e => he2 (by rw [← e, hgt]))] at hst'
            (repeat (first | refine zs rfl ?_ | refine zg rfl rfl rfl ?_ | refine zd ?_ | refine JK.fin ?_ | refine JK.ret ?_))
            refine ⟨k + 1, ?_, by omega, by omega⟩
            rw [hst']
            (exact JW.Auto (by conv => lhs; reduce))
        · (simp only [↓bif_or, ↓bif_and, ↓Bool.or_eq_true, ↓Bool.or_eq_false_iff, ↓Bool.and_eq_true, ↓Bool.and_eq_false_iff, ↓Bool.not_eq_true', ↓Bool.not_eq_false', ↓decide_eq_true_eq, ↓decide_eq_false_iff_not, ↓beq_iff_eq, ↓bne_iff_ne, ↓bne_eq_false_iff_eq, ↓ne_eq, ↓beq_eq_false_iff_ne, ↓Bool.not_eq_true] at hd; try simp only [Ty.dflt, Int.toNat_natCast] at hd)
          rw [hend (by omega), ← hsn']
          (repeat (first | refine zs rfl ?_ | refine zg rfl rfl rfl ?_ | refine zd ?_ | refine JK.fin ?_ | refine JK.ret ?_))
          exact ⟨i + 1, by (exact JW.Auto (by conv => lhs; reduce)), by omega, by omega⟩
      · (simp only [↓bif_or, ↓bif_and, ↓Bool.or_eq_true, ↓Bool.or_eq_false_iff, ↓Bool.and_eq_true, ↓Bool.and_eq_false_iff, ↓Bool.not_eq_true', ↓Bool.not_eq_false', ↓decide_eq_true_eq, ↓decide_eq_false_iff_not, ↓beq_iff_eq, ↓bne_iff_ne, ↓bne_eq_false_iff_eq, ↓ne_eq, ↓beq_eq_false_iff_ne, ↓Bool.not_eq_true] at hc; try simp only [Ty.dflt, Int.toNat_natCast] at hc)
        rw [hfin (by omega)]
        (repeat (first | refine zs rfl ?_ | refine zg rfl rfl rfl ?_ | refine zd ?_ | refine JK.fin ?_ | refine JK.ret ?_))
        refine ⟨.inl rfl, _, _, rfl, trivial, ?_⟩
        rfl
theorem idx_int {o : List Nat} {s : Nat} (hn : o.Nodup) (h : s ∈ o) : idxB (fun x => decide ((s : Int) = x)) (iL o) 0 = (o.idxOf s : Nat) := by
  obtain ⟨j, h1, h2, h3, h4⟩ := idxB_hit (p := fun x => decide ((s : Int) = x)) (xs := iL o) (i := 0) ⟨(s : Int), mem_iL.2 h, by simp⟩
  rw [h2, Nat.zero_add]
  rw [List.length_map] at h1
  have h5 := of_decide_eq_true h3
  rw [iL_getD] at h5
  rw [idx_eq hn h1 (Int.ofNat_inj.1 h5).symm]
def K39 (a b : Code) (l : List Sh) (pr le s m : Int) : List (Nat × HO) :=
  [(5, .fr 0 [(91, .lf (.yld 4)), (2, .lf (.optr 0 [])), (3, .lf (.optr 1 [])), (6, .lf (.optr 2 [])), (8, .lf (.optr 3 []))]), (4, .loop .ready none #[35] a b 91 [(2, .lf (.optr 0 [])), (3, .lf (.optr 1 [])), (6, .lf (.optr 2 [])), (8, .lf (.optr 3 []))]),
   (0, .cell (.slice shT) (vD l)), (1, .cell (.int .i64) (vI s)), (2, .cell (.ptr shopT) (vH l pr le)), (3, .cell (.int .i64) (vI m))]
set_option maxHeartbeats 4000000 in
theorem fn39 (l : List Sh) (s : Int) : Ox.Fn Go.Proofs.Try.prog 39 (.acons (vD l) (.acons (vI s) .anil)) (· = vT2 (spI l s) (spE l s)) := by
  refine Ox.Fn.intro xok Go.Proofs.Try.func39 rfl Go.Proofs.Try.call39 (Nat.le_of_ble_eq_true rfl) (fun E M0 up => ?_)
  refine JK.start ?_
  have h55 := fn55 l
  unfold vOp at h55
  by_cases hz : dayE l = 0
  · rw [if_pos hz, hz] at h55
    obtain ⟨d1, d8, dl⟩ := day_ok hz
    (repeat (first | refine zs rfl ?_ | refine zg rfl rfl rfl ?_ | refine zd ?_ | refine JK.fin ?_ | refine JK.ret ?_ | refine zc rfl (h55) rfl rfl ?_ | refine ze rfl (h55) rfl ?_ | refine zk rfl rfl (fun _ => h55) rfl rfl ?_))
    refine JK.cond rfl (fun h => absurd h (by decide)) (fun _ => ?_)
    (repeat (first | refine zs rfl ?_ | refine zg rfl rfl rfl ?_ | refine zd ?_ | refine JK.fin ?_ | refine JK.ret ?_))
    refine JK.cond rfl (fun hd => ?_) (fun hd => ?_)
    · (simp only [↓bif_or, ↓bif_and, ↓Bool.or_eq_true, ↓Bool.or_eq_false_iff, ↓Bool.and_eq_true, ↓Bool.and_eq_false_iff, ↓Bool.not_eq_true', ↓Bool.not_eq_false', ↓decide_eq_true_eq, ↓decide_eq_false_iff_not, ↓beq_iff_eq, ↓bne_iff_ne, ↓bne_eq_false_iff_eq, ↓ne_eq, ↓beq_eq_false_iff_ne, ↓Bool.not_eq_true] at hd; try simp only [Ty.dflt, Int.toNat_natCast] at hd)
      have e : spE l s = 2 := by unfold spE; rw [if_neg (by omega), if_neg (by omega)]
      (repeat (first | refine zs rfl ?_ | refine zg rfl rfl rfl ?_ | refine zd ?_ | refine JK.fin ?_ | refine JK.ret ?_))
      refine ⟨.inl rfl, _, _, rfl, trivial, ?_⟩
      unfold spI; rw [e]; rfl
    · (simp only [↓bif_or, ↓bif_and, ↓Bool.or_eq_true, ↓Bool.or_eq_false_iff, ↓Bool.and_eq_true, ↓Bool.and_eq_false_iff, ↓Bool.not_eq_true', ↓Bool.not_eq_false', ↓decide_eq_true_eq, ↓decide_eq_false_iff_not, ↓beq_iff_eq, ↓bne_iff_ne, ↓bne_eq_false_iff_eq, ↓ne_eq, ↓beq_eq_false_iff_ne, ↓Bool.not_eq_true] at hd; try simp only [Ty.dflt, Int.toNat_natCast] at hd)
      have hs : 0 ≤ s ∧ s < (l.length : Int) := by omega
      have e : spE l s = 0 := sp_ok.2 ⟨hz, hs⟩
      have e2 : spI l s = spF l s.toNat (bestsL l) := by unfold spI; rw [if_pos e]
      rw [e, e2]
      obtain ⟨a, rfl⟩ : ∃ a : Nat, s = (a : Int) := ⟨s.toNat, by omega⟩
      rw [Int.toNat_natCast]
      have hlt := le_top dl d8
      have hlp := le_pos dl
      (repeat (first | refine zs rfl ?_ | refine zg rfl rfl rfl ?_ | refine zd ?_ | refine JK.fin ?_ | refine JK.ret ?_ | refine zc rfl (fn64 l (prS l) (leS l)) rfl rfl ?_ | refine ze rfl (fn64 l (prS l) (leS l)) rfl ?_ | refine zk rfl rfl (fun _ => fn64 l (prS l) (leS l)) rfl rfl ?_))
      refine JK.rangeG [2, 3, 6, 8] rfl rfl rfl Go.Proofs.Try.func81 rfl Go.Proofs.Try.call81 (Nat.le_of_ble_eq_true rfl) trivial fun M2 up2 a0 b0 ha0 hb0 => ?_
      refine JK.weak (s' := ⟨[(0, .lf (.yld 4)), (1, ppH l (prS l) (leS l))], K39 a0 b0 l (prS l) (leS l) a 0, 100⟩) (by (exact JW.Auto (by conv => lhs; reduce))) ?_
      refine or_it (Mx := M2) (nX := 6) (rdX := none) 0 91 (by simp) l (prS l) (leS l) d8 (fun pre => K39 a0 b0 l (prS l) (leS l) a (spF l a (pre.filter fun o => decide (endS l (0, 0) o = leS l)))) ?_ (by omega) ?_ ?_ ?_
      · intro pre; (repeat' (first | exact trivial | exact rfl | refine And.intro ?_ ?_ | exact Nat.le_of_ble_eq_true rfl | refine HO.bdF ?_ | refine HO.bdP ?_ | (refine congrArg (fun z : Int => some (AV.val (.int .i64) z)) ?_; push_cast; omega)))
      · intro pre; exact ⟨5, _, rfl, rfl⟩
      · intro pre o post hp
        have hoL : o ∈ allL l := by rw [hp]; simp
        obtain ⟨m1, m2, m3⟩ := mem_lvl.1 hoL
        have m4 : a ∈ o := (lvl_perm hoL).mem_iff.2 (List.mem_range.2 (by omega))
        have hsn := fun h : endS l (0, 0) o = leS l => spF_snoc l a (pre.filter fun o => decide (endS l (0, 0) o = leS l)) o
        have hfl : (pre ++ [o]).filter (fun o => decide (endS l (0, 0) o = leS l)) = (pre.filter fun o => decide (endS l (0, 0) o = leS l)) ++ if endS l (0, 0) o = leS l then [o] else [] := by
          rw [List.filter_append]; by_cases h : endS l (0, 0) o = leS l <;> simp [h]
        have hle := le_all dl hoL
        have hsb := spF_bd dl a d8 (pre.filter fun o => decide (endS l (0, 0) o = leS l)) fun x hx => by
          have : x ∈ allL l := by rw [hp]; exact List.mem_append_left _ (List.mem_filter.1 hx).1
          have := (mem_lvl.1 this).1
          omega
        have h65 := fn65 l (prS l) (leS l) o dl m3 (by omega)
        have h66 := fn66 (iL o) (a : Int)
        rw [idx_int m2 m4] at h66
        have hil := idx_lt m4
        have hgt := idx_get m4
        have hne : o ≠ [] := fun e => by rw [e] at m4; cases m4
        have hlast := playF_last l (o := o) (0, 0) hne
        have hpl := playF_len l o (0, 0)
        have hlv := play_leaves l o (0, 0) hil
        have hlb := sm_bd (aN l) (aN_bd dl) (o.take (o.idxOf a + 1))
        have hlbl : (o.take (o.idxOf a + 1)).length ≤ 8 := by rw [List.length_take]; omega
        have hgS : gSp l a o = leS l - rowA l o (o.idxOf a) := rfl
        have hrow : rowA l o (o.idxOf a) = rN l (o.getD (o.idxOf a) 0) + sm (aN l) (o.take (o.idxOf a + 1)) + sm (cN l) (o.drop (o.idxOf a)) := rfl
        have hrb := row_bd dl o (o.idxOf a) (by omega)
        have het := end_top dl o (by omega)
        rw [hgt] at hrow
        refine YO.intro 0 91 (ps := #[35]) (assign := a0) (body := b0) (nO := 91) (LO := [(2, .lf (.optr 0 [])), (3, .lf (.optr 1 [])), (6, .lf (.optr 2 [])), (8, .lf (.optr 3 []))]) (L0 := [(35, vL (iL o)), (2, .lf (.optr 0 [])), (3, .lf (.optr 1 [])), (6, .lf (.optr 2 [])), (8, .lf (.optr 3 []))]) rfl rfl rfl ⟨5, _, rfl, rfl⟩ ⟨5, _, rfl, rfl⟩ fun M3 M4 up4 bl hup => JK.start (JK.codeEq ha0 ?_)
        (repeat (first | refine zs rfl ?_ | refine zg rfl rfl rfl ?_ | refine zd ?_ | refine JK.fin ?_ | refine JK.ret ?_))
        refine JK.done (asgQ.nor rfl rfl rfl rfl (JK.start (JK.codeEq hb0 ?_)))
        have eL : ∀ i, i < o.length → (iL o).getD i 0 = ((o.getD i 0 : Nat) : Int) ∧ o.getD i 0 < l.length := fun i hi => ⟨iL_getD o i, by rw [getD_nat o hi]; exact m3 _ (List.getElem_mem hi)⟩
        have hdl : ∀ k, ((iL o).drop (o.idxOf a)).getD k 0 = ((o.getD (o.idxOf a + k) 0 : Nat) : Int) := fun k => by
          rw [List.getD_eq_getElem?_getD, List.getElem?_drop, ← List.getD_eq_getElem?_getD]; exact iL_getD o _
        have hdn : ((iL o).drop (o.idxOf a)).length = o.length - o.idxOf a := by rw [List.length_drop, List.length_map]
        have hio : (iL o).length = o.length := by rw [List.length_map]
        have hcS : ∀ k, k < o.length - o.idxOf a → sm (cN l) ((o.drop (o.idxOf a)).take (k + 1)) = sm (cN l) ((o.drop (o.idxOf a)).take k) + cN l (o.getD (o.idxOf a + k) 0) := fun k hk => by
          rw [sm_take (cN l) (o.drop (o.idxOf a)) (by rw [List.length_drop]; exact hk)]
          congr 2
          rw [List.getD_eq_getElem?_getD, List.getElem?_drop, ← List.getD_eq_getElem?_getD]
        have hcA : sm (cN l) ((o.drop (o.idxOf a)).take (o.length - o.idxOf a)) = sm (cN l) (o.drop (o.idxOf a)) := by
          rw [List.take_of_length_le (by rw [List.length_drop]; omega)]
        have hcB : ∀ k, 0 ≤ sm (cN l) ((o.drop (o.idxOf a)).take k) ∧ sm (cN l) ((o.drop (o.idxOf a)).take k) ≤ 8000 := fun k => by
          have := sm_bd (cN l) (cN_bd dl) ((o.drop (o.idxOf a)).take k)
          rw [List.length_take, List.length_drop] at this
          omega
        have hra : rN l a = (l.getD ((a : Int)).toNat (0, 0, 0, ())).2.1 := rfl
        have hrB := rN_bd dl a
        rw [hra] at hrow hrB
        rw [hpl.symm] at hlast
        generalize (o.idxOf a) = ix at *
        generalize playF l (0, 0) o = t at h65 hlast hpl hlv
        generalize endS l (0, 0) o = en at *
        have hlv2 : (t.getD ix (0, 0, 0, ())).1 = 0 + sm (aN l) (o.take (ix + 1)) := hlv
        have hra2 : rN l a = (l.getD a (0, 0, 0, ())).2.1 := rfl
        (repeat (first | refine zs rfl ?_ | refine zg rfl rfl rfl ?_ | refine zd ?_ | refine JK.fin ?_ | refine JK.ret ?_ | refine zc rfl (h65) rfl rfl ?_ | refine ze rfl (h65) rfl ?_ | refine zk rfl rfl (fun _ => h65) rfl rfl ?_))
        refine JK.cond rfl (fun hd => ?_) (fun hd => ?_)
        · have hd2 : leS l < (t.getD ((t.length : Int) - 1).toNat (0, 0, 0, ())).2.2.1 := of_decide_eq_true hd
          rw [show ((t.length : Int) - 1).toNat = t.length - 1 by omega, hlast] at hd2
          rw [if_neg (by omega), List.append_nil] at hfl
          (repeat (first | refine zs rfl ?_ | refine zg rfl rfl rfl ?_ | refine zd ?_ | refine JK.fin ?_ | refine JK.ret ?_))
          refine JK.done (bodyQ.of rfl rfl rfl rfl rfl rfl ⟨rfl, ?_⟩)
          show JW _ ⟨[], K39 a0 b0 l (prS l) (leS l) a (spF l a ((pre ++ [o]).filter fun o => decide (endS l (0, 0) o = leS l))), 100⟩ _
          rw [hfl]
          (exact JW.Auto (by conv => lhs; reduce))
        · have hd2 : ¬ leS l < (t.getD ((t.length : Int) - 1).toNat (0, 0, 0, ())).2.2.1 := of_decide_eq_false hd
          rw [show ((t.length : Int) - 1).toNat = t.length - 1 by omega, hlast] at hd2
          rw [if_pos (by omega)] at hfl
          have hsn' := hsn (by omega)
          generalize spF l a (pre.filter fun o => decide (endS l (0, 0) o = leS l)) = m at hsb hsn' ⊢
          (repeat (first | refine zs rfl ?_ | refine zg rfl rfl rfl ?_ | refine zd ?_ | refine JK.fin ?_ | refine JK.ret ?_ | refine zc rfl (h66) rfl rfl ?_ | refine ze rfl (h66) rfl ?_ | refine zk rfl rfl (fun _ => h66) rfl rfl ?_))
          refine JK.loop (fun k : Nat => ⟨[(2, .lf (.optr 0 [])), (3, .lf (.optr 1 [])), (6, .lf (.optr 2 [])), (8, .lf (.optr 3 [])), (11, vI ((l.getD a (0, 0, 0, ())).2.1 + (t.getD ix (0, 0, 0, ())).1 + sm (cN l) ((o.drop ix).take k))), (68, vL ((iL o).drop ix)), (69, vI ((iL o).drop ix).length), (70, vI (k : Int))],
            [(100, .fr 1 [(49, .lf (.yld 4))]), (5, .fr 0 [(91, .lf (.yld 4)), (2, .lf (.optr 0 [])), (3, .lf (.optr 1 [])), (6, .lf (.optr 2 [])), (8, .lf (.optr 3 []))]), (4, .loop .busy none #[35] a0 b0 91 [(2, .lf (.optr 0 [])), (3, .lf (.optr 1 [])), (6, .lf (.optr 2 [])), (8, .lf (.optr 3 []))]),
             (0, .cell (.slice shT) (vD l)), (1, .cell (.int .i64) (vI a)), (2, .cell (.ptr shopT) (vH l (prS l) (leS l))), (3, .cell (.int .i64) (vI m))], 101⟩)
            (fun k => k ≤ o.length - ix) (fun k => o.length - ix - k) 0 (Nat.zero_le _) ?_ fun k hk => ?_
          · have e0 : sm (cN l) ((o.drop ix).take 0) = 0 := rfl
            rw [e0, Int.add_zero]
            (exact JW.Auto (by conv => lhs; reduce))
          have hb1 := hcB k
          have hb2 := hcS k
          have hb3 : k = o.length - ix → sm (cN l) ((o.drop ix).take k) = sm (cN l) (o.drop ix) := fun e => by rw [e]; exact hcA
          have hb4 := hdl k
          generalize sm (cN l) ((o.drop ix).take k) = S at hb1 hb2 hb3 ⊢
          (repeat (first | refine zs rfl ?_ | refine zg rfl rfl rfl ?_ | refine zd ?_ | refine JK.fin ?_ | refine JK.ret ?_))
          refine JK.cond rfl (fun he => ?_) (fun he => ?_)
          · (simp only [↓bif_or, ↓bif_and, ↓Bool.or_eq_true, ↓Bool.or_eq_false_iff, ↓Bool.and_eq_true, ↓Bool.and_eq_false_iff, ↓Bool.not_eq_true', ↓Bool.not_eq_false', ↓decide_eq_true_eq, ↓decide_eq_false_iff_not, ↓beq_iff_eq, ↓bne_iff_ne, ↓bne_eq_false_iff_eq, ↓ne_eq, ↓beq_eq_false_iff_ne, ↓Bool.not_eq_true] at he; try simp only [Ty.dflt, Int.toNat_natCast] at he)
            have hk' : k < o.length - ix := by omega
            have hb2' := hb2 hk'
            have hel := (eL (ix + k) (by omega)).2
            have hcb := sh_bd dl (((iL o).drop ix).getD k 0).toNat
            have hcn : cN l (o.getD (ix + k) 0) = (l.getD (((iL o).drop ix).getD k 0).toNat (0, 0, 0, ())).2.2.1 := by rw [hb4, Int.toNat_natCast]
            rw [hcn] at hb2'
            have hbx : 0 ≤ ((iL o).drop ix).getD k 0 ∧ ((iL o).drop ix).getD k 0 < (l.length : Int) := by rw [hb4]; omega
            (repeat (first | refine zs rfl ?_ | refine zg rfl rfl rfl ?_ | refine zd ?_ | refine JK.fin ?_ | refine JK.ret ?_))
            refine ⟨k + 1, ?_, by omega, by omega⟩
            rw [hb2', ← Int.add_assoc]
            (exact JW.Auto (by conv => lhs; reduce))
          · (simp only [↓bif_or, ↓bif_and, ↓Bool.or_eq_true, ↓Bool.or_eq_false_iff, ↓Bool.and_eq_true, ↓Bool.and_eq_false_iff, ↓Bool.not_eq_true', ↓Bool.not_eq_false', ↓decide_eq_true_eq, ↓decide_eq_false_iff_not, ↓beq_iff_eq, ↓bne_iff_ne, ↓bne_eq_false_iff_eq, ↓ne_eq, ↓beq_eq_false_iff_ne, ↓Bool.not_eq_true] at he; try simp only [Ty.dflt, Int.toNat_natCast] at he)
            have hb3' := hb3 (by omega)
            have hX : (l.getD a (0, 0, 0, ())).2.1 + (t.getD ix (0, 0, 0, ())).1 + sm (cN l) (o.drop ix) = rowA l o ix := by rw [hrow, hlv2]; omega
            rw [hb3', hX]
            have hfl2 : (pre ++ [o]).filter (fun o => decide (endS l (0, 0) o = leS l)) = (pre.filter fun o => decide (endS l (0, 0) o = leS l)) ++ [o] := hfl
            rw [hgS] at hsn'
            clear hgS hX hfl
            generalize rowA l o ix = R at *
            (repeat (first | refine zs rfl ?_ | refine zg rfl rfl rfl ?_ | refine JK.fin ?_ | refine JK.ret ?_))
            refine JK.drawP (xok rfl rfl rfl rfl) (rgsB 0 Go.Proofs.Try.f39.body) rfl 9 rfl ?_
            (refine JF.First 5 (xok rfl rfl rfl rfl) rfl rfl ?_; refine JF.Float 0 (xok rfl rfl rfl rfl) rfl rfl ?_; refine JF.Float 1 (xok rfl rfl rfl rfl) rfl rfl ?_; refine JF.Float 2 (xok rfl rfl rfl rfl) rfl rfl ?_; refine JF.Float 3 (xok rfl rfl rfl rfl) rfl rfl ?_; refine JF.Float 4 (xok rfl rfl rfl rfl) rfl rfl ?_; refine JF.Float 6 (xok rfl rfl rfl rfl) rfl rfl ?_; refine JF.Float 7 (xok rfl rfl rfl rfl) rfl rfl ?_; refine JF.Branch 8 [] (xok rfl rfl rfl rfl) ?_ ?_; (focus (repeat (first | exact StF.nil | refine StF.One rfl rfl rfl ?_))); refine BrF.one rfl rfl ?_ BrF.nil; (· (first | refine JL.Q1 (xok rfl rfl rfl rfl) rfl rfl ?_ | refine JL.G1 (xok rfl rfl rfl rfl) rfl rfl rfl ?_ | refine JL.M1 (xok rfl rfl rfl rfl) rfl rfl ?_ | refine JL.M0 (xok rfl rfl rfl rfl) rfl ?_ | refine JL.Q0 (xok rfl rfl rfl rfl) rfl ?_); refine JL.finN ?_; refine JF.Done (xok rfl rfl rfl rfl) ?_ ?_; (focus (repeat (first | exact StF.nil | refine StF.One rfl rfl rfl ?_))); (((repeat (first | refine zs rfl ?_ | refine zg rfl rfl rfl ?_ | refine zd ?_ | refine JK.fin ?_ | refine JK.ret ?_)); refine JK.done (bodyQ.of rfl rfl rfl rfl rfl rfl ⟨rfl, ?_⟩); show JW _ ⟨[], K39 a0 b0 l (prS l) (leS l) a (spF l a ((pre ++ [o]).filter fun o => decide (endS l (0, 0) o = leS l))), 100⟩ _; rw [hfl2, hsn']; (exact JW.Auto (by conv => lhs; reduce))))))
      · intro L
        show rngQ _ _ _ _ ⟨L, K39 a0 b0 l (prS l) (leS l) a (spF l a (bestsL l)), 100⟩
        refine rngQ.of (.inr rfl) rfl rfl rfl rfl rfl rfl rfl (endJ.kn ?_)
        (repeat (first | refine zs rfl ?_ | refine zg rfl rfl rfl ?_ | refine zd ?_ | refine JK.fin ?_ | refine JK.ret ?_))
        refine ⟨.inl rfl, _, _, rfl, trivial, ?_⟩
        rfl
  · have e : spE l s = dayE l := by unfold spE; rw [if_pos hz]
    have e2 : spI l s = 0 := by unfold spI; rw [e, if_neg hz]
    rw [e, e2]
    rw [if_neg hz] at h55
    generalize dayE l = z at hz h55 ⊢
    (repeat (first | refine zs rfl ?_ | refine zg rfl rfl rfl ?_ | refine zd ?_ | refine JK.fin ?_ | refine JK.ret ?_ | refine zc rfl (h55) rfl rfl ?_ | refine ze rfl (h55) rfl ?_ | refine zk rfl rfl (fun _ => h55) rfl rfl ?_))
    refine JK.cond rfl (fun _ => ?_) (fun h => ?_)
    · (repeat (first | refine zs rfl ?_ | refine zg rfl rfl rfl ?_ | refine zd ?_ | refine JK.fin ?_ | refine JK.ret ?_))
      refine ⟨.inl rfl, _, _, rfl, trivial, ?_⟩
      rfl
    · (simp only [↓bif_or, ↓bif_and, ↓Bool.or_eq_true, ↓Bool.or_eq_false_iff, ↓Bool.and_eq_true, ↓Bool.and_eq_false_iff, ↓Bool.not_eq_true', ↓Bool.not_eq_false', ↓decide_eq_true_eq, ↓decide_eq_false_iff_not, ↓beq_iff_eq, ↓bne_iff_ne, ↓bne_eq_false_iff_eq, ↓ne_eq, ↓beq_eq_false_iff_ne, ↓Bool.not_eq_true] at h; try simp only [Ty.dflt, Int.toNat_natCast] at h)
      omega
end Go.Proofs.Ythiocglfgcnlhaa

namespace Go.Proofs.Ythiocglfgcnlhaa
open Go Go.RowKit Ox Ox.Sh

/-- Sheets of a bound: in their order, each one of the day. -/
def Inc (N : Nat) (xs : List Int) : Prop := (∀ x ∈ xs, 0 ≤ x ∧ x < (N : Int)) ∧ xs.Pairwise (· < ·)
instance (N : Nat) (xs : List Int) : Decidable (Inc N xs) := by unfold Inc; infer_instance
theorem Inc.nil (N : Nat) : Inc N [] := ⟨(fun x hx => by cases hx), List.Pairwise.nil⟩
theorem Inc.snoc {N : Nat} {a : List Int} {x : Int} : Inc N (a ++ [x]) ↔ Inc N a ∧ (0 ≤ x ∧ x < (N : Int)) ∧ ∀ y ∈ a, y < x := by
  unfold Inc
  rw [List.pairwise_append]
  constructor
  · rintro ⟨h1, h2, h3, h4⟩
    exact ⟨⟨fun y hy => h1 y (by simp [hy]), h2⟩, h1 x (by simp), fun y hy => h4 y hy x (by simp)⟩
  · rintro ⟨⟨h1, h2⟩, h3, h4⟩
    refine ⟨fun y hy => ?_, h2, List.pairwise_singleton _ _, fun y hy z hz => ?_⟩
    · rcases List.mem_append.1 hy with hy | hy
      · exact h1 y hy
      · rw [List.mem_singleton.1 hy]; exact h3
    · rw [List.mem_singleton.1 hz]; exact h4 y hy
theorem Inc.take {N : Nat} {xs : List Int} (h : Inc N xs) (i : Nat) : Inc N (xs.take i) := ⟨fun x hx => h.1 x (List.mem_of_mem_take hx), h.2.sublist (List.take_sublist _ _)⟩
/-- One more sheet than the last one. -/
def nxI : List Int → Int
  | [] => 0
  | [x] => x + 1
  | _ :: y :: r => nxI (y :: r)
theorem nxI_snoc (x : Int) : ∀ a : List Int, nxI (a ++ [x]) = x + 1
  | [] => rfl
  | [y] => rfl
  | _ :: y :: r => by
    have := nxI_snoc x (y :: r)
    exact this
theorem nxI_le {N : Nat} {a : List Int} (h : Inc N a) {x : Int} : nxI a ≤ x ↔ 0 ≤ x ∧ ∀ y ∈ a, y < x := by
  rcases List.eq_nil_or_concat a with rfl | ⟨b, y, e⟩
  · simp [nxI]
  · rw [List.concat_eq_append] at e
    subst e
    obtain ⟨h1, h2, h3⟩ := Inc.snoc.1 h
    rw [nxI_snoc]
    constructor
    · intro hx
      refine ⟨by omega, fun z hz => ?_⟩
      rcases List.mem_append.1 hz with hz | hz
      · have := h3 z hz; omega
      · rw [List.mem_singleton.1 hz]; omega
    · rintro ⟨_, hz⟩
      have := hz y (by simp)
      omega
theorem nxI_bd {N : Nat} {a : List Int} (h : Inc N a) : 0 ≤ nxI a ∧ nxI a ≤ N := by
  rcases List.eq_nil_or_concat a with rfl | ⟨b, y, e⟩
  · simp [nxI]
  · rw [List.concat_eq_append] at e
    subst e
    obtain ⟨h1, h2, h3⟩ := Inc.snoc.1 h
    rw [nxI_snoc]; omega
theorem sorted_ext : ∀ {a b : List Nat}, a.Pairwise (· < ·) → b.Pairwise (· < ·) → (∀ x, x ∈ a ↔ x ∈ b) → a = b
  | [], [], _, _, _ => rfl
  | [], y :: b, _, _, h => by have := (h y).2 List.mem_cons_self; cases this
  | x :: a, [], _, _, h => by have := (h x).1 List.mem_cons_self; cases this
  | x :: a, y :: b, h1, h2, h => by
    obtain ⟨p1, p2⟩ := List.pairwise_cons.1 h1
    obtain ⟨q1, q2⟩ := List.pairwise_cons.1 h2
    have e : x = y := by
      rcases List.mem_cons.1 ((h x).1 List.mem_cons_self) with e | e
      · exact e
      · rcases List.mem_cons.1 ((h y).2 List.mem_cons_self) with e' | e'
        · exact e'.symm
        · have := q1 x e
          have := p1 y e'
          omega
    subst e
    congr 1
    refine sorted_ext p2 q2 fun z => ⟨fun hz => ?_, fun hz => ?_⟩
    · exact ((List.mem_cons.1 ((h z).1 (List.mem_cons_of_mem _ hz))).resolve_left fun e => by have := p1 z hz; omega)
    · exact ((List.mem_cons.1 ((h z).2 (List.mem_cons_of_mem _ hz))).resolve_left fun e => by have := q1 z hz; omega)
theorem Inc.nat {N : Nat} {xs : List Int} (h : Inc N xs) : (natL xs).Pairwise (· < ·) ∧ (∀ n ∈ natL xs, n < N) ∧ iL (natL xs) = xs := by
  refine ⟨?_, fun n hn => ?_, iL_nat fun x hx => (h.1 x hx).1⟩
  · unfold natL
    rw [List.pairwise_map]
    refine h.2.imp_of_mem fun {x y} hx hy hxy => ?_
    have := h.1 x hx
    have := h.1 y hy
    omega
  · obtain ⟨x, hx, rfl⟩ := List.mem_map.1 hn
    have := h.1 x hx
    omega
theorem filt_own {o : List Nat} {M : Nat} (hp : o.Pairwise (· < ·)) (hM : ∀ n ∈ o, n < M) : (List.range M).filter (fun n => decide (n ∈ o)) = o := by
  refine sorted_ext (List.Pairwise.filter _ List.pairwise_lt_range) hp fun x => ?_
  rw [List.mem_filter, List.mem_range, decide_eq_true_iff]
  exact ⟨fun h => h.2, fun h => ⟨hM x h, h⟩⟩
/-- The minute of a bound. -/
def bdS (l : List Sh) (o : List Nat) (f : Bool) : Int := sm (wF l (fun n => decide (n ∈ o)) f) (List.range l.length) + leastW l f o
def bdE (l : List Sh) (xs : List Int) : Int := if dayE l ≠ 0 then dayE l else if Inc l.length xs ∧ xs ≠ [] then 0 else 3
def bdI (l : List Sh) (xs : List Int) (f : Bool) : Int := if bdE l xs = 0 then bdS l (natL xs) f else 0
theorem bd_ok {l : List Sh} {xs : List Int} : bdE l xs = 0 ↔ dayE l = 0 ∧ Inc l.length xs ∧ xs ≠ [] := by
  unfold bdE
  split
  · rename_i h; exact ⟨fun h' => absurd h' h, fun h' => absurd h'.1 h⟩
  · rename_i h
    split
    · rename_i h'; exact ⟨fun _ => ⟨by omega, h'⟩, fun _ => rfl⟩
    · rename_i h'; exact ⟨fun e => by omega, fun e => absurd e.2 h'⟩
/-- A row of some sheets. -/
def rowO (o : List Nat) : List Int := (List.range 8).map fun k => if k ∈ o then 1 else 0
theorem rowO_len (o : List Nat) : (rowO o).length = 8 := by simp [rowO]
theorem rowO_get (o : List Nat) {k : Nat} (hk : k < 8) : (rowO o).getD k 0 = if k ∈ o then 1 else 0 := by
  unfold rowO
  rw [List.getD_eq_getElem?_getD, List.getElem?_map, List.getElem?_range hk]; rfl
theorem rowO_snoc (o : List Nat) {n : Nat} (hn : n < 8) : rowO (o ++ [n]) = (rowO o).set n 1 := by
  refine List.ext_getElem (by simp [rowO]) fun k h1 h2 => ?_
  have hk : k < 8 := by rw [rowO_len] at h1; exact h1
  have e1 := rowO_get (o ++ [n]) hk
  have e2 := rowO_get o hk
  rw [getD_nat _ h1] at e1
  rw [getD_nat _ (by rw [rowO_len]; exact hk)] at e2
  rw [e1, List.getElem_set]
  by_cases e : n = k
  · subst e; simp
  · rw [if_neg e, e2]
    have : k ∈ o ++ [n] ↔ k ∈ o := by
      rw [List.mem_append, List.mem_singleton]
      exact ⟨fun h => h.resolve_right fun e' => e e'.symm, .inl⟩
    by_cases h : k ∈ o
    · rw [if_pos h, if_pos (this.2 h)]
    · rw [if_neg h, if_neg (fun h' => h (this.1 h'))]
theorem rowO_nil : rowO [] = List.replicate 8 0 := rfl
theorem rowO_zero {o : List Nat} (ho : ∀ n ∈ o, n < 8) : rowO o = List.replicate 8 0 ↔ o = [] := by
  constructor
  · intro h
    cases o with
    | nil => rfl
    | cons n r =>
      have hn := ho n List.mem_cons_self
      have h1 := rowO_get (n :: r) hn
      rw [h, if_pos List.mem_cons_self, getD_nat _ (by simpa using hn), List.getElem_replicate] at h1
      exact absurd h1 (by decide)
  · rintro rfl; rfl
theorem ownL_rowO {o : List Nat} (hp : o.Pairwise (· < ·)) (ho : ∀ n ∈ o, n < 8) : ownL (rowO o) 8 = o := by
  rw [← filt_own (M := 8) hp ho]
  unfold ownL
  refine List.filter_congr fun n hn => ?_
  have hn' := List.mem_range.1 hn
  rw [filt_own hp ho, rowO_get o hn']
  by_cases h : n ∈ o
  · rw [if_pos h, decide_eq_true h]; rfl
  · rw [if_neg h, decide_eq_false h]; rfl
theorem sm_congr {f g : Nat → Int} {o : List Nat} (h : ∀ n ∈ o, f n = g n) : sm f o = sm g o := by
  unfold sm; rw [List.map_congr_left h]
theorem minR_rowO {l : List Sh} {o : List Nat} (h8 : l.length ≤ 8) (hp : o.Pairwise (· < ·)) (ho : ∀ n ∈ o, n < 8) (f : Bool) : minR l (rowO o) f = bdS l o f := by
  unfold minR bdS
  rw [ownL_rowO hp ho]
  congr 1
  refine sm_congr fun n hn => ?_
  have hn' := List.mem_range.1 hn
  have : ownB (rowO o) n = decide (n ∈ o) := by
    unfold ownB
    rw [rowO_get o (by omega)]
    by_cases h : n ∈ o
    · rw [if_pos h, decide_eq_true h]; rfl
    · rw [if_neg h, decide_eq_false h]; rfl
  unfold wF
  rw [this]
/-- The least wait that is found, sheet by sheet. -/
def lsF (l : List Sh) (f : Bool) (o : List Nat) : Nat → Int
  | 0 => -1
  | k + 1 => if k ∈ o then (if lsF l f o k < 0 ∨ wait l f k < lsF l f o k then wait l f k else lsF l f o k) else lsF l f o k
theorem lsF_eq {l : List Sh} (hl : okD l) (f : Bool) (o : List Nat) : ∀ k, lsF l f o k = if (List.range k).filter (fun n => decide (n ∈ o)) = [] then -1 else leastW l f ((List.range k).filter fun n => decide (n ∈ o))
  | 0 => rfl
  | k + 1 => by
    rw [lsF, lsF_eq hl f o k, List.range_succ, List.filter_append]
    have hw := wait_bd hl f
    by_cases h : k ∈ o
    · rw [if_pos h]
      have e : [k].filter (fun n => decide (n ∈ o)) = [k] := by simp [h]
      rw [e]
      cases hL : (List.range k).filter (fun n => decide (n ∈ o)) with
      | nil => rw [if_pos rfl, if_pos (.inl (by decide))]; rfl
      | cons b r =>
        rw [if_neg (show ¬ (b :: r = []) by simp), if_neg (show ¬ (b :: r ++ [k] = []) by simp)]
        have e1 : leastW l f (b :: r) = wait l f (leastG (wait l f) b r) := rfl
        have e2 : leastW l f (b :: r ++ [k]) = wait l f (leastG (wait l f) b (r ++ [k])) := rfl
        rw [e1, e2, leastG_snoc]
        have := hw (leastG (wait l f) b r)
        by_cases c : wait l f k < wait l f (leastG (wait l f) b r)
        · rw [if_pos (.inr c), if_pos c]
        · rw [if_neg (by omega), if_neg c]
    · rw [if_neg h]
      have e : [k].filter (fun n => decide (n ∈ o)) = [] := by simp [h]
      rw [e, List.append_nil]
theorem lsF_all {l : List Sh} (hl : okD l) (f : Bool) {o : List Nat} (hp : o.Pairwise (· < ·)) (ho : ∀ n ∈ o, n < l.length) (hne : o ≠ []) : lsF l f o l.length = leastW l f o := by
  rw [lsF_eq hl, filt_own hp ho, if_neg hne]
theorem lsF_bd {l : List Sh} (hl : okD l) (f : Bool) (o : List Nat) : ∀ k, -1 ≤ lsF l f o k ∧ lsF l f o k ≤ 2000
  | 0 => by rw [lsF]; omega
  | k + 1 => by
    have h1 := lsF_bd hl f o k
    have h2 := wait_bd hl f k
    rw [lsF]
    split
    · split <;> omega
    · exact h1
end Go.Proofs.Ythiocglfgcnlhaa

namespace Go.Proofs.Ythiocglfgcnlhaa
open Go Go.RowKit Ox Ox.Sh
attribute [local irreducible] JC JL JK JW

theorem eqR : EqT Go.Proofs.Try.prog (.arr 8 (.int .i64)) 93 := .of (by decide +kernel)
abbrev bdT : Ty := .cons (.slice (.int .i64)) (.cons .bool .nil)
abbrev vBo (xs : List Int) (f : Bool) : AV := .val bdT (xs, f, ())
theorem inc_at {N : Nat} {xs : List Int} {i : Nat} (hi : i < xs.length) (h : Inc N (xs.take i)) : Inc N (xs.take (i + 1)) ↔ (0 ≤ xs.getD i 0 ∧ xs.getD i 0 < (N : Int)) ∧ (0 < i → xs.getD (i - 1) 0 < xs.getD i 0) := by
  rw [take_snoc xs hi 0, Inc.snoc]
  constructor
  · rintro ⟨_, h2, h3⟩
    refine ⟨h2, fun h0 => h3 _ ?_⟩
    have : i - 1 < (xs.take i).length := by rw [List.length_take]; omega
    have e : xs.getD (i - 1) 0 = (xs.take i)[i - 1] := by rw [List.getElem_take, getD_nat xs (by omega)]
    rw [e]; exact List.getElem_mem _
  · rintro ⟨h2, h3⟩
    refine ⟨h, h2, fun y hy => ?_⟩
    obtain ⟨j, hj, rfl⟩ := List.mem_iff_getElem.1 hy
    have hj' := hj
    rw [List.length_take] at hj'
    have h4 := h3 (by omega)
    have e : xs.getD (i - 1) 0 = (xs.take i)[i - 1]'(by rw [List.length_take]; omega) := by rw [List.getElem_take, getD_nat xs (by omega)]
    rcases Nat.lt_or_ge j (i - 1) with c | c
    · have := List.pairwise_iff_getElem.1 h.2 j (i - 1) hj (by rw [List.length_take]; omega) c
      rw [← e] at this
      omega
    · have ej : j = i - 1 := by omega
      subst ej
      rw [← e]; exact h4
theorem inc_full {N : Nat} {xs : List Int} {i : Nat} (h : ¬ Inc N (xs.take i)) : ¬ Inc N xs := fun h' => h (h'.take i)
set_option maxHeartbeats 8000000 in
theorem fn32 (l : List Sh) (xs : List Int) (f : Bool) (hxl : xs.length ≤ 1000) : Ox.Fn Go.Proofs.Try.prog 32 (.acons (vD l) (.acons (vBo xs f) .anil)) (· = vT2 (bdI l xs f) (bdE l xs)) := by
  refine Ox.Fn.intro xok Go.Proofs.Try.func32 rfl Go.Proofs.Try.call32 (Nat.le_of_ble_eq_true rfl) (fun E M0 up => ?_)
  refine JK.start ?_
  (repeat (first | refine zs rfl ?_ | refine zg rfl rfl rfl ?_ | refine zd ?_ | refine JK.fin ?_ | refine JK.ret ?_ | refine zeq eqR rfl rfl rfl ?_ | refine zne eqR rfl rfl rfl ?_ | refine zeqg eqR rfl rfl rfl rfl ?_ | refine zneg eqR rfl rfl rfl rfl ?_ | refine zc rfl (fn22 l) rfl rfl ?_ | refine ze rfl (fn22 l) rfl ?_ | refine zk rfl rfl (fun _ => fn22 l) rfl rfl ?_))
  refine JK.cond rfl (fun hc => ?_) (fun hc => ?_)
  · (simp only [↓bif_or, ↓bif_and, ↓Bool.or_eq_true, ↓Bool.or_eq_false_iff, ↓Bool.and_eq_true, ↓Bool.and_eq_false_iff, ↓Bool.not_eq_true', ↓Bool.not_eq_false', ↓decide_eq_true_eq, ↓decide_eq_false_iff_not, ↓beq_iff_eq, ↓bne_iff_ne, ↓bne_eq_false_iff_eq, ↓ne_eq, ↓beq_eq_false_iff_ne, ↓Bool.not_eq_true] at hc; try simp only [Ty.dflt, Int.toNat_natCast] at hc)
    (repeat (first | refine zs rfl ?_ | refine zg rfl rfl rfl ?_ | refine zd ?_ | refine JK.fin ?_ | refine JK.ret ?_ | refine zeq eqR rfl rfl rfl ?_ | refine zne eqR rfl rfl rfl ?_ | refine zeqg eqR rfl rfl rfl rfl ?_ | refine zneg eqR rfl rfl rfl rfl ?_ | refine zc rfl (fn22 l) rfl rfl ?_ | refine ze rfl (fn22 l) rfl ?_ | refine zk rfl rfl (fun _ => fn22 l) rfl rfl ?_))
    refine ⟨.inl rfl, _, _, rfl, trivial, ?_⟩
    have e : bdE l xs = dayE l := by unfold bdE; rw [if_pos hc]
    unfold bdI; rw [e, if_neg hc]
  · (simp only [↓bif_or, ↓bif_and, ↓Bool.or_eq_true, ↓Bool.or_eq_false_iff, ↓Bool.and_eq_true, ↓Bool.and_eq_false_iff, ↓Bool.not_eq_true', ↓Bool.not_eq_false', ↓decide_eq_true_eq, ↓decide_eq_false_iff_not, ↓beq_iff_eq, ↓bne_iff_ne, ↓bne_eq_false_iff_eq, ↓ne_eq, ↓beq_eq_false_iff_ne, ↓Bool.not_eq_true] at hc; try simp only [Ty.dflt, Int.toNat_natCast] at hc)
    have hz : dayE l = 0 := by omega
    obtain ⟨d1, d8, dl⟩ := day_ok hz
    (repeat (first | refine zs rfl ?_ | refine zg rfl rfl rfl ?_ | refine zd ?_ | refine JK.fin ?_ | refine JK.ret ?_ | refine zeq eqR rfl rfl rfl ?_ | refine zne eqR rfl rfl rfl ?_ | refine zeqg eqR rfl rfl rfl rfl ?_ | refine zneg eqR rfl rfl rfl rfl ?_))
    refine JK.loop (fun i : Nat => ⟨[(0, vD l), (3, .lf (.optr 0 [])), (6, vI (i : Int))], [(0, .cell bdT (vBo xs f))], 1⟩)
      (fun i => i ≤ xs.length ∧ Inc l.length (xs.take i)) (fun i => xs.length - i) 0 ⟨Nat.zero_le _, Inc.nil _⟩ (by (exact JW.Auto (by conv => lhs; reduce))) fun i ⟨hi, hinc⟩ => ?_
    (repeat (first | refine zs rfl ?_ | refine zg rfl rfl rfl ?_ | refine zd ?_ | refine JK.fin ?_ | refine JK.ret ?_ | refine zeq eqR rfl rfl rfl ?_ | refine zne eqR rfl rfl rfl ?_ | refine zeqg eqR rfl rfl rfl rfl ?_ | refine zneg eqR rfl rfl rfl rfl ?_))
    refine JK.cond rfl (fun hd => ?_) (fun hd => ?_)
    · (simp only [↓bif_or, ↓bif_and, ↓Bool.or_eq_true, ↓Bool.or_eq_false_iff, ↓Bool.and_eq_true, ↓Bool.and_eq_false_iff, ↓Bool.not_eq_true', ↓Bool.not_eq_false', ↓decide_eq_true_eq, ↓decide_eq_false_iff_not, ↓beq_iff_eq, ↓bne_iff_ne, ↓bne_eq_false_iff_eq, ↓ne_eq, ↓beq_eq_false_iff_ne, ↓Bool.not_eq_true] at hd; try simp only [Ty.dflt, Int.toNat_natCast] at hd)
      have hi' : i < xs.length := by omega
      have hia := inc_at hi' hinc
      have hie : (0 ≤ xs.getD i 0 ∧ xs.getD i 0 < (l.length : Int)) ∧ (0 < i → xs.getD (i - 1) 0 < xs.getD i 0) ↔ (bif (bif decide (xs.getD i 0 < 0) then true else decide ((l.length : Int) ≤ xs.getD i 0)) then true else (bif decide (0 < (i : Int)) then decide (xs.getD i 0 ≤ xs.getD (((i : Int) - 1)).toNat 0) else false)) = false := by
        rw [show ((i : Int) - 1).toNat = i - 1 by omega]
        by_cases c1 : xs.getD i 0 < 0
        · rw [decide_eq_true c1]
          exact ⟨fun h => by omega, fun h => by cases h⟩
        · rw [decide_eq_false c1]
          by_cases c2 : (l.length : Int) ≤ xs.getD i 0
          · rw [decide_eq_true c2]
            exact ⟨fun h => by omega, fun h => by cases h⟩
          · rw [decide_eq_false c2]
            by_cases c3 : 0 < i
            · rw [decide_eq_true (show 0 < (i : Int) by omega)]
              show _ ↔ decide (xs.getD i 0 ≤ xs.getD (i - 1) 0) = false
              rw [decide_eq_false_iff_not]
              exact ⟨fun h => by have := h.2 c3; omega, fun h => ⟨by omega, fun _ => by omega⟩⟩
            · rw [decide_eq_false (show ¬ 0 < (i : Int) by omega)]
              exact ⟨fun _ => rfl, fun _ => ⟨by omega, fun h => absurd h c3⟩⟩
      (repeat (first | refine zs rfl ?_ | refine zg rfl rfl rfl ?_ | refine zd ?_ | refine JK.fin ?_ | refine JK.ret ?_ | refine zeq eqR rfl rfl rfl ?_ | refine zne eqR rfl rfl rfl ?_ | refine zeqg eqR rfl rfl rfl rfl ?_ | refine zneg eqR rfl rfl rfl rfl ?_))
      refine JK.cond rfl (fun he => ?_) (fun he => ?_)
      · have hno : ¬ Inc l.length xs := inc_full (i := i + 1) fun h => by
          have := hie.1 (hia.1 h)
          have he2 := he.symm.trans this
          cases he2
        have e : bdE l xs = 3 := by unfold bdE; rw [if_neg (by omega), if_neg (fun h => hno h.1)]
        (repeat (first | refine zs rfl ?_ | refine zg rfl rfl rfl ?_ | refine zd ?_ | refine JK.fin ?_ | refine JK.ret ?_ | refine zeq eqR rfl rfl rfl ?_ | refine zne eqR rfl rfl rfl ?_ | refine zeqg eqR rfl rfl rfl rfl ?_ | refine zneg eqR rfl rfl rfl rfl ?_))
        refine ⟨.inl rfl, _, _, rfl, trivial, ?_⟩
        unfold bdI; rw [e]; rfl
      · have hyes := hia.2 (hie.2 he)
        (repeat (first | refine zs rfl ?_ | refine zg rfl rfl rfl ?_ | refine zd ?_ | refine JK.fin ?_ | refine JK.ret ?_ | refine zeq eqR rfl rfl rfl ?_ | refine zne eqR rfl rfl rfl ?_ | refine zeqg eqR rfl rfl rfl rfl ?_ | refine zneg eqR rfl rfl rfl rfl ?_))
        exact ⟨i + 1, by (exact JW.Auto (by conv => lhs; reduce)), ⟨by omega, hyes⟩, by omega⟩
    · (simp only [↓bif_or, ↓bif_and, ↓Bool.or_eq_true, ↓Bool.or_eq_false_iff, ↓Bool.and_eq_true, ↓Bool.and_eq_false_iff, ↓Bool.not_eq_true', ↓Bool.not_eq_false', ↓decide_eq_true_eq, ↓decide_eq_false_iff_not, ↓beq_iff_eq, ↓bne_iff_ne, ↓bne_eq_false_iff_eq, ↓ne_eq, ↓beq_eq_false_iff_ne, ↓Bool.not_eq_true] at hd; try simp only [Ty.dflt, Int.toNat_natCast] at hd)
      have he : i = xs.length := by omega
      rw [he, List.take_length] at hinc
      (repeat (first | refine zs rfl ?_ | refine zg rfl rfl rfl ?_ | refine zd ?_ | refine JK.fin ?_ | refine JK.ret ?_ | refine zeq eqR rfl rfl rfl ?_ | refine zne eqR rfl rfl rfl ?_ | refine zeqg eqR rfl rfl rfl rfl ?_ | refine zneg eqR rfl rfl rfl rfl ?_))
      refine JK.cond rfl (fun hf => ?_) (fun hf => ?_)
      · have hx0 : xs = [] := by
          have : ((xs.length : Int) == 0) = true := hf
          rw [beq_iff_eq] at this
          exact List.length_eq_zero_iff.1 (by omega)
        have e : bdE l xs = 3 := by unfold bdE; rw [if_neg (by omega), if_neg (fun h => h.2 hx0)]
        (repeat (first | refine zs rfl ?_ | refine zg rfl rfl rfl ?_ | refine zd ?_ | refine JK.fin ?_ | refine JK.ret ?_ | refine zeq eqR rfl rfl rfl ?_ | refine zne eqR rfl rfl rfl ?_ | refine zeqg eqR rfl rfl rfl rfl ?_ | refine zneg eqR rfl rfl rfl rfl ?_))
        refine ⟨.inl rfl, _, _, rfl, trivial, ?_⟩
        unfold bdI; rw [e]; rfl
      · have hx0 : xs ≠ [] := fun e => by
          have : ((xs.length : Int) == 0) = false := hf
          rw [e] at this; cases this
        have e : bdE l xs = 0 := bd_ok.2 ⟨hz, hinc, hx0⟩
        have e2 : bdI l xs f = bdS l (natL xs) f := by unfold bdI; rw [if_pos e]
        rw [e, e2]
        obtain ⟨n1, n2, n3⟩ := hinc.nat
        have n4 : natL xs ≠ [] := fun h => hx0 (by rw [← n3, h]; rfl)
        have hls := lsF_all dl f n1 n2 n4
        unfold bdS
        rw [← hls]
        have hmem : ∀ k : Nat, decide ((k : Int) ∈ xs) = decide (k ∈ natL xs) := fun k => by
          refine decide_eq_decide.2 ?_
          conv => lhs; rw [← n3]
          exact mem_iL
        have hwS : ∀ k, wF l (fun n => decide (n ∈ natL xs)) f k = if k ∈ natL xs then (if f = true then cN l k else aN l k) else Min.min (aN l k) (cN l k) := fun k => by
          unfold wF
          by_cases h : k ∈ natL xs <;> simp [h]
        have hlS : ∀ k, lsF l f (natL xs) (k + 1) = if k ∈ natL xs then (if lsF l f (natL xs) k < 0 ∨ wait l f k < lsF l f (natL xs) k then wait l f k else lsF l f (natL xs) k) else lsF l f (natL xs) k := fun k => rfl
        generalize natL xs = o at hmem hwS hlS ⊢
        (repeat (first | refine zs rfl ?_ | refine zg rfl rfl rfl ?_ | refine zd ?_ | refine JK.fin ?_ | refine JK.ret ?_ | refine zeq eqR rfl rfl rfl ?_ | refine zne eqR rfl rfl rfl ?_ | refine zeqg eqR rfl rfl rfl rfl ?_ | refine zneg eqR rfl rfl rfl rfl ?_))
        refine JK.loop (fun i : Nat => ⟨[(0, vD l), (3, .lf (.optr 0 [])), (7, vI (sm (wF l (fun n => decide (n ∈ o)) f) (List.range i))), (8, vI (lsF l f o i)), (9, vI (i : Int))], [(0, .cell bdT (vBo xs f))], 1⟩)
          (fun i => i ≤ l.length) (fun i => l.length - i) 0 (Nat.zero_le _) (by (exact JW.Auto (by conv => lhs; reduce))) fun k hk => ?_
        have hb1 := smw_bd dl (fun n => decide (n ∈ o)) f k
        have hb2 := lsF_bd dl f o k
        have hs1 := sm_range (wF l (fun n => decide (n ∈ o)) f) k
        have hs2 := hlS k
        rw [hwS k] at hs1
        have hfin : k = l.length → sm (wF l (fun n => decide (n ∈ o)) f) (List.range k) = sm (wF l (fun n => decide (n ∈ o)) f) (List.range l.length) ∧ lsF l f o k = lsF l f o l.length := fun e => by rw [e]; exact ⟨rfl, rfl⟩
        generalize sm (wF l (fun n => decide (n ∈ o)) f) (List.range k) = S at hb1 hs1 hfin ⊢
        generalize lsF l f o k = m at hb2 hs2 hfin ⊢
        have hsb := sh_bd dl k
        (repeat (first | refine zs rfl ?_ | refine zg rfl rfl rfl ?_ | refine zd ?_ | refine JK.fin ?_ | refine JK.ret ?_ | refine zeq eqR rfl rfl rfl ?_ | refine zne eqR rfl rfl rfl ?_ | refine zeqg eqR rfl rfl rfl rfl ?_ | refine zneg eqR rfl rfl rfl rfl ?_))
        refine JK.cond rfl (fun hg => ?_) (fun hg => ?_)
        · (simp only [↓bif_or, ↓bif_and, ↓Bool.or_eq_true, ↓Bool.or_eq_false_iff, ↓Bool.and_eq_true, ↓Bool.and_eq_false_iff, ↓Bool.not_eq_true', ↓Bool.not_eq_false', ↓decide_eq_true_eq, ↓decide_eq_false_iff_not, ↓beq_iff_eq, ↓bne_iff_ne, ↓bne_eq_false_iff_eq, ↓ne_eq, ↓beq_eq_false_iff_ne, ↓Bool.not_eq_true] at hg; try simp only [Ty.dflt, Int.toNat_natCast] at hg)
          have h59 := fn59 xs (k : Int)
          rw [hmem k] at h59
          have ea : aN l k = (l.getD k (0, 0, 0, ())).1 := rfl
          have ec : cN l k = (l.getD k (0, 0, 0, ())).2.2.1 := rfl
          have ew : wait l f k = if f = true then (l.getD k (0, 0, 0, ())).1 + (l.getD k (0, 0, 0, ())).2.1 else (l.getD k (0, 0, 0, ())).2.1 + (l.getD k (0, 0, 0, ())).2.2.1 := rfl
          rw [ea, ec] at hs1
          have hwb := wait_bd dl f k
          rw [ew] at hs2 hwb
          by_cases hm : k ∈ o
          · rw [decide_eq_true hm] at h59
            rw [if_pos hm] at hs1 hs2
            (repeat (first | refine zs rfl ?_ | refine zg rfl rfl rfl ?_ | refine zd ?_ | refine JK.fin ?_ | refine JK.ret ?_ | refine zeq eqR rfl rfl rfl ?_ | refine zne eqR rfl rfl rfl ?_ | refine zeqg eqR rfl rfl rfl rfl ?_ | refine zneg eqR rfl rfl rfl rfl ?_ | refine zc rfl (h59) rfl rfl ?_ | refine ze rfl (h59) rfl ?_ | refine zk rfl rfl (fun _ => h59) rfl rfl ?_))
            refine JK.cond rfl (fun h => by cases h) (fun _ => ?_)
            (repeat (first | refine zs rfl ?_ | refine zg rfl rfl rfl ?_ | refine zd ?_ | refine JK.fin ?_ | refine JK.ret ?_ | refine zeq eqR rfl rfl rfl ?_ | refine zne eqR rfl rfl rfl ?_ | refine zeqg eqR rfl rfl rfl rfl ?_ | refine zneg eqR rfl rfl rfl rfl ?_))
            cases f with
            | true =>
              rw [if_pos rfl] at hs1 hs2 hwb
              refine JK.cond rfl (fun _ => ?_) (fun h => by cases h)
              (repeat (first | refine zs rfl ?_ | refine zg rfl rfl rfl ?_ | refine zd ?_ | refine JK.fin ?_ | refine JK.ret ?_ | refine zeq eqR rfl rfl rfl ?_ | refine zne eqR rfl rfl rfl ?_ | refine zeqg eqR rfl rfl rfl rfl ?_ | refine zneg eqR rfl rfl rfl rfl ?_))
              refine JK.cond rfl (fun hh => ?_) (fun hh => ?_)
              · have hh' : m < 0 ∨ (l.getD k (0, 0, 0, ())).1 + (l.getD k (0, 0, 0, ())).2.1 < m := by
                  have hd2 : (bif decide (m < 0) then true else decide ((l.getD k (0, 0, 0, ())).1 + (l.getD k (0, 0, 0, ())).2.1 < m)) = true := hh
                  by_cases e : m < 0
                  · exact .inl e
                  · rw [decide_eq_false e] at hd2; exact .inr (of_decide_eq_true hd2)
                rw [if_pos hh'] at hs2
                (repeat (first | refine zs rfl ?_ | refine zg rfl rfl rfl ?_ | refine zd ?_ | refine JK.fin ?_ | refine JK.ret ?_ | refine zeq eqR rfl rfl rfl ?_ | refine zne eqR rfl rfl rfl ?_ | refine zeqg eqR rfl rfl rfl rfl ?_ | refine zneg eqR rfl rfl rfl rfl ?_))
                refine ⟨k + 1, ?_, by omega, by omega⟩
                rw [hs1, hs2]
                (exact JW.Auto (by conv => lhs; reduce))
              · have hh' : ¬ (m < 0 ∨ (l.getD k (0, 0, 0, ())).1 + (l.getD k (0, 0, 0, ())).2.1 < m) := by
                  have hd2 : (bif decide (m < 0) then true else decide ((l.getD k (0, 0, 0, ())).1 + (l.getD k (0, 0, 0, ())).2.1 < m)) = false := hh
                  rintro (e | e)
                  · rw [decide_eq_true e] at hd2; cases hd2
                  · rw [decide_eq_true e] at hd2
                    by_cases e2 : m < 0
                    · rw [decide_eq_true e2] at hd2; cases hd2
                    · rw [decide_eq_false e2] at hd2; cases hd2
                rw [if_neg hh'] at hs2
                (repeat (first | refine zs rfl ?_ | refine zg rfl rfl rfl ?_ | refine zd ?_ | refine JK.fin ?_ | refine JK.ret ?_ | refine zeq eqR rfl rfl rfl ?_ | refine zne eqR rfl rfl rfl ?_ | refine zeqg eqR rfl rfl rfl rfl ?_ | refine zneg eqR rfl rfl rfl rfl ?_))
                refine ⟨k + 1, ?_, by omega, by omega⟩
                rw [hs1, hs2]
                (exact JW.Auto (by conv => lhs; reduce))
            | false =>
              rw [if_neg (show ¬ (false = true) by decide)] at hs1 hs2 hwb
              refine JK.cond rfl (fun h => by cases h) (fun _ => ?_)
              (repeat (first | refine zs rfl ?_ | refine zg rfl rfl rfl ?_ | refine zd ?_ | refine JK.fin ?_ | refine JK.ret ?_ | refine zeq eqR rfl rfl rfl ?_ | refine zne eqR rfl rfl rfl ?_ | refine zeqg eqR rfl rfl rfl rfl ?_ | refine zneg eqR rfl rfl rfl rfl ?_))
              refine JK.cond rfl (fun hh => ?_) (fun hh => ?_)
              · have hh' : m < 0 ∨ (l.getD k (0, 0, 0, ())).2.1 + (l.getD k (0, 0, 0, ())).2.2.1 < m := by
                  have hd2 : (bif decide (m < 0) then true else decide ((l.getD k (0, 0, 0, ())).2.1 + (l.getD k (0, 0, 0, ())).2.2.1 < m)) = true := hh
                  by_cases e : m < 0
                  · exact .inl e
                  · rw [decide_eq_false e] at hd2; exact .inr (of_decide_eq_true hd2)
                rw [if_pos hh'] at hs2
                (repeat (first | refine zs rfl ?_ | refine zg rfl rfl rfl ?_ | refine zd ?_ | refine JK.fin ?_ | refine JK.ret ?_ | refine zeq eqR rfl rfl rfl ?_ | refine zne eqR rfl rfl rfl ?_ | refine zeqg eqR rfl rfl rfl rfl ?_ | refine zneg eqR rfl rfl rfl rfl ?_))
                refine ⟨k + 1, ?_, by omega, by omega⟩
                rw [hs1, hs2]
                (exact JW.Auto (by conv => lhs; reduce))
              · have hh' : ¬ (m < 0 ∨ (l.getD k (0, 0, 0, ())).2.1 + (l.getD k (0, 0, 0, ())).2.2.1 < m) := by
                  have hd2 : (bif decide (m < 0) then true else decide ((l.getD k (0, 0, 0, ())).2.1 + (l.getD k (0, 0, 0, ())).2.2.1 < m)) = false := hh
                  rintro (e | e)
                  · rw [decide_eq_true e] at hd2; cases hd2
                  · rw [decide_eq_true e] at hd2
                    by_cases e2 : m < 0
                    · rw [decide_eq_true e2] at hd2; cases hd2
                    · rw [decide_eq_false e2] at hd2; cases hd2
                rw [if_neg hh'] at hs2
                (repeat (first | refine zs rfl ?_ | refine zg rfl rfl rfl ?_ | refine zd ?_ | refine JK.fin ?_ | refine JK.ret ?_ | refine zeq eqR rfl rfl rfl ?_ | refine zne eqR rfl rfl rfl ?_ | refine zeqg eqR rfl rfl rfl rfl ?_ | refine zneg eqR rfl rfl rfl rfl ?_))
                refine ⟨k + 1, ?_, by omega, by omega⟩
                rw [hs1, hs2]
                (exact JW.Auto (by conv => lhs; reduce))
          · rw [decide_eq_false hm] at h59
            rw [if_neg hm] at hs1 hs2
            (repeat (first | refine zs rfl ?_ | refine zg rfl rfl rfl ?_ | refine zd ?_ | refine JK.fin ?_ | refine JK.ret ?_ | refine zeq eqR rfl rfl rfl ?_ | refine zne eqR rfl rfl rfl ?_ | refine zeqg eqR rfl rfl rfl rfl ?_ | refine zneg eqR rfl rfl rfl rfl ?_ | refine zc rfl (h59) rfl rfl ?_ | refine ze rfl (h59) rfl ?_ | refine zk rfl rfl (fun _ => h59) rfl rfl ?_))
            refine JK.cond rfl (fun _ => ?_) (fun h => by cases h)
            (repeat (first | refine zs rfl ?_ | refine zg rfl rfl rfl ?_ | refine zd ?_ | refine JK.fin ?_ | refine JK.ret ?_ | refine zeq eqR rfl rfl rfl ?_ | refine zne eqR rfl rfl rfl ?_ | refine zeqg eqR rfl rfl rfl rfl ?_ | refine zneg eqR rfl rfl rfl rfl ?_))
            refine ⟨k + 1, ?_, by omega, by omega⟩
            rw [hs1, hs2]
            (exact JW.Auto (by conv => lhs; reduce))
        · (simp only [↓bif_or, ↓bif_and, ↓Bool.or_eq_true, ↓Bool.or_eq_false_iff, ↓Bool.and_eq_true, ↓Bool.and_eq_false_iff, ↓Bool.not_eq_true', ↓Bool.not_eq_false', ↓decide_eq_true_eq, ↓decide_eq_false_iff_not, ↓beq_iff_eq, ↓bne_iff_ne, ↓bne_eq_false_iff_eq, ↓ne_eq, ↓beq_eq_false_iff_ne, ↓Bool.not_eq_true] at hg; try simp only [Ty.dflt, Int.toNat_natCast] at hg)
          have hf2 := hfin (by omega)
          rw [← hf2.1, ← hf2.2]
          (repeat (first | refine zs rfl ?_ | refine zg rfl rfl rfl ?_ | refine zd ?_ | refine JK.fin ?_ | refine JK.ret ?_ | refine zeq eqR rfl rfl rfl ?_ | refine zne eqR rfl rfl rfl ?_ | refine zeqg eqR rfl rfl rfl rfl ?_ | refine zneg eqR rfl rfl rfl rfl ?_))
          refine ⟨.inl rfl, _, _, rfl, trivial, ?_⟩
          rfl
set_option maxHeartbeats 8000000 in
theorem fn31 (l : List Sh) (xs : List Int) (f : Bool) (hxl : xs.length ≤ 1000) : Ox.Fn Go.Proofs.Try.prog 31 (.acons (vD l) (.acons (vBo xs f) .anil)) (· = vT2 (bdI l xs f) (bdE l xs)) := by
  refine Ox.Fn.intro xok Go.Proofs.Try.func31 rfl Go.Proofs.Try.call31 (Nat.le_of_ble_eq_true rfl) (fun E M0 up => ?_)
  refine JK.start ?_
  have h55 := fn55 l
  unfold vOp at h55
  by_cases hz : dayE l = 0
  · rw [if_pos hz, hz] at h55
    obtain ⟨d1, d8, dl⟩ := day_ok hz
    (repeat (first | refine zs rfl ?_ | refine zg rfl rfl rfl ?_ | refine zd ?_ | refine JK.fin ?_ | refine JK.ret ?_ | refine zeq eqR rfl rfl rfl ?_ | refine zne eqR rfl rfl rfl ?_ | refine zeqg eqR rfl rfl rfl rfl ?_ | refine zneg eqR rfl rfl rfl rfl ?_ | refine zc rfl (h55) rfl rfl ?_ | refine ze rfl (h55) rfl ?_ | refine zk rfl rfl (fun _ => h55) rfl rfl ?_))
    refine JK.cond rfl (fun h => absurd h (by decide)) (fun _ => ?_)
    (repeat (first | refine zs rfl ?_ | refine zg rfl rfl rfl ?_ | refine zd ?_ | refine JK.fin ?_ | refine JK.ret ?_ | refine zeq eqR rfl rfl rfl ?_ | refine zne eqR rfl rfl rfl ?_ | refine zeqg eqR rfl rfl rfl rfl ?_ | refine zneg eqR rfl rfl rfl rfl ?_))
    refine JK.loop (fun i : Nat => ⟨[(0, vD l), (3, .lf (.optr 0 [])), (6, vH l (prS l) (leS l)), (8, .lf (.optr 1 [])), (9, vI (nxI (xs.take i))), (21, vL xs), (22, vI xs.length), (23, vI (i : Int))], [(0, .cell bdT (vBo xs f)), (1, .cell (.arr 8 (.int .i64)) (vR (rowO (natL (xs.take i)))))], 2⟩)
      (fun i => i ≤ xs.length ∧ Inc l.length (xs.take i)) (fun i => xs.length - i) 0 ⟨Nat.zero_le _, Inc.nil _⟩ ?_ fun i ⟨hi, hinc⟩ => ?_
    · have e : rowO (natL (xs.take 0)) = List.replicate 8 0 := rfl
      rw [e]
      (exact JW.Auto (by conv => lhs; reduce))
    have hnb := nxI_bd hinc
    have hnl := fun x => nxI_le hinc (x := x)
    have hrl := rowO_len (natL (xs.take i))
    have hsn : ∀ x : Nat, x < 8 → i < xs.length → xs.getD i 0 = (x : Int) → rowO (natL (xs.take (i + 1))) = (rowO (natL (xs.take i))).set x 1 := fun x hx hlt e => by
      rw [take_snoc xs hlt 0, e, ← rowO_snoc _ hx]
      simp
    have hnx : i < xs.length → nxI (xs.take (i + 1)) = xs.getD i 0 + 1 := fun h => by rw [take_snoc xs h 0]; exact nxI_snoc _ _
    have hfin : i = xs.length → rowO (natL (xs.take i)) = rowO (natL xs) := fun e => by rw [e, List.take_length]
    generalize nxI (xs.take i) = nn at hnb hnl ⊢
    generalize rowO (natL (xs.take i)) = R at hrl hsn hfin ⊢
    (repeat (first | refine zs rfl ?_ | refine zg rfl rfl rfl ?_ | refine zd ?_ | refine JK.fin ?_ | refine JK.ret ?_ | refine zeq eqR rfl rfl rfl ?_ | refine zne eqR rfl rfl rfl ?_ | refine zeqg eqR rfl rfl rfl rfl ?_ | refine zneg eqR rfl rfl rfl rfl ?_))
    refine JK.cond rfl (fun hd => ?_) (fun hd => ?_)
    · (simp only [↓bif_or, ↓bif_and, ↓Bool.or_eq_true, ↓Bool.or_eq_false_iff, ↓Bool.and_eq_true, ↓Bool.and_eq_false_iff, ↓Bool.not_eq_true', ↓Bool.not_eq_false', ↓decide_eq_true_eq, ↓decide_eq_false_iff_not, ↓beq_iff_eq, ↓bne_iff_ne, ↓bne_eq_false_iff_eq, ↓ne_eq, ↓beq_eq_false_iff_ne, ↓Bool.not_eq_true] at hd; try simp only [Ty.dflt, Int.toNat_natCast] at hd)
      have hi' : i < xs.length := by omega
      have hia : Inc l.length (xs.take (i + 1)) ↔ nn ≤ xs.getD i 0 ∧ xs.getD i 0 < (l.length : Int) := by
        rw [take_snoc xs hi' 0, Inc.snoc, hnl]
        exact ⟨fun h => ⟨⟨h.2.1.1, h.2.2⟩, h.2.1.2⟩, fun h => ⟨hinc, ⟨h.1.1, h.2⟩, h.1.2⟩⟩
      (repeat (first | refine zs rfl ?_ | refine zg rfl rfl rfl ?_ | refine zd ?_ | refine JK.fin ?_ | refine JK.ret ?_ | refine zeq eqR rfl rfl rfl ?_ | refine zne eqR rfl rfl rfl ?_ | refine zeqg eqR rfl rfl rfl rfl ?_ | refine zneg eqR rfl rfl rfl rfl ?_))
      refine JK.cond rfl (fun he => ?_) (fun he => ?_)
      · have he2 : ¬ (nn ≤ xs.getD i 0 ∧ xs.getD i 0 < (l.length : Int)) := by
          rintro ⟨c1, c2⟩
          have he3 : (bif decide (xs.getD i 0 < nn) then true else decide ((l.length : Int) ≤ xs.getD i 0)) = true := he
          rw [decide_eq_false (by omega), decide_eq_false (by omega)] at he3
          cases he3
        have hno : ¬ Inc l.length xs := inc_full (i := i + 1) fun h => he2 (hia.1 h)
        have e : bdE l xs = 3 := by unfold bdE; rw [if_neg (by omega), if_neg (fun h => hno h.1)]
        (repeat (first | refine zs rfl ?_ | refine zg rfl rfl rfl ?_ | refine zd ?_ | refine JK.fin ?_ | refine JK.ret ?_ | refine zeq eqR rfl rfl rfl ?_ | refine zne eqR rfl rfl rfl ?_ | refine zeqg eqR rfl rfl rfl rfl ?_ | refine zneg eqR rfl rfl rfl rfl ?_))
        refine ⟨.inl rfl, _, _, rfl, trivial, ?_⟩
        unfold bdI; rw [e]; rfl
      · have he2 : nn ≤ xs.getD i 0 ∧ xs.getD i 0 < (l.length : Int) := by
          have he3 : (bif decide (xs.getD i 0 < nn) then true else decide ((l.length : Int) ≤ xs.getD i 0)) = false := he
          by_cases c1 : xs.getD i 0 < nn
          · rw [decide_eq_true c1] at he3; cases he3
          · rw [decide_eq_false c1] at he3
            have := of_decide_eq_false he3
            omega
        have hyes := hia.2 he2
        have hs' := hsn (xs.getD i 0).toNat (by omega) hi' (by omega)
        have hn' := hnx hi'
        (repeat (first | refine zs rfl ?_ | refine zg rfl rfl rfl ?_ | refine zd ?_ | refine JK.fin ?_ | refine JK.ret ?_ | refine zeq eqR rfl rfl rfl ?_ | refine zne eqR rfl rfl rfl ?_ | refine zeqg eqR rfl rfl rfl rfl ?_ | refine zneg eqR rfl rfl rfl rfl ?_))
        refine ⟨i + 1, ?_, ⟨by omega, hyes⟩, by omega⟩
        rw [hs', hn']
        (exact JW.Auto (by conv => lhs; reduce))
    · (simp only [↓bif_or, ↓bif_and, ↓Bool.or_eq_true, ↓Bool.or_eq_false_iff, ↓Bool.and_eq_true, ↓Bool.and_eq_false_iff, ↓Bool.not_eq_true', ↓Bool.not_eq_false', ↓decide_eq_true_eq, ↓decide_eq_false_iff_not, ↓beq_iff_eq, ↓bne_iff_ne, ↓bne_eq_false_iff_eq, ↓ne_eq, ↓beq_eq_false_iff_ne, ↓Bool.not_eq_true] at hd; try simp only [Ty.dflt, Int.toNat_natCast] at hd)
      have he : i = xs.length := by omega
      rw [he, List.take_length] at hinc
      rw [hfin he]
      obtain ⟨n1, n2, n3⟩ := hinc.nat
      have n8 : ∀ n ∈ natL xs, n < 8 := fun n hn => by have := n2 n hn; omega
      have hz0 := rowO_zero n8
      have hmr := minR_rowO d8 n1 n8 f
      have how := ownL_rowO n1 n8
      have hrl := rowO_len (natL xs)
      have h58 := fun h1 h2 => fn58 l (prS l) (leS l) (rowO (natL xs)) f dl d8 hrl h1 h2
      rw [how, hmr] at h58
      generalize rowO (natL xs) = Q at hz0 h58 hrl ⊢
      (repeat (first | refine zs rfl ?_ | refine zg rfl rfl rfl ?_ | refine zd ?_ | refine JK.fin ?_ | refine JK.ret ?_ | refine zeq eqR rfl rfl rfl ?_ | refine zne eqR rfl rfl rfl ?_ | refine zeqg eqR rfl rfl rfl rfl ?_ | refine zneg eqR rfl rfl rfl rfl ?_))
      refine JK.cond rfl (fun hf => ?_) (fun hf => ?_)
      · have hx0 : xs = [] := by
          have h1 : natL xs = [] := hz0.1 (Ty.eqB_iff.1 hf)
          rw [← n3, h1]; rfl
        have e : bdE l xs = 3 := by unfold bdE; rw [if_neg (by omega), if_neg (fun h => h.2 hx0)]
        (repeat (first | refine zs rfl ?_ | refine zg rfl rfl rfl ?_ | refine zd ?_ | refine JK.fin ?_ | refine JK.ret ?_ | refine zeq eqR rfl rfl rfl ?_ | refine zne eqR rfl rfl rfl ?_ | refine zeqg eqR rfl rfl rfl rfl ?_ | refine zneg eqR rfl rfl rfl rfl ?_))
        refine ⟨.inl rfl, _, _, rfl, trivial, ?_⟩
        unfold bdI; rw [e]; rfl
      · have hx0 : natL xs ≠ [] := fun h1 => by
          have h2 := Ty.eqB_iff (t := .arr 8 (.int .i64)).2 (hz0.2 h1)
          exact absurd (h2.symm.trans hf) (by decide)
        have hx1 : xs ≠ [] := fun e => hx0 (by rw [e]; rfl)
        have e : bdE l xs = 0 := bd_ok.2 ⟨hz, hinc, hx1⟩
        have e2 : bdI l xs f = bdS l (natL xs) f := by unfold bdI; rw [if_pos e]
        rw [e, e2]
        have c58 := h58 hx0 n2
        (repeat (first | refine zs rfl ?_ | refine zg rfl rfl rfl ?_ | refine zd ?_ | refine JK.fin ?_ | refine JK.ret ?_ | refine zeq eqR rfl rfl rfl ?_ | refine zne eqR rfl rfl rfl ?_ | refine zeqg eqR rfl rfl rfl rfl ?_ | refine zneg eqR rfl rfl rfl rfl ?_ | refine zc rfl (c58) rfl rfl ?_ | refine ze rfl (c58) rfl ?_ | refine zk rfl rfl (fun _ => c58) rfl rfl ?_))
        refine ⟨.inl rfl, _, _, rfl, trivial, ?_⟩
        rfl
  · have e : bdE l xs = dayE l := by unfold bdE; rw [if_pos hz]
    have e2 : bdI l xs f = 0 := by unfold bdI; rw [e, if_neg hz]
    rw [e, e2]
    rw [if_neg hz] at h55
    generalize dayE l = z at hz h55 ⊢
    (repeat (first | refine zs rfl ?_ | refine zg rfl rfl rfl ?_ | refine zd ?_ | refine JK.fin ?_ | refine JK.ret ?_ | refine zeq eqR rfl rfl rfl ?_ | refine zne eqR rfl rfl rfl ?_ | refine zeqg eqR rfl rfl rfl rfl ?_ | refine zneg eqR rfl rfl rfl rfl ?_ | refine zc rfl (h55) rfl rfl ?_ | refine ze rfl (h55) rfl ?_ | refine zk rfl rfl (fun _ => h55) rfl rfl ?_))
    refine JK.cond rfl (fun _ => ?_) (fun h => ?_)
    · (repeat (first | refine zs rfl ?_ | refine zg rfl rfl rfl ?_ | refine zd ?_ | refine JK.fin ?_ | refine JK.ret ?_ | refine zeq eqR rfl rfl rfl ?_ | refine zne eqR rfl rfl rfl ?_ | refine zeqg eqR rfl rfl rfl rfl ?_ | refine zneg eqR rfl rfl rfl rfl ?_))
      refine ⟨.inl rfl, _, _, rfl, trivial, ?_⟩
      rfl
    · (simp only [↓bif_or, ↓bif_and, ↓Bool.or_eq_true, ↓Bool.or_eq_false_iff, ↓Bool.and_eq_true, ↓Bool.and_eq_false_iff, ↓Bool.not_eq_true', ↓Bool.not_eq_false', ↓decide_eq_true_eq, ↓decide_eq_false_iff_not, ↓beq_iff_eq, ↓bne_iff_ne, ↓bne_eq_false_iff_eq, ↓ne_eq, ↓beq_eq_false_iff_ne, ↓Bool.not_eq_true] at h; try simp only [Ty.dflt, Int.toNat_natCast] at h)
      omega
end Go.Proofs.Ythiocglfgcnlhaa

namespace Go.Proofs.Ythiocglfgcnlhaa
open Go Go.RowKit Ox Ox.Sh
attribute [local irreducible] JC JL JK JW

theorem ruleF_sorted (l : List Sh) : ∀ (f : Nat) {a : List Nat}, a.length ≤ f → a.Nodup → (ruleF l f a).Pairwise fun i j => rk l i ≤ rk l j
  | 0, a, _, _ => by cases a <;> exact List.Pairwise.nil
  | f + 1, [], _, _ => List.Pairwise.nil
  | f + 1, b :: r, h, hn => by
    obtain ⟨hm, hle⟩ := leastG_spec (rk l) r b
    have hp := filter_perm hn hm
    have hlen := hp.length_eq
    have h1 : ((b :: r).filter fun k => decide (k ≠ leastG (rk l) b r)).length ≤ f := by simp only [List.length_cons] at hlen h ⊢; omega
    rw [ruleF]
    refine List.pairwise_cons.2 ⟨fun x hx => ?_, ruleF_sorted l f h1 (hn.filter _)⟩
    have := (ruleF_perm l f h1 (hn.filter _)).mem_iff.1 hx
    exact hle x (List.mem_filter.1 this).1
theorem from_own {l : List Sh} (h8 : l.length ≤ 8) (w : Int) (f : Bool) : (ownL (fromI l w f l.length) 8).Pairwise (· < ·) ∧ ∀ n, n ∈ ownL (fromI l w f l.length) 8 ↔ n < l.length ∧ w ≤ wait l f n := by
  refine ⟨List.Pairwise.filter _ List.pairwise_lt_range, fun n => ?_⟩
  unfold ownL
  rw [List.mem_filter, List.mem_range, decide_eq_true_iff]
  constructor
  · rintro ⟨h1, h2⟩
    rw [fromI_get _ _ _ _ h1] at h2
    by_cases c : n < l.length ∧ w ≤ wait l f n
    · exact c
    · rw [if_neg c] at h2; exact absurd h2 (by decide)
  · rintro ⟨h1, h2⟩
    refine ⟨by omega, ?_⟩
    rw [fromI_get _ _ _ _ (by omega : n < 8), if_pos ⟨h1, h2⟩]
theorem from_rowO {l : List Sh} (h8 : l.length ≤ 8) (w : Int) (f : Bool) : rowO (ownL (fromI l w f l.length) 8) = fromI l w f l.length := by
  have hm := (from_own h8 w f).2
  refine List.ext_getElem (by rw [rowO_len, fromI_len]) fun k h1 h2 => ?_
  have hk : k < 8 := by rw [rowO_len] at h1; exact h1
  have e1 := rowO_get (ownL (fromI l w f l.length) 8) hk
  have e2 := fromI_get l w f l.length hk
  rw [getD_nat _ h1] at e1
  rw [getD_nat _ h2] at e2
  rw [e1, e2]
  by_cases c : k < l.length ∧ w ≤ wait l f k
  · rw [if_pos c, if_pos ((hm k).2 c)]
  · rw [if_neg c, if_neg (fun h => c ((hm k).1 h))]
theorem wait_getD (l : List Sh) (f : Bool) (n : Nat) : waitS (l.getD n (0, 0, 0, ())) f = wait l f n := rfl
theorem leastW_of {l : List Sh} {f : Bool} {o : List Nat} {n : Nat} (hn : n ∈ o) (hm : ∀ m ∈ o, wait l f n ≤ wait l f m) : leastW l f o = wait l f n := by
  cases o with
  | nil => cases hn
  | cons b r =>
    obtain ⟨h1, h2⟩ := leastG_spec (wait l f) r b
    have e : leastW l f (b :: r) = wait l f (leastG (wait l f) b r) := rfl
    have := h2 n hn
    have := hm _ h1
    omega
theorem bd_lo {l : List Sh} (hl : okD l) {o : List Nat} (f : Bool) (hne : o ≠ []) (ho : ∀ n ∈ o, n < l.length) : bdS l o f ≤ leS l := by
  have hp := lvl_perm (rule_in l)
  have hs := sm_perm (f := wF l (fun n => decide (n ∈ o)) f) hp
  have h := bound_lo (l := l) (own := fun n => decide (n ∈ o)) (front := f) (o := ruleL l) (w := leastW l f o) ?_ ?_
  · unfold bdS
    rw [← hs]; exact h
  · obtain ⟨b, r, rfl⟩ := List.exists_cons_of_ne_nil hne
    exact ⟨b, hp.mem_iff.2 (List.mem_range.2 (ho b List.mem_cons_self)), by simp⟩
  · intro n _ hn
    have hn' := of_decide_eq_true hn
    cases o with
    | nil => cases hn'
    | cons b r => exact (leastG_spec (wait l f) r b).2 n hn'
def bi (l : List Sh) (f : Bool) : Option Nat := (List.range l.length).find? fun i => decide (minR l (fromI l (waitS (l.getD i (0, 0, 0, ())) f) f l.length) f = leS l)
def bndR (l : List Sh) : Option (Nat × Bool) := match bi l true with
  | some i => some (i, true)
  | none => match bi l false with
    | some i => some (i, false)
    | none => none
def bndO (l : List Sh) : List Nat := match bndR l with
  | some (i, f) => ownL (fromI l (waitS (l.getD i (0, 0, 0, ())) f) f l.length) 8
  | none => []
def bndF (l : List Sh) : Bool := match bndR l with
  | some (_, f) => f
  | none => false
theorem from_min {l : List Sh} (h8 : l.length ≤ 8) (w : Int) (f : Bool) : minR l (fromI l w f l.length) f = bdS l (ownL (fromI l w f l.length) 8) f := by
  obtain ⟨h1, h2⟩ := from_own h8 w f
  have := minR_rowO (l := l) h8 h1 (fun n hn => by have := ((h2 n).1 hn).1; omega) f
  rw [from_rowO h8] at this
  exact this
theorem bi_some {l : List Sh} (hl : okD l) (h1 : 1 ≤ l.length) (h8 : l.length ≤ 8) : ∃ f i, bi l f = some i := by
  have hne : ruleL l ≠ [] := fun e => by have := rule_len l; rw [e] at this; simp at this; omega
  have hp := lvl_perm (rule_in l)
  obtain ⟨n, hn, f, h⟩ := bound_hit hl hne (ruleF_sorted l _ (freeL_le _ _) (freeL_nodup _ _))
  have hn' := List.mem_range.1 (hp.mem_iff.1 hn)
  obtain ⟨q1, q2⟩ := from_own (l := l) h8 (wait l f n) f
  have e2 : leastW l f (ownL (fromI l (wait l f n) f l.length) 8) = wait l f n := leastW_of ((q2 n).2 ⟨hn', Int.le_refl _⟩) fun m hm => ((q2 m).1 hm).2
  have e3 : sm (wF l (fun m => decide (wait l f n ≤ wait l f m)) f) (ruleL l) = sm (wF l (fun m => decide (m ∈ ownL (fromI l (wait l f n) f l.length) 8)) f) (List.range l.length) := by
    rw [sm_perm hp]
    refine sm_congr fun m hm => ?_
    have hm' := List.mem_range.1 hm
    have : decide (m ∈ ownL (fromI l (wait l f n) f l.length) 8) = decide (wait l f n ≤ wait l f m) := decide_eq_decide.2 ((q2 m).trans ⟨fun h => h.2, fun h => ⟨hm', h⟩⟩)
    unfold wF
    simp only [this]
  have e4 : bdS l (ownL (fromI l (wait l f n) f l.length) 8) f = leS l := by
    have g1 := bd_lo hl (o := ownL (fromI l (wait l f n) f l.length) 8) f (fun e => by have := (q2 n).2 ⟨hn', Int.le_refl _⟩; rw [e] at this; cases this) fun m hm => ((q2 m).1 hm).1
    have g2 : leS l ≤ bdS l (ownL (fromI l (wait l f n) f l.length) 8) f := by
      unfold bdS
      rw [e2, ← e3]; exact h
    omega
  refine ⟨f, ?_⟩
  unfold bi
  cases hc : (List.range l.length).find? fun i => decide (minR l (fromI l (waitS (l.getD i (0, 0, 0, ())) f) f l.length) f = leS l) with
  | some i => exact ⟨i, rfl⟩
  | none =>
    have := List.find?_eq_none.1 hc n (List.mem_range.2 hn')
    rw [wait_getD, from_min h8, e4] at this
    simp at this
theorem bi_hit {l : List Sh} {f : Bool} {i : Nat} (h : bi l f = some i) : i < l.length ∧ minR l (fromI l (waitS (l.getD i (0, 0, 0, ())) f) f l.length) f = leS l ∧ ∀ k, k < i → minR l (fromI l (waitS (l.getD k (0, 0, 0, ())) f) f l.length) f ≠ leS l := by
  unfold bi at h
  rw [List.find?_range_eq_some] at h
  obtain ⟨h1, h2, h3⟩ := h
  exact ⟨List.mem_range.1 h2, of_decide_eq_true h1, fun k hk => by simpa using h3 k hk⟩
theorem bnd_ok {l : List Sh} (hz : dayE l = 0) : bdE l (iL (bndO l)) = 0 ∧ bdI l (iL (bndO l)) (bndF l) = leS l ∧ (∀ n ∈ bndO l, n < l.length) ∧ (bndO l).length ≤ 8 := by
  obtain ⟨d1, d8, dl⟩ := day_ok hz
  have key : ∃ i f, i < l.length ∧ minR l (fromI l (waitS (l.getD i (0, 0, 0, ())) f) f l.length) f = leS l ∧ bndO l = ownL (fromI l (waitS (l.getD i (0, 0, 0, ())) f) f l.length) 8 ∧ bndF l = f := by
    cases ht : bi l true with
    | some i =>
      have hb : bndR l = some (i, true) := by unfold bndR; rw [ht]
      exact ⟨i, true, (bi_hit ht).1, (bi_hit ht).2.1, by unfold bndO; rw [hb], by unfold bndF; rw [hb]⟩
    | none =>
      cases hf : bi l false with
      | some i =>
        have hb : bndR l = some (i, false) := by unfold bndR; rw [ht]; dsimp only; rw [hf]
        exact ⟨i, false, (bi_hit hf).1, (bi_hit hf).2.1, by unfold bndO; rw [hb], by unfold bndF; rw [hb]⟩
      | none =>
        obtain ⟨f, i, h⟩ := bi_some dl d1 d8
        cases f
        · rw [hf] at h; cases h
        · rw [ht] at h; cases h
  obtain ⟨i, f, h1, h2, h3, h4⟩ := key
  obtain ⟨q1, q2⟩ := from_own (l := l) d8 (waitS (l.getD i (0, 0, 0, ())) f) f
  have hi : i ∈ bndO l := by rw [h3]; exact (q2 i).2 ⟨h1, by rw [wait_getD]; exact Int.le_refl _⟩
  rw [from_min d8, ← h3] at h2
  rw [← h3] at q1 q2
  have hinc : Inc l.length (iL (bndO l)) := by
    refine ⟨fun x hx => ?_, ?_⟩
    · obtain ⟨n, hn, rfl⟩ := List.mem_map.1 hx
      have := ((q2 n).1 hn).1
      omega
    · unfold iL
      rw [List.pairwise_map]
      exact q1.imp fun h => by omega
  have hE : bdE l (iL (bndO l)) = 0 := bd_ok.2 ⟨hz, hinc, fun e => by rw [List.map_eq_nil_iff.1 e] at hi; cases hi⟩
  refine ⟨hE, ?_, fun n hn => ((q2 n).1 hn).1, by rw [h3]; exact ownL_len _ _⟩
  unfold bdI
  rw [if_pos hE, nat_iL, h4, h2]
end Go.Proofs.Ythiocglfgcnlhaa

namespace Go.Proofs.Ythiocglfgcnlhaa
open Go Go.RowKit Ox Ox.Sh
attribute [local irreducible] JC JL JK JW

def boI (l : List Sh) : List Int := if dayE l = 0 then iL (bndO l) else []
def boF (l : List Sh) : Bool := if dayE l = 0 then bndF l else false
set_option maxHeartbeats 4000000 in
theorem fn33 (l : List Sh) : Ox.Fn Go.Proofs.Try.prog 33 (.acons (vD l) .anil) (· = .tup (.acons (vBo (boI l) (boF l)) (.acons (vI (dayE l)) .anil))) := by
  refine Ox.Fn.intro xok Go.Proofs.Try.func33 rfl Go.Proofs.Try.call33 (Nat.le_of_ble_eq_true rfl) (fun E M0 up => ?_)
  refine JK.start ?_
  have h55 := fn55 l
  unfold vOp at h55
  by_cases hz : dayE l = 0
  · rw [if_pos hz, hz] at h55
    obtain ⟨d1, d8, dl⟩ := day_ok hz
    have e1 : boI l = iL (bndO l) := by unfold boI; rw [if_pos hz]
    have e2 : boF l = bndF l := by unfold boF; rw [if_pos hz]
    rw [e1, e2, hz]
    (repeat (first | refine zs rfl ?_ | refine zg rfl rfl rfl ?_ | refine zd ?_ | refine JK.fin ?_ | refine JK.ret ?_ | refine zc rfl (h55) rfl rfl ?_ | refine ze rfl (h55) rfl ?_ | refine zk rfl rfl (fun _ => h55) rfl rfl ?_))
    refine JK.cond rfl (fun h => absurd h (by decide)) (fun _ => ?_)
    (repeat (first | refine zs rfl ?_ | refine zg rfl rfl rfl ?_ | refine zd ?_ | refine JK.fin ?_ | refine JK.ret ?_))
    refine JK.loop (fun j : Nat => ⟨[(0, vD l), (2, .lf (.optr 0 [])), (4, vH l (prS l) (leS l)), (20, .lf (.osl 1)), (21, vI 2), (22, vI (j : Int))], [(0, .cell bdT (zav bdT)), (1, .sl 4 .bool [true, false])], 2⟩)
      (fun j => j ≤ 2 ∧ ∀ k, k < j → bi l ([true, false].getD k false) = none) (fun j => 2 - j) 0 ⟨by omega, fun k h => by omega⟩ (by (exact JW.Auto (by conv => lhs; reduce))) fun j ⟨hj, hno⟩ => ?_
    (repeat (first | refine zs rfl ?_ | refine zg rfl rfl rfl ?_ | refine zd ?_ | refine JK.fin ?_ | refine JK.ret ?_))
    refine JK.cond rfl (fun hc => ?_) (fun hc => ?_)
    · (simp only [↓bif_or, ↓bif_and, ↓Bool.or_eq_true, ↓Bool.or_eq_false_iff, ↓Bool.and_eq_true, ↓Bool.and_eq_false_iff, ↓Bool.not_eq_true', ↓Bool.not_eq_false', ↓decide_eq_true_eq, ↓decide_eq_false_iff_not, ↓beq_iff_eq, ↓bne_iff_ne, ↓bne_eq_false_iff_eq, ↓ne_eq, ↓beq_eq_false_iff_ne, ↓Bool.not_eq_true] at hc; try simp only [Ty.dflt, Int.toNat_natCast] at hc)
      have hj' : j < 2 := by omega
      have hbr : ∀ i, bi l ([true, false].getD j false) = some i → bndR l = some (i, [true, false].getD j false) := fun i h => by
        rcases (by omega : j = 0 ∨ j = 1) with rfl | rfl
        · have h' : bi l true = some i := h
          unfold bndR; rw [h']; rfl
        · have h0 : bi l true = none := hno 0 (by omega)
          have h' : bi l false = some i := h
          unfold bndR; rw [h0]; dsimp only; rw [h']; rfl
      have hno2 : bi l ([true, false].getD j false) = none → ∀ k, k < j + 1 → bi l ([true, false].getD k false) = none := fun h k hk => by
        by_cases e : k = j
        · rw [e]; exact h
        · exact hno k (by omega)
      have hfi : ∀ i, i < l.length → minR l (fromI l (waitS (l.getD i (0, 0, 0, ())) ([true, false].getD j false)) ([true, false].getD j false) l.length) ([true, false].getD j false) = leS l → (∀ k, k < i → minR l (fromI l (waitS (l.getD k (0, 0, 0, ())) ([true, false].getD j false)) ([true, false].getD j false) l.length) ([true, false].getD j false) ≠ leS l) → bi l ([true, false].getD j false) = some i := fun i h1 h2 h3 => by
        unfold bi
        rw [List.find?_range_eq_some]
        exact ⟨decide_eq_true h2, List.mem_range.2 h1, fun k hk => by simpa using h3 k hk⟩
      have hnn : (∀ k, k < l.length → minR l (fromI l (waitS (l.getD k (0, 0, 0, ())) ([true, false].getD j false)) ([true, false].getD j false) l.length) ([true, false].getD j false) ≠ leS l) → bi l ([true, false].getD j false) = none := fun h => by
        unfold bi
        rw [List.find?_eq_none]
        intro i hi
        simpa using h i (List.mem_range.1 hi)
      (repeat (first | refine zs rfl ?_ | refine zg rfl rfl rfl ?_ | refine zd ?_ | refine JK.fin ?_ | refine JK.ret ?_))
      have eF : [true, false].getD ((j : Int)).toNat (Ty.dflt .bool) = [true, false].getD j false := rfl
      rw [eF]
      generalize [true, false].getD j false = f at hbr hno2 hfi hnn ⊢
      refine JK.loop (fun i : Nat => ⟨[(0, vD l), (2, .lf (.optr 0 [])), (4, vH l (prS l) (leS l)), (7, vB f), (20, .lf (.osl 1)), (21, vI 2), (22, vI (j : Int)), (26, vD l), (27, vI l.length), (28, vI (i : Int))], [(0, .cell bdT (zav bdT)), (1, .sl 4 .bool [true, false])], 2⟩)
        (fun i => i ≤ l.length ∧ ∀ k, k < i → minR l (fromI l (waitS (l.getD k (0, 0, 0, ())) f) f l.length) f ≠ leS l) (fun i => l.length - i) 0 ⟨Nat.zero_le _, fun k h => absurd h (Nat.not_lt_zero _)⟩ (by (exact JW.Auto (by conv => lhs; reduce))) fun i ⟨hi, hnm⟩ => ?_
      (repeat (first | refine zs rfl ?_ | refine zg rfl rfl rfl ?_ | refine zd ?_ | refine JK.fin ?_ | refine JK.ret ?_))
      refine JK.cond rfl (fun hd => ?_) (fun hd => ?_)
      · (simp only [↓bif_or, ↓bif_and, ↓Bool.or_eq_true, ↓Bool.or_eq_false_iff, ↓Bool.and_eq_true, ↓Bool.and_eq_false_iff, ↓Bool.not_eq_true', ↓Bool.not_eq_false', ↓decide_eq_true_eq, ↓decide_eq_false_iff_not, ↓beq_iff_eq, ↓bne_iff_ne, ↓bne_eq_false_iff_eq, ↓ne_eq, ↓beq_eq_false_iff_ne, ↓Bool.not_eq_true] at hd; try simp only [Ty.dflt, Int.toNat_natCast] at hd)
        have hi' : i < l.length := by omega
        have hS : okS (l.getD i (0, 0, 0, ())) := dl.get i
        have h60 := fn60 l (prS l) (leS l) (l.getD i (0, 0, 0, ())) f dl d8 hS
        obtain ⟨q1, q2⟩ := from_own (l := l) d8 (waitS (l.getD i (0, 0, 0, ())) f) f
        have hlen := fromI_len l (waitS (l.getD i (0, 0, 0, ())) f) f l.length
        have h58 := fn58 l (prS l) (leS l) (fromI l (waitS (l.getD i (0, 0, 0, ())) f) f l.length) f dl d8 hlen (fun e => by have := (q2 i).2 ⟨hi', by rw [wait_getD]; exact Int.le_refl _⟩; rw [e] at this; cases this) (fun n hn => ((q2 n).1 hn).1)
        have h61 := fn61 (fromI l (waitS (l.getD i (0, 0, 0, ())) f) f l.length) hlen
        have hbO : bi l f = some i → bndO l = ownL (fromI l (waitS (l.getD i (0, 0, 0, ())) f) f l.length) 8 ∧ bndF l = f := fun h => by
          have := hbr i h
          unfold bndO bndF
          rw [this]; exact ⟨rfl, rfl⟩
        have hfi' := fun h => hfi i hi' h hnm
        have hnm' : minR l (fromI l (waitS (l.getD i (0, 0, 0, ())) f) f l.length) f ≠ leS l → ∀ k, k < i + 1 → minR l (fromI l (waitS (l.getD k (0, 0, 0, ())) f) f l.length) f ≠ leS l := fun h k hk => by
          by_cases e : k = i
          · rw [e]; exact h
          · exact hnm k (by omega)
        generalize fromI l (waitS (l.getD i (0, 0, 0, ())) f) f l.length = R at h60 hlen h58 h61 hbO hfi' hnm'
        generalize minR l R f = mv at h58 hfi' hnm'
        (repeat (first | refine zs rfl ?_ | refine zg rfl rfl rfl ?_ | refine zd ?_ | refine JK.fin ?_ | refine JK.ret ?_ | refine zc rfl (h60) rfl rfl ?_ | refine ze rfl (h60) rfl ?_ | refine zk rfl rfl (fun _ => h60) rfl rfl ?_ | refine zc rfl (h58) rfl rfl ?_ | refine ze rfl (h58) rfl ?_ | refine zk rfl rfl (fun _ => h58) rfl rfl ?_))
        refine JK.cond rfl (fun he => ?_) (fun he => ?_)
        · have he' : mv = leS l := beq_iff_eq.1 he
          obtain ⟨b1, b2⟩ := hbO (hfi' he')
          rw [b1, b2]
          (repeat (first | refine zs rfl ?_ | refine zg rfl rfl rfl ?_ | refine zd ?_ | refine JK.fin ?_ | refine JK.ret ?_ | refine zc rfl (h61) rfl rfl ?_ | refine ze rfl (h61) rfl ?_ | refine zk rfl rfl (fun _ => h61) rfl rfl ?_))
          refine ⟨.inl rfl, _, _, rfl, trivial, ?_⟩
          rfl
        · have he' : mv ≠ leS l := beq_eq_false_iff_ne.1 he
          (repeat (first | refine zs rfl ?_ | refine zg rfl rfl rfl ?_ | refine zd ?_ | refine JK.fin ?_ | refine JK.ret ?_))
          exact ⟨i + 1, by (exact JW.Auto (by conv => lhs; reduce)), ⟨by omega, hnm' he'⟩, by omega⟩
      · (simp only [↓bif_or, ↓bif_and, ↓Bool.or_eq_true, ↓Bool.or_eq_false_iff, ↓Bool.and_eq_true, ↓Bool.and_eq_false_iff, ↓Bool.not_eq_true', ↓Bool.not_eq_false', ↓decide_eq_true_eq, ↓decide_eq_false_iff_not, ↓beq_iff_eq, ↓bne_iff_ne, ↓bne_eq_false_iff_eq, ↓ne_eq, ↓beq_eq_false_iff_ne, ↓Bool.not_eq_true] at hd; try simp only [Ty.dflt, Int.toNat_natCast] at hd)
        have := hno2 (hnn fun k hk => hnm k (by omega))
        (repeat (first | refine zs rfl ?_ | refine zg rfl rfl rfl ?_ | refine zd ?_ | refine JK.fin ?_ | refine JK.ret ?_))
        exact ⟨j + 1, by (exact JW.Auto (by conv => lhs; reduce)), ⟨by omega, this⟩, by omega⟩
    · (simp only [↓bif_or, ↓bif_and, ↓Bool.or_eq_true, ↓Bool.or_eq_false_iff, ↓Bool.and_eq_true, ↓Bool.and_eq_false_iff, ↓Bool.not_eq_true', ↓Bool.not_eq_false', ↓decide_eq_true_eq, ↓decide_eq_false_iff_not, ↓beq_iff_eq, ↓bne_iff_ne, ↓bne_eq_false_iff_eq, ↓ne_eq, ↓beq_eq_false_iff_ne, ↓Bool.not_eq_true] at hc; try simp only [Ty.dflt, Int.toNat_natCast] at hc)
      have hj2 : j = 2 := by omega
      have hb : bndR l = none := by
        have h0 : bi l true = none := hno 0 (by omega)
        have h1 : bi l false = none := hno 1 (by omega)
        unfold bndR; rw [h0]; dsimp only; rw [h1]
      have e3 : bndO l = [] := by unfold bndO; rw [hb]
      have e4 : bndF l = false := by unfold bndF; rw [hb]
      rw [e3, e4]
      (repeat (first | refine zs rfl ?_ | refine zg rfl rfl rfl ?_ | refine zd ?_ | refine JK.fin ?_ | refine JK.ret ?_))
      refine ⟨.inl rfl, _, _, rfl, trivial, ?_⟩
      rfl
  · have e1 : boI l = [] := by unfold boI; rw [if_neg hz]
    have e2 : boF l = false := by unfold boF; rw [if_neg hz]
    rw [e1, e2]
    rw [if_neg hz] at h55
    generalize dayE l = z at hz h55 ⊢
    (repeat (first | refine zs rfl ?_ | refine zg rfl rfl rfl ?_ | refine zd ?_ | refine JK.fin ?_ | refine JK.ret ?_ | refine zc rfl (h55) rfl rfl ?_ | refine ze rfl (h55) rfl ?_ | refine zk rfl rfl (fun _ => h55) rfl rfl ?_))
    refine JK.cond rfl (fun _ => ?_) (fun h => ?_)
    · (repeat (first | refine zs rfl ?_ | refine zg rfl rfl rfl ?_ | refine zd ?_ | refine JK.fin ?_ | refine JK.ret ?_))
      refine ⟨.inl rfl, _, _, rfl, trivial, ?_⟩
      rfl
    · (simp only [↓bif_or, ↓bif_and, ↓Bool.or_eq_true, ↓Bool.or_eq_false_iff, ↓Bool.and_eq_true, ↓Bool.and_eq_false_iff, ↓Bool.not_eq_true', ↓Bool.not_eq_false', ↓decide_eq_true_eq, ↓decide_eq_false_iff_not, ↓beq_iff_eq, ↓bne_iff_ne, ↓bne_eq_false_iff_eq, ↓ne_eq, ↓beq_eq_false_iff_ne, ↓Bool.not_eq_true] at h; try simp only [Ty.dflt, Int.toNat_natCast] at h)
      omega
end Go.Proofs.Ythiocglfgcnlhaa

namespace Go.Proofs.Ythiocglfgcnlhaa
open Go Go.RowKit Ox Ox.Sh
attribute [local irreducible] JC JL JK JW

abbrev vU (by_ : List Int) : AV := .val (.slice (.int .u8)) by_
def kO (u : List Int) (n : Nat) : Nat := if u.length > 0 then (u.getD (n % u.length) 0).toNat % (n + 1) else n
def ordR (u : List Int) : Nat → List Nat
  | 0 => []
  | n + 1 => (ordR u n).take (kO u n) ++ [n] ++ (ordR u n).drop (kO u n)
theorem kO_le (u : List Int) (n : Nat) : kO u n ≤ n := by
  unfold kO
  split
  · have := Nat.mod_lt (u.getD (n % u.length) 0).toNat (show 0 < n + 1 by omega); omega
  · exact Nat.le_refl n
theorem ordR_perm (u : List Int) : ∀ n, List.Perm (ordR u n) (List.range n)
  | 0 => .nil
  | n + 1 => by
    rw [ordR, List.range_succ, List.append_assoc, List.singleton_append]
    have h := ordR_perm u n
    have h2 : List.Perm ((ordR u n).take (kO u n) ++ n :: (ordR u n).drop (kO u n)) (n :: ((ordR u n).take (kO u n) ++ (ordR u n).drop (kO u n))) := List.perm_middle
    rw [List.take_append_drop] at h2
    refine h2.trans ?_
    refine (h.cons n).trans ?_
    have := List.perm_append_comm (l₁ := [n]) (l₂ := List.range n)
    exact this
theorem ordR_len (u : List Int) (n : Nat) : (ordR u n).length = n := by rw [(ordR_perm u n).length_eq, List.length_range]
theorem ordR_lvl (u : List Int) (N : Nat) : ordR u N ∈ lvl N N := lvl_of_perm (ordR_perm u N)
theorem ordR_ord (u : List Int) (N : Nat) : Ord N (iL (ordR u N)) := by
  obtain ⟨h1, h2, h3⟩ := mem_lvl.1 (ordR_lvl u N)
  exact ord_of h1 h3 h2
theorem fn43 (l : List Sh) (u : List Int) (h8 : l.length ≤ 1000) (hu : ∀ x ∈ u, 0 ≤ x ∧ x ≤ 255) (hul : u.length ≤ 1000) : Ox.Fn Go.Proofs.Try.prog 43 (.acons (vD l) (.acons (vU u) .anil)) (· = vL (iL (ordR u l.length))) := by
  refine Ox.Fn.intro xok Go.Proofs.Try.func43 rfl Go.Proofs.Try.call43 (Nat.le_of_ble_eq_true rfl) (fun E M0 up => ?_)
  refine JK.start ?_
  (repeat (first | refine zs rfl ?_ | refine zg rfl rfl rfl ?_ | refine zd ?_ | refine JK.fin ?_ | refine JK.ret ?_))
  refine JK.ghost 5 3 (.int .i64) rfl ?_
  refine JK.loop (fun i : Nat => ⟨[(0, vD l), (1, vU u), (5, .lf (.osl 0)), (6, vI (i : Int))], [(0, .sl 3 (.int .i64) (iL (ordR u i)))], 1⟩)
    (fun i => i ≤ l.length) (fun i => l.length - i) 0 (Nat.zero_le _) (by (exact JW.Auto (by conv => lhs; reduce))) fun i hi => ?_
  have hlen := ordR_len u i
  have hil : (iL (ordR u i)).length = i := by rw [List.length_map]; exact hlen
  have hk := kO_le u i
  have hst : iL (ordR u (i + 1)) = (iL (ordR u i)).take (kO u i) ++ [(i : Int)] ++ (iL (ordR u i)).drop (kO u i) := by
    rw [ordR]; simp
  have hkv : kO u i = if u.length > 0 then (u.getD (i % u.length) 0).toNat % (i + 1) else i := rfl
  have hfin : i = l.length → iL (ordR u i) = iL (ordR u l.length) := fun e => by rw [e]
  clear hlen
  generalize iL (ordR u i) = X at hil hst hfin ⊢
  (repeat (first | refine zs rfl ?_ | refine zg rfl rfl rfl ?_ | refine zd ?_ | refine JK.fin ?_ | refine JK.ret ?_))
  refine JK.cond rfl (fun hc => ?_) (fun hc => ?_)
  · (simp only [↓bif_or, ↓bif_and, ↓Bool.or_eq_true, ↓Bool.or_eq_false_iff, ↓Bool.and_eq_true, ↓Bool.and_eq_false_iff, ↓Bool.not_eq_true', ↓Bool.not_eq_false', ↓decide_eq_true_eq, ↓decide_eq_false_iff_not, ↓beq_iff_eq, ↓bne_iff_ne, ↓bne_eq_false_iff_eq, ↓ne_eq, ↓beq_eq_false_iff_ne, ↓Bool.not_eq_true] at hc; try simp only [Ty.dflt, Int.toNat_natCast] at hc)
    (refine JK.frz [0] [0,1,5,6] rfl (by (first | exact trivial | (try dsimp only [allP, inK, idxC, loC, lohiC, fullC, underG, List.append, List.nil_append, List.cons_append, Ty.den, Ty.dflt, Int.toNat_natCast, List.length_cons, List.length_nil] at *); first | omega | ((repeat' (first | exact trivial | assumption | refine And.intro ?_ ?_ | exact fun h => h | (intro hpk; first | exact hpk | simp only [wantB, hpk, Bool.not_false, Bool.not_true]))) <;> omega) | fail)) ?_)
    (repeat (first | refine zu rfl ?_ | refine zg rfl rfl rfl ?_ | refine zd ?_ | refine JK.fin ?_ | refine JK.ret ?_))
    refine JK.cut (fun _ : Unit => ⟨[(0, vD l), (1, vU u), (5, vL X), (6, vI (i : Int)), (7, vI (kO u i : Nat))], [], 1⟩) (fun _ => True) ?_ (fun _ _ => ?_)
    · (repeat (first | refine zs rfl ?_ | refine zg rfl rfl rfl ?_ | refine zd ?_ | refine JK.fin ?_ | refine JK.ret ?_))
      refine JK.cond rfl (fun hd => ?_) (fun hd => ?_)
      · (simp only [↓bif_or, ↓bif_and, ↓Bool.or_eq_true, ↓Bool.or_eq_false_iff, ↓Bool.and_eq_true, ↓Bool.and_eq_false_iff, ↓Bool.not_eq_true', ↓Bool.not_eq_false', ↓decide_eq_true_eq, ↓decide_eq_false_iff_not, ↓beq_iff_eq, ↓bne_iff_ne, ↓bne_eq_false_iff_eq, ↓ne_eq, ↓beq_eq_false_iff_ne, ↓Bool.not_eq_true] at hd; try simp only [Ty.dflt, Int.toNat_natCast] at hd)
        have hmc : (i : Int) % (u.length : Int) = ((i % u.length : Nat) : Int) := by push_cast; rfl
        have hml := Nat.mod_lt i (show 0 < u.length by omega)
        have hm1 : 0 ≤ (i : Int) % (u.length : Int) ∧ (i : Int) % (u.length : Int) < (u.length : Int) := by rw [hmc]; omega
        have hm2 : 0 ≤ u.getD ((i : Int) % (u.length : Int)).toNat 0 ∧ u.getD ((i : Int) % (u.length : Int)).toNat 0 ≤ 255 := hu _ (by rw [getD_nat u (by rw [hmc, Int.toNat_natCast]; exact hml)]; exact List.getElem_mem _)
        rw [if_pos (by omega)] at hkv
        have hx1 : (X.length : Int) + 1 ≠ 0 := by omega
        have hkI : ((kO u i : Nat) : Int) = u.getD ((i : Int) % (u.length : Int)).toNat 0 % ((X.length : Int) + 1) := by
          rw [hkv, hil, hmc, Int.toNat_natCast]
          rw [hmc, Int.toNat_natCast] at hm2
          push_cast
          rw [Int.toNat_of_nonneg hm2.1]
        rw [hkI]
        (repeat (first | refine zs rfl ?_ | refine zg rfl rfl rfl ?_ | refine zd ?_ | refine JK.fin ?_ | refine JK.ret ?_))
        exact ⟨(), by (exact JW.Auto (by conv => lhs; reduce)), trivial⟩
      · (simp only [↓bif_or, ↓bif_and, ↓Bool.or_eq_true, ↓Bool.or_eq_false_iff, ↓Bool.and_eq_true, ↓Bool.and_eq_false_iff, ↓Bool.not_eq_true', ↓Bool.not_eq_false', ↓decide_eq_true_eq, ↓decide_eq_false_iff_not, ↓beq_iff_eq, ↓bne_iff_ne, ↓bne_eq_false_iff_eq, ↓ne_eq, ↓beq_eq_false_iff_ne, ↓Bool.not_eq_true] at hd; try simp only [Ty.dflt, Int.toNat_natCast] at hd)
        rw [if_neg (by omega)] at hkv
        (repeat (first | refine zs rfl ?_ | refine zg rfl rfl rfl ?_ | refine zd ?_ | refine JK.fin ?_ | refine JK.ret ?_))
        refine ⟨(), ?_, trivial⟩
        rw [hkv, ← hil]
        (exact JW.Auto (by conv => lhs; reduce))
    · have hb1 : (List.take (kO u i) X).length ≤ 1000 := by rw [List.length_take]; omega
      have hb2 : (List.drop (kO u i) X).length ≤ 1000 := by rw [List.length_drop]; omega
      have hb3 : (List.take (kO u i) X ++ [(i : Int)]).length ≤ 1001 := by rw [List.length_append]; simp; omega
      have hb4 : (List.take (kO u i) X ++ [(i : Int)] ++ List.drop (kO u i) X).length ≤ 2001 := by rw [List.length_append]; omega
      (repeat (first | refine zs rfl ?_ | refine zg rfl rfl rfl ?_ | refine zd ?_ | refine JK.fin ?_ | refine JK.ret ?_))
      refine ⟨i + 1, ?_, by omega, by omega⟩
      rw [hst]
      (exact JW.Auto (by conv => lhs; reduce))
  · (simp only [↓bif_or, ↓bif_and, ↓Bool.or_eq_true, ↓Bool.or_eq_false_iff, ↓Bool.and_eq_true, ↓Bool.and_eq_false_iff, ↓Bool.not_eq_true', ↓Bool.not_eq_false', ↓decide_eq_true_eq, ↓decide_eq_false_iff_not, ↓beq_iff_eq, ↓bne_iff_ne, ↓bne_eq_false_iff_eq, ↓ne_eq, ↓beq_eq_false_iff_ne, ↓Bool.not_eq_true] at hc; try simp only [Ty.dflt, Int.toNat_natCast] at hc)
    rw [hfin (by omega)] at *
    (repeat (first | refine zs rfl ?_ | refine zg rfl rfl rfl ?_ | refine zd ?_ | refine JK.fin ?_ | refine JK.ret ?_))
    refine ⟨.inl rfl, _, _, rfl, trivial, ?_⟩
    rfl
/-! Days. -/
def dayN (x : List Int) (i : Nat) : List Sh := (List.range i).map fun j : Nat => (x.getD (3 * (j : Int)).toNat 0, x.getD (3 * (j : Int) + 1).toNat 0, x.getD (3 * (j : Int) + 2).toNat 0, ())
theorem dayN_succ (x : List Int) (i : Nat) : dayN x (i + 1) = dayN x i ++ [(x.getD (3 * (i : Int)).toNat 0, x.getD (3 * (i : Int) + 1).toNat 0, x.getD (3 * (i : Int) + 2).toNat 0, ())] := by
  unfold dayN; rw [List.range_succ, List.map_append]; rfl
theorem fn67 (x : List Int) (hx : x.length ≤ 1000) : Ox.Fn Go.Proofs.Try.prog 67 (.acons (vL x) .anil) (· = vD (dayN x (x.length / 3))) := by
  refine Ox.Fn.intro xok Go.Proofs.Try.func67 rfl Go.Proofs.Try.call67 (Nat.le_of_ble_eq_true rfl) (fun E M0 up => ?_)
  refine JK.start ?_
  (repeat (first | refine zs rfl ?_ | refine zg rfl rfl rfl ?_ | refine zd ?_ | refine JK.fin ?_ | refine JK.ret ?_))
  refine JK.ghost 3 58 shT rfl ?_
  refine JK.loop (fun i : Nat => ⟨[(0, vL x), (3, .lf (.osl 0)), (4, vI (3 * (i : Int)))], [(0, .sl 58 shT (dayN x i))], 1⟩)
    (fun i => i ≤ x.length / 3) (fun i => x.length - i) 0 (Nat.zero_le _) (by (exact JW.Auto (by conv => lhs; reduce))) fun i hi => ?_
  have hdl : (dayN x i).length = i := by unfold dayN; rw [List.length_map, List.length_range]
  have hsn := dayN_succ x i
  have hfin : i = x.length / 3 → dayN x i = dayN x (x.length / 3) := fun e => by rw [← e]
  generalize dayN x i = D at hdl hsn hfin ⊢
  (repeat (first | refine zs rfl ?_ | refine zg rfl rfl rfl ?_ | refine zd ?_ | refine JK.fin ?_ | refine JK.ret ?_))
  refine JK.cond rfl (fun hc => ?_) (fun hc => ?_)
  · (simp only [↓bif_or, ↓bif_and, ↓Bool.or_eq_true, ↓Bool.or_eq_false_iff, ↓Bool.and_eq_true, ↓Bool.and_eq_false_iff, ↓Bool.not_eq_true', ↓Bool.not_eq_false', ↓decide_eq_true_eq, ↓decide_eq_false_iff_not, ↓beq_iff_eq, ↓bne_iff_ne, ↓bne_eq_false_iff_eq, ↓ne_eq, ↓beq_eq_false_iff_ne, ↓Bool.not_eq_true] at hc; try simp only [Ty.dflt, Int.toNat_natCast] at hc)
    (repeat (first | refine zs rfl ?_ | refine zg rfl rfl rfl ?_ | refine JK.fin ?_ | refine JK.ret ?_))
    refine JK.drawB (xok rfl rfl rfl rfl) (Go.Proofs.Try.f67.body.getD .skip) ⟨[(0, vL x), (3, .lf (.osl 0)), (4, vI (3 * (i : Int)))], [(0, .sl 58 shT (dayN x (i + 1)))], 1⟩ rfl 19 rfl ?_ ?_
    · rw [hsn]
      (refine JF.First 0 (xok rfl rfl rfl rfl) rfl rfl ?_; refine JF.First 1 (xok rfl rfl rfl rfl) rfl rfl ?_; refine JF.First 2 (xok rfl rfl rfl rfl) rfl rfl ?_; refine JF.First 3 (xok rfl rfl rfl rfl) rfl rfl ?_; refine JF.First 5 (xok rfl rfl rfl rfl) rfl rfl ?_; refine JF.First 6 (xok rfl rfl rfl rfl) rfl rfl ?_; refine JF.First 7 (xok rfl rfl rfl rfl) rfl rfl ?_; refine JF.First 8 (xok rfl rfl rfl rfl) rfl rfl ?_; refine JF.First 10 (xok rfl rfl rfl rfl) rfl rfl ?_; refine JF.First 11 (xok rfl rfl rfl rfl) rfl rfl ?_; refine JF.First 12 (xok rfl rfl rfl rfl) rfl rfl ?_; refine JF.First 13 (xok rfl rfl rfl rfl) rfl rfl ?_; refine JF.Float 4 (xok rfl rfl rfl rfl) rfl rfl ?_; refine JF.Float 9 (xok rfl rfl rfl rfl) rfl rfl ?_; refine JF.Float 14 (xok rfl rfl rfl rfl) rfl rfl ?_; refine JF.Branch 15 [] (xok rfl rfl rfl rfl) ?_ ?_; (focus (repeat (first | exact StF.nil | refine StF.One rfl rfl rfl ?_))); refine BrF.one rfl rfl ?_ BrF.nil; (· (first | refine JL.Q1 (xok rfl rfl rfl rfl) rfl rfl ?_ | refine JL.G1 (xok rfl rfl rfl rfl) rfl rfl rfl ?_ | refine JL.M1 (xok rfl rfl rfl rfl) rfl rfl ?_ | refine JL.M0 (xok rfl rfl rfl rfl) rfl ?_ | refine JL.Q0 (xok rfl rfl rfl rfl) rfl ?_); refine JL.finN ?_; refine JF.Branch 16 [] (xok rfl rfl rfl rfl) ?_ ?_; (focus (repeat (first | exact StF.nil | refine StF.One rfl rfl rfl ?_))); refine BrF.one rfl rfl ?_ BrF.nil; (· (first | refine JL.Q1 (xok rfl rfl rfl rfl) rfl rfl ?_ | refine JL.G1 (xok rfl rfl rfl rfl) rfl rfl rfl ?_ | refine JL.M1 (xok rfl rfl rfl rfl) rfl rfl ?_ | refine JL.M0 (xok rfl rfl rfl rfl) rfl ?_ | refine JL.Q0 (xok rfl rfl rfl rfl) rfl ?_); refine JL.finN ?_; refine JF.Branch 17 [] (xok rfl rfl rfl rfl) ?_ ?_; (focus (repeat (first | exact StF.nil | refine StF.One rfl rfl rfl ?_))); refine BrF.one rfl rfl ?_ BrF.nil; (· (first | refine JL.Q1 (xok rfl rfl rfl rfl) rfl rfl ?_ | refine JL.G1 (xok rfl rfl rfl rfl) rfl rfl rfl ?_ | refine JL.M1 (xok rfl rfl rfl rfl) rfl rfl ?_ | refine JL.M0 (xok rfl rfl rfl rfl) rfl ?_ | refine JL.Q0 (xok rfl rfl rfl rfl) rfl ?_); refine JL.finN ?_; refine JF.First 18 (xok rfl rfl rfl rfl) rfl rfl ?_; refine JF.Done (xok rfl rfl rfl rfl) ?_ ?_; (focus (repeat (first | exact StF.nil | refine StF.One rfl rfl rfl ?_))); ((exact JW.Auto (by conv => lhs; reduce)))))))
    · (repeat (first | refine zs rfl ?_ | refine zg rfl rfl rfl ?_ | refine zd ?_ | refine JK.fin ?_ | refine JK.ret ?_))
      refine ⟨i + 1, ?_, by omega, by omega⟩
      rw [show 3 * ((i + 1 : Nat) : Int) = 3 * (i : Int) + 3 by push_cast; omega]
      (exact JW.Auto (by conv => lhs; reduce))
  · (simp only [↓bif_or, ↓bif_and, ↓Bool.or_eq_true, ↓Bool.or_eq_false_iff, ↓Bool.and_eq_true, ↓Bool.and_eq_false_iff, ↓Bool.not_eq_true', ↓Bool.not_eq_false', ↓decide_eq_true_eq, ↓decide_eq_false_iff_not, ↓beq_iff_eq, ↓bne_iff_ne, ↓bne_eq_false_iff_eq, ↓ne_eq, ↓beq_eq_false_iff_ne, ↓Bool.not_eq_true] at hc; try simp only [Ty.dflt, Int.toNat_natCast] at hc)
    rw [hfin (by omega)]
    (repeat (first | refine zs rfl ?_ | refine zg rfl rfl rfl ?_ | refine zd ?_ | refine JK.fin ?_ | refine JK.ret ?_))
    refine ⟨.inl rfl, _, _, rfl, trivial, ?_⟩
    rfl
end Go.Proofs.Ythiocglfgcnlhaa

namespace Go.Proofs.Ythiocglfgcnlhaa
open Go Go.RowKit Ox Ox.Sh
attribute [local irreducible] JC JL JK JW

def exD : List Sh := [(3, 10, 2, ()), (5, 4, 6, ()), (2, 8, 7, ())]
theorem fn45 : Ox.Fn Go.Proofs.Try.prog 45 .anil (· = vD exD) := by
  refine Ox.Fn.intro xok Go.Proofs.Try.func45 rfl Go.Proofs.Try.call45 (Nat.le_of_ble_eq_true rfl) (fun E M0 up => ?_)
  refine JK.start ?_
  have h67 := fn67 [3, 10, 2, 5, 4, 6, 2, 8, 7] (by decide)
  have e : dayN [3, 10, 2, 5, 4, 6, 2, 8, 7] (([3, 10, 2, 5, 4, 6, 2, 8, 7] : List Int).length / 3) = exD := by decide +kernel
  rw [e] at h67
  (repeat (first | refine zs rfl ?_ | refine zg rfl rfl rfl ?_ | refine zd ?_ | refine JK.fin ?_ | refine JK.ret ?_))
  (refine JK.frzL [0] [1] rfl (by (first | exact trivial | (try dsimp only [allP, inK, idxC, loC, lohiC, fullC, underG, List.append, List.nil_append, List.cons_append, Ty.den, Ty.dflt, Int.toNat_natCast, List.length_cons, List.length_nil] at *); first | omega | ((repeat' (first | exact trivial | assumption | refine And.intro ?_ ?_ | exact fun h => h | (intro hpk; first | exact hpk | simp only [wantB, hpk, Bool.not_false, Bool.not_true]))) <;> omega) | fail)) ?_)
  (repeat (first | refine zs rfl ?_ | refine zg rfl rfl rfl ?_ | refine zd ?_ | refine JK.fin ?_ | refine JK.ret ?_ | refine zc rfl (h67) rfl rfl ?_ | refine ze rfl (h67) rfl ?_ | refine zk rfl rfl (fun _ => h67) rfl rfl ?_))
  refine ⟨.inl rfl, _, _, rfl, trivial, ?_⟩
  rfl
theorem fn46 (f : Bool) (xs : List Int) : Ox.Fn Go.Proofs.Try.prog 46 (.acons (vB f) (.acons (vL xs) .anil)) (· = vBo xs f) := by
  refine Ox.Fn.intro xok Go.Proofs.Try.func46 rfl Go.Proofs.Try.call46 (Nat.le_of_ble_eq_true rfl) (fun E M0 up => ?_)
  refine JK.start ?_
  (repeat (first | refine zs rfl ?_ | refine zg rfl rfl rfl ?_ | refine zd ?_ | refine JK.fin ?_ | refine JK.ret ?_))
  refine ⟨.inl rfl, _, _, rfl, trivial, ?_⟩
  rfl
theorem bst_end {l : List Sh} (hz : dayE l = 0) : playE l (bstI l) = 0 ∧ endR l (bstI l) = leS l := by
  obtain ⟨d1, d8, dl⟩ := day_ok hz
  have hb := mem_bests.1 (best_in dl)
  obtain ⟨h1, h2, h3⟩ := mem_lvl.1 hb.1
  have e1 : bstI l = iL (bestO l) := by unfold bstI; rw [if_pos hz]
  have hp : playE l (bstI l) = 0 := play_ok.2 ⟨hz, by rw [e1]; exact ord_of h1 h3 h2⟩
  refine ⟨hp, ?_⟩
  unfold endR
  rw [if_pos hp, e1, nat_iL]
  exact hb.2
theorem fn42 (l : List Sh) : Ox.Fn Go.Proofs.Try.prog 42 (.acons (vD l) .anil) (· = .tup (.acons (vI (lstI l)) (.acons (vB (decide (dayE l = 0))) .anil))) := by
  refine Ox.Fn.intro xok Go.Proofs.Try.func42 rfl Go.Proofs.Try.call42 (Nat.le_of_ble_eq_true rfl) (fun E M0 up => ?_)
  refine JK.start ?_
  have h20 := fn20 l (bstI l)
  (repeat (first | refine zs rfl ?_ | refine zg rfl rfl rfl ?_ | refine zd ?_ | refine JK.fin ?_ | refine JK.ret ?_ | refine zc rfl (fn29 l) rfl rfl ?_ | refine ze rfl (fn29 l) rfl ?_ | refine zk rfl rfl (fun _ => fn29 l) rfl rfl ?_))
  refine JK.cond rfl (fun hc => ?_) (fun hc => ?_)
  · (simp only [↓bif_or, ↓bif_and, ↓Bool.or_eq_true, ↓Bool.or_eq_false_iff, ↓Bool.and_eq_true, ↓Bool.and_eq_false_iff, ↓Bool.not_eq_true', ↓Bool.not_eq_false', ↓decide_eq_true_eq, ↓decide_eq_false_iff_not, ↓beq_iff_eq, ↓bne_iff_ne, ↓bne_eq_false_iff_eq, ↓ne_eq, ↓beq_eq_false_iff_ne, ↓Bool.not_eq_true] at hc; try simp only [Ty.dflt, Int.toNat_natCast] at hc)
    (repeat (first | refine zs rfl ?_ | refine zg rfl rfl rfl ?_ | refine zd ?_ | refine JK.fin ?_ | refine JK.ret ?_))
    refine ⟨.inl rfl, _, _, rfl, trivial, ?_⟩
    have e : lstI l = 0 := by unfold lstI; rw [if_neg hc]
    rw [e, decide_eq_false hc]
  · (simp only [↓bif_or, ↓bif_and, ↓Bool.or_eq_true, ↓Bool.or_eq_false_iff, ↓Bool.and_eq_true, ↓Bool.and_eq_false_iff, ↓Bool.not_eq_true', ↓Bool.not_eq_false', ↓decide_eq_true_eq, ↓decide_eq_false_iff_not, ↓beq_iff_eq, ↓bne_iff_ne, ↓bne_eq_false_iff_eq, ↓ne_eq, ↓beq_eq_false_iff_ne, ↓Bool.not_eq_true] at hc; try simp only [Ty.dflt, Int.toNat_natCast] at hc)
    have hz : dayE l = 0 := by omega
    obtain ⟨b1, b2⟩ := bst_end hz
    rw [b1, b2] at h20
    have e : lstI l = leS l := by unfold lstI; rw [if_pos hz]
    rw [e, decide_eq_true hz]
    (repeat (first | refine zs rfl ?_ | refine zg rfl rfl rfl ?_ | refine zd ?_ | refine JK.fin ?_ | refine JK.ret ?_ | refine zc rfl (h20) rfl rfl ?_ | refine ze rfl (h20) rfl ?_ | refine zk rfl rfl (fun _ => h20) rfl rfl ?_))
    refine ⟨.inl rfl, _, _, rfl, trivial, ?_⟩
    show AV.tup (.acons (vI (leS l)) (.acons (vB (bif true then (leS l == leS l) else false)) .anil)) = _
    simp
theorem fn16 : Ox.Fn Go.Proofs.Try.prog 16 .anil (· = vB true) := by
  refine Ox.Fn.intro xok Go.Proofs.Try.func16 rfl Go.Proofs.Try.call16 (Nat.le_of_ble_eq_true rfl) (fun E M0 up => ?_)
  refine JK.start ?_
  have d17 : Ox.Fn Go.Proofs.Try.prog 17 (.acons (vD exD) (.acons (vL [1, 2, 0]) .anil)) (· = vTL [15, 22, 24] 0) := by
    have := fn17 exD [1, 2, 0]; rwa [show endsR exD [1, 2, 0] = [15, 22, 24] by decide +kernel, show playE exD [1, 2, 0] = 0 by decide +kernel] at this
  have d19 : Ox.Fn Go.Proofs.Try.prog 19 (.acons (vD exD) (.acons (vL [2, 1, 0]) .anil)) (· = vT2 25 0) := by
    have := fn19 exD [2, 1, 0]; rwa [show endR exD [2, 1, 0] = 25 by decide +kernel, show playE exD [2, 1, 0] = 0 by decide +kernel] at this
  have d24 : Ox.Fn Go.Proofs.Try.prog 24 (.acons (vD exD) (.acons (vL [1, 2, 0]) .anil)) (· = vT2 1 0) := by
    have := fn24 exD [1, 2, 0]; rwa [show critR exD [1, 2, 0] = 1 by decide +kernel, show playE exD [1, 2, 0] = 0 by decide +kernel] at this
  have d26 : Ox.Fn Go.Proofs.Try.prog 26 (.acons (vD exD) (.acons (vL [1, 2, 0]) .anil)) (· = vT2 2 0) := by
    have := fn26 exD [1, 2, 0]; rwa [show hungR exD [1, 2, 0] = 2 by decide +kernel, show playE exD [1, 2, 0] = 0 by decide +kernel] at this
  have d29 : Ox.Fn Go.Proofs.Try.prog 29 (.acons (vD exD) .anil) (· = vB3 [1, 2, 0] 24 0) := by
    have := fn29 exD; rwa [show bstI exD = [1, 2, 0] by decide +kernel, show lstI exD = 24 by decide +kernel, show dayE exD = 0 by decide +kernel] at this
  have d31a : Ox.Fn Go.Proofs.Try.prog 31 (.acons (vD exD) (.acons (vBo [0, 1, 2] true) .anil)) (· = vT2 24 0) := by
    have := fn31 exD [0, 1, 2] true (by decide); rwa [show bdI exD [0, 1, 2] true = 24 by decide +kernel, show bdE exD [0, 1, 2] = 0 by decide +kernel] at this
  have d31b : Ox.Fn Go.Proofs.Try.prog 31 (.acons (vD exD) (.acons (vBo [0, 1, 2] false) .anil)) (· = vT2 20 0) := by
    have := fn31 exD [0, 1, 2] false (by decide); rwa [show bdI exD [0, 1, 2] false = 20 by decide +kernel, show bdE exD [0, 1, 2] = 0 by decide +kernel] at this
  have hb := bnd_ok (l := exD) (by decide +kernel)
  have d33 : Ox.Fn Go.Proofs.Try.prog 33 (.acons (vD exD) .anil) (· = .tup (.acons (vBo (boI exD) (boF exD)) (.acons (vI 0) .anil))) := by
    have := fn33 exD; rwa [show dayE exD = 0 by decide +kernel] at this
  have d32 : Ox.Fn Go.Proofs.Try.prog 32 (.acons (vD exD) (.acons (vBo (boI exD) (boF exD)) .anil)) (· = vT2 24 0) := by
    have := fn32 exD (boI exD) (boF exD) (by decide +kernel); rwa [show bdI exD (boI exD) (boF exD) = 24 by decide +kernel, show bdE exD (boI exD) = 0 by decide +kernel] at this
  generalize boI exD = bo at d33 d32
  generalize boF exD = bf at d33 d32
  clear hb
  have d35a : Ox.Fn Go.Proofs.Try.prog 35 (.acons (vD exD) (.acons (vI 1) (.acons (vI 2) .anil))) (· = vT2 2 0) := by
    have := fn35 exD 1 2; rwa [show kindI exD 1 2 = 2 by decide +kernel, show kindE exD 1 2 = 0 by decide +kernel] at this
  have d35b : Ox.Fn Go.Proofs.Try.prog 35 (.acons (vD exD) (.acons (vI 0) (.acons (vI 1) .anil))) (· = vT2 0 0) := by
    have := fn35 exD 0 1; rwa [show kindI exD 0 1 = 0 by decide +kernel, show kindE exD 0 1 = 0 by decide +kernel] at this
  have d37 : Ox.Fn Go.Proofs.Try.prog 37 (.acons (vD exD) .anil) (· = vT2 1 0) := by
    have := fn37 exD; rwa [show countI exD = 1 by decide +kernel, show dayE exD = 0 by decide +kernel] at this
  have d39 : Ox.Fn Go.Proofs.Try.prog 39 (.acons (vD exD) (.acons (vI 0) .anil)) (· = vT2 2 0) := by
    have := fn39 exD 0; rwa [show spI exD 0 = 2 by decide +kernel, show spE exD 0 = 0 by decide +kernel] at this
  have e1 := fn23 [15, 22, 24] [15, 22, 24]
  have e2 := fn34 [1, 2, 0] [1, 2, 0]
  rw [decide_eq_true rfl] at e1 e2
  have f46a := fn46 true [0, 1, 2]
  have f46b := fn46 false [0, 1, 2]
  have f45 := fn45
  generalize exD = D at *
  (repeat (first | refine zs rfl ?_ | refine zg rfl rfl rfl ?_ | refine zd ?_ | refine JK.fin ?_ | refine JK.ret ?_ | refine zc rfl (f45) rfl rfl ?_ | refine ze rfl (f45) rfl ?_ | refine zk rfl rfl (fun _ => f45) rfl rfl ?_ | refine zc rfl (d17) rfl rfl ?_ | refine ze rfl (d17) rfl ?_ | refine zk rfl rfl (fun _ => d17) rfl rfl ?_))
  (refine JK.frzL [0] [1,31,32] rfl (by (first | exact trivial | (try dsimp only [allP, inK, idxC, loC, lohiC, fullC, underG, List.append, List.nil_append, List.cons_append, Ty.den, Ty.dflt, Int.toNat_natCast, List.length_cons, List.length_nil] at *); first | omega | ((repeat' (first | exact trivial | assumption | refine And.intro ?_ ?_ | exact fun h => h | (intro hpk; first | exact hpk | simp only [wantB, hpk, Bool.not_false, Bool.not_true]))) <;> omega) | fail)) ?_)
  (repeat (first | refine zs rfl ?_ | refine zg rfl rfl rfl ?_ | refine zd ?_ | refine JK.fin ?_ | refine JK.ret ?_ | refine zc rfl (d17) rfl rfl ?_ | refine ze rfl (d17) rfl ?_ | refine zk rfl rfl (fun _ => d17) rfl rfl ?_ | refine zc rfl (d19) rfl rfl ?_ | refine ze rfl (d19) rfl ?_ | refine zk rfl rfl (fun _ => d19) rfl rfl ?_ | refine zc rfl (d24) rfl rfl ?_ | refine ze rfl (d24) rfl ?_ | refine zk rfl rfl (fun _ => d24) rfl rfl ?_ | refine zc rfl (d26) rfl rfl ?_ | refine ze rfl (d26) rfl ?_ | refine zk rfl rfl (fun _ => d26) rfl rfl ?_ | refine zc rfl (d29) rfl rfl ?_ | refine ze rfl (d29) rfl ?_ | refine zk rfl rfl (fun _ => d29) rfl rfl ?_))
  (refine JK.frzL [4] [1,2,3,4,5,6,7,8,9,10,11,12,61,62] rfl (by (first | exact trivial | (try dsimp only [allP, inK, idxC, loC, lohiC, fullC, underG, List.append, List.nil_append, List.cons_append, Ty.den, Ty.dflt, Int.toNat_natCast, List.length_cons, List.length_nil] at *); first | omega | ((repeat' (first | exact trivial | assumption | refine And.intro ?_ ?_ | exact fun h => h | (intro hpk; first | exact hpk | simp only [wantB, hpk, Bool.not_false, Bool.not_true]))) <;> omega) | fail)) ?_)
  (repeat (first | refine zs rfl ?_ | refine zg rfl rfl rfl ?_ | refine zd ?_ | refine JK.fin ?_ | refine JK.ret ?_ | refine zc rfl (f46a) rfl rfl ?_ | refine ze rfl (f46a) rfl ?_ | refine zk rfl rfl (fun _ => f46a) rfl rfl ?_ | refine zc rfl (d31a) rfl rfl ?_ | refine ze rfl (d31a) rfl ?_ | refine zk rfl rfl (fun _ => d31a) rfl rfl ?_ | refine zc rfl (f46b) rfl rfl ?_ | refine ze rfl (f46b) rfl ?_ | refine zk rfl rfl (fun _ => f46b) rfl rfl ?_))
  (refine JK.frzL [5] [1,2,3,4,5,6,7,8,9,10,11,12,13,14,68,69] rfl (by (first | exact trivial | (try dsimp only [allP, inK, idxC, loC, lohiC, fullC, underG, List.append, List.nil_append, List.cons_append, Ty.den, Ty.dflt, Int.toNat_natCast, List.length_cons, List.length_nil] at *); first | omega | ((repeat' (first | exact trivial | assumption | refine And.intro ?_ ?_ | exact fun h => h | (intro hpk; first | exact hpk | simp only [wantB, hpk, Bool.not_false, Bool.not_true]))) <;> omega) | fail)) ?_)
  (repeat (first | refine zs rfl ?_ | refine zg rfl rfl rfl ?_ | refine zd ?_ | refine JK.fin ?_ | refine JK.ret ?_ | refine zc rfl (f46b) rfl rfl ?_ | refine ze rfl (f46b) rfl ?_ | refine zk rfl rfl (fun _ => f46b) rfl rfl ?_ | refine zc rfl (d31b) rfl rfl ?_ | refine ze rfl (d31b) rfl ?_ | refine zk rfl rfl (fun _ => d31b) rfl rfl ?_ | refine zc rfl (d33) rfl rfl ?_ | refine ze rfl (d33) rfl ?_ | refine zk rfl rfl (fun _ => d33) rfl rfl ?_ | refine zc rfl (d35a) rfl rfl ?_ | refine ze rfl (d35a) rfl ?_ | refine zk rfl rfl (fun _ => d35a) rfl rfl ?_ | refine zc rfl (d35b) rfl rfl ?_ | refine ze rfl (d35b) rfl ?_ | refine zk rfl rfl (fun _ => d35b) rfl rfl ?_ | refine zc rfl (d37) rfl rfl ?_ | refine ze rfl (d37) rfl ?_ | refine zk rfl rfl (fun _ => d37) rfl rfl ?_ | refine zc rfl (d39) rfl rfl ?_ | refine ze rfl (d39) rfl ?_ | refine zk rfl rfl (fun _ => d39) rfl rfl ?_))
  refine JK.cond rfl (fun h => absurd h (by decide)) (fun _ => ?_)
  (repeat (first | refine zt rfl rfl ?_ | refine zs rfl ?_ | refine ze rfl (d32) rfl ?_ | refine zc rfl e1 rfl rfl ?_ | refine zc rfl e2 rfl rfl ?_ | refine JK.ret ?_))
  refine ⟨.inl rfl, _, _, rfl, trivial, ?_⟩
  rfl
end Go.Proofs.Ythiocglfgcnlhaa

namespace Go.Proofs.Ythiocglfgcnlhaa
open Go Go.RowKit Ox Ox.Sh
attribute [local irreducible] JC JL JK JW

theorem law3 (l : List Sh) (xs : List Int) : Ox.Fn Go.Proofs.Try.prog 3 (.acons (vD l) (.acons (vL xs) .anil)) (· = vB true) := by
  refine Ox.Fn.intro xok Go.Proofs.Try.func3 rfl Go.Proofs.Try.call3 (Nat.le_of_ble_eq_true rfl) (fun E M0 up => ?_)
  refine JK.start ?_
  (repeat (first | refine zs rfl ?_ | refine zg rfl rfl rfl ?_ | refine zd ?_ | refine JK.fin ?_ | refine JK.ret ?_ | refine zc rfl (fn15 l) rfl rfl ?_ | refine ze rfl (fn15 l) rfl ?_ | refine zk rfl rfl (fun _ => fn15 l) rfl rfl ?_))
  refine JK.cond rfl (fun hc => ?_) (fun hc => ?_)
  · (repeat (first | refine zs rfl ?_ | refine zg rfl rfl rfl ?_ | refine zd ?_ | refine JK.fin ?_ | refine JK.ret ?_ | refine zc rfl (fn16) rfl rfl ?_ | refine ze rfl (fn16) rfl ?_ | refine zk rfl rfl (fun _ => fn16) rfl rfl ?_))
    refine ⟨.inl rfl, _, _, rfl, trivial, ?_⟩
    rfl
  · have c17 := fn17 l xs
    have c18 := fn18 l xs
    have c19 := fn19 l xs
    have c20 := fn20 l xs
    have c21 := fn21 l
    have c22 := fn22 l
    generalize endsR l xs = A at c17 c18
    generalize endR l xs = B at c19 c20
    generalize playE l xs = E1 at c17 c18 c19 c20
    generalize dayE l = D1 at c21 c22
    have c23 := fn23 A A
    rw [decide_eq_true rfl] at c23
    (repeat (first | refine zt rfl (by simp [wantB]) ?_ | refine zs rfl ?_ | refine ze rfl c17 rfl ?_ | refine ze rfl c18 rfl ?_ | refine zc rfl c19 rfl rfl ?_ | refine zc rfl c20 rfl rfl ?_ | refine zc rfl c21 rfl rfl ?_ | refine zc rfl c22 rfl rfl ?_ | refine zc rfl c23 rfl rfl ?_ | refine zc rfl fn16 rfl rfl ?_ | refine JK.ret ?_))
    refine ⟨.inl rfl, _, _, rfl, trivial, ?_⟩
    simp
theorem law4 (l : List Sh) (xs : List Int) : Ox.Fn Go.Proofs.Try.prog 4 (.acons (vD l) (.acons (vL xs) .anil)) (· = vB true) := by
  refine Ox.Fn.intro xok Go.Proofs.Try.func4 rfl Go.Proofs.Try.call4 (Nat.le_of_ble_eq_true rfl) (fun E M0 up => ?_)
  refine JK.start ?_
  (repeat (first | refine zs rfl ?_ | refine zg rfl rfl rfl ?_ | refine zd ?_ | refine JK.fin ?_ | refine JK.ret ?_ | refine zc rfl (fn15 l) rfl rfl ?_ | refine ze rfl (fn15 l) rfl ?_ | refine zk rfl rfl (fun _ => fn15 l) rfl rfl ?_))
  refine JK.cond rfl (fun hc => ?_) (fun hc => ?_)
  · (repeat (first | refine zs rfl ?_ | refine zg rfl rfl rfl ?_ | refine zd ?_ | refine JK.fin ?_ | refine JK.ret ?_ | refine zc rfl (fn16) rfl rfl ?_ | refine ze rfl (fn16) rfl ?_ | refine zk rfl rfl (fun _ => fn16) rfl rfl ?_))
    refine ⟨.inl rfl, _, _, rfl, trivial, ?_⟩
    rfl
  · have c24 := fn24 l xs
    have c25 := fn25 l xs
    have c26 := fn26 l xs
    have c27 := fn27 l xs
    generalize critR l xs = A at c24 c25
    generalize hungR l xs = B at c26 c27
    generalize playE l xs = E1 at c24 c25 c26 c27
    (repeat (first | refine zt rfl (by simp [wantB]) ?_ | refine zs rfl ?_ | refine ze rfl c24 rfl ?_ | refine ze rfl c25 rfl ?_ | refine ze rfl c26 rfl ?_ | refine ze rfl c27 rfl ?_ | refine zc rfl fn16 rfl rfl ?_ | refine JK.ret ?_))
    refine ⟨.inl rfl, _, _, rfl, trivial, ?_⟩
    simp
theorem law6 (l : List Sh) (one two : Int) : Ox.Fn Go.Proofs.Try.prog 6 (.acons (vD l) (.acons (vI one) (.acons (vI two) .anil))) (· = vB true) := by
  refine Ox.Fn.intro xok Go.Proofs.Try.func6 rfl Go.Proofs.Try.call6 (Nat.le_of_ble_eq_true rfl) (fun E M0 up => ?_)
  refine JK.start ?_
  (repeat (first | refine zs rfl ?_ | refine zg rfl rfl rfl ?_ | refine zd ?_ | refine JK.fin ?_ | refine JK.ret ?_ | refine zc rfl (fn15 l) rfl rfl ?_ | refine ze rfl (fn15 l) rfl ?_ | refine zk rfl rfl (fun _ => fn15 l) rfl rfl ?_ | refine zc rfl (fn28 l) rfl rfl ?_ | refine ze rfl (fn28 l) rfl ?_ | refine zk rfl rfl (fun _ => fn28 l) rfl rfl ?_))
  refine JK.cond rfl (fun hc => ?_) (fun hc => ?_)
  · (repeat (first | refine zs rfl ?_ | refine zg rfl rfl rfl ?_ | refine zd ?_ | refine JK.fin ?_ | refine JK.ret ?_ | refine zc rfl (fn16) rfl rfl ?_ | refine ze rfl (fn16) rfl ?_ | refine zk rfl rfl (fun _ => fn16) rfl rfl ?_))
    refine ⟨.inl rfl, _, _, rfl, trivial, ?_⟩
    rfl
  · have h6 : dayE l = 0 → l.length ≤ 6 := fun hz => by
      have hc2 : (bif decide (l.length > 15) then true else decide (dayE l = 0 ∧ l.length > 6)) = false := hc
      by_cases e : l.length > 15
      · rw [decide_eq_true e] at hc2; cases hc2
      · rw [decide_eq_false e] at hc2
        have := of_decide_eq_false hc2
        omega
    have c1 := fn35 l one two
    have c2 := fn36 l one two h6
    have c3 := fn37 l
    have c4 := fn38 l h6
    generalize kindI l one two = A at c1 c2
    generalize kindE l one two = B at c1 c2
    generalize countI l = C at c3 c4
    generalize dayE l = D1 at c3 c4
    (repeat (first | refine zt rfl (by simp [wantB]) ?_ | refine zs rfl ?_ | refine ze rfl c1 rfl ?_ | refine ze rfl c2 rfl ?_ | refine ze rfl c3 rfl ?_ | refine ze rfl c4 rfl ?_ | refine zc rfl fn16 rfl rfl ?_ | refine JK.ret ?_))
    refine ⟨.inl rfl, _, _, rfl, trivial, ?_⟩
    simp
theorem law7 (l : List Sh) (s : Int) : Ox.Fn Go.Proofs.Try.prog 7 (.acons (vD l) (.acons (vI s) .anil)) (· = vB true) := by
  refine Ox.Fn.intro xok Go.Proofs.Try.func7 rfl Go.Proofs.Try.call7 (Nat.le_of_ble_eq_true rfl) (fun E M0 up => ?_)
  refine JK.start ?_
  (repeat (first | refine zs rfl ?_ | refine zg rfl rfl rfl ?_ | refine zd ?_ | refine JK.fin ?_ | refine JK.ret ?_ | refine zc rfl (fn15 l) rfl rfl ?_ | refine ze rfl (fn15 l) rfl ?_ | refine zk rfl rfl (fun _ => fn15 l) rfl rfl ?_ | refine zc rfl (fn28 l) rfl rfl ?_ | refine ze rfl (fn28 l) rfl ?_ | refine zk rfl rfl (fun _ => fn28 l) rfl rfl ?_))
  refine JK.cond rfl (fun hc => ?_) (fun hc => ?_)
  · (repeat (first | refine zs rfl ?_ | refine zg rfl rfl rfl ?_ | refine zd ?_ | refine JK.fin ?_ | refine JK.ret ?_ | refine zc rfl (fn16) rfl rfl ?_ | refine ze rfl (fn16) rfl ?_ | refine zk rfl rfl (fun _ => fn16) rfl rfl ?_))
    refine ⟨.inl rfl, _, _, rfl, trivial, ?_⟩
    rfl
  · have h6 : dayE l = 0 → l.length ≤ 6 := fun hz => by
      have hc2 : (bif decide (l.length > 15) then true else decide (dayE l = 0 ∧ l.length > 6)) = false := hc
      by_cases e : l.length > 15
      · rw [decide_eq_true e] at hc2; cases hc2
      · rw [decide_eq_false e] at hc2
        have := of_decide_eq_false hc2
        omega
    have c1 := fn39 l s
    have c2 := fn40 l s h6
    generalize spI l s = A at c1 c2
    generalize spE l s = B at c1 c2
    (repeat (first | refine zt rfl (by simp [wantB]) ?_ | refine zs rfl ?_ | refine ze rfl c1 rfl ?_ | refine ze rfl c2 rfl ?_ | refine zc rfl fn16 rfl rfl ?_ | refine JK.ret ?_))
    refine ⟨.inl rfl, _, _, rfl, trivial, ?_⟩
    simp
set_option maxHeartbeats 4000000 in
theorem law5 (l : List Sh) (xs : List Int) (f : Bool) : Ox.Fn Go.Proofs.Try.prog 5 (.acons (vD l) (.acons (vBo xs f) .anil)) (· = vB true) := by
  refine Ox.Fn.intro xok Go.Proofs.Try.func5 rfl Go.Proofs.Try.call5 (Nat.le_of_ble_eq_true rfl) (fun E M0 up => ?_)
  refine JK.start ?_
  (repeat (first | refine zs rfl ?_ | refine zg rfl rfl rfl ?_ | refine zd ?_ | refine JK.fin ?_ | refine JK.ret ?_ | refine zc rfl (fn15 l) rfl rfl ?_ | refine ze rfl (fn15 l) rfl ?_ | refine zk rfl rfl (fun _ => fn15 l) rfl rfl ?_ | refine zc rfl (fn28 l) rfl rfl ?_ | refine ze rfl (fn28 l) rfl ?_ | refine zk rfl rfl (fun _ => fn28 l) rfl rfl ?_))
  refine JK.cond rfl (fun hc => ?_) (fun hc => ?_)
  · (repeat (first | refine zs rfl ?_ | refine zg rfl rfl rfl ?_ | refine zd ?_ | refine JK.fin ?_ | refine JK.ret ?_ | refine zc rfl (fn16) rfl rfl ?_ | refine ze rfl (fn16) rfl ?_ | refine zk rfl rfl (fun _ => fn16) rfl rfl ?_))
    refine ⟨.inl rfl, _, _, rfl, trivial, ?_⟩
    rfl
  · have hc2 : (bif (bif decide (l.length > 15) then true else decide (dayE l = 0 ∧ l.length > 6)) then true else decide ((xs.length : Int) > 20)) = false := hc
    have h6 : (dayE l = 0 → l.length ≤ 6) ∧ xs.length ≤ 20 := by
      by_cases e : l.length > 15
      · rw [decide_eq_true e] at hc2; cases hc2
      · rw [decide_eq_false e] at hc2
        by_cases e2 : dayE l = 0 ∧ l.length > 6
        · rw [decide_eq_true e2] at hc2; cases hc2
        · rw [decide_eq_false e2] at hc2
          have := of_decide_eq_false hc2
          exact ⟨fun h => by omega, by omega⟩
    have c1 := fn29 l
    have c2 := fn30 l h6.1
    have c3 := fn31 l xs f (by omega)
    have c4 := fn32 l xs f (by omega)
    have c5 := fn33 l
    have c34 := fn34 (bstI l) (bstI l)
    rw [decide_eq_true rfl] at c34
    by_cases hz : dayE l = 0
    · obtain ⟨b1, b2, b3, b4⟩ := bnd_ok hz
      have e1 : boI l = iL (bndO l) := by unfold boI; rw [if_pos hz]
      have e2 : boF l = bndF l := by unfold boF; rw [if_pos hz]
      have e3 : lstI l = leS l := by unfold lstI; rw [if_pos hz]
      have c6 := fn32 l (iL (bndO l)) (bndF l) (by rw [List.length_map]; omega)
      rw [b1, b2] at c6
      rw [e1, e2, hz] at c5
      rw [e3, hz] at c1 c2
      generalize iL (bndO l) = bo at c5 c6
      generalize bndF l = bf at c5 c6
      generalize bstI l = A at c1 c2 c34
      generalize leS l = B at c1 c2 c6
      generalize bdI l xs f = C at c3 c4
      generalize bdE l xs = E1 at c3 c4
      (repeat (first | refine zt rfl (by simp [wantB]) ?_ | refine zs rfl ?_ | refine ze rfl c1 rfl ?_ | refine ze rfl c2 rfl ?_ | refine ze rfl c3 rfl ?_ | refine ze rfl c4 rfl ?_ | refine ze rfl c5 rfl ?_ | refine zc rfl c34 rfl rfl ?_))
      refine JK.cond rfl (fun h => absurd h (by simp)) (fun _ => ?_)
      (repeat (first | refine zs rfl ?_ | refine zg rfl rfl rfl ?_ | refine zd ?_ | refine JK.fin ?_ | refine JK.ret ?_))
      refine JK.cond rfl (fun h => absurd h (by simp)) (fun _ => ?_)
      (repeat (first | refine zt rfl (by simp [wantB]) ?_ | refine zs rfl ?_ | refine ze rfl c6 rfl ?_ | refine zc rfl fn16 rfl rfl ?_ | refine JK.ret ?_))
      refine ⟨.inl rfl, _, _, rfl, trivial, ?_⟩
      simp
    · have e1 : boI l = [] := by unfold boI; rw [if_neg hz]
      have e2 : boF l = false := by unfold boF; rw [if_neg hz]
      rw [e1, e2] at c5
      generalize bstI l = A at c1 c2 c34
      generalize lstI l = B at c1 c2
      generalize bdI l xs f = C at c3 c4
      generalize bdE l xs = E1 at c3 c4
      generalize dayE l = D1 at c1 c2 c5 hz
      (repeat (first | refine zt rfl (by simp [wantB]) ?_ | refine zs rfl ?_ | refine ze rfl c1 rfl ?_ | refine ze rfl c2 rfl ?_ | refine ze rfl c3 rfl ?_ | refine ze rfl c4 rfl ?_ | refine ze rfl c5 rfl ?_ | refine zc rfl c34 rfl rfl ?_))
      refine JK.cond rfl (fun h => absurd h (by simp)) (fun _ => ?_)
      (repeat (first | refine zs rfl ?_ | refine zg rfl rfl rfl ?_ | refine zd ?_ | refine JK.fin ?_ | refine JK.ret ?_))
      refine JK.cond rfl (fun _ => ?_) (fun h => absurd (bne_eq_false_iff_eq.1 h) hz)
      (repeat (first | refine zt rfl (by simp [wantB]) ?_ | refine zs rfl ?_ | refine zc rfl fn16 rfl rfl ?_ | refine JK.ret ?_))
      refine ⟨.inl rfl, _, _, rfl, trivial, ?_⟩
      rfl
end Go.Proofs.Ythiocglfgcnlhaa

namespace Ox
open Go Go.RowKit
variable {X : Ctx} {s : S} {QA : Exit → S → Prop}

theorem JC.cellW {c : Code} (m : Nat) {t : Ty} {a a' : AV} (hm : lk s.H m = some (.cell t a)) (hcf : confB t a' = true) (hb : ∀ n, a'.bd n) (h : ∀ M ρ cs, a.rc M ρ cs → a'.rc M ρ cs)
    (k : JC X c QA ⟨s.L, updH s.H m (.cell t a'), s.nx⟩) : JC X c QA s := fun M ρ ac w h1 h2 => by
  have hok := own_ok h1 hm
  simp only [HO.ok] at hok
  obtain ⟨o1, o2, o3, c0, ty, o4, o5⟩ := hok
  have g := h1.upd (o' := .cell t a') hm (grownBy_refl w _) rfl (hb _) (by
    simp only [HO.ok]
    exact ⟨o1, hcf, o3, c0, ty, o4, h _ _ _ o5⟩)
  exact k M ρ ac w g ⟨h2.size, h2.defers, h2.reg⟩
theorem JK.cellW {c : Code} {r : List Fr} (m : Nat) {t : Ty} {a a' : AV} (hm : lk s.H m = some (.cell t a)) (hcf : confB t a' = true) (hb : ∀ n, a'.bd n) (h : ∀ M ρ cs, a.rc M ρ cs → a'.rc M ρ cs)
    (k : JK X (.code c :: r) QA ⟨s.L, updH s.H m (.cell t a'), s.nx⟩) : JK X (.code c :: r) QA s := JC.cellW m hm hcf hb h k
/-- A nil slice reads as the empty list. -/
theorem rc_nil {M : Mem} {ρ : Env} {e : Ty} {cs : List Value} (h : (AV.lf .nils).rc M ρ cs) : Rep M (.slice e) [] cs := by
  obtain ⟨v, h1, h2, rfl⟩ := h
  simp only [Leaf.at, Option.some.injEq] at h1
  subst h1
  simp only [Rep]
  exact ⟨none, 0, rfl, Nat.le_refl _, by decide, fun _ => rfl, .inl rfl⟩
/-- A struct whose first part is a nil slice. -/
theorem rc_nilC {M : Mem} {ρ : Env} {e t : Ty} {y : t.den} {cs : List Value} (h : (AV.mix (.lf .nils) (.val t y)).rc M ρ cs) : (AV.val (.cons (.slice e) t) ([], y)).rc M ρ cs := by
  simp only [AV.rc] at h ⊢
  obtain ⟨c1, c2, h1, h2, rfl⟩ := h
  simp only [Rep]
  refine ⟨c1, c2, rfl, rc_nil h1, h2⟩
/-- The nil slice that is the first part of a struct in a cell is an empty row of the call's own. -/
theorem JC.ghostM {c : Code} {s : S} (m : Nat) (eid : TypeId) (e : Ty) {t : Ty} {b : AV} (hm : lk s.H m = some (.cell t (.mix (.lf .nils) b))) (hcf : confB t (.mix (.lf (.osl s.nx)) b) = true) (hb : ∀ n, b.bd n)
    (k : JC X c QA ⟨s.L, updH ((s.nx, .sl eid e []) :: s.H) m (.cell t (.mix (.lf (.osl s.nx)) b)), s.nx + 1⟩) : JC X c QA s := fun M ρ a w h1 h2 => by
  have g1 := h1.ghost eid e
  have hr := nilAt_upTo ρ s.nx e
  have g2 : REG X M (ρ.nilAt s.nx e) ⟨s.L, updH ((s.nx, .sl eid e []) :: s.H) m (.cell t (.mix (.lf (.osl s.nx)) b)), s.nx + 1⟩ a := by
    have := h2.grow (H' := updH ((s.nx, .sl eid e []) :: s.H) m (.cell t (.mix (.lf (.osl s.nx)) b))) (nx' := s.nx + 1) (Mem.le_refl M) hr (Nat.le_succ _) (Mem.dle_refl M)
    exact this
  obtain ⟨o1, o2, o3⟩ := h1.own m _ hm
  have hm' : lk ((s.nx, HO.sl eid e []) :: s.H) m = some (.cell t (.mix (.lf .nils) b)) := by
    simp only [lk]; rw [if_neg (by omega)]; exact hm
  obtain ⟨q1, q2, q3⟩ := g1.own m _ hm'
  refine k M _ a w (g1.upd hm' (grownBy_refl w _) rfl ⟨Nat.lt_succ_self _, hb _⟩ ?_) g2
  simp only [HO.ok] at q3 ⊢
  obtain ⟨r1, r2, r3, c, ty, r4, r5⟩ := q3
  refine ⟨r1, hcf, r3, c, ty, r4, ?_⟩
  simp only [AV.rc, Leaf.at] at r5 ⊢
  obtain ⟨c1, c2, ⟨v, v1, v2, v3⟩, hc2, v4⟩ := r5
  simp only [Option.some.injEq] at v1
  subst v1
  exact ⟨c1, c2, ⟨_, by simp [Env.nilAt], rfl, v3⟩, hc2, v4⟩
theorem JK.ghostM {c : Code} {r : List Fr} {s : S} (m : Nat) (eid : TypeId) (e : Ty) {t : Ty} {b : AV} (hm : lk s.H m = some (.cell t (.mix (.lf .nils) b))) (hcf : confB t (.mix (.lf (.osl s.nx)) b) = true) (hb : ∀ n, b.bd n)
    (k : JK X (.code c :: r) QA ⟨s.L, updH ((s.nx, .sl eid e []) :: s.H) m (.cell t (.mix (.lf (.osl s.nx)) b)), s.nx + 1⟩) : JK X (.code c :: r) QA s := JC.ghostM m eid e hm hcf hb k
end Ox

namespace Go.Proofs.Ythiocglfgcnlhaa
open Go Go.RowKit Ox Ox.Sh
attribute [local irreducible] JC JL JK JW

def gvL (b : Nat) (k : Nat) : List Nat := (List.range k).filter fun i => decide ((b / 2 ^ i) &&& 1 = 1)
theorem gvL_succ (b k : Nat) : gvL b (k + 1) = gvL b k ++ if (b / 2 ^ k) &&& 1 = 1 then [k] else [] := by
  unfold gvL
  rw [List.range_succ, List.filter_append]
  by_cases h : (b / 2 ^ k) &&& 1 = 1
  · rw [if_pos h, List.filter_cons_of_pos (by exact decide_eq_true h)]; rfl
  · rw [if_neg h, List.filter_cons_of_neg (by simpa using h)]; rfl
theorem gvL_inc (b N : Nat) : Inc N (iL (gvL b N)) := by
  refine ⟨fun x hx => ?_, ?_⟩
  · obtain ⟨n, hn, rfl⟩ := List.mem_map.1 hx
    have := List.mem_range.1 (List.mem_filter.1 hn).1
    omega
  · unfold iL
    rw [List.pairwise_map]
    exact (List.Pairwise.filter _ List.pairwise_lt_range).imp fun h => by omega
theorem gvL_len (b N : Nat) : (gvL b N).length ≤ N := by
  unfold gvL
  have := List.length_filter_le (fun i => decide ((b / 2 ^ i) &&& 1 = 1)) (List.range N)
  rw [List.length_range] at this
  exact this
theorem ord_play {l : List Sh} (hz : dayE l = 0) {o : List Nat} (h : o ∈ allL l) : playE l (iL o) = 0 ∧ endR l (iL o) = endS l (0, 0) o := by
  obtain ⟨h1, h2, h3⟩ := mem_lvl.1 h
  have hp : playE l (iL o) = 0 := play_ok.2 ⟨hz, ord_of h1 h3 h2⟩
  exact ⟨hp, by unfold endR; rw [if_pos hp, nat_iL]⟩
set_option maxHeartbeats 8000000 in
theorem law8 (l : List Sh) (u : List Int) (bits : Int) (front : Bool) (hu : ∀ x ∈ u, 0 ≤ x ∧ x ≤ 255) (hbt : 0 ≤ bits ∧ bits ≤ 255) :
    Ox.Fn Go.Proofs.Try.prog 8 (.acons (vD l) (.acons (vU u) (.acons (.val (.int .u8) bits) (.acons (vB front) .anil)))) (· = vB true) := by
  refine Ox.Fn.intro xok Go.Proofs.Try.func8 rfl Go.Proofs.Try.call8 (Nat.le_of_ble_eq_true rfl) (fun E M0 up => ?_)
  refine JK.start ?_
  (repeat (first | refine zs rfl ?_ | refine zg rfl rfl rfl ?_ | refine zd ?_ | refine JK.fin ?_ | refine JK.ret ?_ | refine zc rfl (fn41 l) rfl rfl ?_ | refine ze rfl (fn41 l) rfl ?_ | refine zk rfl rfl (fun _ => fn41 l) rfl rfl ?_))
  refine JK.cond rfl (fun hc => ?_) (fun hc => ?_)
  · (repeat (first | refine zs rfl ?_ | refine zg rfl rfl rfl ?_ | refine zd ?_ | refine JK.fin ?_ | refine JK.ret ?_ | refine zc rfl (fn16) rfl rfl ?_ | refine ze rfl (fn16) rfl ?_ | refine zk rfl rfl (fun _ => fn16) rfl rfl ?_))
    refine ⟨.inl rfl, _, _, rfl, trivial, ?_⟩
    rfl
  · have hc2 : (bif !decide (dayE l = 0) then true else decide ((u.length : Int) > 30)) = false := hc
    have hz : dayE l = 0 ∧ u.length ≤ 30 := by
      by_cases e : dayE l = 0
      · rw [decide_eq_true e] at hc2
        have := of_decide_eq_false hc2
        exact ⟨e, by omega⟩
      · rw [decide_eq_false e] at hc2; cases hc2
    obtain ⟨hz, hul⟩ := hz
    obtain ⟨d1, d8, dl⟩ := day_ok hz
    obtain ⟨b, rfl⟩ : ∃ b : Nat, bits = (b : Int) := ⟨bits.toNat, by omega⟩
    (repeat (first | refine zs rfl ?_ | refine zg rfl rfl rfl ?_ | refine zd ?_ | refine JK.fin ?_ | refine JK.ret ?_))
    refine JK.ghostM 0 3 (.int .i64) (b := .val (.cons .bool .nil) (front, ())) rfl rfl (fun _ => trivial) ?_
    refine JK.loop (fun i : Nat => ⟨[(0, vD l), (1, vU u), (2, .val (.int .u8) (b : Int)), (9, .lf (.optr 0 [])), (10, vI (i : Int))], [(0, .cell bdT (.mix (.lf (.osl 1)) (.val (.cons .bool .nil) (front, ())))), (1, .sl 3 (.int .i64) (iL (gvL b i)))], 2⟩)
      (fun i => i ≤ l.length) (fun i => l.length - i) 0 (Nat.zero_le _) (by (exact JW.Auto (by conv => lhs; reduce))) fun i hi => ?_
    have hdv : 0 ≤ (b : Int) / 2 ^ i ∧ (b : Int) / 2 ^ i ≤ 255 := by
      have e : (b : Int) / 2 ^ i = ((b / 2 ^ i : Nat) : Int) := by push_cast; rfl
      rw [e]
      have := Nat.div_le_self b (2 ^ i)
      generalize b / 2 ^ i = z at this ⊢
      omega
    have hbit := bit_term b i
    have hgs := gvL_succ b i
    have hgl := gvL_len b i
    have hgl2 : (iL (gvL b i)).length ≤ 8 := by rw [List.length_map]; omega
    have hfin : i = l.length → gvL b i = gvL b l.length := fun e => by rw [e]
    have hsn : (b / 2 ^ i) &&& 1 = 1 → iL (gvL b (i + 1)) = iL (gvL b i) ++ [(i : Int)] := fun h => by rw [hgs, if_pos h]; simp
    have hsm : ¬ (b / 2 ^ i) &&& 1 = 1 → iL (gvL b (i + 1)) = iL (gvL b i) := fun h => by rw [hgs, if_neg h]; simp
    have hfin : i = l.length → iL (gvL b i) = iL (gvL b l.length) := fun e => by rw [e]
    generalize iL (gvL b i) = X at hgl2 hsn hsm hfin ⊢
    (repeat (first | refine zs rfl ?_ | refine zg rfl rfl rfl ?_ | refine zd ?_ | refine JK.fin ?_ | refine JK.ret ?_))
    refine JK.cond rfl (fun hd => ?_) (fun hd => ?_)
    · (simp only [↓bif_or, ↓bif_and, ↓Bool.or_eq_true, ↓Bool.or_eq_false_iff, ↓Bool.and_eq_true, ↓Bool.and_eq_false_iff, ↓Bool.not_eq_true', ↓Bool.not_eq_false', ↓decide_eq_true_eq, ↓decide_eq_false_iff_not, ↓beq_iff_eq, ↓bne_iff_ne, ↓bne_eq_false_iff_eq, ↓ne_eq, ↓beq_eq_false_iff_ne, ↓Bool.not_eq_true] at hd; try simp only [Ty.dflt, Int.toNat_natCast] at hd)
      (repeat (first | refine zs rfl ?_ | refine zg rfl rfl rfl ?_ | refine zd ?_ | refine JK.fin ?_ | refine JK.ret ?_))
      refine JK.cond rfl (fun he => ?_) (fun he => ?_)
      · have he2 := of_decide_eq_true (by rw [← hbit]; exact he : decide ((((b / 2 ^ i) &&& 1 : Nat) : Int) = 1) = true)
        have hs := hsn (by omega)
        (repeat (first | refine zs rfl ?_ | refine zg rfl rfl rfl ?_ | refine zd ?_ | refine JK.fin ?_ | refine JK.ret ?_))
        refine ⟨i + 1, ?_, by omega, by omega⟩
        rw [hs]; (exact JW.Auto (by conv => lhs; reduce))
      · have he2 := of_decide_eq_false (by rw [← hbit]; exact he : decide ((((b / 2 ^ i) &&& 1 : Nat) : Int) = 1) = false)
        have hs := hsm (by omega)
        (repeat (first | refine zs rfl ?_ | refine zg rfl rfl rfl ?_ | refine zd ?_ | refine JK.fin ?_ | refine JK.ret ?_))
        refine ⟨i + 1, ?_, by omega, by omega⟩
        rw [hs]; (exact JW.Auto (by conv => lhs; reduce))
    · (simp only [↓bif_or, ↓bif_and, ↓Bool.or_eq_true, ↓Bool.or_eq_false_iff, ↓Bool.and_eq_true, ↓Bool.and_eq_false_iff, ↓Bool.not_eq_true', ↓Bool.not_eq_false', ↓decide_eq_true_eq, ↓decide_eq_false_iff_not, ↓beq_iff_eq, ↓bne_iff_ne, ↓bne_eq_false_iff_eq, ↓ne_eq, ↓beq_eq_false_iff_ne, ↓Bool.not_eq_true] at hd; try simp only [Ty.dflt, Int.toNat_natCast] at hd)
      rw [hfin (by omega)]
      have hXi := gvL_inc b l.length
      have hXl : (iL (gvL b l.length)).length ≤ 8 := by rw [List.length_map]; have := gvL_len b l.length; omega
      generalize iL (gvL b l.length) = Y at hXi hXl ⊢
      (refine JK.frz [1] [0,1,9] rfl (by (first | exact trivial | (try dsimp only [allP, inK, idxC, loC, lohiC, fullC, underG, List.append, List.nil_append, List.cons_append, Ty.den, Ty.dflt, Int.toNat_natCast, List.length_cons, List.length_nil] at *); first | omega | ((repeat' (first | exact trivial | assumption | refine And.intro ?_ ?_ | exact fun h => h | (intro hpk; first | exact hpk | simp only [wantB, hpk, Bool.not_false, Bool.not_true]))) <;> omega) | fail)) ?_)
      have c42 := fn42 l
      have c33 := fn33 l
      obtain ⟨b1, b2, b3, b4⟩ := bnd_ok hz
      have e1 : boI l = iL (bndO l) := by unfold boI; rw [if_pos hz]
      have e2 : boF l = bndF l := by unfold boF; rw [if_pos hz]
      have e3 : lstI l = leS l := by unfold lstI; rw [if_pos hz]
      have hbl : (iL (bndO l)).length ≤ 1000 := by rw [List.length_map]; omega
      have c31 := fn31 l (iL (bndO l)) (bndF l) hbl
      have c32 := fn32 l (iL (bndO l)) (bndF l) hbl
      rw [e1, e2, hz] at c33
      rw [e3, decide_eq_true hz] at c42
      rw [b1, b2] at c31 c32
      have c43 := fn43 l u (by omega) hu (by omega)
      have hoL := ordR_lvl u l.length
      obtain ⟨p1, p2⟩ := ord_play hz hoL
      have c19 := fn19 l (iL (ordR u l.length))
      rw [p1, p2] at c19
      have hle := le_all dl hoL
      have c31x := fn31 l Y front (by omega)
      have hlast : ((bdE l Y == 0) != decide ((Y.length : Int) > 0)) = false := by
        by_cases hY : Y = []
        · have : bdE l Y ≠ 0 := fun h => (bd_ok.1 h).2.2 hY
          rw [beq_eq_false_iff_ne.2 this, hY]; rfl
        · have : bdE l Y = 0 := bd_ok.2 ⟨hz, hXi, hY⟩
          have h2 : 0 < Y.length := List.length_pos_iff.2 hY
          rw [this, decide_eq_true (by omega)]; rfl
      have hzl : bdE l Y = 0 → bdI l Y front ≤ leS l := fun h => by
        obtain ⟨_, q1, q2⟩ := bd_ok.1 h
        obtain ⟨n1, n2, n3⟩ := q1.nat
        unfold bdI
        rw [if_pos h]
        exact bd_lo dl front (fun e => q2 (by rw [← n3, e]; rfl)) n2
      generalize iL (bndO l) = bo at c33 c31 c32
      generalize bndF l = bf at c33 c31 c32
      generalize iL (ordR u l.length) = oo at c43 c19
      generalize endS l (0, 0) (ordR u l.length) = m at c19 hle
      generalize leS l = n at c42 c31 c32 hle hzl
      generalize bdE l Y = E5 at c31x hlast hzl
      generalize bdI l Y front = zz at c31x hzl
      have hmn : decide (m < n) = false := decide_eq_false (by omega)
      (repeat (first | refine zt rfl (by simp [wantB, hmn]) ?_ | refine zs rfl ?_ | refine ze rfl c42 rfl ?_ | refine ze rfl c33 rfl ?_ | refine ze rfl c31 rfl ?_ | refine ze rfl c32 rfl ?_ | refine ze rfl c43 rfl ?_ | refine ze rfl c19 rfl ?_ | refine ze rfl c31x rfl ?_))
      refine JK.cond rfl (fun h => ?_) (fun _ => ?_)
      · have h2 : ((E5 == 0) != decide ((Y.length : Int) > 0)) = true := by simpa [hmn] using h
        rw [hlast] at h2; cases h2
      by_cases h5 : E5 = 0
      · have hz5 := hzl h5
        subst h5
        (repeat (first | refine zt rfl (by simp [wantB, hz5]) ?_ | refine zs rfl ?_ | refine zg rfl rfl rfl ?_ | refine zc rfl fn16 rfl rfl ?_ | refine JK.ret ?_))
        refine ⟨.inl rfl, _, _, rfl, trivial, ?_⟩
        simp [hz5]
      · have h5' : (E5 != 0) = true := bne_iff_ne.2 h5
        (repeat (first | refine zt rfl (by first | rfl | (simp only [wantB]; rw [h5']; rfl)) ?_ | refine zs rfl ?_ | refine zg rfl rfl rfl ?_ | refine zc rfl fn16 rfl rfl ?_ | refine JK.ret ?_))
        refine ⟨.inl rfl, _, _, rfl, trivial, ?_⟩
        simp [h5]
end Go.Proofs.Ythiocglfgcnlhaa

namespace Go.Proofs.Ythiocglfgcnlhaa
open Go Go.RowKit Ox Ox.Sh

/-! What a best order is. -/
theorem le_iff {l : List Sh} (hl : okD l) {m : Int} (h1 : ∀ o ∈ allL l, m ≤ endS l (0, 0) o) (h2 : ∃ o ∈ allL l, endS l (0, 0) o ≤ m) : leS l = m := by
  have a := h1 _ (rule_in l)
  obtain ⟨o, ho, he⟩ := h2
  have b := le_all hl ho
  have c : endS l (0, 0) (ruleL l) = leS l := rfl
  omega
/-! Turned round. -/
def swS (s : Sh) : Sh := (s.2.2.1, s.2.1, s.1, ())
def swL (l : List Sh) : List Sh := l.map swS
theorem swL_len (l : List Sh) : (swL l).length = l.length := List.length_map _
theorem swL_get (l : List Sh) (n : Nat) : (swL l).getD n z0 = swS (l.getD n z0) := by
  unfold swL
  rw [List.getD_eq_getElem?_getD, List.getD_eq_getElem?_getD, List.getElem?_map]
  cases l[n]? <;> rfl
theorem swL_ok {l : List Sh} (h : okD l) : okD (swL l) := fun s hs => by
  obtain ⟨x, hx, rfl⟩ := List.mem_map.1 hs
  have := h x hx
  unfold okS at this ⊢
  simp only [da, dr, dp, swS] at this ⊢
  omega
theorem swL_sw (l : List Sh) : swL (swL l) = l := by
  unfold swL
  rw [List.map_map]
  exact List.map_id'' (fun s => rfl) l
theorem aN_sw (l : List Sh) (n : Nat) : aN (swL l) n = cN l n ∧ cN (swL l) n = aN l n ∧ rN (swL l) n = rN l n := by
  unfold aN cN rN
  rw [swL_get]
  exact ⟨rfl, rfl, rfl⟩
theorem turn_le {l : List Sh} (hl : okD l) {o : List Nat} (hne : o ≠ []) : endS l (0, 0) o ≤ endS (swL l) (0, 0) o.reverse := by
  obtain ⟨u, n, v, e1, e2⟩ := end_some hl hne
  have h := end_row (l := swL l) v.reverse n u.reverse (0, 0)
  have e3 : o.reverse = v.reverse ++ n :: u.reverse := by rw [e1]; simp
  rw [e3, e2]
  have e4 : rowU (swL l) v.reverse n u.reverse = rowU l u n v := by
    unfold rowU
    have ea : aN (swL l) = cN l := funext fun k => (aN_sw l k).1
    have ec : cN (swL l) = aN l := funext fun k => (aN_sw l k).2.1
    have er : rN (swL l) = rN l := funext fun k => (aN_sw l k).2.2
    rw [ea, ec, er, sm_perm (List.reverse_perm v), sm_perm (List.reverse_perm u)]
    omega
  rw [e4] at h
  dsimp only at h
  omega
theorem turn_end {l : List Sh} (hl : okD l) {o : List Nat} (hne : o ≠ []) : endS (swL l) (0, 0) o.reverse = endS l (0, 0) o := by
  have h1 := turn_le hl hne
  have h2 := turn_le (swL_ok hl) (o := o.reverse) (by simpa using hne)
  rw [swL_sw, List.reverse_reverse] at h2
  omega
theorem rev_in {N : Nat} {o : List Nat} : o.reverse ∈ lvl N N ↔ o ∈ lvl N N := by
  constructor
  · intro h
    exact lvl_of_perm ((List.reverse_perm o).symm.trans (lvl_perm h))
  · intro h
    exact lvl_of_perm ((List.reverse_perm o).trans (lvl_perm h))
theorem all_ne {l : List Sh} (h1 : 1 ≤ l.length) {o : List Nat} (h : o ∈ allL l) : o ≠ [] := fun e => by
  have := (mem_lvl.1 h).1
  rw [e] at this; simp at this; omega
theorem turn_least {l : List Sh} (hl : okD l) (h1 : 1 ≤ l.length) : leS (swL l) = leS l := by
  refine le_iff (swL_ok hl) (fun o ho => ?_) ⟨(ruleL l).reverse, ?_, ?_⟩
  · have ho' : o.reverse ∈ allL l := by
      have : o ∈ lvl l.length l.length := by have := ho; unfold allL at this; rwa [swL_len] at this
      exact rev_in.2 this
    have h2 := turn_end hl (all_ne h1 ho')
    rw [List.reverse_reverse] at h2
    rw [h2]
    exact le_all hl ho'
  · have := rev_in.2 (rule_in l)
    unfold allL; rw [swL_len]; exact this
  · rw [turn_end hl (all_ne h1 (rule_in l))]
    exact Int.le_refl _
theorem turn_best {l : List Sh} (hl : okD l) (h1 : 1 ≤ l.length) {o : List Nat} : o.reverse ∈ bestsL (swL l) ↔ o ∈ bestsL l := by
  rw [mem_bests, mem_bests, turn_least hl h1]
  unfold allL
  rw [swL_len, rev_in]
  constructor
  · rintro ⟨a, b⟩
    exact ⟨a, by rw [← b, turn_end hl (all_ne h1 a)]⟩
  · rintro ⟨a, b⟩
    exact ⟨a, by rw [turn_end hl (all_ne h1 a), b]⟩
theorem len_sub {α : Type} [DecidableEq α] : ∀ {z a : List α}, z.Nodup → (∀ x ∈ z, x ∈ a) → z.length ≤ a.length
  | [], _, _, _ => Nat.zero_le _
  | x :: z, a, hn, hs => by
    obtain ⟨h1, h2⟩ := List.nodup_cons.1 hn
    have hx := hs x List.mem_cons_self
    have h3 := len_sub (z := z) (a := a.erase x) h2 fun y hy => by
      have : y ≠ x := fun e => h1 (e ▸ hy)
      exact (List.mem_erase_of_ne this).2 (hs y (List.mem_cons_of_mem _ hy))
    rw [List.length_erase_of_mem hx] at h3
    have := List.length_pos_of_mem hx
    rw [List.length_cons]; omega
theorem lvl_nodup (N : Nat) : ∀ k, (lvl N k).Nodup
  | 0 => List.nodup_cons.2 ⟨by simp, List.nodup_nil⟩
  | k + 1 => by
    rw [lvl]
    unfold List.Nodup
    rw [List.pairwise_flatMap]
    refine ⟨fun row _ => ?_, (lvl_nodup N k).imp fun {r s} hrs => ?_⟩
    · rw [List.pairwise_map]
      exact (freeL_nodup N row).imp fun {a b} hab e => hab (by simpa using e)
    · rintro x hx y hy rfl
      obtain ⟨a, _, ea⟩ := List.mem_map.1 hx
      obtain ⟨b, _, eb⟩ := List.mem_map.1 hy
      have := ea.trans eb.symm
      exact hrs (List.append_inj_left' this rfl)
theorem bests_nodup (l : List Sh) : (bestsL l).Nodup := (lvl_nodup _ _).filter _
theorem map_rev_nodup {L : List (List Nat)} (h : L.Nodup) : (L.map List.reverse).Nodup := by
  unfold List.Nodup at h ⊢
  rw [List.pairwise_map]
  exact h.imp fun {a b} hab e => hab (by simpa using e)
theorem turn_cnt_le {l : List Sh} (hl : okD l) (h1 : 1 ≤ l.length) {P Q : List Nat → Bool} (hPQ : ∀ o ∈ bestsL l, P o = true → Q o.reverse = true) : ((bestsL l).filter P).length ≤ ((bestsL (swL l)).filter Q).length := by
  have e : ((bestsL l).filter P).length = (((bestsL l).filter P).map List.reverse).length := by simp
  rw [e]
  refine len_sub (map_rev_nodup ((bests_nodup l).filter _)) fun x hx => ?_
  obtain ⟨o, ho, rfl⟩ := List.mem_map.1 hx
  obtain ⟨a, b⟩ := List.mem_filter.1 ho
  exact List.mem_filter.2 ⟨(turn_best hl h1).2 a, hPQ o a b⟩
theorem bef_mem {a b : Nat} (hab : a ≠ b) : ∀ {o : List Nat}, o.Nodup → a ∈ o → b ∈ o → (befB a b o = true ↔ o.idxOf a < o.idxOf b)
  | [], _, h, _ => by cases h
  | m :: r, hn, ha, hb => by
    obtain ⟨n1, n2⟩ := List.nodup_cons.1 hn
    rw [befB, List.idxOf_cons, List.idxOf_cons]
    by_cases c1 : m = b
    · rw [if_pos c1]
      have e1 : (m == b) = true := beq_iff_eq.2 c1
      have e2 : (m == a) = false := beq_eq_false_iff_ne.2 fun e => hab (by rw [← e, c1])
      rw [e1, e2]
      simp
    · rw [if_neg c1]
      have e1 : (m == b) = false := beq_eq_false_iff_ne.2 c1
      rw [e1]
      by_cases c2 : m = a
      · rw [if_pos c2]
        have e2 : (m == a) = true := beq_iff_eq.2 c2
        rw [e2]
        simp
      · rw [if_neg c2]
        have e2 : (m == a) = false := beq_eq_false_iff_ne.2 c2
        rw [e2]
        have := bef_mem hab n2 ((List.mem_cons.1 ha).resolve_left fun e => c2 e.symm) ((List.mem_cons.1 hb).resolve_left fun e => c1 e.symm)
        rw [this]
        simp only [cond_false]
        omega
theorem nodup_rev {o : List Nat} (h : o.Nodup) : o.reverse.Nodup := (List.reverse_perm o).nodup_iff.2 h
theorem part_len {α : Type} (P : α → Bool) : ∀ L : List α, (L.filter fun o => !P o).length + (L.filter P).length = L.length
  | [] => rfl
  | a :: L => by
    have := part_len P L
    cases h : P a <;> simp [h] <;> omega
theorem idx_rev {a : Nat} {o : List Nat} (hn : o.Nodup) (ha : a ∈ o) : o.reverse.idxOf a = o.length - 1 - o.idxOf a := by
  have hi := idx_lt ha
  refine idx_eq (nodup_rev hn) (by rw [List.length_reverse]; omega) ?_
  rw [getD_nat _ (by rw [List.length_reverse]; omega), List.getElem_reverse]
  have h1 := idx_get ha
  rw [getD_nat o hi] at h1
  have e : o.length - 1 - (o.length - 1 - o.idxOf a) = o.idxOf a := by omega
  simp only [e]
  exact h1
theorem bef_rev {a b : Nat} (hab : a ≠ b) {o : List Nat} (hn : o.Nodup) (ha : a ∈ o) (hb : b ∈ o) : befB b a o.reverse = befB a b o := by
  have h1 := bef_mem hab hn ha hb
  have h2 := bef_mem (fun e => hab e.symm) (nodup_rev hn) (List.mem_reverse.2 hb) (List.mem_reverse.2 ha)
  have h3 := idx_lt ha
  have h4 := idx_lt hb
  rw [idx_rev hn ha, idx_rev hn hb] at h2
  rw [Bool.eq_iff_iff, h1, h2]
  omega
theorem bef_not {a b : Nat} (hab : a ≠ b) {o : List Nat} (hn : o.Nodup) (ha : a ∈ o) (hb : b ∈ o) : befB b a o = !befB a b o := by
  have h1 := bef_mem hab hn ha hb
  have h2 := bef_mem (fun e => hab e.symm) hn hb ha
  have h3 : o.idxOf a ≠ o.idxOf b := fun e => by
    have g1 := idx_get ha
    have g2 := idx_get hb
    rw [e, g2] at g1
    exact hab g1.symm
  rw [Bool.eq_iff_iff, h2, Bool.not_eq_true', Bool.eq_false_iff, ne_eq, h1]
  omega
theorem turn_len {l : List Sh} (hl : okD l) (h1 : 1 ≤ l.length) : (bestsL (swL l)).length = (bestsL l).length := by
  have a := turn_cnt_le hl h1 (P := fun _ => true) (Q := fun _ => true) (fun _ _ _ => rfl)
  have b := turn_cnt_le (swL_ok hl) (by rw [swL_len]; exact h1) (P := fun _ => true) (Q := fun _ => true) (fun _ _ _ => rfl)
  rw [swL_sw] at b
  have f1 : ∀ L : List (List Nat), L.filter (fun _ => true) = L := fun L => List.filter_eq_self.2 fun _ _ => rfl
  rw [f1, f1] at a b
  omega
theorem bests_mem {l : List Sh} {o : List Nat} (h : o ∈ bestsL l) {n : Nat} (hn : n < l.length) : o.Nodup ∧ n ∈ o := by
  have := (mem_bests.1 h).1
  exact ⟨(mem_lvl.1 this).2.1, (lvl_perm this).mem_iff.2 (List.mem_range.2 hn)⟩
theorem turn_kind {l : List Sh} (hl : okD l) (h1 : 1 ≤ l.length) {a b : Nat} (hab : a ≠ b) (ha : a < l.length) (hb : b < l.length) : kindV (swL l) b a = kindV l a b := by
  have c : ((bestsL (swL l)).filter (befB b a)).length = ((bestsL l).filter (befB a b)).length := by
    have p := turn_cnt_le hl h1 (P := befB a b) (Q := befB b a) (fun o ho h => by
      have q1 := bests_mem ho ha
      have q2 := bests_mem ho hb
      rw [bef_rev hab q1.1 q1.2 q2.2]; exact h)
    have q := turn_cnt_le (swL_ok hl) (by rw [swL_len]; exact h1) (P := befB b a) (Q := befB a b) (fun o ho h => by
      have q1 := bests_mem ho (n := a) (by rw [swL_len]; exact ha)
      have q2 := bests_mem ho (n := b) (by rw [swL_len]; exact hb)
      rw [bef_rev (fun e => hab e.symm) q1.1 q2.2 q1.2]; exact h)
    rw [swL_sw] at q
    omega
  rw [kind_cnt, kind_cnt, c, turn_len hl h1]
theorem kind_sum {l : List Sh} {a b : Nat} (hab : a ≠ b) (ha : a < l.length) (hb : b < l.length) : kindV l a b + kindV l b a = 2 := by
  have hne := bests_ne l
  have hn : (bestsL l).length ≠ 0 := fun e => hne (List.length_eq_zero_iff.1 e)
  have hs : ((bestsL l).filter (befB b a)).length + ((bestsL l).filter (befB a b)).length = (bestsL l).length := by
    have e : (bestsL l).filter (befB b a) = (bestsL l).filter fun o => !befB a b o := List.filter_congr fun o ho => by
      have q1 := bests_mem ho ha
      have q2 := bests_mem ho hb
      exact bef_not hab q1.1 q1.2 q2.2
    rw [e]
    exact part_len _ _
  rw [kind_cnt, kind_cnt]
  generalize ((bestsL l).filter (befB b a)).length = x at *
  generalize ((bestsL l).filter (befB a b)).length = y at *
  generalize (bestsL l).length = z at *
  split <;> split <;> (try split) <;> (try split) <;> omega
end Go.Proofs.Ythiocglfgcnlhaa

namespace Go.Proofs.Ythiocglfgcnlhaa
open Go Go.RowKit Ox Ox.Sh

/-! Longer works. -/
def Dom (l m : List Sh) : Prop := ∀ n, aN l n ≤ aN m n ∧ rN l n ≤ rN m n ∧ cN l n ≤ cN m n
theorem dom_end {l m : List Sh} (h : Dom l m) : ∀ (o : List Nat) (p q : Int × Int), p.1 ≤ q.1 → p.2 ≤ q.2 → (endP l p o).1 ≤ (endP m q o).1 ∧ (endP l p o).2 ≤ (endP m q o).2
  | [], _, _, h1, h2 => ⟨h1, h2⟩
  | n :: o, p, q, h1, h2 => by
    rw [endP_cons, endP_cons]
    obtain ⟨a, b, c⟩ := h n
    unfold aN at a; unfold rN at b; unfold cN at c
    refine dom_end h o _ _ ?_ ?_
    · unfold nx; dsimp only; omega
    · unfold nx; dsimp only; omega
theorem dom_endS {l m : List Sh} (h : Dom l m) (o : List Nat) : endS l (0, 0) o ≤ endS m (0, 0) o := (dom_end h o _ _ (Int.le_refl _) (Int.le_refl _)).2
theorem dom_le {l m : List Sh} (h : Dom l m) (hl : okD l) (he : m.length = l.length) : leS l ≤ leS m := by
  have h1 : ruleL m ∈ allL l := by have := rule_in m; unfold allL at this ⊢; rwa [he] at this
  have h2 := le_all hl h1
  have h3 := dom_endS h (ruleL m)
  have h4 : endS m (0, 0) (ruleL m) = leS m := rfl
  omega
def addS (s : Sh) (a b c : Int) : Sh := (s.1 + a, s.2.1 + b, s.2.2.1 + c, ())
def addL (l : List Sh) (k : Nat) (a b c : Int) : List Sh := l.set k (addS (l.getD k z0) a b c)
theorem addL_len (l : List Sh) (k : Nat) (a b c : Int) : (addL l k a b c).length = l.length := List.length_set
theorem addL_get (l : List Sh) {k : Nat} (hk : k < l.length) (a b c : Int) (n : Nat) : (addL l k a b c).getD n z0 = if n = k then addS (l.getD k z0) a b c else l.getD n z0 := by
  unfold addL
  rw [List.getD_eq_getElem?_getD, List.getD_eq_getElem?_getD (l := l) (i := n), List.getElem?_set]
  by_cases e : n = k
  · subst e
    rw [if_pos rfl, if_pos rfl, if_pos hk]; rfl
  · rw [if_neg (fun h => e h.symm), if_neg e]
theorem addL_dom (l : List Sh) {k : Nat} (hk : k < l.length) {a b c : Int} (ha : 0 ≤ a) (hb : 0 ≤ b) (hc : 0 ≤ c) : Dom l (addL l k a b c) := fun n => by
  unfold aN rN cN
  rw [addL_get l hk]
  by_cases e : n = k
  · rw [if_pos e, e]; unfold addS; simp only [da, dr, dp]; omega
  · rw [if_neg e]; omega
theorem fine_all {l m : List Sh} (he : m.length = l.length) {o : List Nat} (h : o ∈ allL l) : o ∈ allL m := by unfold allL at h ⊢; rwa [he]

/-! One sheet more. -/
theorem more_get (l : List Sh) (s : Sh) {n : Nat} (h : n < l.length) : (l ++ [s]).getD n z0 = l.getD n z0 := by
  rw [List.getD_eq_getElem?_getD, List.getD_eq_getElem?_getD, List.getElem?_append_left h]
theorem more_last (l : List Sh) (s : Sh) : (l ++ [s]).getD l.length z0 = s := by
  rw [List.getD_eq_getElem?_getD, List.getElem?_append_right (Nat.le_refl _)]; simp
theorem more_end (l : List Sh) (s : Sh) : ∀ (o : List Nat) (p : Int × Int), (∀ n ∈ o, n < l.length) → endP (l ++ [s]) p o = endP l p o
  | [], _, _ => rfl
  | n :: o, p, h => by
    rw [endP_cons, endP_cons]
    have e : nx (l ++ [s]) p n = nx l p n := by unfold nx; rw [more_get l s (h n List.mem_cons_self)]
    rw [e]
    exact more_end l s o _ fun m hm => h m (List.mem_cons_of_mem _ hm)
theorem bath_press {l : List Sh} (hl : okD l) : ∀ (o : List Nat) (p : Int × Int), p.1 ≤ p.2 → (endP l p o).1 ≤ (endP l p o).2
  | [], _, h => h
  | n :: o, p, h => by
    rw [endP_cons]
    refine bath_press hl o _ ?_
    have := hl.get n
    unfold okS at this
    unfold nx; dsimp only; omega
theorem more_hi {l : List Sh} {s : Sh} (hl : okD (l ++ [s])) : leS (l ++ [s]) ≤ leS l + s.1 + s.2.1 + s.2.2.1 := by
  have hl' : okD l := fun x hx => hl x (List.mem_append_left _ hx)
  have hs : okS s := hl s (List.mem_append_right _ (List.mem_singleton.2 rfl))
  have hp : (ruleL l ++ [l.length]) ∈ allL (l ++ [s]) := by
    unfold allL
    refine lvl_of_perm ?_
    rw [List.length_append]
    show List.Perm _ (List.range (l.length + 1))
    rw [List.range_succ]
    exact (lvl_perm (rule_in l)).append_right _
  have h1 := le_all hl hp
  have h2 := bath_press hl' (ruleL l) (0, 0) (Int.le_refl _)
  have h3 : (endP l (0, 0) (ruleL l)).2 = leS l := rfl
  have h4 : endS (l ++ [s]) (0, 0) (ruleL l ++ [l.length]) = (nx (l ++ [s]) (endP l (0, 0) (ruleL l)) l.length).2 := by
    unfold endS
    rw [endP_app, more_end l s _ _ rule_mem]
    rfl
  rw [h4] at h1
  unfold nx at h1
  rw [more_last] at h1
  dsimp only at h1
  unfold okS at hs
  simp only [da, dr, dp] at h1 hs
  omega
theorem more_sm (l : List Sh) (s : Sh) : (∀ o : List Nat, (∀ n ∈ o, n < l.length) → sm (aN (l ++ [s])) o = sm (aN l) o ∧ sm (cN (l ++ [s])) o = sm (cN l) o) := fun o h =>
  ⟨sm_congr fun n hn => by unfold aN; rw [more_get l s (h n hn)], sm_congr fun n hn => by unfold cN; rw [more_get l s (h n hn)]⟩
theorem more_row {l : List Sh} (hl : okD l) {s : Sh} {u v : List Nat} (hu : ∀ n ∈ u ++ v, n < l.length) (hne : u ++ v ≠ []) :
    endS l (0, 0) (u ++ v) + Min.min s.1 s.2.2.1 ≤ endS (l ++ [s]) (0, 0) (u ++ l.length :: v) := by
  obtain ⟨a, n, b, e, he⟩ := end_some hl hne
  rw [he]
  have hN : aN (l ++ [s]) l.length = s.1 ∧ cN (l ++ [s]) l.length = s.2.2.1 := by unfold aN cN; rw [more_last]; exact ⟨rfl, rfl⟩
  have hn : n < l.length := hu n (by rw [e]; simp)
  have hn' : aN (l ++ [s]) n = aN l n ∧ rN (l ++ [s]) n = rN l n ∧ cN (l ++ [s]) n = cN l n := by unfold aN rN cN; rw [more_get l s hn]; exact ⟨rfl, rfl, rfl⟩
  have hin : ∀ {w : List Nat}, (∀ x ∈ w, x ∈ u ++ v) → sm (aN (l ++ [s])) w = sm (aN l) w ∧ sm (cN (l ++ [s])) w = sm (cN l) w := fun hw => more_sm l s _ fun x hx => hu x (hw x hx)
  rcases List.append_eq_append_iff.1 e with ⟨c, e1, e2⟩ | ⟨c, e1, e2⟩
  · -- a = u ++ c, v = c ++ n :: b
    have h := end_row (l := l ++ [s]) (u ++ l.length :: c) n b (0, 0)
    have e3 : u ++ l.length :: v = (u ++ l.length :: c) ++ n :: b := by rw [e2]; simp
    rw [e3]
    unfold rowU at h ⊢
    rw [sm_app, sm_cons, hN.1, hn'.1, hn'.2.1, hn'.2.2, (hin (w := u) (by simp +contextual)).1, (hin (w := c) (by rw [e2]; simp +contextual)).1, (hin (w := b) (by rw [e2]; simp +contextual)).2] at h
    rw [e1, sm_app]
    dsimp only at h
    omega
  · cases c with
    | nil =>
      have e2' : v = n :: b := by simpa using e2.symm
      have e1' : u = a := by simpa using e1
      subst e1' e2'
      have h := end_row (l := l ++ [s]) (u ++ [l.length]) n b (0, 0)
      have e3 : u ++ l.length :: n :: b = (u ++ [l.length]) ++ n :: b := by simp
      rw [e3]
      unfold rowU at h ⊢
      rw [sm_app, sm_cons, hN.1, hn'.1, hn'.2.1, hn'.2.2, (hin (w := u) (by simp +contextual)).1, (hin (w := b) (by simp +contextual)).2] at h
      have e4 : sm (aN (l ++ [s])) [] = 0 := rfl
      dsimp only at h
      omega
    | cons x c =>
      obtain ⟨rfl, e4⟩ := List.cons.inj e2
      have h := end_row (l := l ++ [s]) a n (c ++ l.length :: v) (0, 0)
      have e3 : u ++ l.length :: v = a ++ n :: (c ++ l.length :: v) := by rw [e1]; simp
      rw [e3]
      unfold rowU at h ⊢
      rw [sm_app, sm_cons, hN.2, hn'.1, hn'.2.1, hn'.2.2, (hin (w := a) (by rw [e1]; simp +contextual)).1, (hin (w := c) (by rw [e1]; simp +contextual)).2, (hin (w := v) (by simp +contextual)).2] at h
      have e5 : b = c ++ v := e4
      rw [e5, sm_app]
      dsimp only at h
      omega
theorem more_lo {l : List Sh} {s : Sh} (hl : okD (l ++ [s])) (h1 : 1 ≤ l.length) : leS l + Min.min s.1 s.2.2.1 ≤ leS (l ++ [s]) := by
  have hl' : okD l := fun x hx => hl x (List.mem_append_left _ hx)
  have hp := lvl_perm (rule_in (l ++ [s]))
  have e0 : leS (l ++ [s]) = endS (l ++ [s]) (0, 0) (ruleL (l ++ [s])) := rfl
  rw [e0]
  generalize ruleL (l ++ [s]) = o at hp
  rw [List.length_append] at hp
  have hp2 : List.Perm o (List.range l.length ++ [l.length]) := by rw [← List.range_succ]; exact hp
  have hm : l.length ∈ o := hp2.mem_iff.2 (by simp)
  obtain ⟨u, v, rfl⟩ := List.append_of_mem hm
  have hp3 : List.Perm (u ++ v) (List.range l.length) := by
    have a := (List.perm_middle (a := l.length) (l₁ := u) (l₂ := v)).symm.trans hp2
    have b := a.trans (List.perm_append_singleton l.length (List.range l.length))
    exact b.cons_inv
  have hall : u ++ v ∈ allL l := lvl_of_perm hp3
  have h2 := le_all hl' hall
  have h3 := more_row hl' (s := s) (u := u) (v := v) (fun n hn => List.mem_range.1 (hp3.mem_iff.1 hn)) (all_ne h1 hall)
  omega

/-! As many times as long. -/
def tmS (t : Int) (s : Sh) : Sh := (t * s.1, t * s.2.1, t * s.2.2.1, ())
def tmL (t : Int) (l : List Sh) : List Sh := l.map (tmS t)
theorem tmL_len (t : Int) (l : List Sh) : (tmL t l).length = l.length := List.length_map _
theorem tmL_get (t : Int) (l : List Sh) (n : Nat) : (tmL t l).getD n z0 = tmS t (l.getD n z0) := by
  unfold tmL
  rw [List.getD_eq_getElem?_getD, List.getD_eq_getElem?_getD, List.getElem?_map]
  cases l[n]? with
  | none => show z0 = tmS t z0; unfold tmS; simp
  | some s => rfl
theorem mul_max' {t : Int} (ht : 0 ≤ t) (a b : Int) : t * Max.max a b = Max.max (t * a) (t * b) := by
  rcases Int.le_total a b with h | h
  · rw [Int.max_eq_right h, Int.max_eq_right (Int.mul_le_mul_of_nonneg_left h ht)]
  · rw [Int.max_eq_left h, Int.max_eq_left (Int.mul_le_mul_of_nonneg_left h ht)]
theorem tm_end {t : Int} (ht : 0 ≤ t) (l : List Sh) : ∀ (o : List Nat) (p : Int × Int), endP (tmL t l) (t * p.1, t * p.2) o = (t * (endP l p o).1, t * (endP l p o).2)
  | [], _ => rfl
  | n :: o, p => by
    rw [endP_cons, endP_cons, ← tm_end ht l o (nx l p n)]
    congr 1
    unfold nx
    rw [tmL_get]
    unfold tmS
    dsimp only [da, dr, dp]
    rw [Int.mul_add, Int.mul_add, mul_max' ht, Int.mul_add, Int.mul_add]
theorem tm_endS {t : Int} (ht : 0 ≤ t) (l : List Sh) (o : List Nat) : endS (tmL t l) (0, 0) o = t * endS l (0, 0) o := by
  have h := tm_end ht l o (0, 0)
  have e : ((t * (0, 0).1, t * (0, 0).2) : Int × Int) = (0, 0) := by simp
  rw [e] at h
  unfold endS
  rw [h]
theorem tm_least {t : Int} (ht : 1 ≤ t) {l : List Sh} (hl : okD l) (hx : okD (tmL t l)) : leS (tmL t l) = t * leS l := by
  refine le_iff hx (fun o ho => ?_) ⟨ruleL l, fine_all (tmL_len t l) (rule_in l), ?_⟩
  · rw [tm_endS (by omega)]
    exact Int.mul_le_mul_of_nonneg_left (le_all hl (fine_all (tmL_len t l).symm ho)) (by omega)
  · rw [tm_endS (by omega)]
    exact Int.le_refl _
theorem tm_bests {t : Int} (ht : 1 ≤ t) {l : List Sh} (hl : okD l) (hx : okD (tmL t l)) : bestsL (tmL t l) = bestsL l := by
  unfold bestsL
  have e : allL (tmL t l) = allL l := by unfold allL; rw [tmL_len]
  rw [e, tm_least ht hl hx]
  refine List.filter_congr fun o _ => ?_
  rw [tm_endS (by omega)]
  refine decide_eq_decide.2 ⟨fun h => ?_, fun h => by rw [h]⟩
  exact Int.eq_of_mul_eq_mul_left (by omega) h
theorem tm_best {t : Int} (ht : 1 ≤ t) {l : List Sh} (hl : okD l) (hx : okD (tmL t l)) : bestO (tmL t l) = bestO l := by
  obtain ⟨r, hr⟩ := best_first hl
  obtain ⟨r', hr'⟩ := best_first hx
  rw [tm_bests ht hl hx, hr] at hr'
  exact ((List.cons.inj hr').1).symm
theorem tm_kind {t : Int} (ht : 1 ≤ t) {l : List Sh} (hl : okD l) (hx : okD (tmL t l)) (a b : Nat) : kindV (tmL t l) a b = kindV l a b := by
  unfold kindV
  rw [tm_bests ht hl hx]

/-! Spares. -/
theorem sp_spec (l : List Sh) (s : Nat) (L : List (List Nat)) : 0 ≤ spF l s L ∧ (∀ o ∈ L, gSp l s o ≤ spF l s L) ∧ (spF l s L = 0 ∨ ∃ o ∈ L, gSp l s o = spF l s L) := by
  have key : ∀ (L : List (List Nat)) (m : Int), m ≤ L.foldl (fun m o => Max.max m (gSp l s o)) m ∧ (∀ o ∈ L, gSp l s o ≤ L.foldl (fun m o => Max.max m (gSp l s o)) m) ∧
      (L.foldl (fun m o => Max.max m (gSp l s o)) m = m ∨ ∃ o ∈ L, gSp l s o = L.foldl (fun m o => Max.max m (gSp l s o)) m) := by
    intro L
    induction L with
    | nil => exact fun m => ⟨Int.le_refl _, fun o h => (by cases h), Or.inl rfl⟩
    | cons o L ih =>
      intro m
      rw [List.foldl_cons]
      obtain ⟨h1, h2, h3⟩ := ih (Max.max m (gSp l s o))
      generalize L.foldl (fun m o => Max.max m (gSp l s o)) (Max.max m (gSp l s o)) = w at h1 h2 h3
      refine ⟨by omega, fun x hx => ?_, ?_⟩
      · rcases List.mem_cons.1 hx with rfl | hx
        · omega
        · exact h2 x hx
      · rcases h3 with h3 | ⟨x, hx, he⟩
        · rcases Int.le_total m (gSp l s o) with h | h
          · exact Or.inr ⟨o, List.mem_cons_self, by omega⟩
          · exact Or.inl (by omega)
        · exact Or.inr ⟨x, List.mem_cons_of_mem _ hx, he⟩
  exact key L 0
theorem add_row (l : List Sh) {k : Nat} (hk : k < l.length) (b : Int) (u : List Nat) (n : Nat) (v : List Nat) : rowU (addL l k 0 b 0) u n v = rowU l u n v + if n = k then b else 0 := by
  have ha : aN (addL l k 0 b 0) = aN l := funext fun m => by
    unfold aN; rw [addL_get l hk]
    by_cases e : m = k
    · rw [if_pos e, e]; unfold addS; dsimp only [da]; omega
    · rw [if_neg e]
  have hc : cN (addL l k 0 b 0) = cN l := funext fun m => by
    unfold cN; rw [addL_get l hk]
    by_cases e : m = k
    · rw [if_pos e, e]; unfold addS; dsimp only [dp]; omega
    · rw [if_neg e]
  unfold rowU
  rw [ha, hc]
  have hr : rN (addL l k 0 b 0) n = rN l n + if n = k then b else 0 := by
    unfold rN; rw [addL_get l hk]
    by_cases e : n = k
    · rw [if_pos e, if_pos e, e]; rfl
    · rw [if_neg e, if_neg e]; omega
  rw [hr]
  omega
theorem idx_split {o : List Nat} (hn : o.Nodup) {u v : List Nat} {k : Nat} (e : o = u ++ k :: v) : o.idxOf k = u.length ∧ o.take u.length = u ∧ o.drop (u.length + 1) = v := by
  subst e
  refine ⟨idx_eq hn (by simp) (by simp [List.getD_eq_getElem?_getD]), by simp, by simp⟩
theorem gsp_row {l : List Sh} {o : List Nat} (hn : o.Nodup) {k : Nat} (hk : k ∈ o) : ∃ u v, o = u ++ k :: v ∧ gSp l k o = leS l - rowU l u k v := by
  have hi := idx_lt hk
  refine ⟨o.take (o.idxOf k), o.drop (o.idxOf k + 1), ?_, ?_⟩
  · have := split_at o hi
    rwa [idx_get hk] at this
  · unfold gSp
    rw [rowA_U l o hi, idx_get hk]
theorem spare_same {l : List Sh} (hl : okD l) {k : Nat} (hk : k < l.length) {d : Int} (hd : 0 ≤ d ∧ d ≤ spF l k (bestsL l)) (hx : okD (addL l k 0 d 0)) : leS (addL l k 0 d 0) = leS l := by
  have h1 : 1 ≤ l.length := by omega
  have hlo := dom_le (addL_dom l hk (Int.le_refl 0) hd.1 (Int.le_refl 0)) hl (addL_len _ _ _ _ _)
  obtain ⟨_, _, h3⟩ := sp_spec l k (bestsL l)
  rcases h3 with h3 | ⟨o, ho, hg⟩
  · have e : d = 0 := by omega
    have e2 : addL l k 0 d 0 = l := by
      unfold addL addS
      rw [e]
      have : ((l.getD k z0).1 + 0, (l.getD k z0).2.1 + 0, (l.getD k z0).2.2.1 + 0, ()) = l.getD k z0 := by
        simp
      rw [this, List.getD_eq_getElem?_getD, List.getElem?_eq_getElem hk]
      simp
    rw [e2]
  · obtain ⟨b1, b2⟩ := mem_bests.1 ho
    have hnd := (mem_lvl.1 b1).2.1
    have hko : k ∈ o := (bests_mem ho hk).2
    obtain ⟨u, v, e, hr⟩ := gsp_row (l := l) hnd hko
    have hup : endS (addL l k 0 d 0) (0, 0) o ≤ leS l := by
      obtain ⟨u', n, v', e', he'⟩ := end_some hx (all_ne h1 b1)
      rw [he', add_row l hk]
      have hrow := end_row (l := l) u' n v' (0, 0)
      rw [← e', b2] at hrow
      dsimp only at hrow
      by_cases c : n = k
      · rw [if_pos c]
        subst c
        obtain ⟨i1, i2, i3⟩ := idx_split hnd e
        obtain ⟨j1, j2, j3⟩ := idx_split hnd e'
        have eu : u' = u := by rw [← i2, ← j2, ← i1, ← j1]
        have ev : v' = v := by rw [← i3, ← j3, ← i1, ← j1]
        rw [eu, ev]
        omega
      · rw [if_neg c]
        omega
    have := le_all hx (fine_all (addL_len l k 0 d 0) b1)
    omega
theorem spare_more {l : List Sh} (hl : okD l) {k : Nat} (hk : k < l.length) (hx : okD (addL l k 0 (spF l k (bestsL l) + 1) 0)) : leS l < leS (addL l k 0 (spF l k (bestsL l) + 1) 0) := by
  obtain ⟨h0, h2, _⟩ := sp_spec l k (bestsL l)
  generalize spF l k (bestsL l) = s at h0 h2 hx ⊢
  have hd := addL_dom l hk (Int.le_refl 0) (by omega : (0 : Int) ≤ s + 1) (Int.le_refl 0)
  have ho := fine_all (addL_len l k 0 (s + 1) 0).symm (rule_in (addL l k 0 (s + 1) 0))
  have e : leS (addL l k 0 (s + 1) 0) = endS (addL l k 0 (s + 1) 0) (0, 0) (ruleL (addL l k 0 (s + 1) 0)) := rfl
  rw [e]
  generalize ruleL (addL l k 0 (s + 1) 0) = o at ho ⊢
  have a1 := le_all hl ho
  have a2 := dom_endS hd o
  by_cases hb : endS l (0, 0) o = leS l
  · have hob := mem_bests.2 ⟨ho, hb⟩
    obtain ⟨u, v, e, hr⟩ := gsp_row (l := l) (mem_lvl.1 ho).2.1 (bests_mem hob hk).2
    have a3 := h2 o hob
    have a4 := end_row (l := addL l k 0 (s + 1) 0) u k v (0, 0)
    rw [add_row l hk, if_pos rfl, ← e] at a4
    dsimp only at a4
    omega
  · omega
end Go.Proofs.Ythiocglfgcnlhaa

namespace Go.Proofs.Ythiocglfgcnlhaa
open Go Go.RowKit Ox Ox.Sh
attribute [local irreducible] JC JL JK JW

abbrev vN3 (l : List Int) : AV := .val (.arr 3 (.int .u8)) l
theorem getD_u8 {tw : List Int} (h : ∀ x ∈ tw, 0 ≤ x ∧ x ≤ 255) (k : Nat) : 0 ≤ tw.getD k 0 ∧ tw.getD k 0 ≤ 255 := by
  by_cases hk : k < tw.length
  · rw [getD_nat tw hk]; exact h _ (List.getElem_mem hk)
  · rw [List.getD_eq_getElem?_getD, List.getElem?_eq_none (by omega)]; exact ⟨by decide, by decide⟩
theorem add1 (l : List Sh) {k : Nat} (hk : k < l.length) (a : Int) : l.set k ((l.getD k (0, 0, 0, ())).1 + a, (l.getD k (0, 0, 0, ())).2) = addL l k a 0 0 := by
  unfold addL addS; rw [Int.add_zero, Int.add_zero]
theorem add_self (l : List Sh) {k : Nat} (hk : k < l.length) (a b c : Int) : (addL l k a b c).getD k (0, 0, 0, ()) = addS (l.getD k z0) a b c := by
  have := addL_get l hk a b c k
  rwa [if_pos rfl] at this
theorem add2 (l : List Sh) {k : Nat} (hk : k < l.length) (a b : Int) : (addL l k a 0 0).set k (((addL l k a 0 0).getD k (0, 0, 0, ())).1, ((addL l k a 0 0).getD k (0, 0, 0, ())).2.1 + b, ((addL l k a 0 0).getD k (0, 0, 0, ())).2.2) = addL l k a b 0 := by
  rw [add_self l hk]
  unfold addL addS
  rw [List.set_set]
  simp
theorem add3 (l : List Sh) {k : Nat} (hk : k < l.length) (a b c : Int) : (addL l k a b 0).set k (((addL l k a b 0).getD k (0, 0, 0, ())).1, ((addL l k a b 0).getD k (0, 0, 0, ())).2.1, ((addL l k a b 0).getD k (0, 0, 0, ())).2.2.1 + c, ((addL l k a b 0).getD k (0, 0, 0, ())).2.2.2) = addL l k a b c := by
  rw [add_self l hk]
  unfold addL addS
  rw [List.set_set]
  simp
theorem okD_of_day {l : List Sh} (h : dayE l = 0) : okD l := (day_ok h).2.2
set_option maxHeartbeats 8000000 in
theorem law11 (l : List Sh) (u : List Int) (w : Int) (lo : List Int) (mo : Sh) (hu : ∀ x ∈ u, 0 ≤ x ∧ x ≤ 255) (hw : 0 ≤ w ∧ w ≤ 255) (hlo : ∀ x ∈ lo, 0 ≤ x ∧ x ≤ 255) : Ox.Fn Go.Proofs.Try.prog 11 (.acons (vD l) (.acons (vU u) (.acons (.val (.int .u8) w) (.acons (vN3 lo) (.acons (vS mo) .anil))))) (· = vB true) := by
  refine Ox.Fn.intro xok Go.Proofs.Try.func11 rfl Go.Proofs.Try.call11 (Nat.le_of_ble_eq_true rfl) (fun E M0 up => ?_)
  refine JK.start ?_
  (repeat (first | refine zs rfl ?_ | refine zg rfl rfl rfl ?_ | refine zd ?_ | refine JK.fin ?_ | refine JK.ret ?_ | refine zc rfl (fn41 l) rfl rfl ?_ | refine ze rfl (fn41 l) rfl ?_ | refine zk rfl rfl (fun _ => fn41 l) rfl rfl ?_))
  refine JK.cond rfl (fun hc => ?_) (fun hc => ?_)
  · (repeat (first | refine zs rfl ?_ | refine zg rfl rfl rfl ?_ | refine zd ?_ | refine JK.fin ?_ | refine JK.ret ?_ | refine zc rfl (fn16) rfl rfl ?_ | refine ze rfl (fn16) rfl ?_ | refine zk rfl rfl (fun _ => fn16) rfl rfl ?_))
    refine ⟨.inl rfl, _, _, rfl, trivial, ?_⟩
    rfl
  · have hc2 : (bif !decide (dayE l = 0) then true else decide ((u.length : Int) > 30)) = false := hc
    have hz : dayE l = 0 ∧ u.length ≤ 30 := by
      by_cases e : dayE l = 0
      · rw [decide_eq_true e] at hc2
        have := of_decide_eq_false hc2
        exact ⟨e, by omega⟩
      · rw [decide_eq_false e] at hc2; cases hc2
    obtain ⟨hz, hul⟩ := hz
    obtain ⟨d1, d8, dl⟩ := day_ok hz
    have c42 := fn42 l
    rw [decide_eq_true hz, show lstI l = leS l by unfold lstI; rw [if_pos hz]] at c42
    have hkb : 0 ≤ w % (l.length : Int) ∧ w % (l.length : Int) < l.length := ⟨Int.emod_nonneg _ (by omega), Int.emod_lt_of_pos _ (by omega)⟩
    have hkl : (w % (l.length : Int)).toNat < l.length := by omega
    have hsk := sh_bd dl (w % (l.length : Int)).toNat
    have l0 := getD_u8 hlo (Int.toNat 0)
    have l1 := getD_u8 hlo (Int.toNat 1)
    have l2 := getD_u8 hlo (Int.toNat 2)
    have hn0 := le_pos dl
    have hnt := le_top dl d8
    (repeat (first | refine zs rfl ?_ | refine zg rfl rfl rfl ?_ | refine JK.fin ?_ | refine JK.ret ?_ | refine zc rfl (c42) rfl rfl ?_ | refine ze rfl (c42) rfl ?_ | refine zk rfl rfl (fun _ => c42) rfl rfl ?_))
    refine JK.weak (s' := ⟨[(0, vD l), (1, vU u), (8, .lf (.optr 0 [])), (9, .lf (.optr 1 [])), (11, vI (leS l)), (12, vB true), (13, .lf (.osl 2)), (14, vI (w % (l.length : Int)))], [(0, .cell (.arr 3 (.int .u8)) (vN3 lo)), (1, .cell shT (vS mo)), (2, .sl 58 shT l)], 3⟩) (by (exact JW.Auto (by conv => lhs; reduce))) ?_
    refine JK.drawTo (xok rfl rfl rfl rfl) (Go.Proofs.Try.f11.body.getD .skip) ⟨[(0, vD l), (1, vU u), (8, .lf (.optr 0 [])), (9, .lf (.optr 1 [])), (11, vI (leS l)), (12, vB true), (13, .lf (.osl 2)), (14, vI (w % (l.length : Int)))], [(0, .cell (.arr 3 (.int .u8)) (vN3 lo)), (1, .cell shT (vS mo)), (2, .sl 58 shT (l.set (w % (l.length : Int)).toNat ((l.getD (w % (l.length : Int)).toNat (0, 0, 0, ())).1 + (lo.getD (Int.toNat 0) 0), (l.getD (w % (l.length : Int)).toNat (0, 0, 0, ())).2)))], 3⟩ rfl 12 rfl ?_ ?_
    · have hset : (l.set (w % (l.length : Int)).toNat ((l.getD (w % (l.length : Int)).toNat (0, 0, 0, ())).1 + (lo.getD (Int.toNat 0) 0), (l.getD (w % (l.length : Int)).toNat (0, 0, 0, ())).2)).length = l.length := List.length_set
      (refine JF.First 0 (xok rfl rfl rfl rfl) rfl rfl ?_; refine JF.First 1 (xok rfl rfl rfl rfl) rfl rfl ?_; refine JF.First 2 (xok rfl rfl rfl rfl) rfl rfl ?_; refine JF.First 3 (xok rfl rfl rfl rfl) rfl rfl ?_; refine JF.First 5 (xok rfl rfl rfl rfl) rfl rfl ?_; refine JF.Float 4 (xok rfl rfl rfl rfl) rfl rfl ?_; refine JF.Float 6 (xok rfl rfl rfl rfl) rfl rfl ?_; refine JF.Float 7 (xok rfl rfl rfl rfl) rfl rfl ?_; refine JF.Float 8 (xok rfl rfl rfl rfl) rfl rfl ?_; refine JF.Float 9 (xok rfl rfl rfl rfl) rfl rfl ?_; refine JF.Float 10 (xok rfl rfl rfl rfl) rfl rfl ?_; refine JF.Branch 11 [] (xok rfl rfl rfl rfl) ?_ ?_; (focus (repeat (first | exact StF.nil | refine StF.One rfl rfl rfl ?_))); refine BrF.one rfl rfl ?_ BrF.nil; (· (first | refine JL.Q1 (xok rfl rfl rfl rfl) rfl rfl ?_ | refine JL.G1 (xok rfl rfl rfl rfl) rfl rfl rfl ?_ | refine JL.M1 (xok rfl rfl rfl rfl) rfl rfl ?_ | refine JL.M0 (xok rfl rfl rfl rfl) rfl ?_ | refine JL.Q0 (xok rfl rfl rfl rfl) rfl ?_); refine JL.finN ?_; refine JF.Done (xok rfl rfl rfl rfl) ?_ ?_; (focus (repeat (first | exact StF.nil | refine StF.One rfl rfl rfl ?_))); ((exact JW.Auto (by conv => lhs; reduce)))))
    rw [add1 l hkl]
    (repeat (first | refine zs rfl ?_ | refine zg rfl rfl rfl ?_ | refine JK.fin ?_ | refine JK.ret ?_))
    have f1 := add_self l hkl (lo.getD (Int.toNat 0) 0) 0 0
    have g1 := addL_len l (w % (l.length : Int)).toNat (lo.getD (Int.toNat 0) 0) 0 0
    have hb1 : ((addL l (w % (l.length : Int)).toNat (lo.getD (Int.toNat 0) 0) 0 0).getD (w % (l.length : Int)).toNat (0, 0, 0, ())).2.1 ≤ 1000 ∧ 0 ≤ ((addL l (w % (l.length : Int)).toNat (lo.getD (Int.toNat 0) 0) 0 0).getD (w % (l.length : Int)).toNat (0, 0, 0, ())).2.1 := by
      rw [f1]; unfold addS; dsimp only [z0]; omega
    refine JK.drawTo (xok rfl rfl rfl rfl) (Go.Proofs.Try.f11.body.getD .skip) ⟨[(0, vD l), (1, vU u), (8, .lf (.optr 0 [])), (9, .lf (.optr 1 [])), (11, vI (leS l)), (12, vB true), (13, .lf (.osl 2)), (14, vI (w % (l.length : Int)))], [(0, .cell (.arr 3 (.int .u8)) (vN3 lo)), (1, .cell shT (vS mo)), (2, .sl 58 shT ((addL l (w % (l.length : Int)).toNat (lo.getD (Int.toNat 0) 0) 0 0).set (w % (l.length : Int)).toNat (((addL l (w % (l.length : Int)).toNat (lo.getD (Int.toNat 0) 0) 0 0).getD (w % (l.length : Int)).toNat (0, 0, 0, ())).1, ((addL l (w % (l.length : Int)).toNat (lo.getD (Int.toNat 0) 0) 0 0).getD (w % (l.length : Int)).toNat (0, 0, 0, ())).2.1 + (lo.getD (Int.toNat 1) 0), ((addL l (w % (l.length : Int)).toNat (lo.getD (Int.toNat 0) 0) 0 0).getD (w % (l.length : Int)).toNat (0, 0, 0, ())).2.2)))], 3⟩ rfl 12 rfl ?_ ?_
    · clear f1
      generalize (addL l (w % (l.length : Int)).toNat (lo.getD (Int.toNat 0) 0) 0 0) = A at g1 hb1 ⊢
      have hset : (A.set (w % (l.length : Int)).toNat ((A.getD (w % (l.length : Int)).toNat (0, 0, 0, ())).1, (A.getD (w % (l.length : Int)).toNat (0, 0, 0, ())).2.1 + (lo.getD (Int.toNat 1) 0), (A.getD (w % (l.length : Int)).toNat (0, 0, 0, ())).2.2)).length = A.length := List.length_set
      (refine JF.First 0 (xok rfl rfl rfl rfl) rfl rfl ?_; refine JF.First 1 (xok rfl rfl rfl rfl) rfl rfl ?_; refine JF.First 2 (xok rfl rfl rfl rfl) rfl rfl ?_; refine JF.First 3 (xok rfl rfl rfl rfl) rfl rfl ?_; refine JF.First 5 (xok rfl rfl rfl rfl) rfl rfl ?_; refine JF.Float 4 (xok rfl rfl rfl rfl) rfl rfl ?_; refine JF.Float 6 (xok rfl rfl rfl rfl) rfl rfl ?_; refine JF.Float 7 (xok rfl rfl rfl rfl) rfl rfl ?_; refine JF.Float 8 (xok rfl rfl rfl rfl) rfl rfl ?_; refine JF.Float 9 (xok rfl rfl rfl rfl) rfl rfl ?_; refine JF.Float 10 (xok rfl rfl rfl rfl) rfl rfl ?_; refine JF.Branch 11 [] (xok rfl rfl rfl rfl) ?_ ?_; (focus (repeat (first | exact StF.nil | refine StF.One rfl rfl rfl ?_))); refine BrF.one rfl rfl ?_ BrF.nil; (· (first | refine JL.Q1 (xok rfl rfl rfl rfl) rfl rfl ?_ | refine JL.G1 (xok rfl rfl rfl rfl) rfl rfl rfl ?_ | refine JL.M1 (xok rfl rfl rfl rfl) rfl rfl ?_ | refine JL.M0 (xok rfl rfl rfl rfl) rfl ?_ | refine JL.Q0 (xok rfl rfl rfl rfl) rfl ?_); refine JL.finN ?_; refine JF.Done (xok rfl rfl rfl rfl) ?_ ?_; (focus (repeat (first | exact StF.nil | refine StF.One rfl rfl rfl ?_))); ((exact JW.Auto (by conv => lhs; reduce)))))
    rw [add2 l hkl]
    (repeat (first | refine zs rfl ?_ | refine zg rfl rfl rfl ?_ | refine JK.fin ?_ | refine JK.ret ?_))
    have f2 := add_self l hkl (lo.getD (Int.toNat 0) 0) (lo.getD (Int.toNat 1) 0) 0
    have g2 := addL_len l (w % (l.length : Int)).toNat (lo.getD (Int.toNat 0) 0) (lo.getD (Int.toNat 1) 0) 0
    have hb2 : ((addL l (w % (l.length : Int)).toNat (lo.getD (Int.toNat 0) 0) (lo.getD (Int.toNat 1) 0) 0).getD (w % (l.length : Int)).toNat (0, 0, 0, ())).2.2.1 ≤ 1000 ∧ 0 ≤ ((addL l (w % (l.length : Int)).toNat (lo.getD (Int.toNat 0) 0) (lo.getD (Int.toNat 1) 0) 0).getD (w % (l.length : Int)).toNat (0, 0, 0, ())).2.2.1 := by
      rw [f2]; unfold addS; dsimp only [z0]; omega
    refine JK.drawTo (xok rfl rfl rfl rfl) (Go.Proofs.Try.f11.body.getD .skip) ⟨[(0, vD l), (1, vU u), (8, .lf (.optr 0 [])), (9, .lf (.optr 1 [])), (11, vI (leS l)), (12, vB true), (13, .lf (.osl 2)), (14, vI (w % (l.length : Int)))], [(0, .cell (.arr 3 (.int .u8)) (vN3 lo)), (1, .cell shT (vS mo)), (2, .sl 58 shT ((addL l (w % (l.length : Int)).toNat (lo.getD (Int.toNat 0) 0) (lo.getD (Int.toNat 1) 0) 0).set (w % (l.length : Int)).toNat (((addL l (w % (l.length : Int)).toNat (lo.getD (Int.toNat 0) 0) (lo.getD (Int.toNat 1) 0) 0).getD (w % (l.length : Int)).toNat (0, 0, 0, ())).1, ((addL l (w % (l.length : Int)).toNat (lo.getD (Int.toNat 0) 0) (lo.getD (Int.toNat 1) 0) 0).getD (w % (l.length : Int)).toNat (0, 0, 0, ())).2.1, ((addL l (w % (l.length : Int)).toNat (lo.getD (Int.toNat 0) 0) (lo.getD (Int.toNat 1) 0) 0).getD (w % (l.length : Int)).toNat (0, 0, 0, ())).2.2.1 + (lo.getD (Int.toNat 2) 0), ((addL l (w % (l.length : Int)).toNat (lo.getD (Int.toNat 0) 0) (lo.getD (Int.toNat 1) 0) 0).getD (w % (l.length : Int)).toNat (0, 0, 0, ())).2.2.2)))], 3⟩ rfl 12 rfl ?_ ?_
    · clear f2
      generalize (addL l (w % (l.length : Int)).toNat (lo.getD (Int.toNat 0) 0) (lo.getD (Int.toNat 1) 0) 0) = A at g2 hb2 ⊢
      have hset : (A.set (w % (l.length : Int)).toNat ((A.getD (w % (l.length : Int)).toNat (0, 0, 0, ())).1, (A.getD (w % (l.length : Int)).toNat (0, 0, 0, ())).2.1, (A.getD (w % (l.length : Int)).toNat (0, 0, 0, ())).2.2.1 + (lo.getD (Int.toNat 2) 0), (A.getD (w % (l.length : Int)).toNat (0, 0, 0, ())).2.2.2)).length = A.length := List.length_set
      (refine JF.First 0 (xok rfl rfl rfl rfl) rfl rfl ?_; refine JF.First 1 (xok rfl rfl rfl rfl) rfl rfl ?_; refine JF.First 2 (xok rfl rfl rfl rfl) rfl rfl ?_; refine JF.First 3 (xok rfl rfl rfl rfl) rfl rfl ?_; refine JF.First 5 (xok rfl rfl rfl rfl) rfl rfl ?_; refine JF.Float 4 (xok rfl rfl rfl rfl) rfl rfl ?_; refine JF.Float 6 (xok rfl rfl rfl rfl) rfl rfl ?_; refine JF.Float 7 (xok rfl rfl rfl rfl) rfl rfl ?_; refine JF.Float 8 (xok rfl rfl rfl rfl) rfl rfl ?_; refine JF.Float 9 (xok rfl rfl rfl rfl) rfl rfl ?_; refine JF.Float 10 (xok rfl rfl rfl rfl) rfl rfl ?_; refine JF.Branch 11 [] (xok rfl rfl rfl rfl) ?_ ?_; (focus (repeat (first | exact StF.nil | refine StF.One rfl rfl rfl ?_))); refine BrF.one rfl rfl ?_ BrF.nil; (· (first | refine JL.Q1 (xok rfl rfl rfl rfl) rfl rfl ?_ | refine JL.G1 (xok rfl rfl rfl rfl) rfl rfl rfl ?_ | refine JL.M1 (xok rfl rfl rfl rfl) rfl rfl ?_ | refine JL.M0 (xok rfl rfl rfl rfl) rfl ?_ | refine JL.Q0 (xok rfl rfl rfl rfl) rfl ?_); refine JL.finN ?_; refine JF.Done (xok rfl rfl rfl rfl) ?_ ?_; (focus (repeat (first | exact StF.nil | refine StF.One rfl rfl rfl ?_))); ((exact JW.Auto (by conv => lhs; reduce)))))
    rw [add3 l hkl]
    clear f1 f2 hb1 hb2 g1 g2
    have hdom := addL_dom l hkl l0.1 l1.1 l2.1
    have hxl := addL_len l (w % (l.length : Int)).toNat (lo.getD (Int.toNat 0) 0) (lo.getD (Int.toNat 1) 0) (lo.getD (Int.toNat 2) 0)
    generalize (addL l (w % (l.length : Int)).toNat (lo.getD (Int.toNat 0) 0) (lo.getD (Int.toNat 1) 0) (lo.getD (Int.toNat 2) 0)) = x at hdom hxl ⊢
    (repeat (first | refine zs rfl ?_ | refine zg rfl rfl rfl ?_ | refine zd ?_ | refine JK.fin ?_ | refine JK.ret ?_))
    refine JK.cond rfl (fun h => absurd h (by simp)) (fun _ => ?_)
    have c43 := fn43 l u (by omega) hu (by omega)
    have hoL := ordR_lvl u l.length
    generalize ordR u l.length = o at c43 hoL
    obtain ⟨p1, p2⟩ := ord_play hz hoL
    have c19 := fn19 l (iL o)
    rw [p1, p2] at c19
    have c19x := fn19 x (iL o)
    have c42x := fn42 x
    have hde := dom_endS hdom o
    have hdl := dom_le hdom dl hxl
    generalize hnn : leS l = n at c42 hn0 hnt hdl ⊢
    (repeat (first | refine zu rfl ?_ | refine zg rfl rfl rfl ?_ | refine zd ?_ | refine JK.fin ?_ | refine JK.ret ?_))
    refine JK.cut (σ := Unit) (fun _ => ⟨[(0, vD l), (9, .lf (.optr 1 [])), (11, vI n)], [(1, .cell shT (vS mo))], 3⟩) (fun _ => True) ?_ (fun _ _ => ?_)
    · (repeat (first | refine zs rfl ?_ | refine zg rfl rfl rfl ?_ | refine zd ?_ | refine JK.fin ?_ | refine JK.ret ?_ | refine zc rfl (fn41 x) rfl rfl ?_ | refine ze rfl (fn41 x) rfl ?_ | refine zk rfl rfl (fun _ => fn41 x) rfl rfl ?_))
      refine JK.cond rfl (fun hf => ?_) (fun hf => ?_)
      · have hzx : dayE x = 0 := of_decide_eq_true hf
        obtain ⟨x1, x2⟩ := ord_play (l := x) (o := o) hzx (fine_all hxl hoL)
        rw [x1, x2] at c19x
        rw [decide_eq_true hzx, show lstI x = leS x by unfold lstI; rw [if_pos hzx]] at c42x
        generalize leS x = q at c42x hdl
        generalize endS l (0, 0) o = e1 at c19 hde
        generalize endS x (0, 0) o = e2 at c19x hde
        generalize iL o = X at c43 c19 c19x
        have t1 : decide (e2 < e1) = false := decide_eq_false (by omega)
        have t2 : decide (q < n) = false := decide_eq_false (by omega)
        (repeat (first | refine zt rfl (by simp [wantB, t1]) ?_ | refine zs rfl ?_ | refine ze rfl c43 rfl ?_ | refine ze rfl c19 rfl ?_ | refine ze rfl c19x rfl ?_ | refine ze rfl c42x rfl ?_ | refine zc rfl c19x rfl rfl ?_ | refine zc rfl c42x rfl rfl ?_))
        refine JK.cond rfl (fun h => ?_) (fun _ => ?_)
        · exfalso
          have h2 : (decide (e2 < e1) || decide (q < n)) = true := by simpa using h
          rw [t1, t2] at h2; cases h2
        · (repeat (first | refine zs rfl ?_ | refine zg rfl rfl rfl ?_ | refine zd ?_ | refine JK.fin ?_ | refine JK.ret ?_))
          exact ⟨(), by (exact JW.Auto (by conv => lhs; reduce)), trivial⟩
      · (repeat (first | refine zs rfl ?_ | refine zg rfl rfl rfl ?_ | refine zd ?_ | refine JK.fin ?_ | refine JK.ret ?_))
        exact ⟨(), by (exact JW.Auto (by conv => lhs; reduce)), trivial⟩
    · have hlc : l.length ≤ 100 := by omega
      (repeat (first | refine zs rfl ?_ | refine zg rfl rfl rfl ?_ | refine JK.fin ?_ | refine JK.ret ?_))
      refine JK.drawTo (xok rfl rfl rfl rfl) (Go.Proofs.Try.f11.body.getD .skip) ⟨[(9, .lf (.optr 0 [])), (11, vI n), (22, .lf (.osl 1))], [(0, .cell shT (vS mo)), (1, .sl 58 shT (l ++ [mo]))], 2⟩ rfl 7 rfl ?_ ?_
      · (refine JF.First 1 (xok rfl rfl rfl rfl) rfl rfl ?_; refine JF.Float 3 (xok rfl rfl rfl rfl) rfl rfl ?_; refine JF.Branch 0 [4] (xok rfl rfl rfl rfl) ?_ ?_; (focus (repeat (first | exact StF.nil | refine StF.One rfl rfl rfl ?_))); refine BrF.one rfl rfl ?_ (BrF.one rfl rfl ?_ BrF.nil); (· (first | refine JL.Q1 (xok rfl rfl rfl rfl) rfl rfl ?_ | refine JL.G1 (xok rfl rfl rfl rfl) rfl rfl rfl ?_ | refine JL.M1 (xok rfl rfl rfl rfl) rfl rfl ?_ | refine JL.M0 (xok rfl rfl rfl rfl) rfl ?_ | refine JL.Q0 (xok rfl rfl rfl rfl) rfl ?_); refine JL.finN ?_; refine JF.Branch 2 [4] (xok rfl rfl rfl rfl) ?_ ?_; (focus (repeat (first | exact StF.nil | refine StF.One rfl rfl rfl ?_))); refine BrF.one rfl rfl ?_ (BrF.one rfl rfl ?_ BrF.nil); (· (first | refine JL.Q1 (xok rfl rfl rfl rfl) rfl rfl ?_ | refine JL.G1 (xok rfl rfl rfl rfl) rfl rfl rfl ?_ | refine JL.M1 (xok rfl rfl rfl rfl) rfl rfl ?_ | refine JL.M0 (xok rfl rfl rfl rfl) rfl ?_ | refine JL.Q0 (xok rfl rfl rfl rfl) rfl ?_); refine JL.finN ?_; refine JF.Branch 4 [] (xok rfl rfl rfl rfl) ?_ ?_; (focus (repeat (first | exact StF.nil | refine StF.One rfl rfl rfl ?_))); refine BrF.one rfl rfl ?_ BrF.nil; (· (first | refine JL.Q1 (xok rfl rfl rfl rfl) rfl rfl ?_ | refine JL.G1 (xok rfl rfl rfl rfl) rfl rfl rfl ?_ | refine JL.M1 (xok rfl rfl rfl rfl) rfl rfl ?_ | refine JL.M0 (xok rfl rfl rfl rfl) rfl ?_ | refine JL.Q0 (xok rfl rfl rfl rfl) rfl ?_); refine JL.finN ?_; refine JF.Branch 5 [] (xok rfl rfl rfl rfl) ?_ ?_; (focus (repeat (first | exact StF.nil | refine StF.One rfl rfl rfl ?_))); refine BrF.one rfl rfl ?_ BrF.nil; (· (first | refine JL.Q1 (xok rfl rfl rfl rfl) rfl rfl ?_ | refine JL.G1 (xok rfl rfl rfl rfl) rfl rfl rfl ?_ | refine JL.M1 (xok rfl rfl rfl rfl) rfl rfl ?_ | refine JL.M0 (xok rfl rfl rfl rfl) rfl ?_ | refine JL.Q0 (xok rfl rfl rfl rfl) rfl ?_); refine JL.finN ?_; refine JF.First 6 (xok rfl rfl rfl rfl) rfl rfl ?_; refine JF.Done (xok rfl rfl rfl rfl) ?_ ?_; (focus (repeat (first | exact StF.nil | refine StF.One rfl rfl rfl ?_))); ((exact JW.Auto (by conv => lhs; reduce)))))); (· (first | refine JL.Q1 (xok rfl rfl rfl rfl) rfl rfl ?_ | refine JL.G1 (xok rfl rfl rfl rfl) rfl rfl rfl ?_ | refine JL.M1 (xok rfl rfl rfl rfl) rfl rfl ?_ | refine JL.M0 (xok rfl rfl rfl rfl) rfl ?_ | refine JL.Q0 (xok rfl rfl rfl rfl) rfl ?_); refine JL.finN ?_; refine JF.Branch 2 [] (xok rfl rfl rfl rfl) ?_ ?_; (focus (repeat (first | exact StF.nil | refine StF.One rfl rfl rfl ?_))); refine BrF.one rfl rfl ?_ BrF.nil; (· (first | refine JL.Q1 (xok rfl rfl rfl rfl) rfl rfl ?_ | refine JL.G1 (xok rfl rfl rfl rfl) rfl rfl rfl ?_ | refine JL.M1 (xok rfl rfl rfl rfl) rfl rfl ?_ | refine JL.M0 (xok rfl rfl rfl rfl) rfl ?_ | refine JL.Q0 (xok rfl rfl rfl rfl) rfl ?_); refine JL.finN ?_; refine JF.Branch 5 [] (xok rfl rfl rfl rfl) ?_ ?_; (focus (repeat (first | exact StF.nil | refine StF.One rfl rfl rfl ?_))); refine BrF.one rfl rfl ?_ BrF.nil; (· (first | refine JL.Q1 (xok rfl rfl rfl rfl) rfl rfl ?_ | refine JL.G1 (xok rfl rfl rfl rfl) rfl rfl rfl ?_ | refine JL.M1 (xok rfl rfl rfl rfl) rfl rfl ?_ | refine JL.M0 (xok rfl rfl rfl rfl) rfl ?_ | refine JL.Q0 (xok rfl rfl rfl rfl) rfl ?_); refine JL.finN ?_; refine JF.First 6 (xok rfl rfl rfl rfl) rfl rfl ?_; refine JF.Done (xok rfl rfl rfl rfl) ?_ ?_; (focus (repeat (first | exact StF.nil | refine StF.One rfl rfl rfl ?_))); ((exact JW.Auto (by conv => lhs; reduce))))))); (· (first | refine JL.Q1 (xok rfl rfl rfl rfl) rfl rfl ?_ | refine JL.G1 (xok rfl rfl rfl rfl) rfl rfl rfl ?_ | refine JL.M1 (xok rfl rfl rfl rfl) rfl rfl ?_ | refine JL.M0 (xok rfl rfl rfl rfl) rfl ?_ | refine JL.Q0 (xok rfl rfl rfl rfl) rfl ?_); refine JL.finN ?_; refine JF.Branch 0 [] (xok rfl rfl rfl rfl) ?_ ?_; (focus (repeat (first | exact StF.nil | refine StF.One rfl rfl rfl ?_))); refine BrF.one rfl rfl ?_ BrF.nil; (· (first | refine JL.Q1 (xok rfl rfl rfl rfl) rfl rfl ?_ | refine JL.G1 (xok rfl rfl rfl rfl) rfl rfl rfl ?_ | refine JL.M1 (xok rfl rfl rfl rfl) rfl rfl ?_ | refine JL.M0 (xok rfl rfl rfl rfl) rfl ?_ | refine JL.Q0 (xok rfl rfl rfl rfl) rfl ?_); refine JL.finN ?_; refine JF.Branch 2 [] (xok rfl rfl rfl rfl) ?_ ?_; (focus (repeat (first | exact StF.nil | refine StF.One rfl rfl rfl ?_))); refine BrF.one rfl rfl ?_ BrF.nil; (· (first | refine JL.Q1 (xok rfl rfl rfl rfl) rfl rfl ?_ | refine JL.G1 (xok rfl rfl rfl rfl) rfl rfl rfl ?_ | refine JL.M1 (xok rfl rfl rfl rfl) rfl rfl ?_ | refine JL.M0 (xok rfl rfl rfl rfl) rfl ?_ | refine JL.Q0 (xok rfl rfl rfl rfl) rfl ?_); refine JL.finN ?_; refine JF.Branch 5 [] (xok rfl rfl rfl rfl) ?_ ?_; (focus (repeat (first | exact StF.nil | refine StF.One rfl rfl rfl ?_))); refine BrF.one rfl rfl ?_ BrF.nil; (· (first | refine JL.Q1 (xok rfl rfl rfl rfl) rfl rfl ?_ | refine JL.G1 (xok rfl rfl rfl rfl) rfl rfl rfl ?_ | refine JL.M1 (xok rfl rfl rfl rfl) rfl rfl ?_ | refine JL.M0 (xok rfl rfl rfl rfl) rfl ?_ | refine JL.Q0 (xok rfl rfl rfl rfl) rfl ?_); refine JL.finN ?_; refine JF.First 6 (xok rfl rfl rfl rfl) rfl rfl ?_; refine JF.Done (xok rfl rfl rfl rfl) ?_ ?_; (focus (repeat (first | exact StF.nil | refine StF.One rfl rfl rfl ?_))); ((exact JW.Auto (by conv => lhs; reduce))))))))
      have cy := fn42 (l ++ [mo])
      have cf := fn41 (l ++ [mo])
      (repeat (first | refine zs rfl ?_ | refine zg rfl rfl rfl ?_ | refine zd ?_ | refine JK.fin ?_ | refine JK.ret ?_ | refine zc rfl (cf) rfl rfl ?_ | refine ze rfl (cf) rfl ?_ | refine zk rfl rfl (fun _ => cf) rfl rfl ?_))
      refine JK.cond rfl (fun hf => ?_) (fun hf => ?_)
      · have hzy : dayE (l ++ [mo]) = 0 := of_decide_eq_true hf
        have hoy := okD_of_day hzy
        have q1 := more_lo hoy d1
        have q2 := more_hi hoy
        have q3 : okS mo := hoy mo (List.mem_append_right _ (List.mem_singleton.2 rfl))
        rw [decide_eq_true hzy, show lstI (l ++ [mo]) = leS (l ++ [mo]) by unfold lstI; rw [if_pos hzy]] at cy
        obtain ⟨m1, m2, m3, _⟩ := mo
        unfold okS at q3
        simp only [da, dr, dp] at q3
        dsimp only at q1 q2
        rw [hnn] at q1 q2
        generalize leS (l ++ [(m1, m2, m3, ())]) = q at cy q1 q2
        have t1 : n + Min.min m1 m3 ≤ q := q1
        (repeat (first | refine zt rfl (by simp [wantB, t1, q2]) ?_ | refine zs rfl ?_ | refine ze rfl cy rfl ?_ | refine zc rfl cy rfl rfl ?_ | refine zc rfl fn16 rfl rfl ?_ | refine JK.ret ?_))
        refine ⟨.inl rfl, _, _, rfl, trivial, ?_⟩
        simp [t1, q2]
      · (repeat (first | refine zs rfl ?_ | refine zg rfl rfl rfl ?_ | refine zd ?_ | refine JK.fin ?_ | refine JK.ret ?_ | refine zc rfl (fn16) rfl rfl ?_ | refine ze rfl (fn16) rfl ?_ | refine zk rfl rfl (fun _ => fn16) rfl rfl ?_))
        refine ⟨.inl rfl, _, _, rfl, trivial, ?_⟩
        rfl
end Go.Proofs.Ythiocglfgcnlhaa
