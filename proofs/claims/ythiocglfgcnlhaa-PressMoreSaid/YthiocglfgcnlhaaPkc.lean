/- Texts of the proof, part 3 of 6.
  The engine, part ZU: code as a stack: one step at a time, by one rule.
  The engine, part ZW: functions that call a yield: contracts over memory of a caller; recursion; one value a round.
  The engine, part ZX: the opposite of the least number; whether a map has a key.
  The engine, part ZY: walks over memory of a caller that is not looked at.
  The engine, part ZV: variables that are maps, set once.
  The engine, part ZR: a row of whole numbers that is taken from at its front and grows at its end.
  The seat's table of types for the engine.
  The seat's steps: one rule a kind.
  Plain law: sayings of which one or the other holds: chains, contradictions, truths. No program in sight.
  Plain theory of sheets: orders on two machines with waits between; the rule's order is a best one.
  Plain theory of sheets: rows, bounds.
  Plain theory of sheets: all orders, the first best one.
  The engine, part ZS: functions whose result is a new row of the caller's own.
  Days that are valid; equal lists; what is in a list.
  The engine, part ZQ: the end of a row is cleared; a row is cut short.
  The shop: one more sheet, the end, waits, ranks, lists by a number. -/
import Derived.Test.YthiocglfgcnlhaaPkb
import Derived.Test.YthiocglfgcnlhaaProg
import Init
set_option linter.all false
set_option maxHeartbeats 2000000
namespace Ox
open Go Go.RowKit
variable {X : Ctx} {s : S} {QA : Exit → S → Prop} {all l : List Oper} {md : Bool} {o : Oper}

/-- What is still to be done: code, the end of a block, operations of a region, a place where something is asked, the end of a scope. -/
inductive Fr
  | code (c : Code)
  | blk (id : Nat)
  | ops (md : Bool) (all l : List Oper)
  | fin (P : S → Prop)
  | scp

def qq (X : Ctx) : List Fr → (Exit → S → Prop) → Exit → S → Prop
  | [], QA => QA
  | .code c :: r, QA => qThen (fun s => JC X c (qq X r QA) s) (qq X r QA)
  | .blk id :: r, QA => qBlock id (qq X r QA)
  | .ops md all l :: r, QA => qThen (fun s => JL X md all (qq X r QA) l s) (qq X r QA)
  | .fin P :: r, QA => qThen P (qq X r QA)
  | .scp :: r, QA => qScope (qq X r QA)

def JK (X : Ctx) (st : List Fr) (QA : Exit → S → Prop) (s : S) : Prop := qq X st QA .normal s

def popF : Nat → List Fr → Option (List Fr)
  | _, [] => none
  | id, .blk j :: r => if j = id then some r else popF id r
  | id, _ :: r => popF id r

theorem popF_spec {id : Nat} : ∀ {r r' : List Fr}, popF id r = some r' → JK X r' QA s → qq X r QA (.exit id) s
  | [], _, h, _ => by simp [popF] at h
  | .blk j :: r, r', h, k => by
    simp only [popF] at h
    simp only [qq, qBlock]
    by_cases e : j = id
    · rw [if_pos e] at h; injection h with h; subst h; rw [if_pos e.symm]; exact k
    · rw [if_neg e] at h; rw [if_neg (fun h => e h.symm)]; exact popF_spec h k
  | .code _ :: r, _, h, k => popF_spec (r := r) h k
  | .ops .. :: r, _, h, k => popF_spec (r := r) h k
  | .fin _ :: r, _, h, k => popF_spec (r := r) h k
  | .scp :: r, _, h, k => popF_spec (r := r) h k

theorem qq_ret : ∀ {r : List Fr}, QA .ret s → qq X r QA .ret s
  | [], h => h
  | .blk _ :: r, h => qq_ret (r := r) h
  | .code _ :: r, h => qq_ret (r := r) h
  | .ops .. :: r, h => qq_ret (r := r) h
  | .fin _ :: r, h => qq_ret (r := r) h
  | .scp :: r, h => qq_ret (r := r) h
theorem qq_exit {id : Nat} : ∀ {r : List Fr}, (popF id r).isNone = true → QA (.exit id) s → qq X r QA (.exit id) s
  | [], _, h => h
  | .blk j :: r, hp, h => by
    simp only [popF] at hp
    by_cases e : j = id
    · rw [if_pos e] at hp; simp at hp
    · rw [if_neg e] at hp
      simp only [qq, qBlock]
      rw [if_neg (fun h => e h.symm)]
      exact qq_exit hp h
  | .code _ :: r, hp, h => qq_exit (r := r) hp h
  | .ops .. :: r, hp, h => qq_exit (r := r) hp h
  | .fin _ :: r, hp, h => qq_exit (r := r) hp h
  | .scp :: r, hp, h => qq_exit (r := r) hp h

/-- An operation, but for calls and guards. -/
def stepO (T : List (Nat × Ty)) (ET : List (Nat × Nat)) (n : Nat) (md : Bool) (o : Oper) (s : S) : Option (List Prop × S) :=
  match o, s with
  | ⟨some d, op, _, _, _, none⟩, ⟨L, H, nx⟩ => match ltB d n with
    | true => match evb T op ⟨L, H, nx⟩ with
      | some (cs, v) => some (cs, ⟨(d, v) :: L, H, nx⟩)
      | none => match md with
        | true => match evm T ET op ⟨L, H, nx⟩ with
          | some (cs, v, ⟨L', H', nx'⟩) => some (cs, ⟨(d, v) :: L', H', nx'⟩)
          | none => none
        | false => none
    | false => none
  | ⟨none, op, _, _, _, none⟩, ⟨L, H, nx⟩ => match md with
    | true => match evm T ET op ⟨L, H, nx⟩ with
      | some (cs, _, s') => some (cs, s')
      | none => match evb T op ⟨L, H, nx⟩ with
        | some (cs, _) => some (cs, ⟨L, H, nx⟩)
        | none => none
    | false => match evb T op ⟨L, H, nx⟩ with
      | some (cs, _) => some (cs, ⟨L, H, nx⟩)
      | none => none
  | _, _ => none

theorem stepO_sound {cs : List Prop} {s' : S} (hX : XOK X) (h : stepO X.T X.ET X.n md o s = some (cs, s')) (hc : allP cs) (k : JL X md all QA l s') : JL X md all QA (o :: l) s := by
  obtain ⟨d, op, ty, ps, af, g⟩ := o
  obtain ⟨L, H, nx⟩ := s
  unfold stepO at h
  split at h
  · rename_i heq heq2
    injection heq with e1 e2 _ _ _ e3
    injection heq2 with e4 e5 e6
    subst e1; subst e2; subst e3; subst e4; subst e5; subst e6
    split at h
    · rename_i hd
      split at h
      · rename_i cs' v hv
        simp only [Option.some.injEq, Prod.mk.injEq] at h
        obtain ⟨rfl, rfl⟩ := h
        exact JL.q hX rfl hv (ltB_lt hd) hc k
      · split at h
        · split at h
          · rename_i cs' v L' H' nx' hv
            simp only [Option.some.injEq, Prod.mk.injEq] at h
            obtain ⟨rfl, rfl⟩ := h
            exact JL.m hX rfl hv (ltB_lt hd) hc k
          · cases h
        · cases h
    · cases h
  · rename_i heq heq2
    injection heq with e1 e2 _ _ _ e3
    injection heq2 with e4 e5 e6
    subst e1; subst e2; subst e3; subst e4; subst e5; subst e6
    split at h
    · split at h
      · rename_i cs' v s'' hv
        simp only [Option.some.injEq, Prod.mk.injEq] at h
        obtain ⟨rfl, rfl⟩ := h
        exact JL.m hX rfl hv trivial hc k
      · split at h
        · rename_i cs' v hv
          simp only [Option.some.injEq, Prod.mk.injEq] at h
          obtain ⟨rfl, rfl⟩ := h
          exact JL.q hX rfl hv trivial hc k
        · cases h
    · split at h
      · rename_i cs' v hv
        simp only [Option.some.injEq, Prod.mk.injEq] at h
        obtain ⟨rfl, rfl⟩ := h
        exact JL.q hX rfl hv trivial hc k
      · cases h
  · cases h

/-- One step; 'u': not into an 'if'. -/
def stepC (T : List (Nat × Ty)) (ET : List (Nat × Nat)) (n : Nat) (u : Bool) : List Fr → S → Option (List Prop × List Fr × S)
  | .ops md all (o :: l) :: r, s => match stepO T ET n md o s with
    | some (cs, s') => some (cs, .ops md all l :: r, s')
    | none => none
  | .ops _ _ [] :: r, s => some ([], r, s)
  | .blk _ :: r, s => some ([], r, s)
  | .scp :: r, s => some ([], r, s)
  | .code c :: r, s => match c with
    | .skip => some ([], r, s)
    | .label _ => some ([], r, s)
    | .seq (.region id ops d) (.cond x a b) => match u with
      | true => none
      | false => some ([], .code (.region id ops d) :: .code (.cond x a b) :: r, s)
    | .seq a b => some ([], .code a :: .code b :: r, s)
    | .block id c => some ([], .code c :: .blk id :: r, s)
    | .scope c => some ([], .code c :: .scp :: r, s)
    | .exit id => match popF id r with
      | some r' => some ([], r', s)
      | none => none
    | .region _ ⟨ops⟩ false => some ([], .ops true ops ops :: r, s)
    | _ => none
  | _, _ => none

theorem JK.step {u : Bool} {st st' : List Fr} {cs : List Prop} {s' : S} (hX : XOK X) (h : stepC X.T X.ET X.n u st s = some (cs, st', s')) (k : JK X st' QA s') (hc : allP cs) : JK X st QA s := by
  unfold stepC at h
  split at h
  · split at h
    · rename_i hv
      simp only [Option.some.injEq, Prod.mk.injEq] at h
      obtain ⟨rfl, rfl, rfl⟩ := h
      exact stepO_sound hX hv hc k
    · cases h
  · simp only [Option.some.injEq, Prod.mk.injEq] at h
    obtain ⟨rfl, rfl, rfl⟩ := h
    exact JL.nil k
  · simp only [Option.some.injEq, Prod.mk.injEq] at h
    obtain ⟨rfl, rfl, rfl⟩ := h
    exact k
  · simp only [Option.some.injEq, Prod.mk.injEq] at h
    obtain ⟨rfl, rfl, rfl⟩ := h
    exact k
  · split at h
    · simp only [Option.some.injEq, Prod.mk.injEq] at h
      obtain ⟨rfl, rfl, rfl⟩ := h
      exact JC.skip k
    · simp only [Option.some.injEq, Prod.mk.injEq] at h
      obtain ⟨rfl, rfl, rfl⟩ := h
      exact JC.label k
    · split at h
      · cases h
      · simp only [Option.some.injEq, Prod.mk.injEq] at h
        obtain ⟨rfl, rfl, rfl⟩ := h
        exact JC.seq k
    · simp only [Option.some.injEq, Prod.mk.injEq] at h
      obtain ⟨rfl, rfl, rfl⟩ := h
      exact JC.seq k
    · simp only [Option.some.injEq, Prod.mk.injEq] at h
      obtain ⟨rfl, rfl, rfl⟩ := h
      exact JC.block k
    · simp only [Option.some.injEq, Prod.mk.injEq] at h
      obtain ⟨rfl, rfl, rfl⟩ := h
      exact JC.scope k
    · split at h
      · rename_i hp
        simp only [Option.some.injEq, Prod.mk.injEq] at h
        obtain ⟨rfl, rfl, rfl⟩ := h
        exact JC.exit (popF_spec hp k)
      · cases h
    · simp only [Option.some.injEq, Prod.mk.injEq] at h
      obtain ⟨rfl, rfl, rfl⟩ := h
      exact JC.region k
    · cases h
  · cases h

/-- An operation behind a guard. -/
theorem JK.gd {L : List (Nat × AV)} {H : List (Nat × HO)} {nx d : Nat} {gg : Nat × Bool} {op : Op} {ty : TypeId} {ps : String} {af : Array Edge} {r : List Fr} {g : Bool} {cs : List Prop} {v : AV} (hX : XOK X) (hg : gOf all L (some gg) = some g) (h : evb X.T op ⟨L, H, nx⟩ = some (cs, v)) (hd : ltB d X.n = true)
    (k : JK X (.ops md all l :: r) QA ⟨(d, .gd g v) :: L, H, nx⟩) (hc : g = true → allP cs) : JK X (.ops md all (⟨some d, op, ty, ps, af, some gg⟩ :: l) :: r) QA ⟨L, H, nx⟩ := JL.g (s := ⟨L, H, nx⟩) hX hg h (ltB_lt hd) hc k

theorem JK.cond {x : Operand} {c d : Code} {r : List Fr} {b : Bool} (hb : opB s.L x = some b) (ht : b = true → JK X (.code c :: r) QA s) (hf : b = false → JK X (.code d :: r) QA s) : JK X (.code (.cond x c d) :: r) QA s := JC.cond hb ht hf
theorem JK.draw {id : Nat} {ops : List Oper} {r : List Fr} (hX : XOK X) (k : JK X (.ops false ops ops :: r) QA s) (hB : (Region.lexB .any ops.toArray && ndAll ops) = true := by decide +kernel) : JK X (.code (.region id ⟨ops⟩ true) :: r) QA s := JC.draw hX hB k
theorem JK.ret {r : List Fr} (h : QA .ret s) : JK X (.code .ret :: r) QA s := JC.ret (qq_ret h)
theorem JK.done (h : QA .normal s) : JK X [] QA s := h
theorem JK.fin {P : S → Prop} {r : List Fr} (h : P s) : JK X (.fin P :: r) QA s := h
theorem JK.exitQ {id : Nat} {r : List Fr} (hp : (popF id r).isNone = true) (h : QA (.exit id) s) : JK X (.code (.exit id) :: r) QA s := JC.exit (qq_exit hp h)
theorem JK.start {c : Code} (h : JK X [.code c] QA s) : JC X c QA s := h
theorem JK.toC {c : Code} {r : List Fr} (h : JK X (.code c :: r) QA s) : JC X c (qq X r QA) s := h
theorem JK.toL {r : List Fr} (h : JK X (.ops md all l :: r) QA s) : JL X md all (qq X r QA) l s := h
theorem JK.ofC {c : Code} {r : List Fr} (h : JC X c (qq X r QA) s) : JK X (.code c :: r) QA s := h
theorem JK.ofL {r : List Fr} (h : JL X md all (qq X r QA) l s) : JK X (.ops md all l :: r) QA s := h

theorem JK.loop {c : Code} {r : List Fr} {σ : Type} (st : σ → S) (I : σ → Prop) (μ : σ → Nat) (i0 : σ) (h0 : I i0) (hs : JW X (st i0) s)
    (round : ∀ i, I i → JK X (.code c :: .fin (fun s' => ∃ i', JW X (st i') s' ∧ I i' ∧ μ i' < μ i) :: r) QA (st i)) : JK X (.code (.loop c) :: r) QA s := JC.loop st I μ i0 h0 hs round

theorem qq_fin {P : S → Prop} {r : List Fr} (k : ∀ s, P s → JK X r QA s) : ∀ e s, qq X (.fin P :: r) QA e s → qq X r QA e s := by
  intro e s h
  cases e with
  | normal => exact k s h
  | _ => exact h
theorem JK.cutP {c : Code} {r : List Fr} (P : S → Prop) (h : JK X (.code c :: .fin P :: r) QA s) (k : ∀ s, P s → JK X r QA s) : JK X (.code c :: r) QA s := JC.mono h (qq_fin k)
theorem JK.weak {c : Code} {r : List Fr} {s' : S} (h : JW X s' s) (k : JK X (.code c :: r) QA s') : JK X (.code c :: r) QA s := JC.weak h k
/-- Ways that meet again. -/
theorem JK.cut {x y : Code} {r : List Fr} {σ : Type} (st : σ → S) (P : σ → Prop) (h : JK X (.code x :: .fin (fun s => ∃ q, JW X (st q) s ∧ P q) :: .code y :: r) QA s) (k : ∀ q, P q → JK X (.code y :: r) QA (st q)) : JK X (.code x :: .code y :: r) QA s :=
  JK.cutP _ h fun _ ⟨q, hw, hp⟩ => JK.weak hw (k q hp)
/-- A loop that is left in several places. -/
theorem JK.loopE {c : Code} {id : Nat} {y : Code} {r : List Fr} {σ τ : Type} (st : σ → S) (I : σ → Prop) (μ : σ → Nat) (i0 : σ) (h0 : I i0) (hs : JW X (st i0) s) (E : τ → S) (PE : τ → Prop) (k : ∀ q, PE q → JK X (.code y :: r) QA (E q))
    (round : ∀ i, I i → JK X (.code c :: .fin (fun s' => ∃ i', JW X (st i') s' ∧ I i' ∧ μ i' < μ i) :: .blk id :: .fin (fun s' => ∃ q, JW X (E q) s' ∧ PE q) :: .code y :: r) QA (st i)) : JK X (.code (.loop c) :: .blk id :: .code y :: r) QA s := by
  have h1 : JK X (.code (.loop c) :: .blk id :: .fin (fun s' => ∃ q, JW X (E q) s' ∧ PE q) :: .code y :: r) QA s := JK.loop st I μ i0 h0 hs round
  refine JC.mono h1 ?_
  intro e s' h
  have hk := qq_fin (X := X) (QA := QA) (r := .code y :: r) (P := fun s' => ∃ q, JW X (E q) s' ∧ PE q) fun s ⟨q, hw, hp⟩ => JK.weak hw (k q hp)
  cases e with
  | exit j =>
    simp only [qq, qBlock] at h ⊢
    split at h
    · rename_i e; rw [if_pos e]; exact hk .normal _ h
    · rename_i e; rw [if_neg e]; exact hk (.exit j) _ h
  | normal => exact hk .normal _ h
  | _ => exact h

/-! Regions that draw their order and touch memory. -/
theorem JK.drawTo {id : Nat} {y : Code} {r : List Fr} (hX : XOK X) (c : Code) (st : S) {ops : List Oper} (ho : rgn id c = ops) (n : Nat) (hn : (rgn id c).length = n)
    (h : JF X (rgn id c) (fun s' => JW X st s') [] n [] s) (k : JK X (.code y :: r) QA st) : JK X (.code (.region id ⟨ops⟩ true) :: .code y :: r) QA s := by
  subst ho; subst hn
  exact JC.drawAny hX _ h.any fun s' hs => JK.weak hs k
theorem JK.drawB {id j : Nat} {y : Code} {r : List Fr} (hX : XOK X) (c : Code) (st : S) {ops : List Oper} (ho : rgn id c = ops) (n : Nat) (hn : (rgn id c).length = n)
    (h : JF X (rgn id c) (fun s' => JW X st s') [] n [] s) (k : JK X (.code y :: r) QA st) : JK X (.code (.region id ⟨ops⟩ true) :: .blk j :: .code y :: r) QA s := by
  subst ho; subst hn
  exact JC.drawAny hX _ h.any fun s' hs => JK.weak hs k
theorem JK.drawP {id : Nat} {r : List Fr} (hX : XOK X) (c : Code) {ops : List Oper} (ho : rgn id c = ops) (n : Nat) (hn : (rgn id c).length = n)
    (h : JF X (rgn id c) (fun s' => JK X r QA s') [] n [] s) : JK X (.code (.region id ⟨ops⟩ true) :: r) QA s := by
  subst ho; subst hn
  exact JC.drawAny hX _ h.any fun _ h => h

theorem JK.lenOf {c : Code} {r : List Fr} (d : Nat) {t : Ty} {x : t.den} (h : lk s.L d = some (.val t x)) (k : t.lens x → JK X (.code c :: r) QA s) : JK X (.code c :: r) QA s := JC.lenOf d h k
theorem JK.ghost {c : Code} {r : List Fr} (d : Nat) (eid : TypeId) (e : Ty) (hd : lk s.L d = some (.lf .nils)) (k : JK X (.code c :: r) QA ⟨(d, .lf (.osl s.nx)) :: s.L, (s.nx, .sl eid e []) :: s.H, s.nx + 1⟩) : JK X (.code c :: r) QA s := JC.ghost d eid e hd k
theorem JK.ghostC {c : Code} {r : List Fr} (m i : Nat) (eid : TypeId) (e : Ty) {t : Ty} {v v' : AV} (hm : lk s.H m = some (.cell t v)) (hv : ghA s.nx v i = some v')
    (k : JK X (.code c :: r) QA ⟨s.L, updH ((s.nx, .sl eid e []) :: s.H) m (.cell t v'), s.nx + 1⟩) : JK X (.code c :: r) QA s := JC.ghostC m i eid e hm hv k
theorem JK.frz {c : Code} {r : List Fr} {cs : List Prop} {s' : S} (F K : List Nat) (h : Ox.frz F K s = some (cs, s')) (hc : allP cs) (k : JK X (.code c :: r) QA s') : JK X (.code c :: r) QA s := JC.frz F K h hc k
theorem JK.frzL {r : List Fr} {cs : List Prop} {s' : S} (F K : List Nat) (h : Ox.frz F K s = some (cs, s')) (hc : allP cs) (k : JK X (.ops md all l :: r) QA s') : JK X (.ops md all l :: r) QA s := JL.frz F K h hc k

/-! Ranges over maps. -/
section
variable {L : List (Nat × AV)} {H : List (Nat × HO)} {nx d n : Nat} {rr : List Fr} {om : Operand} {c1 : List Prop} {kt vt : Ty} {es : List (Ent kt vt)} {clk m since last : Nat} {seen seen' : List Nat} {ty : TypeId} {ps : String} {af : Array Edge} {e : Ent kt vt}
theorem JK.etr (hu : opd L om = some (c1, .lf (.itr n))) (hl : lk H n = some (.iter m since seen last)) (hm : lk H m = some (.map kt vt es clk)) (hs : seen = seen' ++ [e.2.2]) (hlast : last = clk)
    (he : e ∈ es) (hw : MWF es clk) (hd : ltB d X.n = true)
    (k : JK X (.ops true all l :: rr) QA ⟨(d, .tup (.acons (.val kt e.1) (.acons (.val vt e.2.1) .anil))) :: L, H, nx⟩) (hc : allP c1 := by (first | exact trivial | (try dsimp only [allP, inK, idxC, loC, lohiC, fullC, underG, List.append, List.nil_append, List.cons_append, Ty.den, Ty.dflt, Int.toNat_natCast, List.length_cons, List.length_nil] at *); first | omega | ((repeat' (first | exact trivial | assumption | refine And.intro ?_ ?_ | exact fun h => h | (intro hpk; first | exact hpk | simp only [wantB, hpk, Bool.not_false, Bool.not_true]))) <;> omega) | fail)) : JK X (.ops true all (⟨some d, .entry om, ty, ps, af, none⟩ :: l) :: rr) QA ⟨L, H, nx⟩ := JL.mEntry hu hl hm hs hlast he hw.nb hd hc k
theorem JK.nxt (hu : opd L om = some (c1, .lf (.itr n))) (hl : lk H n = some (.iter m since seen last)) (hm : lk H m = some (.map kt vt es clk)) (hold : ∀ e ∈ es, e.2.2 < since) (hsl : since ≤ last) (hd : ltB d X.n = true)
    (k0 : (∀ e ∈ es, e.2.2 ∈ seen) → JK X (.ops true all l :: rr) QA ⟨(d, .tup (.acons (.val .bool false) .anil)) :: L, H, nx⟩)
    (k1 : ∀ e ∈ es, e.2.2 ∉ seen → JK X (.ops true all l :: rr) QA ⟨(d, .tup (.acons (.val .bool true) (.acons (.val kt e.1) (.acons (.val vt e.2.1) .anil)))) :: L, updH H n (.iter m since (seen ++ [e.2.2]) clk), nx⟩) (hc : allP c1 := by (first | exact trivial | (try dsimp only [allP, inK, idxC, loC, lohiC, fullC, underG, List.append, List.nil_append, List.cons_append, Ty.den, Ty.dflt, Int.toNat_natCast, List.length_cons, List.length_nil] at *); first | omega | ((repeat' (first | exact trivial | assumption | refine And.intro ?_ ?_ | exact fun h => h | (intro hpk; first | exact hpk | simp only [wantB, hpk, Bool.not_false, Bool.not_true]))) <;> omega) | fail)) :
    JK X (.ops true all (⟨some d, .next om false, ty, ps, af, none⟩ :: l) :: rr) QA ⟨L, H, nx⟩ := JL.mNext hu hl hm hold hsl hd hc k0 k1
end

/-! Calls. -/
section
variable {op : Op} {L : List (Nat × AV)} {H : List (Nat × HO)} {nx d : Nat} {cs : List Prop} {ty : TypeId} {ps : String} {af : Array Edge} {g : Bool} {gg : Nat × Bool} {rr : List Fr} {f : FuncId} {args r : AV}
theorem JK.sc (h : callA X.T op ⟨L, H, nx⟩ = some (cs, f, args)) (hf : Fn X.P f args (· = r)) (hr : r.scal = true) (hd : ltB d X.n = true) (k : JK X (.ops md all l :: rr) QA ⟨(d, r) :: L, H, nx⟩) (hc : allP cs) :
    JK X (.ops md all (⟨some d, op, ty, ps, af, none⟩ :: l) :: rr) QA ⟨L, H, nx⟩ := JL.s1 (L := L) (H := H) (nx := nx) h hf hr (AV.scal_bd hr) hd hc k
theorem JK.scg (hg : gOf all L (some gg) = some g) (h : callA X.T op ⟨L, H, nx⟩ = some (cs, f, args)) (hf : g = true → Fn X.P f args (· = r)) (hr : r.scal = true) (hd : ltB d X.n = true) (k : JK X (.ops md all l :: rr) QA ⟨(d, .gd g r) :: L, H, nx⟩) (hc : g = true → allP cs) :
    JK X (.ops md all (⟨some d, op, ty, ps, af, some gg⟩ :: l) :: rr) QA ⟨L, H, nx⟩ := JL.s1g (L := L) (H := H) (nx := nx) hg h hf hr (AV.scal_bd hr) hd hc k
theorem JK.cl {R : AV → Prop} (h : callA X.T op ⟨L, [], nx⟩ = some (cs, f, args)) (hf : Fn X.P f args R) (hd : ltB d X.n = true) (k : ∀ r, R r → JK X (.ops true all l :: rr) QA ⟨(d, r) :: L, H, nx⟩) (hc : allP cs) :
    JK X (.ops true all (⟨some d, op, ty, ps, af, none⟩ :: l) :: rr) QA ⟨L, H, nx⟩ := JL.c1 (L := L) (H := H) (nx := nx) h hf hd hc k
theorem JK.ce (h : callA X.T op ⟨L, [], nx⟩ = some (cs, f, args)) (hf : Fn X.P f args (· = r)) (hd : ltB d X.n = true) (k : JK X (.ops true all l :: rr) QA ⟨(d, r) :: L, H, nx⟩) (hc : allP cs) :
    JK X (.ops true all (⟨some d, op, ty, ps, af, none⟩ :: l) :: rr) QA ⟨L, H, nx⟩ := JK.cl h hf hd (fun _ e => e ▸ k) hc
theorem JK.gT (hg : gOf all L (some gg) = some g) (hgt : g = true) {dd : Option Nat} (k : JK X (.ops true all (⟨dd, op, ty, ps, af, none⟩ :: l) :: rr) QA ⟨L, H, nx⟩) : JK X (.ops true all (⟨dd, op, ty, ps, af, some gg⟩ :: l) :: rr) QA ⟨L, H, nx⟩ := JL.gT hg hgt k
theorem JK.gF (hg : gOf all L (some gg) = some g) (hgf : g = false) (hd : ltB d X.n = true) (k : JK X (.ops true all l :: rr) QA ⟨(d, .undef) :: L, H, nx⟩) : JK X (.ops true all (⟨some d, op, ty, ps, af, some gg⟩ :: l) :: rr) QA ⟨L, H, nx⟩ := JL.gF (L := L) (H := H) (nx := nx) hg hgf hd k
theorem JK.nilF (k : JK X (.ops true all l :: rr) QA ⟨del L d, H, nx⟩) : JK X (.ops true all (⟨some d, .assign (.const .nilFunc), ty, ps, af, none⟩ :: l) :: rr) QA ⟨L, H, nx⟩ := JL.nilF (L := L) (H := H) (nx := nx) k
end
end Ox

namespace Ox
open Go Go.RowKit
variable {X : Ctx} {s : S} {M : Mem} {ρ : Env} {a a' : Act} {w w' : World} {QA : Exit → S → Prop} {all l : List Oper} {o : Oper}

abbrev Ctx.at (X : Ctx) (M0 : Mem) (n : Nat) (rd : Option Nat) : Ctx := ⟨X.P, X.T, X.ET, X.MT, X.E, M0, n, rd, X.up, X.dp⟩
theorem HO.ok_at {M0 : Mem} {n : Nat} {rd : Option Nat} {l : Nat} {o : HO} (h : o.ok X M ρ l w) : o.ok (X.at M0 n rd) M ρ l w := by cases o <;> exact h
theorem HO.of_at {M0 : Mem} {n : Nat} {rd : Option Nat} {l : Nat} {o : HO} (h : o.ok (X.at M0 n rd) M ρ l w) : o.ok X M ρ l w := by cases o <;> exact h
theorem SAT.at (h : SAT X M ρ s w) {M0 : Mem} (n : Nat) (rd : Option Nat) (L : List (Nat × AV)) (h1 : ∀ b o, M0 b = some o → M b = some o) (h2 : ∀ b, b < X.E.heap.size → M b = M0 b) : SAT (X.at M0 n rd) M ρ ⟨L, s.H, s.nx⟩ w :=
  ⟨h.below, h1, h2, h.mem, fun l o hl => let ⟨a, b, c⟩ := h.own l o hl; ⟨a, b, HO.ok_at c⟩, h.apart, h.notM⟩
theorem SAT.self (h : SAT X M ρ s w) (n : Nat) (rd : Option Nat) (L : List (Nat × AV)) : SAT (X.at M n rd) M ρ ⟨L, s.H, s.nx⟩ w := h.at n rd L (fun _ _ h => h) fun _ _ => rfl
/-- Back to what stayed before. -/
theorem SAT.since (h0 : SAT X M ρ s w) {M' : Mem} {ρ' : Env} {s' : S} {n : Nat} {rd : Option Nat} (h : SAT (X.at M n rd) M' ρ' s' w') (L : List (Nat × AV)) : SAT X M' ρ' ⟨L, s'.H, s'.nx⟩ w' :=
  ⟨h.below, fun b o hb => h.msub b o (h0.msub b o hb), fun b hb => (h.mnew b hb).trans (h0.mnew b hb), h.mem, fun l o hl => let ⟨a, b, c⟩ := h.own l o hl; ⟨a, b, HO.of_at c⟩, h.apart, h.notM⟩
theorem SAT.regs (h : SAT X M ρ s w) (L : List (Nat × AV)) : SAT X M ρ ⟨L, s.H, s.nx⟩ w := ⟨h.below, h.msub, h.mnew, h.mem, h.own, h.apart, h.notM⟩

/-! ### What stays whatever a call does -/
def stayB (lab : Nat) : AV → Bool
  | .val _ _ => true
  | .lf (.yld l) => Nat.beq l lab
  | _ => false
def stayL (lab : Nat) : List (Nat × AV) → Bool
  | [] => true
  | p :: r => stayB lab p.2 && stayL lab r
theorem stayL_mem {lab : Nat} : ∀ {L : List (Nat × AV)} {p : Nat × AV}, stayL lab L = true → p ∈ L → stayB lab p.2 = true
  | q :: r, p, h, hp => by
    simp only [stayL, Bool.and_eq_true] at h
    rcases List.mem_cons.1 hp with rfl | hp
    · exact h.1
    · exact stayL_mem h.2 hp
theorem stay_rv {lab n : Nat} {v : AV} {u : Value} {M' : Mem} {ρ' : Env} (h : stayB lab v = true) (hv : v.rv M ρ u) (hM : ∀ b o, M b = some o → M' b = some o) (hρ : ρ'.blk lab = ρ.blk lab) (hl : lab < n) : v.bd n ∧ v.rv M' ρ' u := by
  cases v with
  | val t x => exact ⟨trivial, AV.rv_mono (n := 0) (fun b c ty fz hb => hM b _ hb) (fun l hl => absurd hl (by omega)) trivial hv⟩
  | lf x =>
    cases x with
    | yld l =>
      have hl' : l = lab := Nat.eq_of_beq_eq_true h
      subst hl'
      refine ⟨hl, ?_⟩
      rw [rv_lf] at hv ⊢
      simpa only [Leaf.at, hρ] using hv
    | _ => simp [stayB] at h
  | _ => simp [stayB] at h

/-- A frame that waits knows the yield. -/
def hasY (i n lab : Nat) (H : List (Nat × HO)) : Prop := ∃ lf Lf, lk H lf = some (.fr i Lf) ∧ lk Lf n = some (.lf (.yld lab))
theorem hasY.blk {i n lab : Nat} (hy : hasY i n lab s.H) (h : SAT X M ρ s w) : X.up i n = .func (.yield (ρ.blk lab)) #[] #[] ∧ lab < s.nx := by
  obtain ⟨lf, Lf, h1, h2⟩ := hy
  obtain ⟨_, e2, e3⟩ := h.own lf _ h1
  simp only [HO.ok] at e3
  have h3 := e3.2 n _ h2
  rw [rv_lf] at h3
  simp only [Leaf.at, Option.some.injEq] at h3
  exact ⟨h3.1.symm, e2 _ (lk_mem h2)⟩

/-! ### Contracts -/
def foQ (X : Ctx) (rs : List ResultVar) (Q : AV → List (Nat × HO) → Nat → Prop) (e : Exit) (s' : S) : Prop := (e = .ret ∨ e = .normal) ∧ ∃ s'' r, JW X s'' s' ∧ resI s''.L rs = some r ∧ Q (resV r) s''.H s''.nx
theorem foQ.ret {rs : List ResultVar} {Q : AV → List (Nat × HO) → Nat → Prop} (s'' : S) (hw : JW X s'' s) {r : AV} (hr : resI s''.L rs = some r) (h : Q (resV r) s''.H s''.nx) : foQ X rs Q .ret s := ⟨.inl rfl, s'', r, hw, hr, h⟩
theorem foQ.nor {rs : List ResultVar} {Q : AV → List (Nat × HO) → Nat → Prop} (s'' : S) (hw : JW X s'' s) {r : AV} (hr : resI s''.L rs = some r) (h : Q (resV r) s''.H s''.nx) : foQ X rs Q .normal s := ⟨.inr rfl, s'', r, hw, hr, h⟩
/-- What a function does with the memory of its caller. -/
def FO (X : Ctx) (f : FuncId) (args : AV) (H : List (Nat × HO)) (nx : Nat) (Q : AV → List (Nat × HO) → Nat → Prop) : Prop :=
  ∀ M0 M ρ w vs, SAT (X.at M0 0 none) M ρ ⟨[], H, nx⟩ w → args.bd nx → args.rvs M ρ vs → Calls X.P f vs.toArray w fun e w' =>
    ∃ v r H' nx' M' ρ', e = .returned v ∧ SAT (X.at M 0 none) M' ρ' ⟨[], H', nx'⟩ w' ∧ r.bd nx' ∧ r.rv M' ρ' v ∧ Q r H' nx'
theorem FO.intro {f : FuncId} {fn : Func} {c : Code} {args : AV} {H : List (Nat × HO)} {nx : Nat} {Q : AV → List (Nat × HO) → Nat → Prop} (hf : X.P.funcs[f]? = some fn) (hb : fn.body = some c) (hn : argN args ≤ fn.ntmps) (hdp : X.dp ≠ 0)
    (h : ∀ M0, JC (X.at M0 fn.ntmps none) c (foQ (X.at M0 fn.ntmps none) fn.results.toList Q) ⟨argL args 0, H, nx⟩) : FO X f args H nx Q := by
  intro M0 M ρ w vs hS hbd hvs
  refine (callsIn_wide (n := 0)).1 (callsIn_of_wp_marks hf hb trivial ?_ rfl)
  have hs : SAT (X.at M fn.ntmps none) M ρ ⟨argL args 0, H, nx⟩ w := hS.self fn.ntmps none (argL args 0)
  have hr : REG (X.at M fn.ntmps none) M ρ ⟨argL args 0, H, nx⟩ _ := REG.args hvs hbd rfl hn
  refine wpIn_mono (h M M ρ _ w hs hr) ?_
  rintro e a' w' ⟨M', ρ', s', k1, k2, hex, s'', r, hw, e2, e4⟩
  obtain ⟨ρ'', k1, k2⟩ := hw M' ρ' a' w' k1 k2
  obtain ⟨hrb, v, hrv, hrun⟩ := resV_sound (P := X.P) (w := w') k2 e2
  have hd0 : a'.defers = [] := by
    obtain ⟨Ds, d1, _, _, d4⟩ := k2.defers
    rcases d4 with rfl | ⟨_, hd⟩
    · exact d1
    · exact absurd hd hdp
  have k1' : SAT (X.at M 0 none) M' ρ'' ⟨[], s''.H, s''.nx⟩ w' := k1.at (X := X.at M fn.ntmps none) 0 none [] k1.msub k1.mnew
  have fin : LeavesInM Fence.wide 0 X.P fn a'.tmps (fun e w' => ∃ v r H' nx' M' ρ', e = .returned v ∧ SAT (X.at M 0 none) M' ρ' ⟨[], H', nx'⟩ w' ∧ r.bd nx' ∧ r.rv M' ρ' v ∧ Q r H' nx') a'.defers .returning w' := by
    rw [hd0]
    exact ⟨v, hrun, v, resV r, s''.H, s''.nx, M', ρ'', rfl, k1', hrb, hrv, e4⟩
  rcases hex with rfl | rfl
  · exact fin
  · exact fin

theorem REG.stay {i n lab : Nat} {Kp : List Nat} (h1 : SAT X M ρ s w) (h2 : REG X M ρ s a) (hy : hasY i n lab s.H) (hst : stayL lab (svL s.L Kp) = true) {M' : Mem} {ρ' : Env} {H' : List (Nat × HO)} {nx' : Nat} (h' : SAT (X.at M 0 none) M' ρ' ⟨[], H', nx'⟩ w')
    (hy' : hasY i n lab H') : REG X M' ρ' ⟨svL s.L Kp, H', nx'⟩ a := by
  have e1 := hy.blk h1
  have e2 := hasY.blk (X := X.at M 0 none) (s := ⟨[], H', nx'⟩) hy' h'
  have hb : ρ'.blk lab = ρ.blk lab := by
    have := e1.1.symm.trans e2.1
    injection this with this
    injection this with this
    exact this.symm
  refine ⟨h2.size, let ⟨Ds, d1, d2, d3, d4⟩ := h2.defers; ⟨Ds, d1, d2, fun D hD => ⟨(d3 D hD).1, h'.msub _ _ (d3 D hD).2⟩, d4⟩, fun d v hd => ?_⟩
  have hm := lk_mem hd
  exact stay_rv (stayL_mem hst hm) (h2.reg _ _ (svL_mem hm)).2 h'.msub hb e2.2

/-- A CALL of a function with such a contract. -/
theorem JL.callO (Kp : List Nat) {f : FuncId} {fst cap az : AV} {cs1 cs2 : List Prop} {fo : Operand} {args : Array Operand} {tys : Array TypeId} {Q : AV → List (Nat × HO) → Nat → Prop} (i n lab : Nat) (hg : o.guard = none) (hop : o.op = .call { callee := .value fo, args := args, argTypes := tys })
    (hu : opd s.L fo = some (cs1, .fn f fst cap)) (ha : opds s.L args.toList = some (cs2, az)) (hc : allP (cs1 ++ cs2)) (hcall : ∀ az w, (callFunc f az).run X.P w = .ok (.enter f az) w) (hd : dstOk X.n o.dst) (hy : hasY i n lab s.H) (hst : stayL lab (svL s.L Kp) = true)
    (hO : FO X f (apA fst (apA az cap)) s.H s.nx Q) (k : ∀ r H' nx', Q r H' nx' → hasY i n lab H' ∧ JL X true all QA l (putS o.dst r ⟨svL s.L Kp, H', nx'⟩)) : JL X true all QA (o :: l) s := by
  intro M ρ a w h1 h2
  rw [allP_append] at hc
  obtain ⟨hub, eu⟩ := opd_sound hu hc.1 h2
  simp only [AV.rv] at eu
  obtain ⟨fs, ks, k1, k2, k3⟩ := eu
  obtain ⟨hab, ea⟩ := opds_sound h2 ha hc.2
  have hvs := apA_rvs k1 (apA_rvs ea k2)
  have hbd : (apA fst (apA az cap)).bd s.nx := apA_bd hub.1 (apA_bd hab hub.2)
  have hrun : (execOp a.eval o).run X.P w = .ok (.enter f (fs ++ (args.toList.map a.eval ++ ks)).toArray) w := by
    have hmap : Array.map a.eval args = (List.map a.eval args.toList).toArray := by rw [← Array.toList_map]
    obtain ⟨dst, op, ty, pos, after, guard⟩ := o
    simp only at hop
    subst hop
    simp only [execOp, resolve, k3, Deferred.ofValue, Sem.run_bind, Sem.run_pure, Result.andThen_ok, invoke, hmap]
    rw [← hcall]
    simp
  refine wpListIn_w (wanted_none hg) (wpIn_enter (by rw [hop]; rfl) hrun (hO M M ρ w _ (h1.self 0 none []) hbd hvs) ?_)
  rintro e w'' ⟨v, r, H', nx', M', ρ', rfl, q1, q2, q3, q4⟩
  obtain ⟨y1, y2⟩ := k r H' nx' q4
  refine ⟨v, rfl, y2 M' ρ' _ w'' (putS_sat (h1.since q1 (svL s.L Kp))) ((REG.stay h1 h2 hy hst q1 y1).putO hd.spec q2 q3)⟩

/-- A CALL OF YIELD: what stays of this frame is not asked back from the round. -/
theorem JL.yieldO (Kp : List Nat) {lab : Nat} {ps : Array Tmp} {assign body : Code} {nO : Nat} {LO L0 : List (Nat × AV)} {az : AV} {cs1 cs2 : List Prop} {fo : Operand} {args : Array Operand} {tys : Array TypeId} {b0 : Bool} {H' : List (Nat × HO)} {nx' : Nat} (i n : Nat) (hg : o.guard = none)
    (hop : o.op = .call { callee := .value fo, args := args, argTypes := tys })
    (hu : opd s.L fo = some (cs1, .lf (.yld lab))) (ha : opds s.L args.toList = some (cs2, az)) (hc : allP (cs1 ++ cs2)) (hl : lk s.H lab = some (.loop .ready none ps assign body nO LO))
    (hps : setPs ps.toList az LO = some L0) (hpn : ps.toList.all (fun p => Nat.blt p nO) = true) (hd : dstOk X.n o.dst) (hy : hasY i n lab s.H) (hy' : hasY i n lab H') (hst : stayL lab (svL s.L Kp) = true)
    (h : ∀ M0 up bl, up X.dp X.n = .func (.yield bl) #[] #[] → JC (X.sub M0 nO (some bl) up) assign
      (asgQ X nO fun s1 => JC (X.sub M0 nO (some bl) up) body (bodyQ X fun b _ H nx => b = b0 ∧ JW X ⟨[], H', nx'⟩ ⟨[], H, nx⟩) s1)
      ⟨L0, (s.nx, .fr X.dp [(X.n, .lf (.yld lab))]) :: s.H, s.nx + 1⟩)
    (k : JL X true all QA l (putS o.dst (.val .bool b0) ⟨svL s.L Kp, H', nx'⟩)) : JL X true all QA (o :: l) s := by
  intro M ρ a w h1 h2
  rw [allP_append] at hc
  obtain ⟨hub, eu⟩ := opd_sound hu hc.1 h2
  obtain ⟨hab, ea⟩ := opds_sound h2 ha hc.2
  have eu' : a.eval fo = .func (.yield (ρ.blk lab)) #[] #[] := by
    have := (rv_lf.1 eu).1
    simp only [Leaf.at, Option.some.injEq] at this
    exact this.symm
  obtain ⟨fn, tm, D, e1, e2, e3, _⟩ := h1.turn (st' := .ready) (pe' := none) hl
  obtain ⟨p1, p2, p3⟩ := setPs_sound hps (fun p hp => by have := List.all_eq_true.1 hpn p hp; simpa using this) hab ea e2 e3
  let bl := ρ.blk lab
  let u : Nat → Value := fun d => if d = X.n then .func (.yield bl) #[] #[] else a.tmps.getD d Go.undef
  have hlt : lab < s.nx := (h1.own lab _ hl).1
  have hyr : (AV.lf (.yld lab)).rv M ρ (.func (.yield bl) #[] #[]) := by rw [← eu']; exact eu
  have hLb : ∀ p ∈ [(X.n, AV.lf (.yld lab))], p.2.bd s.nx := fun p hp => by
    rw [List.mem_singleton.1 hp]; exact hlt
  have hLv : ∀ d v, lk [(X.n, AV.lf (.yld lab))] d = some v → v.rv M ρ (u d) := fun d v hd => by
    simp only [lk] at hd
    by_cases e : X.n = d
    · subst e
      rw [if_pos rfl] at hd; injection hd with hd; subst hd
      show (AV.lf (.yld lab)).rv M ρ (if X.n = X.n then _ else _)
      rw [if_pos rfl]; exact hyr
    · rw [if_neg e] at hd; cases hd
  have hup : upd1 X.up X.dp u X.dp X.n = .func (.yield bl) #[] #[] := by simp [upd1, u]
  have hs := h1.enter (L0 := L0) (n := nO) (rd := some bl) hLb hLv
  have hmap : Array.map a.eval args = (List.map a.eval args.toList).toArray := by rw [← Array.toList_map]
  refine wpListIn_w (wanted_none hg) ⟨fun f _ => fn_fn f, ?_⟩
  rw [semAt_fn (by rw [hop]; rfl)]
  have hrun : (execOp a.eval o).run X.P w = .ok (.round bl fn ((ps.zip (List.map a.eval args.toList).toArray).foldl (fun t (q : Tmp × Value) => t.setIfInBounds q.1 q.2) tm) assign body) w := by
    obtain ⟨dst, op, ty, pos, after, guard⟩ := o
    simp only at hop
    subst hop
    have hy := run_yield (P := X.P) (args := (List.map a.eval args.toList).toArray) e1 (by simp only [List.size_toArray]; rw [p1]; simp)
    simp only [execOp, resolve, eu', Deferred.ofValue, Sem.run_bind, Sem.run_pure, Result.andThen_ok, invoke, hmap]
    simpa using hy
  rw [hrun, Oper.uponIn_round]
  refine ⟨fun h => (by cases h), roundIn_of_wpIn (fn_fn _) ?_⟩
  have hfold : (ps.zip (List.map a.eval args.toList).toArray).foldl (fun t (q : Tmp × Value) => t.setIfInBounds q.1 q.2) tm = (ps.toList.zip (List.map a.eval args.toList)).foldl (fun t (q : Tmp × Value) => t.setIfInBounds q.1 q.2) tm := by
    rw [← Array.foldl_toList]; simp
  rw [hfold]
  have hr : REG (X.sub M nO (some bl) (upd1 X.up X.dp u)) M ρ ⟨L0, (s.nx, .fr X.dp [(X.n, .lf (.yld lab))]) :: s.H, s.nx + 1⟩ { tmps := (ps.toList.zip (List.map a.eval args.toList)).foldl (fun t (q : Tmp × Value) => t.setIfInBounds q.1 q.2) tm, defers := [] } :=
    ⟨p2, ⟨[], rfl, List.nodup_nil, by simp, .inl rfl⟩, fun d v hd => ⟨AV.bd_mono (Nat.le_succ _) (p3 d v hd).1, (p3 d v hd).2⟩⟩
  refine wpIn_mono (h M (upd1 X.up X.dp u) bl hup M ρ _ w hs hr) ?_
  rintro e a1 w1 ⟨M1, ρ1, s1, k1, k2, rfl, l1, L1, lab1, ps1, as1, bd1, n1, LO1, q1, q2, q3, q4⟩
  have hb1 : ρ1.blk lab1 = bl := by
    have := (fr_vals k1 q1 _ _ q2).2
    simp only [u, if_pos] at this
    exact yld_blk this
  obtain ⟨fn1, tm1, D1, f1, _, _, f4⟩ := k1.turn (st' := .busy) (pe' := none) q3
  rw [hb1] at f1 f4
  refine ⟨_, run_beginRound f1 rfl, wpIn_mono (q4 M1 ρ1 a1 _ f4 ⟨k2.size, k2.defers, k2.reg⟩) ?_⟩
  rintro e2 a2 w2 ⟨M2, ρ2, s2, g1, g2, jmp, hj, l2, L2, lab2, st2, pe2, ps2, as2, bd2, n2, LO2, r1, r2, r3, r4, r5, r6⟩
  have hb2 : ρ2.blk lab2 = bl := by
    have := (fr_vals g1 r1 _ _ r2).2
    simp only [u, if_pos] at this
    exact yld_blk this
  have b1 := h1.leave g1 (H' := del s2.H l2) lk_del_sub r4 []
  obtain ⟨fn2, tm2, D2, t1, _, _, t4⟩ := b1.turn (st' := if jmp.isNone then .ready else .done) (pe' := jmp) r3
  rw [hb2] at t1 t4
  have hMM : ∀ b o, M b = some o → M2 b = some o := g1.msub
  have hr0 : REG X M2 ρ2 ⟨[], updH (del s2.H l2) lab2 (.loop (if jmp.isNone then .ready else .done) jmp ps2 as2 bd2 n2 LO2), s2.nx⟩ a :=
    ⟨h2.size, let ⟨Ds, d1, d2, d3, d4⟩ := h2.defers; ⟨Ds, d1, d2, fun D hD => ⟨(d3 D hD).1, hMM _ _ (d3 D hD).2⟩, d4⟩, fun d v hd => by simp [lk] at hd⟩
  obtain ⟨ρ3, t5, _⟩ := r6 M2 ρ2 a _ t4 hr0
  have t6 : SAT (X.at M 0 none) M2 ρ3 ⟨[], H', nx'⟩ _ := t5.at 0 none [] hMM fun b hb => (t5.mnew b hb).trans (h1.mnew b hb).symm
  have b2 := REG.stay h1 h2 hy hst t6 hy'
  have hend := run_endRound (P := X.P) jmp t1
  subst r5
  have hgo := k M2 ρ3 (a.put o.dst (.bool jmp.isNone)) _ (putS_sat (t5.regs (svL s.L Kp))) (b2.putO hd.spec trivial (by rw [rv_bool]))
  cases e2 with
  | normal => simp only [jumpOf, Option.some.injEq] at hj; subst hj; exact ⟨_, _, hend, hgo⟩
  | ret => simp only [jumpOf, Option.some.injEq] at hj; subst hj; exact ⟨_, _, hend, hgo⟩
  | exit id => simp only [jumpOf, Option.some.injEq] at hj; subst hj; exact ⟨_, _, hend, hgo⟩
  | _ => simp [jumpOf] at hj

/-- What a call of yield with a value does, in a frame with 'n' slots. -/
def YO (X : Ctx) (n lab : Nat) (az : AV) (H : List (Nat × HO)) (nx : Nat) (b : Bool) (H' : List (Nat × HO)) (nx' : Nat) : Prop :=
  ∀ M0 all QA (l : List Oper) (o : Oper) (fo : Operand) (args : Array Operand) (tys : Array TypeId) (cs1 cs2 : List Prop) (L : List (Nat × AV)) (Kp : List Nat), o.guard = none → o.op = .call { callee := .value fo, args := args, argTypes := tys } →
    opd L fo = some (cs1, .lf (.yld lab)) → opds L args.toList = some (cs2, az) → allP (cs1 ++ cs2) → dstOk n o.dst → stayL lab (svL L Kp) = true →
    JL (X.at M0 n none) true all QA l (putS o.dst (.val .bool b) ⟨svL L Kp, H', nx'⟩) → JL (X.at M0 n none) true all QA (o :: l) ⟨L, H, nx⟩
theorem YO.intro {n lab : Nat} {az : AV} {H H' : List (Nat × HO)} {nx nx' : Nat} {b : Bool} {ps : Array Tmp} {assign body : Code} {nO : Nat} {LO L0 : List (Nat × AV)} (i m : Nat) (hl : lk H lab = some (.loop .ready none ps assign body nO LO))
    (hps : setPs ps.toList az LO = some L0) (hpn : ps.toList.all (fun p => Nat.blt p nO) = true) (hy : hasY i m lab H) (hy' : hasY i m lab H')
    (h : ∀ M0 M1 up bl, up X.dp n = .func (.yield bl) #[] #[] → JC ((X.at M0 n none).sub M1 nO (some bl) up) assign
      (asgQ (X.at M0 n none) nO fun s1 => JC ((X.at M0 n none).sub M1 nO (some bl) up) body (bodyQ (X.at M0 n none) fun b' _ H'' nx'' => b' = b ∧ JW (X.at M0 n none) ⟨[], H', nx'⟩ ⟨[], H'', nx''⟩) s1)
      ⟨L0, (nx, .fr X.dp [(n, .lf (.yld lab))]) :: H, nx + 1⟩) : YO X n lab az H nx b H' nx' :=
  fun M0 _ _ _ _ _ _ _ _ _ L Kp hg hop hu ha hc hd hst k => JL.yieldO (X := X.at M0 n none) (s := ⟨L, H, nx⟩) Kp i m hg hop hu ha hc hl hps hpn hd hy hy' hst (fun M1 up bl hup => h M0 M1 up bl hup) k

/-! ### As a walk uses them -/
theorem JC.ofFo {c : Code} {rs : List ResultVar} {Q : AV → List (Nat × HO) → Nat → Prop} (h : JC X c (foQ X rs Q) s) (k : ∀ e r L H nx, (e = .ret ∨ e = .normal) → resI L rs = some r → Q (resV r) H nx → QA e ⟨L, H, nx⟩) : JC X c QA s :=
  fun M ρ a w h1 h2 => wpIn_mono (h M ρ a w h1 h2) fun e a' w' ⟨M', ρ', s', k1, k2, hex, s'', r, hw, e2, e4⟩ => by
    obtain ⟨ρ'', k1, k2⟩ := hw M' ρ' a' w' k1 k2
    exact ⟨M', ρ'', s'', k1, k2, k e r s''.L s''.H s''.nx hex e2 e4⟩
theorem JL.weakT {s' : S} (h : JW X s' s) (k : JL X true all QA l s') : JL X true all QA l s := fun M ρ a w h1 h2 => by
  obtain ⟨ρ', e1, e2⟩ := h M ρ a w h1 h2
  exact k M ρ' a w e1 e2
theorem JK.weakL {r : List Fr} {s' : S} (h : JW X s' s) (k : JK X (.ops true all l :: r) QA s') : JK X (.ops true all l :: r) QA s := JL.weakT h k
theorem JK.callO {r : List Fr} {L : List (Nat × AV)} {H : List (Nat × HO)} {nx d : Nat} {ty : TypeId} {ps : String} {af : Array Edge} (Kp : List Nat) {f : FuncId} {fst cap az : AV} {cs1 cs2 : List Prop} {fo : Operand} {args : Array Operand} {tys : Array TypeId} {Q : AV → List (Nat × HO) → Nat → Prop} (i n lab : Nat)
    (hu : opd L fo = some (cs1, .fn f fst cap)) (ha : opds L args.toList = some (cs2, az)) (hcall : ∀ az w, (callFunc f az).run X.P w = .ok (.enter f az) w) (hd : ltB d X.n = true) (hy : hasY i n lab H) (hst : stayL lab (svL L Kp) = true)
    (hO : FO X f (apA fst (apA az cap)) H nx Q) (hc : allP (cs1 ++ cs2)) (k : ∀ z H' nx', Q z H' nx' → hasY i n lab H' ∧ JK X (.ops true all l :: r) QA ⟨(d, z) :: svL L Kp, H', nx'⟩) :
    JK X (.ops true all (⟨some d, .call { callee := .value fo, args := args, argTypes := tys }, ty, ps, af, none⟩ :: l) :: r) QA ⟨L, H, nx⟩ :=
  JL.callO (s := ⟨L, H, nx⟩) Kp i n lab rfl rfl hu ha hc hcall (ltB_lt hd) hy hst hO k
theorem JK.callO0 {r : List Fr} {L : List (Nat × AV)} {H : List (Nat × HO)} {nx : Nat} {ty : TypeId} {ps : String} {af : Array Edge} (Kp : List Nat) {f : FuncId} {fst cap az : AV} {cs1 cs2 : List Prop} {fo : Operand} {args : Array Operand} {tys : Array TypeId} {Q : AV → List (Nat × HO) → Nat → Prop} (i n lab : Nat)
    (hu : opd L fo = some (cs1, .fn f fst cap)) (ha : opds L args.toList = some (cs2, az)) (hcall : ∀ az w, (callFunc f az).run X.P w = .ok (.enter f az) w) (hy : hasY i n lab H) (hst : stayL lab (svL L Kp) = true)
    (hO : FO X f (apA fst (apA az cap)) H nx Q) (hc : allP (cs1 ++ cs2)) (k : ∀ z H' nx', Q z H' nx' → hasY i n lab H' ∧ JK X (.ops true all l :: r) QA ⟨svL L Kp, H', nx'⟩) :
    JK X (.ops true all (⟨none, .call { callee := .value fo, args := args, argTypes := tys }, ty, ps, af, none⟩ :: l) :: r) QA ⟨L, H, nx⟩ :=
  JL.callO (s := ⟨L, H, nx⟩) Kp i n lab rfl rfl hu ha hc hcall trivial hy hst hO k
theorem JK.yieldO {r : List Fr} {M0 : Mem} {m : Nat} {L : List (Nat × AV)} {H H' : List (Nat × HO)} {nx nx' d : Nat} {ty : TypeId} {ps : String} {af : Array Edge} (Kp : List Nat) {lab : Nat} {az : AV} {cs1 cs2 : List Prop} {fo : Operand} {args : Array Operand} {tys : Array TypeId} {b : Bool}
    (hY : YO X m lab az H nx b H' nx') (hu : opd L fo = some (cs1, .lf (.yld lab))) (ha : opds L args.toList = some (cs2, az)) (hd : ltB d m = true) (hst : stayL lab (svL L Kp) = true) (hc : allP (cs1 ++ cs2))
    (k : JK (X.at M0 m none) (.ops true all l :: r) QA ⟨(d, .val .bool b) :: svL L Kp, H', nx'⟩) :
    JK (X.at M0 m none) (.ops true all (⟨some d, .call { callee := .value fo, args := args, argTypes := tys }, ty, ps, af, none⟩ :: l) :: r) QA ⟨L, H, nx⟩ :=
  hY M0 _ _ _ _ _ _ _ _ _ L Kp rfl rfl hu ha hc (ltB_lt hd) hst k
theorem JK.rangeF {r : List Fr} (Kp : List Nat) {g : Operand} {ps : Array Tmp} {assign body : Code} {f : FuncId} {fn : Func} {c : Code} {cap : AV} {cs : List Prop} (hrd : X.rd = none) (hdp : X.dp = 0) (hu : opd s.L g = some (cs, .fn f .anil cap))
    (hf : X.P.funcs[f]? = some fn) (hb : fn.body = some c) (hcall : ∀ az w, (callFunc f az).run X.P w = .ok (.enter f az) w) (hn : argN (.acons .anil cap) ≤ fn.ntmps) (hc : allP cs)
    (h : ∀ M up, JC (X.sub M fn.ntmps none up) c (rngQ X fn.results.toList (qq X r QA))
      ⟨argL (.acons (.lf (.yld s.nx)) cap) 0, (s.nx + 1, .fr X.dp ((X.n, .lf (.yld s.nx)) :: svL s.L Kp)) :: (s.nx, .loop .ready none ps assign body X.n (svL s.L Kp)) :: s.H, s.nx + 2⟩) : JK X (.code (.rangeFunc g ps assign body) :: r) QA s :=
  JC.rangeF Kp hrd hdp hu hc hf hb hcall hn h
theorem JK.rangeI {r : List Fr} (Kp : List Nat) {g : Operand} {ps : Array Tmp} {assign body : Code} {f : FuncId} {fn : Func} {c : Code} {cap : AV} {cs : List Prop} {bl i0 nI lf lab0 : Nat} {Lf : List (Nat × AV)} {st0 : LoopState} {pe0 : Option Code} {ps0 : Array Tmp} {as0 bd0 : Code} {n0 : Nat} {LO0 : List (Nat × AV)}
    (hrd : X.rd = some bl) (hup : X.up i0 nI = .func (.yield bl) #[] #[]) (hlf : lk s.H lf = some (.fr i0 Lf)) (hl0 : lk Lf nI = some (.lf (.yld lab0))) (hlp : lk s.H lab0 = some (.loop st0 pe0 ps0 as0 bd0 n0 LO0))
    (hu : opd s.L g = some (cs, .fn f .anil cap))
    (hf : X.P.funcs[f]? = some fn) (hb : fn.body = some c) (hcall : ∀ az w, (callFunc f az).run X.P w = .ok (.enter f az) w) (hn : argN (.acons .anil cap) ≤ fn.ntmps) (hc : allP cs)
    (h : ∀ M up, JC (X.sub M fn.ntmps none up) c (rngQ X fn.results.toList (qq X r QA))
      ⟨argL (.acons (.lf (.yld s.nx)) cap) 0, (s.nx + 1, .fr X.dp ((X.n, .lf (.yld s.nx)) :: svL s.L Kp)) :: (s.nx, .loop .ready none ps assign body X.n (svL s.L Kp)) :: s.H, s.nx + 2⟩) : JK X (.code (.rangeFunc g ps assign body) :: r) QA s :=
  JC.rangeI Kp hrd hup hlf hl0 hlp hu hc hf hb hcall hn h
theorem endJ.kn {r : List Fr} (h : JK X r QA s) : endJ (qq X r QA) s none := h
theorem endJ.kr {r : List Fr} (h : QA .ret s) : endJ (qq X r QA) s (some .ret) := qq_ret h
theorem endJ.ke {id : Nat} {r r' : List Fr} (hp : popF id r = some r') (h : JK X r' QA s) : endJ (qq X r QA) s (some (.exit id)) := popF_spec hp h
end Ox

namespace Ox
open Go Go.RowKit
variable {X : Ctx} {s : S} {M : Mem} {ρ : Env} {a : Act} {w w' : World} {QA : Exit → S → Prop} {all l : List Oper} {P : Program}
variable {L : List (Nat × AV)} {H : List (Nat × HO)} {nx d n : Nat} {rr : List Fr} {om ok : Operand} {c1 c2 : List Prop} {ty : TypeId} {ps : String} {af : Array Edge} {md : Bool}

theorem JK.negMin {x : Operand} {t : TypeId} {m : Int} (hu : opd L x = some (c1, .val (.int .i64) m)) (hm : m = -9223372036854775808) (hd : ltB d X.n = true) (hc : allP c1) (k : JK X (.ops md all l :: rr) QA ⟨(d, .val (.int .i64) m) :: L, H, nx⟩) :
    JK X (.ops md all (⟨some d, .unOp .neg t x, ty, ps, af, none⟩ :: l) :: rr) QA ⟨L, H, nx⟩ := by
  refine JL.vq (o := ⟨some d, .unOp .neg t x, ty, ps, af, none⟩) (s := ⟨L, H, nx⟩) (v := .val (.int .i64) m) rfl rfl (ltB_lt hd) trivial (fun M ρ a w h1 h2 => ?_) k
  have e := (opd_sound (s := ⟨L, H, nx⟩) hu hc h2).2
  rw [rv_int] at e
  refine ⟨.int .i64 m, by rw [rv_int], fun w1 => ?_⟩
  subst hm
  simp only [execOp, e]
  rfl

section
variable {kt vt : Ty} {t kid vid : TypeId} {es : List (Ent kt vt)} {ms : Array MapEntry} {clk b : Nat} {x : kt.den} {cx : List Value}
def mHas (es : List (Ent kt vt)) (x : kt.den) : Bool := (mIdx es x).isSome
theorem run_lookupOk (hT : MapT P kt vt t kid vid) (hb : w.heap[b]? = some (.map ms clk)) (hm : MapRep M kt vt es ms.toList) (hx : Rep M kt x cx) :
    ∃ vc, Rep M vt (mGet es x vt.dflt) vc ∧ (Instr.lookup t (.map (some b)) (kt.wrap cx) true).run P w = .ok (.tuple #[vt.wrap vc, .bool (mHas es x)]) w := by
  have hf := find_run hT.key hx w es ms.toList hm
  unfold Instr.lookup
  simp only [Sem.run_bind, run_underlying hT.under, Result.andThen_ok, MapKept.run_getObj_map hb, Sem.run_pure, key_checks hT.key hx]
  unfold mGet mHas
  cases hi : mIdx es x with
  | none =>
    rw [hi] at hf
    refine ⟨vt.zc, Ty.zc_rep M vt, ?_⟩
    simp [hf, val_zero hT.val]
  | some j =>
    rw [hi] at hf
    obtain ⟨e, h1, h2⟩ := hf
    obtain ⟨e', h3, ⟨_, ⟨vc, h4, h5⟩, _⟩⟩ := hm.get h1
    refine ⟨vc, by simp only [h3, Option.map_some, Option.getD_some]; exact h4, ?_⟩
    simp [h2, h5]
theorem JL.mLookOk (hT : MapT X.P kt vt t kid vid) (hu : opd L om = some (c1, .lf (.mp n))) (hl : lk H n = some (.map kt vt es clk)) (hv : opd L ok = some (c2, .val kt x)) (hd : ltB d X.n = true) (hc : allP (c1 ++ c2))
    (k : JL X true all QA l ⟨(d, .tup (.acons (.val vt (mGet es x vt.dflt)) (.acons (.val .bool (mHas es x)) .anil))) :: L, H, nx⟩) : JL X true all QA (⟨some d, .lookup t om ok true, ty, ps, af, none⟩ :: l) ⟨L, H, nx⟩ := by
  rw [allP_append] at hc
  refine JL.did rfl rfl (ltB_lt hd) (v := .tup (.acons (.val vt (mGet es x vt.dflt)) (.acons (.val .bool (mHas es x)) .anil))) (s' := ⟨L, H, nx⟩) (fun M ρ a w h1 h2 => ?_) k
  obtain ⟨ms, hb, hm⟩ := own_map h1 hl
  obtain ⟨cx, hx, hxe⟩ := opd_val hv hc.2 h2
  obtain ⟨vc, r1, r2⟩ := run_lookupOk hT hb hm hx
  refine ⟨ρ, w, _, ?_, Env.upTo.refl _ _, Nat.le_refl _, rfl, h1, ⟨trivial, trivial, trivial⟩, .inl ⟨.tuple #[vt.wrap vc, .bool (mHas es x)], rfl, ?_⟩⟩
  · simp only [execOp, opd_map hu hc.1 h2, hxe, Sem.run_bind, r2, Result.andThen_ok, Sem.run_pure]
  · simp only [AV.rv, AV.rvs]
    exact ⟨[vt.wrap vc, .bool (mHas es x)], ⟨vt.wrap vc, [.bool (mHas es x)], ⟨vc, r1, rfl⟩, ⟨.bool (mHas es x), [], ⟨[.bool (mHas es x)], by simp only [Rep], rfl⟩, rfl, rfl⟩, rfl⟩, rfl⟩
theorem JK.mLookOk (hT : MapT X.P kt vt t kid vid) (hu : opd L om = some (c1, .lf (.mp n))) (hl : lk H n = some (.map kt vt es clk)) (hv : opd L ok = some (c2, .val kt x)) (hd : ltB d X.n = true)
    (k : JK X (.ops true all l :: rr) QA ⟨(d, .tup (.acons (.val vt (mGet es x vt.dflt)) (.acons (.val .bool (mHas es x)) .anil))) :: L, H, nx⟩) (hc : allP (c1 ++ c2)) : JK X (.ops true all (⟨some d, .lookup t om ok true, ty, ps, af, none⟩ :: l) :: rr) QA ⟨L, H, nx⟩ :=
  JL.mLookOk hT hu hl hv hd hc k
end
end Ox
namespace Ox
open Go Go.RowKit
variable {X : Ctx} {s : S} {M : Mem} {ρ : Env} {a : Act} {w w' : World} {QA : Exit → S → Prop} {all l : List Oper} {P : Program}
variable {L : List (Nat × AV)} {H : List (Nat × HO)} {nx d n : Nat} {rr : List Fr} {c1 c2 : List Prop} {ty ty2 : TypeId} {ps ps2 : String} {af af2 : Array Edge} {md : Bool}

/-! ### Variables that are functions, set once -/
def funB (P : Program) (t : TypeId) : Bool := match P.info? t with
  | some i => (match i.zero with | some .nilFunc => true | _ => false) && (i.size == 1) && (match P.underlying t with | some (.func ..) => true | _ => false)
  | none => false
structure FunT (P : Program) (t : TypeId) : Prop where
  zero : ∀ w, (zeroValue t).run P w = .ok .nilFunc w
  size : ∀ w, (Go.sizeOf t).run P w = .ok 1 w
  agg : ∀ w, (isAgg t).run P w = .ok false w
theorem FunT.of {P : Program} {t : TypeId} (h : funB P t = true) : FunT P t := by
  unfold funB at h
  cases hi : P.info? t with
  | none => rw [hi] at h; cases h
  | some i =>
    rw [hi] at h
    simp only [Bool.and_eq_true, beq_iff_eq] at h
    obtain ⟨⟨h1, h2⟩, h3⟩ := h
    refine ⟨fun w => ?_, fun w => ?_, fun w => ?_⟩
    · split at h1
      · rename_i hz; simp [zeroValue, typeInfo, hi, hz]
      · cases h1
    · simp [Go.sizeOf, typeInfo, hi, h2]
    · split at h3
      · rename_i hu; simp [isAgg, run_underlying hu]
      · cases h3
def AV.fnB : AV → Bool
  | .fn .. => true
  | _ => false
theorem fnB_rv {v : AV} (h : v.fnB = true) {u : Value} (hu : v.rv M ρ u) : ∃ f fs ks, u = .func (.func f) fs ks := by
  cases v with
  | fn f x y => simp only [AV.rv] at hu; obtain ⟨fs, ks, _, _, rfl⟩ := hu; exact ⟨_, _, _, rfl⟩
  | _ => simp [AV.fnB] at h
theorem push_modify {α : Type} (a : Array α) (x : α) (f : α → α) : (a.push x).modify a.size f = a.push (f x) := by
  apply Array.ext
  · simp
  · intro i h1 h2
    rw [Array.getElem_modify]
    have hi : i < a.size + 1 := by simpa using h2
    by_cases e : a.size = i
    · subst e; simp
    · rw [if_neg e, Array.getElem_push_lt (by omega), Array.getElem_push_lt (by omega)]
theorem JL.layF {t : TypeId} {x : Operand} {v : AV} (hF : funB X.P t = true) (hu : opd (del L d) x = some (c1, v)) (hv : v.fnB = true) (hc : allP c1) (hd : ltB d X.n = true) (k : JL X true all QA l ⟨(d, .pfn v) :: L, H, nx⟩) :
    JL X true all QA (⟨some d, .alloc t, ty, ps, af, none⟩ :: ⟨none, .store t (.tmp d) x, ty2, ps2, af2, none⟩ :: l) ⟨L, H, nx⟩ := by
  have hf := FunT.of hF
  intro M ρ a w h1 h2
  let p : Value := .pointer (some ⟨w.heap.size, 0, none⟩)
  let w1 : World := w.alloc (.cells #[.nilFunc] t)
  have hE := h1.below.size
  have hdn : d < X.n := ltB_lt hd
  have hsz := h2.size
  have hr1 : (execOp a.eval ⟨some d, .alloc t, ty, ps, af, none⟩).run X.P w = .ok (.value p) w1 := by
    simp only [execOp, Instr.alloc, Sem.run_bind, hf.zero, Result.andThen_ok, newVar, newRow, run_newObj, Sem.run_pure]
    rfl
  have hreg : REG X M ρ ⟨del L d, H, nx⟩ (a.put (some d) p) := ⟨by simp [Act.put, hsz], h2.defers, fun e y he => by
    obtain ⟨e1, e2⟩ := del_lk he
    have := h2.reg e y e2
    refine ⟨this.1, ?_⟩
    have e3 : ((a.put (some d) p).tmps.getD e Go.undef) = a.tmps.getD e Go.undef := by
      simp only [Act.put, Array.getD_eq_getD_getElem?]
      rw [Array.getElem?_setIfInBounds_ne (Ne.symm e1)]
    rw [e3]; exact this.2⟩
  obtain ⟨hvb, hvr⟩ := opd_sound (s := ⟨del L d, H, nx⟩) hu hc hreg
  obtain ⟨f, fs, ks, hfv⟩ := fnB_rv hv hvr
  let w2 : World := w.alloc (.cells #[(a.put (some d) p).eval x] t)
  have hnew : w1.heap[w.heap.size]? = some (.cells #[.nilFunc] t (0, 0)) := World.alloc_heap_new w _
  have hpd : (a.put (some d) p).eval (.tmp d) = p := by
    simp only [Act.eval, Act.put, Array.getD_eq_getD_getElem?]
    rw [Array.getElem?_setIfInBounds_self_of_lt (by omega)]; rfl
  have hone : ∀ y ∈ [(a.put (some d) p).eval x], y.oneCell' = true := fun y hy => by
    rw [List.mem_singleton.1 hy, hfv]; rfl
  have hst := run_storeCells_at X.P w.heap.size 0 t [(a.put (some d) p).eval x] 0 #[.nilFunc] w1 hnew (by simp) hone
  have hcells : ((a.put (some d) p).eval x).cells = #[(a.put (some d) p).eval x] := by rw [hfv]; rfl
  have hset : w1.setRow w.heap.size (([Value.nilFunc].take (0 + 0) ++ [(a.put (some d) p).eval x] ++ [Value.nilFunc].drop (0 + 0 + 1)).toArray) = w2 := by
    show ({ heap := (w.heap.push (.cells #[.nilFunc] t)).modify w.heap.size _, tape := w.tape, drawn := w.drawn, os := w.os, output := w.output } : World) = { heap := w.heap.push _, tape := w.tape, drawn := w.drawn, os := w.os, output := w.output }
    rw [push_modify]
    rfl
  have hr2 : (execOp (a.put (some d) p).eval ⟨none, .store t (.tmp d) x, ty2, ps2, af2, none⟩).run X.P w1 = .ok .skip w2 := by
    have h3 : (storeVar t ⟨w.heap.size, 0, none⟩ ((a.put (some d) p).eval x)).run X.P w1 = .ok () w2 := by
      unfold storeVar
      simp only [Sem.run_bind, hf.size, Result.andThen_ok, hcells]
      simp only [List.size_toArray, List.length_cons, List.length_nil, ne_eq, not_true_eq_false, if_false, Array.toList]
      rw [hst]
      exact congrArg (Result.ok ()) hset
    simp only [execOp, Instr.storeAt, hpd, p, Instr.sureAddr, Sem.run_bind, Sem.run_pure, Result.andThen_ok]
    rw [h3]
    rfl
  let M' : Mem := fun b => if b = w.heap.size then some (.cells #[(a.put (some d) p).eval x] t (0, 0)) else M b
  have hfull : ∀ b o, M b = some o → M' b = some o := fun b o hb => by
    show (if b = w.heap.size then _ else _) = _
    rw [if_neg (by have := (Array.getElem?_eq_some_iff.1 (h1.mem _ _ hb)).1; omega)]; exact hb
  have hM : Mem.le M M' := fun b c ty fz hb => hfull b _ hb
  have hat : w2.heap[w.heap.size]? = some (.cells #[(a.put (some d) p).eval x] t (0, 0)) := World.alloc_heap_new w _
  have hbl : Below w.heap.size w w2 := (Below.refl _ _).alloc (Nat.le_refl _) _
  have hs2 : SAT X M' ρ ⟨L, H, nx⟩ w2 := h1.ext hbl hM (fun b o hb => by
    by_cases e : b = w.heap.size
    · subst e
      have : some (Obj.cells #[(a.put (some d) p).eval x] t (0, 0)) = some o := by
        have hb' : (if w.heap.size = w.heap.size then some (Obj.cells #[(a.put (some d) p).eval x] t (0, 0)) else M w.heap.size) = some o := hb
        rwa [if_pos rfl] at hb'
      rw [← this]; exact hat
    · have hb' : (if b = w.heap.size then some (Obj.cells #[(a.put (some d) p).eval x] t (0, 0)) else M b) = some o := hb
      rw [if_neg e] at hb'
      have hlt := (Array.getElem?_eq_some_iff.1 (h1.mem b o hb')).1
      rw [hbl.block b hlt]; exact h1.mem b o hb') (fun b hb => by
    show (if b = w.heap.size then _ else _) = _
    rw [if_neg (by omega)])
  have hreg2 : REG X M' ρ ⟨(d, .pfn v) :: L, H, nx⟩ ((a.put (some d) p).put none Go.undef) := by
    refine ⟨by simp [Act.put, hsz], let ⟨Ds, e1, e2, e3, e4⟩ := h2.defers; ⟨Ds, e1, e2, fun D hD => ⟨(e3 D hD).1, hfull _ _ (e3 D hD).2⟩, e4⟩, fun e y he => ?_⟩
    simp only [lk] at he
    by_cases hde : d = e
    · subst hde
      rw [if_pos rfl] at he
      injection he with he; subst he
      refine ⟨hvb, ?_⟩
      simp only [AV.rv]
      refine ⟨w.heap.size, _, t, (0, 0), ?_, ?_, AV.rv_mono hM (Env.upTo.refl ρ nx) hvb hvr⟩
      · show (a.put (some d) p).tmps.getD d Go.undef = p
        simp only [Act.put, Array.getD_eq_getD_getElem?]
        rw [Array.getElem?_setIfInBounds_self_of_lt (by omega)]; rfl
      · show (if w.heap.size = w.heap.size then _ else _) = _
        rw [if_pos rfl]
    · rw [if_neg hde] at he
      have := h2.reg e y he
      refine ⟨this.1, ?_⟩
      have e3 : (((a.put (some d) p).put none Go.undef).tmps.getD e Go.undef) = a.tmps.getD e Go.undef := by
        simp only [Act.put, Array.getD_eq_getD_getElem?]
        rw [Array.getElem?_setIfInBounds_ne hde]
      rw [e3]
      exact AV.rv_mono hM (Env.upTo.refl ρ nx) this.1 this.2
  refine wpListIn_w (wanted_none rfl) (wpIn_value rfl hr1 (wpListIn_w (wanted_none rfl) (wpIn_skipv rfl hr2 ?_)))
  exact k M' ρ _ w2 (hs2.regs _) hreg2
/-- What such a variable has. -/
theorem ldF_run {t : TypeId} {x : Operand} {v : AV} (hF : funB X.P t = true) (hu : opd s.L x = some (c1, .pfn v)) (hc : allP c1) : ∀ {M ρ a w0} {d : Option Nat} {gu : Option (Nat × Bool)}, SAT X M ρ s w0 → REG X M ρ s a → v.bd s.nx ∧ ∃ z, v.rv M ρ z ∧ ∀ w1, Below w0.heap.size w0 w1 → (execOp a.eval ⟨d, .load t x, ty, ps, af, gu⟩).run X.P w1 = .ok (.value z) w1 := by
  have hf := FunT.of hF
  intro M ρ a w0 d gu h1 h2
  obtain ⟨hb, hr⟩ := opd_sound hu hc h2
  simp only [AV.rv] at hr
  obtain ⟨b, fv, ty', fz, e1, e2, e3⟩ := hr
  refine ⟨hb, fv, e3, fun w1 hw => ?_⟩
  have hm := h1.mem b _ e2
  have hlt := (Array.getElem?_eq_some_iff.1 hm).1
  have hm1 : w1.heap[b]? = some (.cells #[fv] ty' fz) := by rw [hw.block b hlt]; exact hm
  have h3 : (loadVar t ⟨b, 0, none⟩).run X.P w1 = .ok fv w1 := by
    unfold loadVar
    simp only [Sem.run_bind, hf.agg, Result.andThen_ok]
    simp [cell?_block hm1]
  simp only [execOp, e1, Instr.loadAt, Instr.sureAddr, Sem.run_bind, Sem.run_pure, Result.andThen_ok, h3]
theorem JL.ldF {t : TypeId} {x : Operand} {v : AV} (hF : funB X.P t = true) (hu : opd s.L x = some (c1, .pfn v)) (hc : allP c1) (hd : ltB d X.n = true) (k : JL X md all QA l ⟨(d, v) :: s.L, s.H, s.nx⟩) : JL X md all QA (⟨some d, .load t x, ty, ps, af, none⟩ :: l) s := by
  cases md
  · intro M ρ a w0 h1 h2
    obtain ⟨hb, z, hz, hr⟩ := ldF_run (d := some d) (gu := none) (ty := ty) (ps := ps) (af := af) hF hu hc h1 h2
    simp only [wpQuiet, Region.wanted, if_true]
    refine ⟨z, fun w hw => ?_, k M ρ _ w0 (h1.regs _) (h2.putO (d := some d) (dstOk.spec (ltB_lt hd)) hb hz)⟩
    unfold Oper.quietAt
    rw [hr w hw]
    exact ⟨rfl, rfl⟩
  · intro M ρ a w h1 h2
    obtain ⟨hb, z, hz, hr⟩ := ldF_run (d := some d) (gu := none) (ty := ty) (ps := ps) (af := af) hF hu hc h1 h2
    exact wpListIn_w (wanted_none rfl) (wpIn_value rfl (hr w (Below.refl _ _)) (k M ρ _ w (h1.regs _) (h2.putO (d := some d) (dstOk.spec (ltB_lt hd)) hb hz)))
theorem JL.ldFg {t : TypeId} {x : Operand} {v : AV} {g : Bool} {gg : Nat × Bool} (hF : funB X.P t = true) (hg : gOf all s.L (some gg) = some g) (hu : opd s.L x = some (c1, .pfn v)) (hc : g = true → allP c1) (hd : ltB d X.n = true) (k : JL X md all QA l (putS (some d) (.gd g v) s)) : JL X md all QA (⟨some d, .load t x, ty, ps, af, some gg⟩ :: l) s := by
  cases md
  · intro M ρ a w0 h1 h2
    have hw := gOf_sound (o := ⟨some d, .load t x, ty, ps, af, some gg⟩) hg h2
    simp only [wpQuiet, hw]
    cases g with
    | true =>
      obtain ⟨e1, z, e2, e3⟩ := ldF_run (d := some d) (gu := some gg) (ty := ty) (ps := ps) (af := af) hF hu (hc rfl) h1 h2
      simp only [if_true]
      exact ⟨z, fun w hw => by unfold Oper.quietAt; rw [e3 w hw]; exact ⟨rfl, rfl⟩, k M ρ _ w0 (putS_sat h1) (h2.putO (d := some d) (dstOk.spec (ltB_lt hd)) (by exact fun _ => e1) (by simp only [AV.rv]; exact ⟨fun _ => e2, fun h => (by cases h)⟩))⟩
    | false =>
      simp only [Bool.false_eq_true, if_false]
      exact k M ρ _ w0 (putS_sat h1) (h2.putO (d := some d) (dstOk.spec (ltB_lt hd)) (by exact fun h => (by cases h)) (by simp [AV.rv]))
  · intro M ρ a w h1 h2
    have hw := gOf_sound (o := ⟨some d, .load t x, ty, ps, af, some gg⟩) hg h2
    cases g with
    | true =>
      obtain ⟨e1, z, e2, e3⟩ := ldF_run (d := some d) (gu := some gg) (ty := ty) (ps := ps) (af := af) hF hu (hc rfl) h1 h2
      refine wpListIn_w hw (wpIn_value rfl (e3 w (Below.refl _ _)) ?_)
      exact k M ρ _ w (putS_sat h1) (h2.putO (d := some d) (dstOk.spec (ltB_lt hd)) (by exact fun _ => e1) (by simp only [AV.rv]; exact ⟨fun _ => e2, fun h => (by cases h)⟩))
    | false =>
      refine wpListIn_nw hw ?_
      exact k M ρ _ w (putS_sat h1) (h2.putO (d := some d) (dstOk.spec (ltB_lt hd)) (by exact fun h => (by cases h)) (by simp [AV.rv]))
theorem JK.layF {t : TypeId} {x : Operand} {v : AV} (hF : funB X.P t = true) (hu : opd (del L d) x = some (c1, v)) (hv : v.fnB = true) (hd : ltB d X.n = true) (hc : allP c1) (k : JK X (.ops true all l :: rr) QA ⟨(d, .pfn v) :: L, H, nx⟩) :
    JK X (.ops true all (⟨some d, .alloc t, ty, ps, af, none⟩ :: ⟨none, .store t (.tmp d) x, ty2, ps2, af2, none⟩ :: l) :: rr) QA ⟨L, H, nx⟩ := JL.layF hF hu hv hc hd k
theorem JK.ldF {t : TypeId} {x : Operand} {v : AV} (hF : funB X.P t = true) (hu : opd L x = some (c1, .pfn v)) (hd : ltB d X.n = true) (hc : allP c1) (k : JK X (.ops md all l :: rr) QA ⟨(d, v) :: L, H, nx⟩) : JK X (.ops md all (⟨some d, .load t x, ty, ps, af, none⟩ :: l) :: rr) QA ⟨L, H, nx⟩ :=
  JL.ldF (s := ⟨L, H, nx⟩) hF hu hc hd k
theorem JK.ldFg {t : TypeId} {x : Operand} {v : AV} {g : Bool} {gg : Nat × Bool} (hF : funB X.P t = true) (hg : gOf all L (some gg) = some g) (hu : opd L x = some (c1, .pfn v)) (hd : ltB d X.n = true) (hc : g = true → allP c1) (k : JK X (.ops md all l :: rr) QA ⟨(d, .gd g v) :: L, H, nx⟩) : JK X (.ops md all (⟨some d, .load t x, ty, ps, af, some gg⟩ :: l) :: rr) QA ⟨L, H, nx⟩ :=
  JL.ldFg (s := ⟨L, H, nx⟩) hF hg hu hc hd k
/-- A step behind a guard that gives a value. -/
theorem JL.vqg {o : Oper} {v : AV} {g : Bool} (hg : gOf all s.L o.guard = some g) (hn : notDef o.op = true) (hd : dstOk X.n o.dst) (hb : v.bd s.nx) (h : g = true → ∀ M ρ a w, SAT X M ρ s w → REG X M ρ s a → ∃ z, v.rv M ρ z ∧ ∀ w1, (execOp a.eval o).run X.P w1 = .ok (.value z) w1)
    (k : JL X md all QA l (putS o.dst (.gd g v) s)) : JL X md all QA (o :: l) s := by
  cases md
  · intro M ρ a w0 h1 h2
    have hw := gOf_sound hg h2
    simp only [wpQuiet, hw]
    cases g with
    | true =>
      obtain ⟨z, hz, hr⟩ := h rfl M ρ a w0 h1 h2
      simp only [if_true]
      exact ⟨z, fun w hw => by unfold Oper.quietAt; rw [hr w]; exact ⟨rfl, rfl⟩, k M ρ _ w0 (putS_sat h1) (h2.putO hd.spec (by exact fun _ => hb) (by simp only [AV.rv]; exact ⟨fun _ => hz, fun h => (by cases h)⟩))⟩
    | false =>
      simp only [Bool.false_eq_true, if_false]
      exact k M ρ _ w0 (putS_sat h1) (h2.putO hd.spec (by exact fun h => (by cases h)) (by simp [AV.rv]))
  · intro M ρ a w h1 h2
    have hw := gOf_sound hg h2
    cases g with
    | true =>
      obtain ⟨z, hz, hr⟩ := h rfl M ρ a w h1 h2
      refine wpListIn_w hw (wpIn_value hn (hr w) ?_)
      exact k M ρ _ w (putS_sat h1) (h2.putO hd.spec (by exact fun _ => hb) (by simp only [AV.rv]; exact ⟨fun _ => hz, fun h => (by cases h)⟩))
    | false =>
      refine wpListIn_nw hw ?_
      exact k M ρ _ w (putS_sat h1) (h2.putO hd.spec (by exact fun h => (by cases h)) (by simp [AV.rv]))
section
variable {kt : Ty} {t : TypeId} {om ok : Operand} {c2 : List Prop} {x y : kt.den} {dd : Nat} {g : Bool} {gg : Nat × Bool}
theorem JK.eqQg (hK : EqT X.P kt t) (hg : gOf all L (some gg) = some g) (hu : opd L om = some (c1, .val kt x)) (hv : opd L ok = some (c2, .val kt y)) (hd : ltB dd X.n = true) (hc : g = true → allP (c1 ++ c2)) {tt : TypeId}
    (k : JK X (.ops md all l :: rr) QA ⟨(dd, .gd g (.val .bool (kt.eqB x y))) :: L, H, nx⟩) : JK X (.ops md all (⟨some dd, .binOp .eql t om ok tt, ty, ps, af, some gg⟩ :: l) :: rr) QA ⟨L, H, nx⟩ := by
  refine JL.vqg (o := ⟨some dd, .binOp .eql t om ok tt, ty, ps, af, some gg⟩) (s := ⟨L, H, nx⟩) (v := .val .bool (kt.eqB x y)) hg rfl (ltB_lt hd) trivial (fun hgt M ρ a w h1 h2 => ⟨.bool (kt.eqB x y), rv_bool.2 rfl, fun w1 => ?_⟩) k
  have hc' := hc hgt
  rw [allP_append] at hc'
  obtain ⟨cx, hx, hxe⟩ := opd_val (vt := kt) hu hc'.1 h2
  obtain ⟨cy, hy, hye⟩ := opd_val (vt := kt) hv hc'.2 h2
  obtain ⟨r, hr, hq⟩ := equal_run hK.key.ty hK.key.ok hK.key.dep hK.key.flat hx hy w1
  have hrb : r = kt.eqB x y := by rw [Bool.eq_iff_iff, Ty.eqB_iff]; exact hq
  rw [Ty.wrap_agg hK.ag, Ty.wrap_agg hK.ag] at hr
  simp only [execOp, hxe, hye, Ty.wrap_agg hK.ag, Sem.run_bind, run_eqGuard_agg w1 _ _ _ _ _ _ hK.gt, Result.andThen_ok, binOp, hr, Sem.run_pure, hrb]
theorem JK.neQg (hK : EqT X.P kt t) (hg : gOf all L (some gg) = some g) (hu : opd L om = some (c1, .val kt x)) (hv : opd L ok = some (c2, .val kt y)) (hd : ltB dd X.n = true) (hc : g = true → allP (c1 ++ c2)) {tt : TypeId}
    (k : JK X (.ops md all l :: rr) QA ⟨(dd, .gd g (.val .bool (!kt.eqB x y))) :: L, H, nx⟩) : JK X (.ops md all (⟨some dd, .binOp .neq t om ok tt, ty, ps, af, some gg⟩ :: l) :: rr) QA ⟨L, H, nx⟩ := by
  refine JL.vqg (o := ⟨some dd, .binOp .neq t om ok tt, ty, ps, af, some gg⟩) (s := ⟨L, H, nx⟩) (v := .val .bool (!kt.eqB x y)) hg rfl (ltB_lt hd) trivial (fun hgt M ρ a w h1 h2 => ⟨.bool (!kt.eqB x y), rv_bool.2 rfl, fun w1 => ?_⟩) k
  have hc' := hc hgt
  rw [allP_append] at hc'
  obtain ⟨cx, hx, hxe⟩ := opd_val (vt := kt) hu hc'.1 h2
  obtain ⟨cy, hy, hye⟩ := opd_val (vt := kt) hv hc'.2 h2
  obtain ⟨r, hr, hq⟩ := equal_run hK.key.ty hK.key.ok hK.key.dep hK.key.flat hx hy w1
  have hrb : r = kt.eqB x y := by rw [Bool.eq_iff_iff, Ty.eqB_iff]; exact hq
  rw [Ty.wrap_agg hK.ag, Ty.wrap_agg hK.ag] at hr
  simp only [execOp, hxe, hye, Ty.wrap_agg hK.ag, Sem.run_bind, run_eqGuard_agg w1 _ _ _ _ _ _ hK.gt, Result.andThen_ok, binOp, hr, Sem.run_pure, hrb]
end
end Ox

namespace Ox
open Go Go.RowKit
variable {X : Ctx} {s : S} {M : Mem} {ρ : Env} {a : Act} {w w' : World} {QA : Exit → S → Prop} {all l : List Oper} {md : Bool}
variable {L L' : List (Nat × AV)} {H H' : List (Nat × HO)} {nx nx' : Nat}

def subL (L : List (Nat × AV)) : List (Nat × AV) → Prop
  | [] => True
  | (d, v) :: r => lk L d = some v ∧ subL L r
theorem subL_spec : ∀ {r : List (Nat × AV)}, subL L r → ∀ d v, lk r d = some v → lk L d = some v
  | [], _, d, v, h => by simp [lk] at h
  | (k, u) :: r, hc, d, v, h => by
    simp only [lk] at h
    by_cases e : k = d
    · subst e; rw [if_pos rfl] at h; injection h with h; subst h; exact hc.1
    · rw [if_neg e] at h; exact subL_spec hc.2 d v h
def subH (H H' : List (Nat × HO)) : Prop := ∀ m o, lk H' m = some o → lk H m = some o
theorem subH.refl (H : List (Nat × HO)) : subH H H := fun _ _ h => h
theorem SAT.low (h1 : SAT X M ρ ⟨L, H, nx⟩ w) (hH : subH H H') (bH : bdH nx' H') : SAT X M ρ ⟨L', H', nx'⟩ w :=
  ⟨h1.below, h1.msub, h1.mnew, h1.mem, fun l o hl => let ⟨e1, e2⟩ := bdH_spec bH l o (lk_mem hl); ⟨e1, e2, (h1.own l o (hH l o hl)).2.2⟩,
    fun l l' o o' b k1 k2 => h1.apart l l' o o' b (hH _ _ k1) (hH _ _ k2), fun l o b k => h1.notM l o b (hH _ _ k)⟩
theorem REG.low (h2 : REG X M ρ ⟨L, H, nx⟩ a) (hL : subL L L') (bL : bdL nx' L') : REG X M ρ ⟨L', H', nx'⟩ a :=
  ⟨h2.size, h2.defers, fun d v hd => ⟨bdL_spec bL d v (lk_mem hd), (h2.reg d v (subL_spec hL d v hd)).2⟩⟩
/-- Fewer slots, less memory, fewer labels. -/
theorem JW.low (hL : subL L L') (hH : subH H H') (bL : bdL nx' L') (bH : bdH nx' H') : JW X ⟨L', H', nx'⟩ ⟨L, H, nx⟩ := fun M ρ a w h1 h2 => ⟨ρ, h1.low hH bH, h2.low hL bL⟩
/-- Fewer slots. -/
theorem JW.same (hL : subL L L') : JW X ⟨L', H, nx⟩ ⟨L, H, nx⟩ := fun M ρ a w h1 h2 => ⟨ρ, h1.regs L', h2.size, h2.defers, fun d v hd => h2.reg d v (subL_spec hL d v hd)⟩
theorem JW.refl (s : S) : JW X s s := fun M ρ a w h1 h2 => ⟨ρ, h1, h2⟩
theorem JW.trans {s1 s2 s3 : S} (h : JW X s1 s2) (k : JW X s2 s3) : JW X s1 s3 := fun M ρ a w h1 h2 => by
  obtain ⟨ρ1, e1, e2⟩ := k M ρ a w h1 h2
  exact h M ρ1 a w e1 e2

/-- A row or cell that stays as it is, over memory that is not looked at. -/
theorem SAT.frzG {m d : Nat} {o0 : HO} {v0 v1 : AV} (h1 : SAT X M ρ ⟨L, H, nx⟩ w) (h2 : REG X M ρ ⟨L, H, nx⟩ a) (hl : lk H m = some o0) (hd : lk L d = some v0) (hf : Ox.frz [m] [d] ⟨[(d, v0)], [(m, o0)], nx⟩ = some ([], ⟨[(d, v1)], [], nx⟩))
    (hv : v1.bd nx') (hL : subL L L') (hH : subH H H') (hm : lk H' m = none) (bL : bdL nx' L') (bH : bdH nx' H') :
    ∃ M', SAT X M' ρ ⟨(d, v1) :: L', H', nx'⟩ w ∧ REG X M' ρ ⟨(d, v1) :: L', H', nx'⟩ a := by
  have one : ∀ l' o', lk [(m, o0)] l' = some o' → l' = m ∧ o' = o0 := fun l' o' h => by
    simp only [lk] at h
    by_cases e : m = l'
    · rw [if_pos e] at h; injection h with h; exact ⟨e.symm, h.symm⟩
    · rw [if_neg e] at h; cases h
  have g1 : SAT X M ρ ⟨[(d, v0)], [(m, o0)], nx⟩ w := by
    refine ⟨h1.below, h1.msub, h1.mnew, h1.mem, fun l o hl' => ?_, fun l l' o o' b k1 k2 _ _ => ?_, fun l o b k1 => ?_⟩
    · obtain ⟨rfl, rfl⟩ := one _ _ hl'; exact h1.own _ _ hl
    · obtain ⟨rfl, _⟩ := one _ _ k1; exact (one _ _ k2).1.symm
    · obtain ⟨rfl, rfl⟩ := one _ _ k1; exact h1.notM _ _ b hl
  have g2 : REG X M ρ ⟨[(d, v0)], [(m, o0)], nx⟩ a := ⟨h2.size, h2.defers, fun d' v hd' => by
      simp only [lk] at hd'
      by_cases e : d = d'
      · subst e; rw [if_pos rfl] at hd'; injection hd' with hd'; subst hd'; exact h2.reg _ _ hd
      · rw [if_neg e] at hd'; (cases hd')⟩
  have hp : pickF [(m, o0)] [m] = [(m, o0)] := by simp [pickF]
  obtain ⟨f1, f2⟩ := frz_sound hf trivial g1 g2
  have hle := frzM_le (F := [m]) g1
  refine ⟨_, ⟨f1.below, f1.msub, f1.mnew, f1.mem, fun l o hl' => ?_, fun l l' o o' b k1 k2 => h1.apart l l' o o' b (hH _ _ k1) (hH _ _ k2), fun l o b k1 k2 => ?_⟩, f2.size, f2.defers, fun d' v hd' => ?_⟩
  · obtain ⟨e1, e2⟩ := bdH_spec bH l o (lk_mem hl')
    obtain ⟨q1, q2, q3⟩ := h1.own l o (hH l o hl')
    exact ⟨e1, e2, HO.ok_env hle (Env.upTo.refl ρ nx) q1 q2 q3⟩
  · unfold frzM
    split
    · rename_i h
      obtain ⟨l', o', r1, r2⟩ := h
      change lk (pickF [(m, o0)] [m]) l' = some o' at r1
      rw [hp] at r1
      simp only [lk] at r1
      by_cases e' : m = l'
      · subst e'
        rw [if_pos rfl] at r1; injection r1 with r1; subst r1
        have := h1.apart l m o _ b (hH _ _ k1) hl k2 r2
        subst this
        rw [hm] at k1; cases k1
      · rw [if_neg e'] at r1; cases r1
    · exact h1.notM l o b (hH _ _ k1) k2
  · simp only [lk] at hd'
    by_cases e' : d = d'
    · subst e'
      rw [if_pos rfl] at hd'; injection hd' with hd'; subst hd'
      have := f2.reg d v1 (by simp [lk])
      exact ⟨hv, this.2⟩
    · rw [if_neg e'] at hd'
      have q := h2.reg d' v (subL_spec hL d' v hd')
      exact ⟨bdL_spec bL d' v (lk_mem hd'), AV.rv_mono hle (Env.upTo.refl ρ nx) q.1 q.2⟩
theorem frz_row {m d : Nat} {eid : TypeId} {e : Ty} {xs : List e.den} : Ox.frz [m] [d] ⟨[(d, .lf (.osl m))], [(m, .sl eid e xs)], nx⟩ = some ([], ⟨[(d, .val (.slice e) xs)], [], nx⟩) := by
  have hc : ([m].contains m) = true := by simp
  have hp : pickF [(m, HO.sl eid e xs)] [m] = [(m, .sl eid e xs)] := by simp [pickF]
  have hlk : lk [(m, HO.sl eid e xs)] m = some (.sl eid e xs) := by simp [lk]
  have hcast : castK (.slice e) (.slice e) xs (fun y => some (([] : List Prop), y)) = some ([], xs) := by unfold castK; rw [dif_pos rfl]
  have ht : toK [(m, HO.sl eid e xs)] 8 (.slice e) (.lf (.osl m)) (fun c y => some (c, y)) = some ([], xs) := by
    simp only [toK, hlk]; exact hcast
  simp only [Ox.frz, hp, fzR, fzH, lk, if_true, fzV, fzL, hc, hlk, ht, Option.map_some, Option.bind_some, List.append_nil]
theorem frz_cell {m d : Nat} {t : Ty} {x : t.den} : Ox.frz [m] [d] ⟨[(d, .lf (.optr m []))], [(m, .cell t (.val t x))], nx⟩ = some ([], ⟨[(d, .val (.ptr t) (some x))], [], nx⟩) := by
  have hc : ([m].contains m) = true := by simp
  have hp : pickF [(m, HO.cell t (.val t x))] [m] = [(m, .cell t (.val t x))] := by simp [pickF]
  have hlk : lk [(m, HO.cell t (.val t x))] m = some (.cell t (.val t x)) := by simp [lk]
  have hcast : castK t t x (fun y => some (([] : List Prop), (some y : Option t.den))) = some ([], some x) := by unfold castK; rw [dif_pos rfl]
  have hs : t.sub [] = some t := by cases t <;> rfl
  have hg : getA (.val t x) [] = some ([], .val t x) := by cases t <;> rfl
  have ht : toK [(m, HO.cell t (.val t x))] 8 (.ptr t) (.lf (.optr m [])) (fun c y => some (c, y)) = some ([], some x) := by
    simp only [toK, hlk, hg, confB, decide_true, if_true, List.nil_append]
    exact hcast
  simp only [Ox.frz, hp, fzR, fzH, lk, if_true, fzV, fzL, hc, hlk, hs, ht, Option.map_some, Option.bind_some, List.append_nil]
theorem JL.frzG {m d : Nat} {o0 : HO} {v0 v1 : AV} (hl : lk H m = some o0) (hd : lk L d = some v0) (hf : Ox.frz [m] [d] ⟨[(d, v0)], [(m, o0)], nx⟩ = some ([], ⟨[(d, v1)], [], nx⟩)) (hv : v1.bd nx') (hL : subL L L') (hH : subH H H') (hm : lk H' m = none) (bL : bdL nx' L') (bH : bdH nx' H')
    (k : JL X md all QA l ⟨(d, v1) :: L', H', nx'⟩) : JL X md all QA l ⟨L, H, nx⟩ := by
  cases md
  · intro M ρ a w h1 h2
    obtain ⟨M', e1, e2⟩ := h1.frzG h2 hl hd hf hv hL hH hm bL bH
    exact k _ ρ a w e1 e2
  · intro M ρ a w h1 h2
    obtain ⟨M', e1, e2⟩ := h1.frzG h2 hl hd hf hv hL hH hm bL bH
    exact k _ ρ a w e1 e2
theorem JC.frzG {c : Code} {m d : Nat} {o0 : HO} {v0 v1 : AV} (hl : lk H m = some o0) (hd : lk L d = some v0) (hf : Ox.frz [m] [d] ⟨[(d, v0)], [(m, o0)], nx⟩ = some ([], ⟨[(d, v1)], [], nx⟩)) (hv : v1.bd nx') (hL : subL L L') (hH : subH H H') (hm : lk H' m = none) (bL : bdL nx' L') (bH : bdH nx' H')
    (k : JC X c QA ⟨(d, v1) :: L', H', nx'⟩) : JC X c QA ⟨L, H, nx⟩ := by
  intro M ρ a w h1 h2
  obtain ⟨M', e1, e2⟩ := h1.frzG h2 hl hd hf hv hL hH hm bL bH
  exact k _ ρ a w e1 e2
section
variable {r : List Fr} {eid : TypeId} {e t : Ty} {xs : List e.den} {x : t.den} {c : Code}
/-- A row of the walk's own is data from now on. -/
theorem JK.frzR (m d : Nat) (hl : lk H m = some (.sl eid e xs)) (hd : lk L d = some (.lf (.osl m))) (hL : subL L L') (hH : subH H H') (hm : lk H' m = none) (bL : bdL nx' L') (bH : bdH nx' H')
    (k : JK X (.ops md all l :: r) QA ⟨(d, .val (.slice e) xs) :: L', H', nx'⟩) : JK X (.ops md all l :: r) QA ⟨L, H, nx⟩ := JL.frzG hl hd frz_row trivial hL hH hm bL bH k
theorem JK.frzRC (m d : Nat) (hl : lk H m = some (.sl eid e xs)) (hd : lk L d = some (.lf (.osl m))) (hL : subL L L') (hH : subH H H') (hm : lk H' m = none) (bL : bdL nx' L') (bH : bdH nx' H')
    (k : JK X (.code c :: r) QA ⟨(d, .val (.slice e) xs) :: L', H', nx'⟩) : JK X (.code c :: r) QA ⟨L, H, nx⟩ := JC.frzG hl hd frz_row trivial hL hH hm bL bH k
/-- A cell of the walk's own is data from now on. -/
theorem JK.frzP (m d : Nat) (hl : lk H m = some (.cell t (.val t x))) (hd : lk L d = some (.lf (.optr m []))) (hL : subL L L') (hH : subH H H') (hm : lk H' m = none) (bL : bdL nx' L') (bH : bdH nx' H')
    (k : JK X (.ops md all l :: r) QA ⟨(d, .val (.ptr t) (some x)) :: L', H', nx'⟩) : JK X (.ops md all l :: r) QA ⟨L, H, nx⟩ := JL.frzG hl hd frz_cell trivial hL hH hm bL bH k
theorem JK.frzPC (m d : Nat) (hl : lk H m = some (.cell t (.val t x))) (hd : lk L d = some (.lf (.optr m []))) (hL : subL L L') (hH : subH H H') (hm : lk H' m = none) (bL : bdL nx' L') (bH : bdH nx' H')
    (k : JK X (.code c :: r) QA ⟨(d, .val (.ptr t) (some x)) :: L', H', nx'⟩) : JK X (.code c :: r) QA ⟨L, H, nx⟩ := JC.frzG hl hd frz_cell trivial hL hH hm bL bH k
end
theorem JK.weakO {r : List Fr} {s s' : S} (h : JW X s' s) (k : JK X (.ops true all l :: r) QA s') : JK X (.ops true all l :: r) QA s := JL.weakT h k

theorem lk_none {α : Type} : ∀ {L : List (Nat × α)} {m : Nat}, (∀ p ∈ L, p.1 ≠ m) → lk L m = none
  | [], _, _ => rfl
  | (k, v) :: r, m, h => by
    simp only [lk]
    rw [if_neg (h _ List.mem_cons_self)]
    exact lk_none fun p hp => h p (List.mem_cons_of_mem _ hp)
theorem bdH_none {n m : Nat} (h : bdH n H) (hm : n ≤ m) : lk H m = none := lk_none fun p hp e => by
  have := (bdH_spec h p.1 p.2 hp).1; omega
theorem bdH_del {n m : Nat} (h : bdH n H) (hm : n ≤ m) : ∀ j, lk (del H m) j = lk H j := fun j => by
  rw [lk_del]
  by_cases e : m = j
  · subst e; rw [if_pos rfl, bdH_none h hm]
  · rw [if_neg e]

/-- Another list of arguments that stands for the same values. -/
theorem FO.args {f : FuncId} {az az' : AV} {Q : AV → List (Nat × HO) → Nat → Prop} (h : FO X f az H nx Q) (hb : az.bd nx) (hr : ∀ M ρ vs, az'.rvs M ρ vs → az.rvs M ρ vs) : FO X f az' H nx Q :=
  fun M0 M ρ w vs hS _ hvs => h M0 M ρ w vs hS hb (hr M ρ vs hvs)
theorem FO.mono {f : FuncId} {az : AV} {Q Q' : AV → List (Nat × HO) → Nat → Prop} (h : FO X f az H nx Q) (hq : ∀ r H' nx', Q r H' nx' → Q' r H' nx') : FO X f az H nx Q' := by
  intro M0 M ρ w vs hS hbd hvs
  refine (h M0 M ρ w vs hS hbd hvs).mono ?_
  rintro e w' ⟨v, r, H', nx', M', ρ', h1, h2, h3, h4, h5⟩
  exact ⟨v, r, H', nx', M', ρ', h1, h2, h3, h4, hq _ _ _ h5⟩

/-- A call entered in place. -/
theorem JK.inl {r : List Fr} {d : Nat} {ty : TypeId} {ps : String} {af : Array Edge} (Kp : List Nat) {f : FuncId} {fn : Func} {c : Code} {fst cap az : AV} {cs1 cs2 : List Prop} {fo : Operand} {args : Array Operand} {tys : Array TypeId}
    (hu : opd L fo = some (cs1, .fn f fst cap)) (ha : opds L args.toList = some (cs2, az)) (hc : allP (cs1 ++ cs2)) (hf : X.P.funcs[f]? = some fn) (hb : fn.body = some c) (hcall : ∀ az w, (callFunc f az).run X.P w = .ok (.enter f az) w)
    (hn : argN (apA fst (apA az cap)) ≤ fn.ntmps) (hd : ltB d X.n = true)
    (h : ∀ M0 up, JK (X.sub M0 fn.ntmps none up) [.code c] (inlQ X fn.results.toList fun v L H nx => JK X (.ops true all l :: r) QA ⟨(d, v) :: L, H, nx⟩) ⟨argL (apA fst (apA az cap)) 0, (nx, .fr X.dp (svL L Kp)) :: H, nx + 1⟩) :
    JK X (.ops true all (⟨some d, .call { callee := .value fo, args := args, argTypes := tys }, ty, ps, af, none⟩ :: l) :: r) QA ⟨L, H, nx⟩ :=
  JL.inl (s := ⟨L, H, nx⟩) Kp rfl rfl hu ha hc hf hb hcall hn (ltB_lt hd) h
theorem JK.inl0 {r : List Fr} {ty : TypeId} {ps : String} {af : Array Edge} (Kp : List Nat) {f : FuncId} {fn : Func} {c : Code} {fst cap az : AV} {cs1 cs2 : List Prop} {fo : Operand} {args : Array Operand} {tys : Array TypeId}
    (hu : opd L fo = some (cs1, .fn f fst cap)) (ha : opds L args.toList = some (cs2, az)) (hc : allP (cs1 ++ cs2)) (hf : X.P.funcs[f]? = some fn) (hb : fn.body = some c) (hcall : ∀ az w, (callFunc f az).run X.P w = .ok (.enter f az) w)
    (hn : argN (apA fst (apA az cap)) ≤ fn.ntmps)
    (h : ∀ M0 up, JK (X.sub M0 fn.ntmps none up) [.code c] (inlQ X fn.results.toList fun v L H nx => JK X (.ops true all l :: r) QA ⟨L, H, nx⟩) ⟨argL (apA fst (apA az cap)) 0, (nx, .fr X.dp (svL L Kp)) :: H, nx + 1⟩) :
    JK X (.ops true all (⟨none, .call { callee := .value fo, args := args, argTypes := tys }, ty, ps, af, none⟩ :: l) :: r) QA ⟨L, H, nx⟩ :=
  JL.inl (s := ⟨L, H, nx⟩) Kp rfl rfl hu ha hc hf hb hcall hn trivial h

/-- The code of a block, found in a text. -/
def blkF (id : Nat) : Code → Option Code
  | .block j c => if j = id then some (.block j c) else blkF id c
  | .seq a b => match blkF id a with | some r => some r | none => blkF id b
  | .loop c | .scope c => blkF id c
  | .cond _ a b => match blkF id a with | some r => some r | none => blkF id b
  | .rangeFunc _ _ a b => match blkF id a with | some r => some r | none => blkF id b
  | _ => none
theorem subH.cons {n m : Nat} {o : HO} (h : subH H H') (hb : bdH n H') (hm : n ≤ m) : subH ((m, o) :: H) H' := fun j q hj => by
  simp only [lk]
  rw [if_neg (fun e => by subst e; have := (bdH_spec hb _ _ (lk_mem hj)).1; omega)]
  exact h j q hj
theorem subH.dl {n m : Nat} (h : subH H H') (hb : bdH n H') (hm : n ≤ m) : subH (del H m) H' := fun j q hj => by
  rw [lk_del, if_neg (fun e => by subst e; have := (bdH_spec hb _ _ (lk_mem hj)).1; omega)]
  exact h j q hj
theorem JK.pickT {r : List Fr} {c x y : Operand} {b : Bool} {cs1 cs2 : List Prop} {d : Nat} {v : AV} {ty : TypeId} {ps : String} {af : Array Edge} (hc : opd L c = some (cs1, .val .bool b)) (hb : b = true) (hx : opd L x = some (cs2, v)) (hd : ltB d X.n = true) (h1 : allP cs1) (h2 : allP cs2) (k : JK X (.ops true all l :: r) QA ⟨(d, v) :: L, H, nx⟩) :
    JK X (.ops true all (⟨some d, .pick c x y, ty, ps, af, none⟩ :: l) :: r) QA ⟨L, H, nx⟩ := JL.pickT hc hb hx hd h1 h2 k
theorem JK.pickF {r : List Fr} {c x y : Operand} {b : Bool} {cs1 cs2 : List Prop} {d : Nat} {v : AV} {ty : TypeId} {ps : String} {af : Array Edge} (hc : opd L c = some (cs1, .val .bool b)) (hb : b = false) (hy : opd L y = some (cs2, v)) (hd : ltB d X.n = true) (h1 : allP cs1) (h2 : allP cs2) (k : JK X (.ops true all l :: r) QA ⟨(d, v) :: L, H, nx⟩) :
    JK X (.ops true all (⟨some d, .pick c x y, ty, ps, af, none⟩ :: l) :: r) QA ⟨L, H, nx⟩ := JL.pickF hc hb hy hd h1 h2 k
/-- The nil slice in a cell is an empty row of the call's own. -/
theorem JC.ghostT {c : Code} {s : S} (m : Nat) (eid : TypeId) (e : Ty) (hm : lk s.H m = some (.cell (.slice e) (.lf .nils)))
    (k : JC X c QA ⟨s.L, updH ((s.nx, .sl eid e []) :: s.H) m (.cell (.slice e) (.lf (.osl s.nx))), s.nx + 1⟩) : JC X c QA s := fun M ρ a w h1 h2 => by
  have g1 := h1.ghost eid e
  have hr := nilAt_upTo ρ s.nx e
  have g2 : REG X M (ρ.nilAt s.nx e) ⟨s.L, updH ((s.nx, .sl eid e []) :: s.H) m (.cell (.slice e) (.lf (.osl s.nx))), s.nx + 1⟩ a := by
    have := h2.grow (H' := updH ((s.nx, .sl eid e []) :: s.H) m (.cell (.slice e) (.lf (.osl s.nx)))) (nx' := s.nx + 1) (Mem.le_refl M) hr (Nat.le_succ _) (Mem.dle_refl M)
    exact this
  obtain ⟨o1, o2, o3⟩ := h1.own m _ hm
  have hm' : lk ((s.nx, HO.sl eid e []) :: s.H) m = some (.cell (.slice e) (.lf .nils)) := by
    simp only [lk]; rw [if_neg (by omega)]; exact hm
  obtain ⟨q1, q2, q3⟩ := g1.own m _ hm'
  refine k M _ a w (g1.upd hm' (grownBy_refl w _) rfl (Nat.lt_succ_self _) ?_) g2
  simp only [HO.ok] at q3 ⊢
  obtain ⟨r1, r2, r3, c, ty, r4, r5⟩ := q3
  refine ⟨r1, rfl, r3, c, ty, r4, ?_⟩
  simp only [AV.rc, Leaf.at] at r5 ⊢
  obtain ⟨v, v1, v2, v3⟩ := r5
  simp only [Option.some.injEq] at v1
  subst v1
  exact ⟨_, by simp [Env.nilAt], rfl, v3⟩
theorem JK.ghostT {c : Code} {r : List Fr} {s : S} (m : Nat) (eid : TypeId) (e : Ty) (hm : lk s.H m = some (.cell (.slice e) (.lf .nils)))
    (k : JK X (.code c :: r) QA ⟨s.L, updH ((s.nx, .sl eid e []) :: s.H) m (.cell (.slice e) (.lf (.osl s.nx))), s.nx + 1⟩) : JK X (.code c :: r) QA s := JC.ghostT m eid e hm k
/-- A range over a function; its texts get names. -/
theorem JK.rangeG {r : List Fr} (Kp : List Nat) {g : Operand} {ps : Array Tmp} {assign body : Code} {f : FuncId} {fn : Func} {c : Code} {cap : AV} {cs : List Prop} (hrd : X.rd = none) (hdp : X.dp = 0) (hu : opd s.L g = some (cs, .fn f .anil cap))
    (hf : X.P.funcs[f]? = some fn) (hb : fn.body = some c) (hcall : ∀ az w, (callFunc f az).run X.P w = .ok (.enter f az) w) (hn : argN (.acons .anil cap) ≤ fn.ntmps) (hc : allP cs)
    (h : ∀ M up az bd, az = assign → bd = body → JK (X.sub M fn.ntmps none up) [.code c] (rngQ X fn.results.toList (qq X r QA))
      ⟨argL (.acons (.lf (.yld s.nx)) cap) 0, (s.nx + 1, .fr X.dp ((X.n, .lf (.yld s.nx)) :: svL s.L Kp)) :: (s.nx, .loop .ready none ps az bd X.n (svL s.L Kp)) :: s.H, s.nx + 2⟩) : JK X (.code (.rangeFunc g ps assign body) :: r) QA s :=
  JK.rangeF Kp hrd hdp hu hf hb hcall hn hc fun M up => h M up _ _ rfl rfl
theorem JK.rangeJ {r : List Fr} (Kp : List Nat) {g : Operand} {ps : Array Tmp} {assign body : Code} {f : FuncId} {fn : Func} {c : Code} {cap : AV} {cs : List Prop} {bl i0 nI lf lab0 : Nat} {Lf : List (Nat × AV)} {st0 : LoopState} {pe0 : Option Code} {ps0 : Array Tmp} {as0 bd0 : Code} {n0 : Nat} {LO0 : List (Nat × AV)}
    (hrd : X.rd = some bl) (hup : X.up i0 nI = .func (.yield bl) #[] #[]) (hlf : lk s.H lf = some (.fr i0 Lf)) (hl0 : lk Lf nI = some (.lf (.yld lab0))) (hlp : lk s.H lab0 = some (.loop st0 pe0 ps0 as0 bd0 n0 LO0))
    (hu : opd s.L g = some (cs, .fn f .anil cap))
    (hf : X.P.funcs[f]? = some fn) (hb : fn.body = some c) (hcall : ∀ az w, (callFunc f az).run X.P w = .ok (.enter f az) w) (hn : argN (.acons .anil cap) ≤ fn.ntmps) (hc : allP cs)
    (h : ∀ M up az bd, az = assign → bd = body → JK (X.sub M fn.ntmps none up) [.code c] (rngQ X fn.results.toList (qq X r QA))
      ⟨argL (.acons (.lf (.yld s.nx)) cap) 0, (s.nx + 1, .fr X.dp ((X.n, .lf (.yld s.nx)) :: svL s.L Kp)) :: (s.nx, .loop .ready none ps az bd X.n (svL s.L Kp)) :: s.H, s.nx + 2⟩) : JK X (.code (.rangeFunc g ps assign body) :: r) QA s :=
  JK.rangeI Kp hrd hup hlf hl0 hlp hu hf hb hcall hn hc fun M up => h M up _ _ rfl rfl
theorem JK.codeEq {r : List Fr} {c c' : Code} (h : c = c') (k : JK X (.code c' :: r) QA s) : JK X (.code c :: r) QA s := by subst h; exact k
/-- The first loop in a text. -/
def lpF : Code → Option Code
  | .loop c => some (.loop c)
  | .block _ c | .scope c => lpF c
  | .seq a b => match lpF a with | some r => some r | none => lpF b
  | .cond _ a b => match lpF a with | some r => some r | none => lpF b
  | .rangeFunc _ _ a b => match lpF a with | some r => some r | none => lpF b
  | _ => none
def lpC (c : Option Code) : Code := match c with | some c => (lpF c).getD .skip | none => .skip
/-- The ranges over functions in a text, in its order. -/
def rgsF : Code → List (Code × Code)
  | .rangeFunc _ _ a b => (a, b) :: (rgsF a ++ rgsF b)
  | .seq a b => rgsF a ++ rgsF b
  | .block _ c | .loop c | .scope c => rgsF c
  | .cond _ a b => rgsF a ++ rgsF b
  | _ => []
def rgsA (k : Nat) (c : Option Code) : Code := match c with | some c => ((rgsF c).getD k (.skip, .skip)).1 | none => .skip
def rgsB (k : Nat) (c : Option Code) : Code := match c with | some c => ((rgsF c).getD k (.skip, .skip)).2 | none => .skip
def blkC (id : Nat) (c : Option Code) : Code := match c with | some c => (blkF id c).getD .skip | none => .skip
end Ox

namespace Ox
open Go Go.RowKit
variable {X : Ctx} {s : S} {M : Mem} {ρ : Env} {a : Act} {w w' : World} {QA : Exit → S → Prop} {all l : List Oper} {P : Program}
variable {L : List (Nat × AV)} {H : List (Nat × HO)} {nx d n : Nat} {rr : List Fr} {c1 c2 : List Prop} {ty ty2 : TypeId} {ps ps2 : String} {af af2 : Array Edge} {md : Bool}

/-! ### Variables that are maps, set once -/
def mapB (P : Program) (t : TypeId) : Bool := match P.info? t with
  | some i => (match i.zero with | some (Value.map none) => true | _ => false) && (i.size == 1) && (match P.underlying t with | some (.map ..) => true | _ => false)
  | none => false
structure MpT (P : Program) (t : TypeId) : Prop where
  zero : ∀ w, (zeroValue t).run P w = .ok (Value.map none) w
  size : ∀ w, (Go.sizeOf t).run P w = .ok 1 w
  agg : ∀ w, (isAgg t).run P w = .ok false w
theorem MpT.of {P : Program} {t : TypeId} (h : mapB P t = true) : MpT P t := by
  unfold mapB at h
  cases hi : P.info? t with
  | none => rw [hi] at h; cases h
  | some i =>
    rw [hi] at h
    simp only [Bool.and_eq_true, beq_iff_eq] at h
    obtain ⟨⟨h1, h2⟩, h3⟩ := h
    refine ⟨fun w => ?_, fun w => ?_, fun w => ?_⟩
    · split at h1
      · rename_i hz; simp [zeroValue, typeInfo, hi, hz]
      · cases h1
    · simp [Go.sizeOf, typeInfo, hi, h2]
    · split at h3
      · rename_i hu; simp [isAgg, run_underlying hu]
      · cases h3
def AV.mpB : AV → Bool
  | .lf (.mp _) => true
  | _ => false
theorem mpB_rv {v : AV} (h : v.mpB = true) {u : Value} (hu : v.rv M ρ u) : ∃ b, u = .map (some b) := by
  cases v with
  | lf x =>
    cases x with
    | mp l => simp only [AV.rv, Leaf.at, Option.some.injEq] at hu; exact ⟨_, hu.1.symm⟩
    | _ => simp [AV.mpB] at h
  | _ => simp [AV.mpB] at h
theorem JL.layM {t : TypeId} {x : Operand} {v : AV} (hF : mapB X.P t = true) (hu : opd (del L d) x = some (c1, v)) (hv : v.mpB = true) (hc : allP c1) (hd : ltB d X.n = true) (k : JL X true all QA l ⟨(d, .pfn v) :: L, H, nx⟩) :
    JL X true all QA (⟨some d, .alloc t, ty, ps, af, none⟩ :: ⟨none, .store t (.tmp d) x, ty2, ps2, af2, none⟩ :: l) ⟨L, H, nx⟩ := by
  have hf := MpT.of hF
  intro M ρ a w h1 h2
  let p : Value := .pointer (some ⟨w.heap.size, 0, none⟩)
  let w1 : World := w.alloc (.cells #[(Value.map none)] t)
  have hE := h1.below.size
  have hdn : d < X.n := ltB_lt hd
  have hsz := h2.size
  have hr1 : (execOp a.eval ⟨some d, .alloc t, ty, ps, af, none⟩).run X.P w = .ok (.value p) w1 := by
    simp only [execOp, Instr.alloc, Sem.run_bind, hf.zero, Result.andThen_ok, newVar, newRow, run_newObj, Sem.run_pure]
    rfl
  have hreg : REG X M ρ ⟨del L d, H, nx⟩ (a.put (some d) p) := ⟨by simp [Act.put, hsz], h2.defers, fun e y he => by
    obtain ⟨e1, e2⟩ := del_lk he
    have := h2.reg e y e2
    refine ⟨this.1, ?_⟩
    have e3 : ((a.put (some d) p).tmps.getD e Go.undef) = a.tmps.getD e Go.undef := by
      simp only [Act.put, Array.getD_eq_getD_getElem?]
      rw [Array.getElem?_setIfInBounds_ne (Ne.symm e1)]
    rw [e3]; exact this.2⟩
  obtain ⟨hvb, hvr⟩ := opd_sound (s := ⟨del L d, H, nx⟩) hu hc hreg
  obtain ⟨f, hfv⟩ := mpB_rv hv hvr
  let w2 : World := w.alloc (.cells #[(a.put (some d) p).eval x] t)
  have hnew : w1.heap[w.heap.size]? = some (.cells #[(Value.map none)] t (0, 0)) := World.alloc_heap_new w _
  have hpd : (a.put (some d) p).eval (.tmp d) = p := by
    simp only [Act.eval, Act.put, Array.getD_eq_getD_getElem?]
    rw [Array.getElem?_setIfInBounds_self_of_lt (by omega)]; rfl
  have hone : ∀ y ∈ [(a.put (some d) p).eval x], y.oneCell' = true := fun y hy => by
    rw [List.mem_singleton.1 hy, hfv]; rfl
  have hst := run_storeCells_at X.P w.heap.size 0 t [(a.put (some d) p).eval x] 0 #[(Value.map none)] w1 hnew (by simp) hone
  have hcells : ((a.put (some d) p).eval x).cells = #[(a.put (some d) p).eval x] := by rw [hfv]; rfl
  have hset : w1.setRow w.heap.size (([Value.map none].take (0 + 0) ++ [(a.put (some d) p).eval x] ++ [Value.map none].drop (0 + 0 + 1)).toArray) = w2 := by
    show ({ heap := (w.heap.push (.cells #[(Value.map none)] t)).modify w.heap.size _, tape := w.tape, drawn := w.drawn, os := w.os, output := w.output } : World) = { heap := w.heap.push _, tape := w.tape, drawn := w.drawn, os := w.os, output := w.output }
    rw [push_modify]
    rfl
  have hr2 : (execOp (a.put (some d) p).eval ⟨none, .store t (.tmp d) x, ty2, ps2, af2, none⟩).run X.P w1 = .ok .skip w2 := by
    have h3 : (storeVar t ⟨w.heap.size, 0, none⟩ ((a.put (some d) p).eval x)).run X.P w1 = .ok () w2 := by
      unfold storeVar
      simp only [Sem.run_bind, hf.size, Result.andThen_ok, hcells]
      simp only [List.size_toArray, List.length_cons, List.length_nil, ne_eq, not_true_eq_false, if_false, Array.toList]
      rw [hst]
      exact congrArg (Result.ok ()) hset
    simp only [execOp, Instr.storeAt, hpd, p, Instr.sureAddr, Sem.run_bind, Sem.run_pure, Result.andThen_ok]
    rw [h3]
    rfl
  let M' : Mem := fun b => if b = w.heap.size then some (.cells #[(a.put (some d) p).eval x] t (0, 0)) else M b
  have hfull : ∀ b o, M b = some o → M' b = some o := fun b o hb => by
    show (if b = w.heap.size then _ else _) = _
    rw [if_neg (by have := (Array.getElem?_eq_some_iff.1 (h1.mem _ _ hb)).1; omega)]; exact hb
  have hM : Mem.le M M' := fun b c ty fz hb => hfull b _ hb
  have hat : w2.heap[w.heap.size]? = some (.cells #[(a.put (some d) p).eval x] t (0, 0)) := World.alloc_heap_new w _
  have hbl : Below w.heap.size w w2 := (Below.refl _ _).alloc (Nat.le_refl _) _
  have hs2 : SAT X M' ρ ⟨L, H, nx⟩ w2 := h1.ext hbl hM (fun b o hb => by
    by_cases e : b = w.heap.size
    · subst e
      have : some (Obj.cells #[(a.put (some d) p).eval x] t (0, 0)) = some o := by
        have hb' : (if w.heap.size = w.heap.size then some (Obj.cells #[(a.put (some d) p).eval x] t (0, 0)) else M w.heap.size) = some o := hb
        rwa [if_pos rfl] at hb'
      rw [← this]; exact hat
    · have hb' : (if b = w.heap.size then some (Obj.cells #[(a.put (some d) p).eval x] t (0, 0)) else M b) = some o := hb
      rw [if_neg e] at hb'
      have hlt := (Array.getElem?_eq_some_iff.1 (h1.mem b o hb')).1
      rw [hbl.block b hlt]; exact h1.mem b o hb') (fun b hb => by
    show (if b = w.heap.size then _ else _) = _
    rw [if_neg (by omega)])
  have hreg2 : REG X M' ρ ⟨(d, .pfn v) :: L, H, nx⟩ ((a.put (some d) p).put none Go.undef) := by
    refine ⟨by simp [Act.put, hsz], let ⟨Ds, e1, e2, e3, e4⟩ := h2.defers; ⟨Ds, e1, e2, fun D hD => ⟨(e3 D hD).1, hfull _ _ (e3 D hD).2⟩, e4⟩, fun e y he => ?_⟩
    simp only [lk] at he
    by_cases hde : d = e
    · subst hde
      rw [if_pos rfl] at he
      injection he with he; subst he
      refine ⟨hvb, ?_⟩
      simp only [AV.rv]
      refine ⟨w.heap.size, _, t, (0, 0), ?_, ?_, AV.rv_mono hM (Env.upTo.refl ρ nx) hvb hvr⟩
      · show (a.put (some d) p).tmps.getD d Go.undef = p
        simp only [Act.put, Array.getD_eq_getD_getElem?]
        rw [Array.getElem?_setIfInBounds_self_of_lt (by omega)]; rfl
      · show (if w.heap.size = w.heap.size then _ else _) = _
        rw [if_pos rfl]
    · rw [if_neg hde] at he
      have := h2.reg e y he
      refine ⟨this.1, ?_⟩
      have e3 : (((a.put (some d) p).put none Go.undef).tmps.getD e Go.undef) = a.tmps.getD e Go.undef := by
        simp only [Act.put, Array.getD_eq_getD_getElem?]
        rw [Array.getElem?_setIfInBounds_ne hde]
      rw [e3]
      exact AV.rv_mono hM (Env.upTo.refl ρ nx) this.1 this.2
  refine wpListIn_w (wanted_none rfl) (wpIn_value rfl hr1 (wpListIn_w (wanted_none rfl) (wpIn_skipv rfl hr2 ?_)))
  exact k M' ρ _ w2 (hs2.regs _) hreg2
/-- What such a map variable has. -/
theorem ldM_run {t : TypeId} {x : Operand} {v : AV} (hF : mapB X.P t = true) (hu : opd s.L x = some (c1, .pfn v)) (hc : allP c1) : ∀ {M ρ a w0} {d : Option Nat} {gu : Option (Nat × Bool)}, SAT X M ρ s w0 → REG X M ρ s a → v.bd s.nx ∧ ∃ z, v.rv M ρ z ∧ ∀ w1, Below w0.heap.size w0 w1 → (execOp a.eval ⟨d, .load t x, ty, ps, af, gu⟩).run X.P w1 = .ok (.value z) w1 := by
  have hf := MpT.of hF
  intro M ρ a w0 d gu h1 h2
  obtain ⟨hb, hr⟩ := opd_sound hu hc h2
  simp only [AV.rv] at hr
  obtain ⟨b, fv, ty', fz, e1, e2, e3⟩ := hr
  refine ⟨hb, fv, e3, fun w1 hw => ?_⟩
  have hm := h1.mem b _ e2
  have hlt := (Array.getElem?_eq_some_iff.1 hm).1
  have hm1 : w1.heap[b]? = some (.cells #[fv] ty' fz) := by rw [hw.block b hlt]; exact hm
  have h3 : (loadVar t ⟨b, 0, none⟩).run X.P w1 = .ok fv w1 := by
    unfold loadVar
    simp only [Sem.run_bind, hf.agg, Result.andThen_ok]
    simp [cell?_block hm1]
  simp only [execOp, e1, Instr.loadAt, Instr.sureAddr, Sem.run_bind, Sem.run_pure, Result.andThen_ok, h3]
theorem JL.ldM {t : TypeId} {x : Operand} {v : AV} (hF : mapB X.P t = true) (hu : opd s.L x = some (c1, .pfn v)) (hc : allP c1) (hd : ltB d X.n = true) (k : JL X md all QA l ⟨(d, v) :: s.L, s.H, s.nx⟩) : JL X md all QA (⟨some d, .load t x, ty, ps, af, none⟩ :: l) s := by
  cases md
  · intro M ρ a w0 h1 h2
    obtain ⟨hb, z, hz, hr⟩ := ldM_run (d := some d) (gu := none) (ty := ty) (ps := ps) (af := af) hF hu hc h1 h2
    simp only [wpQuiet, Region.wanted, if_true]
    refine ⟨z, fun w hw => ?_, k M ρ _ w0 (h1.regs _) (h2.putO (d := some d) (dstOk.spec (ltB_lt hd)) hb hz)⟩
    unfold Oper.quietAt
    rw [hr w hw]
    exact ⟨rfl, rfl⟩
  · intro M ρ a w h1 h2
    obtain ⟨hb, z, hz, hr⟩ := ldM_run (d := some d) (gu := none) (ty := ty) (ps := ps) (af := af) hF hu hc h1 h2
    exact wpListIn_w (wanted_none rfl) (wpIn_value rfl (hr w (Below.refl _ _)) (k M ρ _ w (h1.regs _) (h2.putO (d := some d) (dstOk.spec (ltB_lt hd)) hb hz)))
theorem JL.ldMg {t : TypeId} {x : Operand} {v : AV} {g : Bool} {gg : Nat × Bool} (hF : mapB X.P t = true) (hg : gOf all s.L (some gg) = some g) (hu : opd s.L x = some (c1, .pfn v)) (hc : g = true → allP c1) (hd : ltB d X.n = true) (k : JL X md all QA l (putS (some d) (.gd g v) s)) : JL X md all QA (⟨some d, .load t x, ty, ps, af, some gg⟩ :: l) s := by
  cases md
  · intro M ρ a w0 h1 h2
    have hw := gOf_sound (o := ⟨some d, .load t x, ty, ps, af, some gg⟩) hg h2
    simp only [wpQuiet, hw]
    cases g with
    | true =>
      obtain ⟨e1, z, e2, e3⟩ := ldM_run (d := some d) (gu := some gg) (ty := ty) (ps := ps) (af := af) hF hu (hc rfl) h1 h2
      simp only [if_true]
      exact ⟨z, fun w hw => by unfold Oper.quietAt; rw [e3 w hw]; exact ⟨rfl, rfl⟩, k M ρ _ w0 (putS_sat h1) (h2.putO (d := some d) (dstOk.spec (ltB_lt hd)) (by exact fun _ => e1) (by simp only [AV.rv]; exact ⟨fun _ => e2, fun h => (by cases h)⟩))⟩
    | false =>
      simp only [Bool.false_eq_true, if_false]
      exact k M ρ _ w0 (putS_sat h1) (h2.putO (d := some d) (dstOk.spec (ltB_lt hd)) (by exact fun h => (by cases h)) (by simp [AV.rv]))
  · intro M ρ a w h1 h2
    have hw := gOf_sound (o := ⟨some d, .load t x, ty, ps, af, some gg⟩) hg h2
    cases g with
    | true =>
      obtain ⟨e1, z, e2, e3⟩ := ldM_run (d := some d) (gu := some gg) (ty := ty) (ps := ps) (af := af) hF hu (hc rfl) h1 h2
      refine wpListIn_w hw (wpIn_value rfl (e3 w (Below.refl _ _)) ?_)
      exact k M ρ _ w (putS_sat h1) (h2.putO (d := some d) (dstOk.spec (ltB_lt hd)) (by exact fun _ => e1) (by simp only [AV.rv]; exact ⟨fun _ => e2, fun h => (by cases h)⟩))
    | false =>
      refine wpListIn_nw hw ?_
      exact k M ρ _ w (putS_sat h1) (h2.putO (d := some d) (dstOk.spec (ltB_lt hd)) (by exact fun h => (by cases h)) (by simp [AV.rv]))
theorem JK.layM {t : TypeId} {x : Operand} {v : AV} (hF : mapB X.P t = true) (hu : opd (del L d) x = some (c1, v)) (hv : v.mpB = true) (hd : ltB d X.n = true) (hc : allP c1) (k : JK X (.ops true all l :: rr) QA ⟨(d, .pfn v) :: L, H, nx⟩) :
    JK X (.ops true all (⟨some d, .alloc t, ty, ps, af, none⟩ :: ⟨none, .store t (.tmp d) x, ty2, ps2, af2, none⟩ :: l) :: rr) QA ⟨L, H, nx⟩ := JL.layM hF hu hv hc hd k
theorem JK.ldM {t : TypeId} {x : Operand} {v : AV} (hF : mapB X.P t = true) (hu : opd L x = some (c1, .pfn v)) (hd : ltB d X.n = true) (hc : allP c1) (k : JK X (.ops md all l :: rr) QA ⟨(d, v) :: L, H, nx⟩) : JK X (.ops md all (⟨some d, .load t x, ty, ps, af, none⟩ :: l) :: rr) QA ⟨L, H, nx⟩ :=
  JL.ldM (s := ⟨L, H, nx⟩) hF hu hc hd k
theorem JK.ldMg {t : TypeId} {x : Operand} {v : AV} {g : Bool} {gg : Nat × Bool} (hF : mapB X.P t = true) (hg : gOf all L (some gg) = some g) (hu : opd L x = some (c1, .pfn v)) (hd : ltB d X.n = true) (hc : g = true → allP c1) (k : JK X (.ops md all l :: rr) QA ⟨(d, .gd g v) :: L, H, nx⟩) : JK X (.ops md all (⟨some d, .load t x, ty, ps, af, some gg⟩ :: l) :: rr) QA ⟨L, H, nx⟩ :=
  JL.ldMg (s := ⟨L, H, nx⟩) hF hg hu hc hd k
end Ox

namespace Ox
open Go Go.RowKit
variable {X : Ctx} {s : S} {M : Mem} {ρ : Env} {a : Act} {w w' : World} {QA : Exit → S → Prop} {all l : List Oper} {P : Program}
variable {L : List (Nat × AV)} {H : List (Nat × HO)} {nx d m : Nat} {rr : List Fr} {c1 c2 : List Prop} {ty ty2 : TypeId} {ps ps2 : String} {af af2 : Array Edge} {md : Bool}

/-- The value and the block of such a row. -/
def Qi (eid : TypeId) (xs : List Int) (v : Value) (cur : Array Value) (t : TypeId) : Prop :=
  t = eid ∧ ∃ g off cap, v = .slice (some ⟨g, off, none⟩) xs.length cap ∧ xs.length ≤ cap ∧ off + cap ≤ cur.size ∧ (cur.toList.drop off).take xs.length = xs.map (Value.int .i64)

theorem rl_ints {xs : List Int} {cs : List Value} (h : RL M (.int .i64) xs cs) : cs = xs.map (Value.int .i64) := by
  have hl : cs.length = xs.length := by have := h.1; simpa [Ty.size] using this
  refine List.ext_getElem (by simpa using hl) fun i h1 h2 => ?_
  have hi : i < xs.length := by omega
  have := h.2 i hi
  simp only [Rep, Ty.size, Nat.mul_one] at this
  rw [List.getElem_map]
  have h3 := congrArg (fun l : List Value => l[0]?) this
  simp only [List.getElem?_take, List.getElem?_drop] at h3
  simp at h3
  rw [List.getElem?_eq_getElem h1] at h3
  simpa using h3
theorem ints_rl (xs : List Int) : RL M (.int .i64) xs (xs.map (Value.int .i64)) := by
  induction xs with
  | nil => exact RL.nil
  | cons x r ih => exact RL.append (l := [x]) (cs := [Value.int .i64 x]) (RL.single (by simp only [Rep])) ih

/-- A row of the call's own is such a row. -/
theorem JC.toQ {c : Code} (m : Nat) {eid : TypeId} {xs : List Int} (hl : lk s.H m = some (.sl eid (.int .i64) xs)) (hne : xs ≠ []) (k : JC X c QA ⟨s.L, updH s.H m (.cus (Qi eid xs)), s.nx⟩) : JC X c QA s := fun M ρ a w h1 h2 => by
  obtain ⟨o1, o2, o3⟩ := h1.own m _ hl
  refine k M ρ a w (h1.upd hl (grownBy_refl w _) rfl trivial ?_) ⟨h2.size, h2.defers, h2.reg⟩
  simp only [HO.ok] at o3 ⊢
  obtain ⟨_, cs, hrow, hrl⟩ := o3
  rcases hrow.2 with ⟨_, hn⟩ | ⟨g, cap, cur, hsv, hg1, hg2, hg3, hg4, hg5, hg6⟩
  · exact absurd (List.eq_nil_of_length_eq_zero hn) hne
  · refine ⟨g, cur, eid, by rw [hsv]; rfl, hg1, hg2, rfl, g, 0, cap, hsv, hg3, by rw [hg5]; simp [Ty.size], ?_⟩
    rw [← rl_ints hrl, ← hg6]
    simp [Ty.size]
theorem JK.toQ {c : Code} {r : List Fr} (m : Nat) {eid : TypeId} {xs : List Int} (hl : lk s.H m = some (.sl eid (.int .i64) xs)) (hne : xs ≠ []) (k : JK X (.code c :: r) QA ⟨s.L, updH s.H m (.cus (Qi eid xs)), s.nx⟩) : JK X (.code c :: r) QA s := JC.toQ m hl hne k

section
variable {x : Operand} {t : TypeId} {xs : List Int} {eid : TypeId} {e : Ty}
theorem q_own (h1 : SAT X M ρ ⟨L, H, nx⟩ w) (h2 : REG X M ρ ⟨L, H, nx⟩ a) (hu : opd L x = some (c1, .lf (.osl m))) (hc : allP c1) (hl : lk H m = some (.cus (Qi eid xs))) :
    ∃ g off cap cur, a.eval x = .slice (some ⟨g, off, none⟩) xs.length cap ∧ ρ.sv m = .slice (some ⟨g, off, none⟩) xs.length cap ∧ X.E.heap.size ≤ g ∧ w.heap[g]? = some (.cells cur eid (0, 0)) ∧ xs.length ≤ cap ∧ off + cap ≤ cur.size ∧ (cur.toList.drop off).take xs.length = xs.map (Value.int .i64) := by
  have eu := (opd_sound (s := ⟨L, H, nx⟩) hu hc h2).2
  rw [rv_lf] at eu
  simp only [Leaf.at, Option.some.injEq] at eu
  have hok := (h1.own m _ hl).2.2
  simp only [HO.ok] at hok
  obtain ⟨g, cur, ty, e1, e2, e3, rfl, g', off, cap, e4, e5, e6, e7⟩ := hok
  rw [e4] at e1
  simp only [Value.ownBlock, Option.some.injEq] at e1
  subst e1
  exact ⟨g', off, cap, cur, by rw [← eu.1, e4], e4, e2, e3, e5, e6, e7⟩

/-- How long it is. -/
theorem JL.qLen (hX : XOK X) (hT : lk X.T t = some (.slice e)) (hu : opd L x = some (c1, .lf (.osl m))) (hl : lk H m = some (.cus (Qi eid xs))) (hc : allP c1) (hd : ltB d X.n = true) (k : JL X true all QA l ⟨(d, .val (.int .i64) (xs.length : Int)) :: L, H, nx⟩) :
    JL X true all QA (⟨some d, .call { callee := .builtin .len, args := ⟨[x]⟩, argTypes := ⟨[t]⟩ }, ty, ps, af, none⟩ :: l) ⟨L, H, nx⟩ := by
  refine JL.did rfl rfl (ltB_lt hd) (v := .val (.int .i64) (xs.length : Int)) (s' := ⟨L, H, nx⟩) (fun M ρ a w h1 h2 => ?_) k
  obtain ⟨g, off, cap, cur, e1, _⟩ := q_own h1 h2 hu hc hl
  have hty := hX.t _ _ hT
  simp only [TyOf] at hty
  obtain ⟨eid', hi, _⟩ := hty
  refine ⟨ρ, w, _, ?_, Env.upTo.refl _ _, Nat.le_refl _, rfl, h1, trivial, .inl ⟨.int .i64 xs.length, rfl, rv_int.2 rfl⟩⟩
  have : (Builtin.len_ #[t] ty #[.slice (some ⟨g, off, none⟩) xs.length cap]).run X.P w = .ok (.int .i64 xs.length) w := by simp [Builtin.len_, run_underlying hi.under, goInt]
  simp [execOp, resolve, invoke, builtin, e1, this]

/-- Its first element, read. -/
theorem JL.qHead {d2 : Nat} {te : TypeId} {i : Operand} {y : Int} {r : List Int} (hX : XOK X) (hT : lk X.T t = some (.slice (.int .i64))) (hTe : lk X.T te = some (.int .i64)) (hu : opd L x = some (c1, .lf (.osl m))) (hl : lk H m = some (.cus (Qi eid xs))) (hxs : xs = y :: r)
    (hi : opd L i = some (c2, .val (.int .i64) (0 : Int))) (hc : allP c1) (hc2 : allP c2) (hd : ltB d X.n = true) (hd2 : ltB d2 X.n = true) (k : JL X true all QA l ⟨(d2, .val (.int .i64) y) :: del L d, H, nx⟩) :
    JL X true all QA (⟨some d, .indexAddr t x i, ty, ps, af, none⟩ :: ⟨some d2, .load te (.tmp d), ty2, ps2, af2, none⟩ :: l) ⟨L, H, nx⟩ := by
  intro M ρ a w h1 h2
  obtain ⟨g, off, cap, cur, e1, _, e2, e3, e4, e5, e6⟩ := q_own h1 h2 hu hc hl
  have ei := (opd_sound (s := ⟨L, H, nx⟩) hi hc2 h2).2
  rw [rv_int] at ei
  have ht := hX.t _ _ hT
  have hte := hX.t _ _ hTe
  have hlen : 0 < xs.length := by rw [hxs]; simp
  have hr1 : (execOp a.eval ⟨some d, .indexAddr t x i, ty, ps, af, none⟩).run X.P w = .ok (.value (.pointer (some ⟨g, off, none⟩))) w := by
    have := run_indexAt_slice (P := X.P) ht (kk := .i64) (k := 0) (b := g) (off := off) (n := xs.length) (cap := cap) (Int.le_refl 0) (by omega) w
    simp only [execOp, e1, ei, Sem.run_bind, this, Result.andThen_ok, Sem.run_pure]
    simp
  have hreg : REG X M ρ ⟨del L d, H, nx⟩ (a.put (some d) (.pointer (some ⟨g, off, none⟩))) := ⟨by simp [Act.put, h2.size], h2.defers, fun e y he => by
    obtain ⟨q1, q2⟩ := del_lk he
    have := h2.reg e y q2
    refine ⟨this.1, ?_⟩
    have q3 : ((a.put (some d) (.pointer (some ⟨g, off, none⟩))).tmps.getD e Go.undef) = a.tmps.getD e Go.undef := by
      simp only [Act.put, Array.getD_eq_getD_getElem?]
      rw [Array.getElem?_setIfInBounds_ne (Ne.symm q1)]
    rw [q3]; exact this.2⟩
  have hpd : (a.put (some d) (.pointer (some ⟨g, off, none⟩))).eval (.tmp d) = .pointer (some ⟨g, off, none⟩) := by
    simp only [Act.eval, Act.put, Array.getD_eq_getD_getElem?]
    rw [Array.getElem?_setIfInBounds_self_of_lt (by rw [h2.size]; exact ltB_lt hd)]; rfl
  have hload := run_loadVar_block (P := X.P) hte e3 (off := off) (by simp only [Ty.size]; omega)
  have hcell : (cur.toList.drop off).take (Ty.size (.int .i64)) = [Value.int .i64 y] := by
    have : ((cur.toList.drop off).take xs.length).take 1 = (xs.map (Value.int .i64)).take 1 := by rw [e6]
    rw [List.take_take, Nat.min_eq_left (by omega)] at this
    rw [show Ty.size (.int .i64) = 1 from rfl, this, hxs]; rfl
  rw [hcell] at hload
  have hr2 : (execOp (a.put (some d) (.pointer (some ⟨g, off, none⟩))).eval ⟨some d2, .load te (.tmp d), ty2, ps2, af2, none⟩).run X.P w = .ok (.value (.int .i64 y)) w := by
    simp only [execOp, hpd, Instr.loadAt, Instr.sureAddr, Sem.run_bind, Sem.run_pure, Result.andThen_ok, hload]
    rfl
  refine wpListIn_w (wanted_none rfl) (wpIn_value rfl hr1 (wpListIn_w (wanted_none rfl) (wpIn_value rfl hr2 ?_)))
  exact k M ρ _ w (h1.regs _) (hreg.putO (d := some d2) (dstOk.spec (ltB_lt hd2)) trivial (rv_int.2 rfl))

/-- A new one, out of what an old one had. -/
theorem SAT.newQ (h : SAT X M ρ ⟨L, H, nx⟩ w) {row : Option Nat} (hg : w.grownBy w' row) (hrow : ∀ b, row = some b → X.E.heap.size ≤ b ∧ M b = none) {H' : List (Nat × HO)}
    (hsub : ∀ l o, lk H' l = some o → lk H l = some o ∧ ∀ b, o.at ρ l = some b → row ≠ some b) {v : Value} {g : Nat} {cur : Array Value} {tt : TypeId} {Q : Value → Array Value → TypeId → Prop}
    (hv : v.ownBlock = some g) (hgE : X.E.heap.size ≤ g) (hcur : w'.heap[g]? = some (.cells cur tt (0, 0))) (hQ : Q v cur tt) (hb : row = some g ∨ w.heap.size ≤ g) :
    SAT X M (ρ.with nx 0 .nil v) ⟨L, (nx, .cus Q) :: H', nx + 1⟩ w' := by
  have hlt : ∀ b o, M b = some o → b < w.heap.size := fun b o hb => (Array.getElem?_eq_some_iff.1 (h.mem b o hb)).1
  refine SAT.add (s := ⟨L, H, nx⟩) h hg hrow hsub (Env.with_upTo _ _ _ _ _) trivial ?_ ?_
  · simp only [HO.ok, Env.with, if_true]
    exact ⟨g, cur, tt, hv, hgE, hcur, hQ⟩
  · intro b hbb
    simp only [HO.at, Env.with, if_true] at hbb
    rw [hv] at hbb
    injection hbb with hbb
    subst hbb
    rcases hb with e | e
    · exact ⟨(hrow g e).2, fun l o1 hl hb' => (hsub l o1 hl).2 g hb' e⟩
    · refine ⟨?_, fun l o1 hl hb' => ?_⟩
      · cases hM : M g with
        | none => rfl
        | some o => have := hlt _ _ hM; omega
      · have := (HO.at_lt (h.own l o1 (hsub l o1 hl).1).2.2 hb').2; omega

/-- All but its first element. -/
theorem JL.qTail {y : Int} {r : List Int} {lo : Operand} (hX : XOK X) (hT : lk X.T t = some (.slice (.int .i64))) (hu : opd L x = some (c1, .lf (.osl m))) (hl : lk H m = some (.cus (Qi eid xs))) (hxs : xs = y :: r)
    (hi : opd L lo = some (c2, .val (.int .i64) (1 : Int))) (hc : allP c1) (hc2 : allP c2) (hd : ltB d X.n = true) (k : JL X true all QA l ⟨(d, .lf (.osl nx)) :: L, (nx, .cus (Qi eid r)) :: del H m, nx + 1⟩) :
    JL X true all QA (⟨some d, .slice t x (some lo) none none, ty, ps, af, none⟩ :: l) ⟨L, H, nx⟩ := by
  refine JL.did rfl rfl (ltB_lt hd) (v := .lf (.osl nx)) (s' := ⟨L, (nx, .cus (Qi eid r)) :: del H m, nx + 1⟩) (fun M ρ a w h1 h2 => ?_) k
  obtain ⟨g, off, cap, cur, e1, e0, e2, e3, e4, e5, e6⟩ := q_own h1 h2 hu hc hl
  have ei := (opd_sound (s := ⟨L, H, nx⟩) hi hc2 h2).2
  rw [rv_int] at ei
  have ht := hX.t _ _ hT
  have hlen : xs.length = r.length + 1 := by rw [hxs]; simp
  have hb := run_bounds (P := X.P) (w := w) (n := xs.length) (cap := cap) e4 (lo := some (.int .i64 1)) (hi := none) (mx := none) (a := 1) (b := xs.length) (m := cap) (.inl ⟨rfl, rfl⟩) (.inl ⟨rfl, rfl, rfl⟩) (.inr ⟨.i64, 1, rfl, by omega, by omega, rfl⟩)
  have hs := run_sliceAt (P := X.P) ht (ad := some ⟨g, off, none⟩) hb
  have hat : HO.at ρ m (.cus (Qi eid xs)) = some g := by simp only [HO.at]; rw [e0]; rfl
  obtain ⟨off', cap', hv', hcc, hoo⟩ : ∃ off' cap', (Value.slice (if cap = 1 then (some ⟨g, off, none⟩ : Option Addr) else (some (⟨g, off, none⟩ : Addr)).map (·.add (1 * Ty.size (.int .i64)))) (xs.length - 1) (cap - 1)) = .slice (some ⟨g, off', none⟩) r.length cap' ∧ r.length ≤ cap' ∧ off' + cap' ≤ cur.size ∧ (cur.toList.drop off').take r.length = r.map (Value.int .i64) := by
    have htl : (cur.toList.drop (off + 1)).take r.length = r.map (Value.int .i64) := by
      have := congrArg (List.drop 1) e6
      rw [hxs, List.map_cons, List.drop_succ_cons, List.drop_zero, List.drop_take, List.drop_drop] at this
      simpa using this
    by_cases h : cap = 1
    · have hr0 : r = [] := List.eq_nil_of_length_eq_zero (by omega)
      subst hr0
      refine ⟨off, 0, ?_, by simp, by omega, by simp⟩
      rw [if_pos h, hlen, h]; rfl
    · refine ⟨off + 1, cap - 1, ?_, by omega, by omega, htl⟩
      rw [if_neg h, hlen]
      simp [Addr.add, Ty.size]
  have hQ : Qi eid r (.slice (some ⟨g, off', none⟩) r.length cap') cur eid := ⟨rfl, g, off', cap', rfl, hcc, hoo.1, hoo.2⟩
  refine ⟨ρ.with nx 0 .nil (.slice (some ⟨g, off', none⟩) r.length cap'), w, _, ?_, Env.with_upTo _ _ _ _ _, Nat.le_succ _, rfl,
    h1.newQ (row := some g) (H' := del H m) ⟨rfl, rfl, rfl, Nat.le_refl _, fun _ _ _ => rfl⟩ (fun b hb => ?_) (fun j o hj => ?_) (v := .slice (some ⟨g, off', none⟩) r.length cap') (g := g) rfl e2 e3 hQ (.inl rfl), Nat.lt_succ_self _, .inl ⟨.slice (some ⟨g, off', none⟩) r.length cap', rfl, ?_⟩⟩
  · simp only [execOp, e1, ei, Option.map_some, Option.map_none, Sem.run_bind, hs, Result.andThen_ok, Sem.run_pure]
    exact congrArg (fun v => Result.ok (Next.value v) w) hv'
  · injection hb with hb; subst hb
    exact ⟨e2, h1.notM m _ g hl hat⟩
  · rw [lk_del] at hj
    split at hj
    · cases hj
    · rename_i hne
      refine ⟨hj, fun b hb hr => hne ?_⟩
      injection hr with hr; subst hr
      exact h1.apart m j _ o g hl hj hat hb
  · rw [rv_lf]
    exact ⟨by simp [Leaf.at, Env.with], rfl⟩

/-- One element more. -/
theorem run_append_off {P : Program} (w : World) (t ty e : TypeId) (i : TypeInfo) (ht : P.underlying t = some (.slice e)) (hi : P.info? e = some i)
    (g off sLen sCap : Nat) (cur : Array Value) (hg : w.heap[g]? = some (.cells cur e (0, 0)))
    (a : Addr) (m c : Nat) (news : List Value) (hl : news.length = m * i.size) (hnews : ∀ j u, news[j]? = some u → w.cell? (a.add j) = some u) (h1 : ∀ u ∈ news, u.oneCell' = true)
    (hroom : sLen + m ≤ sCap) (hfit : off + sLen * i.size + news.length ≤ cur.size) :
    (Builtin.append_ #[t, t] ty #[.slice (some ⟨g, off, none⟩) sLen sCap, .slice (some a) m c]).run P w =
      .ok (.slice (some ⟨g, off, none⟩) (sLen + m) sCap) (w.setRow g (cur.toList.take (off + sLen * i.size) ++ news ++ cur.toList.drop (off + sLen * i.size + news.length)).toArray) := by
  have hf := run_firstCells_some (P := P) w i.size m a m c news hl hnews
  have hst := run_storeCells_at P g (off + sLen * i.size) e news 0 cur w hg (by simpa using hfit) h1
  simp only [Nat.add_zero] at hst
  simp [Builtin.append_, run_underlying ht, Go.sizeOf, typeInfo, hi, Builtin.lenOf, hroom, hf, Addr.add_lit, hst]
theorem JL.qApp {y : Operand} {ys : List Int} {cs3 : List Prop} {vy : AV} {eid' : TypeId} (hX : XOK X) (hT : lk X.T t = some (.slice (.int .i64))) (hE : lk X.ET t = some eid) (hu : opd L x = some (c1, .lf (.osl m))) (hl : lk H m = some (.cus (Qi eid xs)))
    (hv : opd L y = some (c2, vy)) (hsrc : srcK (.int .i64) H vy (fun cs q => some (cs, q)) = some (cs3, ys)) (hne : 0 < ys.length) (hle : xs.length + ys.length ≤ 1000000)
    (hc : allP c1) (hc2 : allP c2) (hc3 : allP cs3) (hd : ltB d X.n = true) (k : JL X true all QA l ⟨(d, .lf (.osl nx)) :: L, (nx, .cus (Qi eid (xs ++ ys))) :: del H m, nx + 1⟩) :
    JL X true all QA (⟨some d, .call { callee := .builtin .append, args := ⟨[x, y]⟩, argTypes := ⟨[t, t]⟩ }, ty, ps, af, none⟩ :: l) ⟨L, H, nx⟩ := by
  refine JL.did rfl rfl (ltB_lt hd) (v := .lf (.osl nx)) (s' := ⟨L, (nx, .cus (Qi eid (xs ++ ys))) :: del H m, nx + 1⟩) (fun M ρ a w h1 h2 => ?_) k
  obtain ⟨g, off, cap, cur, e1, e0, e2, e3, e4, e5, e6⟩ := q_own h1 h2 hu hc hl
  have ev := opd_sound (s := ⟨L, H, nx⟩) hv hc2 h2
  obtain ⟨cs', ys', hk, hs⟩ := srcK_sound h1 hsrc ev.2
  simp only [Option.some.injEq, Prod.mk.injEq] at hk
  obtain ⟨rfl, rfl⟩ := hk
  obtain ⟨ad, scap, news, k1, k2, k3, k4⟩ := hs hc3
  have ht := hX.t _ _ hT
  rw [TyOf] at ht
  obtain ⟨eid2, hsu, he⟩ := ht
  have heid : eid2 = eid := by
    have q1 := hX.e _ _ hE
    rw [hsu.under] at q1
    injection q1 with q1; injection q1
  subst heid
  obtain ⟨i, hi, hz, hsz, hby⟩ := eid_info he
  have hnews : news = ys'.map (Value.int .i64) := rl_ints k2
  have hnl : news.length = ys'.length := by rw [hnews, List.length_map]
  have hat : HO.at ρ m (.cus (Qi eid2 xs)) = some g := by simp only [HO.at]; rw [e0]; rfl
  have hsz1 : i.size = 1 := hsz
  cases ad with
  | none => have := (k4 rfl).2; rw [this] at hne; simp at hne
  | some adr =>
    have hdrop : ∀ j o, lk (del H m) j = some o → lk H j = some o ∧ ∀ b, o.at ρ j = some b → some g ≠ some b := fun j o hj => by
      rw [lk_del] at hj
      split at hj
      · cases hj
      · rename_i hne
        refine ⟨hj, fun b hb hr => hne ?_⟩
        injection hr with hr; subst hr
        exact h1.apart m j _ o g hl hj hat hb
    by_cases hroom : xs.length + ys'.length ≤ cap
    · -- there is room
      have hr := run_append_off (P := X.P) w t ty eid2 i hsu.under hi g off xs.length cap cur e3 adr ys'.length scap news (by rw [hnl, hsz1, Nat.mul_one]) (k3 adr rfl) k2.one hroom (by rw [hsz1, Nat.mul_one, hnl]; omega)
      rw [hsz1, Nat.mul_one] at hr
      let cur' : Array Value := (cur.toList.take (off + xs.length) ++ news ++ cur.toList.drop (off + xs.length + news.length)).toArray
      have hsize : cur'.size = cur.size := by
        show (cur.toList.take (off + xs.length) ++ news ++ cur.toList.drop (off + xs.length + news.length)).length = cur.size
        simp only [List.length_append, List.length_take, List.length_drop, Array.length_toList]
        omega
      have hcell : (w.setRow g cur').heap[g]? = some (.cells cur' eid2 (0, 0)) := by
        show (w.heap.modify g _)[g]? = _
        rw [Array.getElem?_modify, if_pos rfl, e3]; rfl
      have hgrow : w.grownBy (w.setRow g cur') (some g) := ⟨rfl, rfl, rfl, by simp [World.setRow], fun k hk hkg => by
        show (w.heap.modify g _)[k]? = _
        rw [Array.getElem?_modify, if_neg (fun e => hkg (by rw [e]))]⟩
      have hQ : Qi eid2 (xs ++ ys') (.slice (some ⟨g, off, none⟩) (xs.length + ys'.length) cap) cur' eid2 := by
        refine ⟨rfl, g, off, cap, by rw [List.length_append], by rw [List.length_append]; exact hroom, by rw [hsize]; exact e5, ?_⟩
        show ((cur.toList.take (off + xs.length) ++ news ++ cur.toList.drop (off + xs.length + news.length)).drop off).take _ = _
        have hcl : cur.toList.length = cur.size := rfl
        rw [List.append_assoc, List.drop_append_of_le_length (by rw [List.length_take]; omega), List.drop_take, Nat.add_sub_cancel_left, e6, ← List.append_assoc, List.length_append, ← hnl, List.map_append, ← hnews]
        exact (List.take_append_of_le_length (by simp)).trans (List.take_of_length_le (by simp))
      refine ⟨ρ.with nx 0 .nil (.slice (some ⟨g, off, none⟩) (xs.length + ys'.length) cap), w.setRow g cur', _, ?_, Env.with_upTo _ _ _ _ _, Nat.le_succ _, rfl,
        h1.newQ (row := some g) (H' := del H m) hgrow (fun b hb => ?_) (fun j o hj => ⟨(hdrop j o hj).1, fun b hb e => (hdrop j o hj).2 b hb e⟩) (g := g) rfl e2 hcell hQ (.inl rfl), Nat.lt_succ_self _, .inl ⟨.slice (some ⟨g, off, none⟩) (xs.length + ys'.length) cap, rfl, ?_⟩⟩
      · simp only [execOp, resolve, invoke, builtin, Sem.run_bind, Sem.run_pure, Result.andThen_ok, List.map_toArray, List.map_cons, List.map_nil, e1, k1, hr]
        rfl
      · injection hb with hb; subst hb
        exact ⟨e2, h1.notM m _ g hl hat⟩
      · rw [rv_lf]
        exact ⟨by simp [Leaf.at, Env.with], rfl⟩
    · -- there is none
      have holds : ∀ j v, (xs.map (Value.int .i64))[j]? = some v → w.cell? ((⟨g, off, none⟩ : Addr).add j) = some v := fun j v hj => by
        rw [Addr.add_plain, cell?_block e3]
        rw [← e6, List.getElem?_take] at hj
        split at hj
        · rw [List.getElem?_drop] at hj; simpa using hj
        · cases hj
      have hbb : (xs.length + ys'.length) * i.bytes ≤ 1000000 * 65536 := Nat.mul_le_mul hle hby
      have hr := run_append_grow (P := X.P) w t ty eid2 i (Ty.wrap (.int .i64) (Ty.zc (.int .i64))) hsu.under hi hz ⟨g, off, none⟩ xs.length cap (xs.map (Value.int .i64)) (by rw [hsz1, List.length_map, Nat.mul_one]) holds adr ys'.length scap news (by rw [hnl, hsz1, Nat.mul_one]) (k3 adr rfl) (by omega) (by omega) (growslice_fits (by omega) (by omega))
      have hge := grownCap_ge w (xs.length + ys'.length) cap eid2
      let cap2 := grownCap w (xs.length + ys'.length) cap eid2
      let cur2 : Array Value := (xs.map (Value.int .i64)).toArray ++ news.toArray ++ Builtin.zeroCells (Ty.wrap (.int .i64) (Ty.zc (.int .i64))).cells (cap2 - (xs.length + ys'.length))
      have hsize : cur2.size = cap2 := by
        show ((xs.map (Value.int .i64)).toArray ++ news.toArray ++ Builtin.zeroCells (Ty.wrap (.int .i64) (Ty.zc (.int .i64))).cells (cap2 - (xs.length + ys'.length))).size = cap2
        rw [Array.size_append, Array.size_append, List.size_toArray, List.size_toArray, List.length_map, hnl, size_zeroCells]
        have : (Ty.wrap (.int .i64) (Ty.zc (.int .i64))).cells.size = 1 := rfl
        rw [this]
        show xs.length + ys'.length + (cap2 - (xs.length + ys'.length)) * 1 = cap2
        have : xs.length + ys'.length ≤ cap2 := hge
        omega
      have hQ : Qi eid2 (xs ++ ys') (.slice (some ⟨w.heap.size, 0, none⟩) (xs.length + ys'.length) cap2) cur2 eid2 := by
        refine ⟨rfl, w.heap.size, 0, cap2, by rw [List.length_append], by rw [List.length_append]; exact hge, by omega, ?_⟩
        show (((xs.map (Value.int .i64)).toArray ++ news.toArray ++ Builtin.zeroCells (Ty.wrap (.int .i64) (Ty.zc (.int .i64))).cells (cap2 - (xs.length + ys'.length))).toList.drop 0).take _ = _
        rw [List.drop_zero, Array.toList_append, Array.toList_append, hnews, ← List.map_append]
        rw [List.take_append_of_le_length (by simp), List.take_of_length_le (by simp)]
      refine ⟨ρ.with nx 0 .nil (.slice (some ⟨w.heap.size, 0, none⟩) (xs.length + ys'.length) cap2), w.drew.alloc (.cells cur2 eid2), _, ?_, Env.with_upTo _ _ _ _ _, Nat.le_succ _, rfl,
        h1.newQ (w' := w.drew.alloc (.cells cur2 eid2)) (row := none) (H' := del H m) ⟨rfl, rfl, rfl, by simp, fun k hk _ => heap_alloc_old w.drew _ hk⟩ (fun b hb => by cases hb) (fun j o hj => ⟨(hdrop j o hj).1, fun b _ e => by cases e⟩) (g := w.heap.size) rfl h1.below.size (heap_alloc_new w.drew _) hQ (.inr (Nat.le_refl _)), Nat.lt_succ_self _, .inl ⟨.slice (some ⟨w.heap.size, 0, none⟩) (xs.length + ys'.length) cap2, rfl, ?_⟩⟩
      · simp only [execOp, resolve, invoke, builtin, Sem.run_bind, Sem.run_pure, Result.andThen_ok, List.map_toArray, List.map_cons, List.map_nil, e1, k1, hr]
        rfl
      · rw [rv_lf]
        exact ⟨by simp [Leaf.at, Env.with], rfl⟩
theorem JK.qLen {r : List Fr} (hX : XOK X) (hT : lk X.T t = some (.slice e)) (hu : opd L x = some (c1, .lf (.osl m))) (hl : lk H m = some (.cus (Qi eid xs))) (hc : allP c1) (hd : ltB d X.n = true) (k : JK X (.ops true all l :: r) QA ⟨(d, .val (.int .i64) (xs.length : Int)) :: L, H, nx⟩) :
    JK X (.ops true all (⟨some d, .call { callee := .builtin .len, args := ⟨[x]⟩, argTypes := ⟨[t]⟩ }, ty, ps, af, none⟩ :: l) :: r) QA ⟨L, H, nx⟩ := JL.qLen hX hT hu hl hc hd k
theorem JK.qHead {r : List Fr} {d2 : Nat} {te : TypeId} {i : Operand} {y : Int} {q : List Int} (hX : XOK X) (hT : lk X.T t = some (.slice (.int .i64))) (hTe : lk X.T te = some (.int .i64)) (hu : opd L x = some (c1, .lf (.osl m))) (hl : lk H m = some (.cus (Qi eid xs))) (hxs : xs = y :: q)
    (hi : opd L i = some (c2, .val (.int .i64) (0 : Int))) (hc : allP c1) (hc2 : allP c2) (hd : ltB d X.n = true) (hd2 : ltB d2 X.n = true) (k : JK X (.ops true all l :: r) QA ⟨(d2, .val (.int .i64) y) :: del L d, H, nx⟩) :
    JK X (.ops true all (⟨some d, .indexAddr t x i, ty, ps, af, none⟩ :: ⟨some d2, .load te (.tmp d), ty2, ps2, af2, none⟩ :: l) :: r) QA ⟨L, H, nx⟩ := JL.qHead hX hT hTe hu hl hxs hi hc hc2 hd hd2 k
theorem JK.qTail {r : List Fr} {y : Int} {q : List Int} {lo : Operand} (hX : XOK X) (hT : lk X.T t = some (.slice (.int .i64))) (hu : opd L x = some (c1, .lf (.osl m))) (hl : lk H m = some (.cus (Qi eid xs))) (hxs : xs = y :: q)
    (hi : opd L lo = some (c2, .val (.int .i64) (1 : Int))) (hc : allP c1) (hc2 : allP c2) (hd : ltB d X.n = true) (k : JK X (.ops true all l :: r) QA ⟨(d, .lf (.osl nx)) :: L, (nx, .cus (Qi eid q)) :: del H m, nx + 1⟩) :
    JK X (.ops true all (⟨some d, .slice t x (some lo) none none, ty, ps, af, none⟩ :: l) :: r) QA ⟨L, H, nx⟩ := JL.qTail hX hT hu hl hxs hi hc hc2 hd k
theorem JK.qApp {r : List Fr} {y : Operand} {ys : List Int} {cs3 : List Prop} {vy : AV} (hX : XOK X) (hT : lk X.T t = some (.slice (.int .i64))) (hE : lk X.ET t = some eid) (hu : opd L x = some (c1, .lf (.osl m))) (hl : lk H m = some (.cus (Qi eid xs)))
    (hv : opd L y = some (c2, vy)) (hsrc : srcK (.int .i64) H vy (fun cs q => some (cs, q)) = some (cs3, ys)) (hne : 0 < ys.length) (hle : xs.length + ys.length ≤ 1000000)
    (hc : allP c1) (hc2 : allP c2) (hc3 : allP cs3) (hd : ltB d X.n = true) (k : JK X (.ops true all l :: r) QA ⟨(d, .lf (.osl nx)) :: L, (nx, .cus (Qi eid (xs ++ ys))) :: del H m, nx + 1⟩) :
    JK X (.ops true all (⟨some d, .call { callee := .builtin .append, args := ⟨[x, y]⟩, argTypes := ⟨[t, t]⟩ }, ty, ps, af, none⟩ :: l) :: r) QA ⟨L, H, nx⟩ := JL.qApp (eid' := 0) hX hT hE hu hl hv hsrc hne hle hc hc2 hc3 hd k
end
section
variable {kt vt : Ty} {t kid vid : TypeId} {es : List (Ent kt vt)} {clk n : Nat} {x : kt.den} {om ok ov : Operand} {c3 : List Prop} {o : Oper}
theorem JL.mUpd (hT : MapT X.P kt vt t kid vid) (hu : opd L om = some (c1, .lf (.mp n))) (hl : lk H n = some (.map kt vt es clk)) (hv : opd L ok = some (c2, .val kt x)) {y : vt.den} (hy : opd L ov = some (c3, .val vt y)) (hc : allP (c1 ++ (c2 ++ c3)))
    (k : JL X true all QA l ⟨L, updH H n (.map kt vt (mPut es clk x y) (mClk es clk x)), nx⟩) : JL X true all QA (⟨none, .mapUpdate t om ok ov, ty, ps, af, none⟩ :: l) ⟨L, H, nx⟩ := by
  rw [allP_append, allP_append] at hc
  refine JL.did rfl rfl trivial (v := .undef) (s' := ⟨L, updH H n (.map kt vt (mPut es clk x y) (mClk es clk x)), nx⟩) (fun M ρ a w h1 h2 => ?_) k
  obtain ⟨ms, hb, hm⟩ := own_map h1 hl
  obtain ⟨cx, hx, hxe⟩ := opd_val hv hc.2.1 h2
  obtain ⟨cy, hy', hye⟩ := opd_val hy hc.2.2 h2
  obtain ⟨ms', r1, r2⟩ := run_put hT hb hm hx hy'
  refine ⟨ρ, _, _, ?_, Env.upTo.refl _ _, Nat.le_refl _, rfl, h1.setMap hl r1, trivial, .inr ⟨rfl, rfl⟩⟩
  simp only [execOp, opd_map hu hc.1 h2, hxe, hye, Sem.run_bind, r2, Result.andThen_ok, Sem.run_pure]

theorem JK.mUpd {r : List Fr} (hT : MapT X.P kt vt t kid vid) (hu : opd L om = some (c1, .lf (.mp n))) (hl : lk H n = some (.map kt vt es clk)) (hv : opd L ok = some (c2, .val kt x)) {y : vt.den} (hy : opd L ov = some (c3, .val vt y)) (hc : allP (c1 ++ (c2 ++ c3)))
    (k : JK X (.ops true all l :: r) QA ⟨L, updH H n (.map kt vt (mPut es clk x y) (mClk es clk x)), nx⟩) : JK X (.ops true all (⟨none, .mapUpdate t om ok ov, ty, ps, af, none⟩ :: l) :: r) QA ⟨L, H, nx⟩ := JL.mUpd hT hu hl hv hy hc k
end
end Ox

namespace Go.Proofs.Ythiocglfgcnlhaa
open Go Go.RowKit Ox
def tys : List (Nat × Ty) := [
  (2, (.int .i64)),
  (3, (.int .i64)),
  (4, .bool),
  (5, (.int .u8)),
  (6, (.int .u8)),
  (7, (.cons (.int .i64) (.cons (.int .i64) (.cons .bool (.cons (.int .u8) .nil))))),
  (8, (.cons (.int .i64) (.cons (.int .i64) (.cons .bool (.cons (.int .u8) .nil))))),
  (12, (.int .u64)),
  (21, (.int .i32)),
  (22, (.slice (.cons (.int .i64) (.cons (.int .i64) (.cons (.int .i64) .nil))))),
  (23, (.slice (.int .i64))),
  (26, (.slice (.int .i64))),
  (27, (.int .i64)),
  (37, (.cons (.slice (.int .i64)) (.cons .bool .nil))),
  (38, (.cons (.slice (.int .i64)) (.cons .bool .nil))),
  (51, (.slice (.int .u8))),
  (57, (.cons (.int .i64) (.cons (.int .i64) (.cons (.int .i64) .nil)))),
  (58, (.cons (.int .i64) (.cons (.int .i64) (.cons (.int .i64) .nil)))),
  (60, (.arr 2 (.int .u8))),
  (62, (.arr 3 (.int .u8))),
  (68, (.ptr (.cons (.cons (.slice (.cons (.int .i64) (.cons (.int .i64) (.cons (.int .i64) .nil)))) (.cons (.int .i64) .nil)) (.cons (.int .i64) .nil)))),
  (69, (.slice (.cons (.int .i64) (.cons (.int .i64) (.cons (.int .i64) .nil))))),
  (72, (.cons (.int .i64) (.cons (.int .i64) (.cons (.int .i64) .nil)))),
  (73, (.cons (.int .i64) (.cons (.int .i64) (.cons (.int .i64) .nil)))),
  (82, (.cons (.slice (.cons (.int .i64) (.cons (.int .i64) (.cons (.int .i64) .nil)))) (.cons (.int .i64) .nil))),
  (83, (.cons (.slice (.cons (.int .i64) (.cons (.int .i64) (.cons (.int .i64) .nil)))) (.cons (.int .i64) .nil))),
  (84, (.cons (.cons (.slice (.cons (.int .i64) (.cons (.int .i64) (.cons (.int .i64) .nil)))) (.cons (.int .i64) .nil)) (.cons (.int .i64) .nil))),
  (85, (.cons (.cons (.slice (.cons (.int .i64) (.cons (.int .i64) (.cons (.int .i64) .nil)))) (.cons (.int .i64) .nil)) (.cons (.int .i64) .nil))),
  (89, (.slice (.slice (.int .i64)))),
  (92, (.arr 8 (.int .i64))),
  (93, (.arr 8 (.int .i64))),
  (96, (.slice .bool)),
  (110, (.cons (.int .i64) (.cons (.int .i64) (.cons (.int .i64) .nil)))),
  (111, (.cons (.int .i64) (.cons (.int .i64) (.cons (.int .i64) .nil)))),
  (133, (.int .u32)),
  (134, (.int .u8)),
  (135, (.int .u8)),
  (137, (.ptr (.int .u8))),
  (138, (.int .i32)),
  (139, (.int .i32))]
def ets : List (Nat × Nat) := [(22, 58), (23, 3), (26, 2), (51, 5), (69, 73), (89, 23), (96, 4)]
def mts : List (Nat × (Nat × Nat)) := [(119, (111, 3))]
theorem tab : tabB Go.Proofs.Try.prog tys ets mts = true := by decide +kernel
theorem xok {X : Ctx} (h1 : X.P = Go.Proofs.Try.prog) (h2 : X.T = tys) (h3 : X.ET = ets) (h4 : X.MT = mts) : XOK X := XOK.of_tab tab h1 h2 h3 h4
theorem fun118 : funB Go.Proofs.Try.prog 118 = true := by decide +kernel
end Go.Proofs.Ythiocglfgcnlhaa

namespace Go.Proofs.Ythiocglfgcnlhaa
open Go Go.RowKit Ox
variable {E : World} {M0 : Mem} {n : Nat} {rd : Option Nat} {up : Nat → Nat → Value} {dp : Nat} {QA : Exit → S → Prop} {st st' r : List Fr} {s s' : S} {cs : List Prop} {md : Bool} {all l : List Oper} {d : Nat} {op : Op} {ty : TypeId} {ps : String} {af : Array Edge} {g : Bool} {gg : Nat × Bool} {v : AV}
  {f : FuncId} {args : AV} {L : List (Nat × AV)} {H : List (Nat × HO)} {nx : Nat} {kt vt : Ty} {t kid vid : TypeId} {es : List (Ent kt vt)} {clk m : Nat} {x y : kt.den} {c1 c2 c3 : List Prop} {om ok ov : Operand}
theorem zs (h : stepC tys ets n false st s = some (cs, st', s')) (k : JK ⟨Go.Proofs.Try.prog, tys, ets, mts, E, M0, n, rd, up, dp⟩ st' QA s') (hc : allP cs := by (first | exact trivial | (try dsimp only [allP, inK, idxC, loC, lohiC, fullC, underG, List.append, List.nil_append, List.cons_append, Ty.den, Ty.dflt, Int.toNat_natCast, List.length_cons, List.length_nil] at *); first | omega | ((repeat' (first | exact trivial | assumption | refine And.intro ?_ ?_ | exact fun h => h | (intro hpk; first | exact hpk | simp only [wantB, hpk, Bool.not_false, Bool.not_true]))) <;> omega) | fail)) : JK ⟨Go.Proofs.Try.prog, tys, ets, mts, E, M0, n, rd, up, dp⟩ st QA s := JK.step (xok rfl rfl rfl rfl) h k hc
theorem zu (h : stepC tys ets n true st s = some (cs, st', s')) (k : JK ⟨Go.Proofs.Try.prog, tys, ets, mts, E, M0, n, rd, up, dp⟩ st' QA s') (hc : allP cs := by (first | exact trivial | (try dsimp only [allP, inK, idxC, loC, lohiC, fullC, underG, List.append, List.nil_append, List.cons_append, Ty.den, Ty.dflt, Int.toNat_natCast, List.length_cons, List.length_nil] at *); first | omega | ((repeat' (first | exact trivial | assumption | refine And.intro ?_ ?_ | exact fun h => h | (intro hpk; first | exact hpk | simp only [wantB, hpk, Bool.not_false, Bool.not_true]))) <;> omega) | fail)) : JK ⟨Go.Proofs.Try.prog, tys, ets, mts, E, M0, n, rd, up, dp⟩ st QA s := JK.step (xok rfl rfl rfl rfl) h k hc
theorem zg (hg : gOf all L (some gg) = some g) (h : evb tys op ⟨L, H, nx⟩ = some (cs, v)) (hd : ltB d n = true) (k : JK ⟨Go.Proofs.Try.prog, tys, ets, mts, E, M0, n, rd, up, dp⟩ (.ops md all l :: r) QA ⟨(d, .gd g v) :: L, H, nx⟩)
    (hc : g = true → allP cs := by (first | (exact fun _ => trivial) | (exact fun hgd => hgd) | (intro hgd; first | exact trivial | exact hgd | (have hge := hgd; (try simp only [wantB, Bool.not_not, Bool.not_eq_true', decide_eq_true_eq, decide_eq_false_iff_not, beq_iff_eq, bne_iff_ne, bne_eq_false_iff_eq, ne_eq, beq_eq_false_iff_ne] at hge); (try dsimp only [allP, inK, idxC, loC, lohiC, fullC, underG, List.append, List.nil_append, List.cons_append, Ty.den, Ty.dflt, Int.toNat_natCast, List.length_cons, List.length_nil] at *); first | omega | ((repeat' (first | exact hgd | exact trivial | refine And.intro ?_ ?_)) <;> omega) | ((repeat' (first | exact trivial | assumption | refine And.intro ?_ ?_ | exact fun h => h | (intro hpk; first | exact hpk | simp only [wantB, hpk, Bool.not_false, Bool.not_true]))) <;> omega) | fail)) | (exact fun hgd => And.intro hgd (fun hpk => Bool.and_eq_true_iff.2 ⟨hgd, by rw [hpk]; rfl⟩)) | (intro hgd; have hge := hgd; simp only [wantB, Bool.and_eq_true, Bool.or_eq_true, Bool.not_not, Bool.not_eq_true', decide_eq_true_eq, decide_eq_false_iff_not, beq_iff_eq, bne_iff_ne, bne_eq_false_iff_eq, ne_eq, beq_eq_false_iff_ne] at hge; (try dsimp only [allP, inK, idxC, loC, lohiC, fullC, underG, List.append, List.nil_append, List.cons_append, Ty.den, Ty.dflt, Int.toNat_natCast, List.length_cons, List.length_nil] at *); first | omega | ((repeat' (first | exact trivial | assumption | refine And.intro ?_ ?_)) <;> omega)))) :
    JK ⟨Go.Proofs.Try.prog, tys, ets, mts, E, M0, n, rd, up, dp⟩ (.ops md all (⟨some d, op, ty, ps, af, some gg⟩ :: l) :: r) QA ⟨L, H, nx⟩ := JK.gd (xok rfl rfl rfl rfl) hg h hd k hc
theorem zd {id : Nat} {ops : List Oper} (k : JK ⟨Go.Proofs.Try.prog, tys, ets, mts, E, M0, n, rd, up, dp⟩ (.ops false ops ops :: r) QA s) (hB : (Region.lexB .any ops.toArray && ndAll ops) = true := by decide +kernel) : JK ⟨Go.Proofs.Try.prog, tys, ets, mts, E, M0, n, rd, up, dp⟩ (.code (.region id ⟨ops⟩ true) :: r) QA s := JK.draw (xok rfl rfl rfl rfl) k hB
theorem zc (h : callA tys op ⟨L, H, nx⟩ = some (cs, f, args)) (hf : Ox.Fn Go.Proofs.Try.prog f args (· = v)) (hr : v.scal = true) (hd : ltB d n = true) (k : JK ⟨Go.Proofs.Try.prog, tys, ets, mts, E, M0, n, rd, up, dp⟩ (.ops md all l :: r) QA ⟨(d, v) :: L, H, nx⟩) (hc : allP cs := by (first | exact trivial | (try dsimp only [allP, inK, idxC, loC, lohiC, fullC, underG, List.append, List.nil_append, List.cons_append, Ty.den, Ty.dflt, Int.toNat_natCast, List.length_cons, List.length_nil] at *); first | omega | ((repeat' (first | exact trivial | assumption | refine And.intro ?_ ?_ | exact fun h => h | (intro hpk; first | exact hpk | simp only [wantB, hpk, Bool.not_false, Bool.not_true]))) <;> omega) | fail)) :
    JK ⟨Go.Proofs.Try.prog, tys, ets, mts, E, M0, n, rd, up, dp⟩ (.ops md all (⟨some d, op, ty, ps, af, none⟩ :: l) :: r) QA ⟨L, H, nx⟩ := JK.sc h hf hr hd k hc
theorem zk (hg : gOf all L (some gg) = some g) (h : callA tys op ⟨L, H, nx⟩ = some (cs, f, args)) (hf : g = true → Ox.Fn Go.Proofs.Try.prog f args (· = v)) (hr : v.scal = true) (hd : ltB d n = true) (k : JK ⟨Go.Proofs.Try.prog, tys, ets, mts, E, M0, n, rd, up, dp⟩ (.ops md all l :: r) QA ⟨(d, .gd g v) :: L, H, nx⟩)
    (hc : g = true → allP cs := by (first | (exact fun _ => trivial) | (exact fun hgd => hgd) | (intro hgd; first | exact trivial | exact hgd | (have hge := hgd; (try simp only [wantB, Bool.not_not, Bool.not_eq_true', decide_eq_true_eq, decide_eq_false_iff_not, beq_iff_eq, bne_iff_ne, bne_eq_false_iff_eq, ne_eq, beq_eq_false_iff_ne] at hge); (try dsimp only [allP, inK, idxC, loC, lohiC, fullC, underG, List.append, List.nil_append, List.cons_append, Ty.den, Ty.dflt, Int.toNat_natCast, List.length_cons, List.length_nil] at *); first | omega | ((repeat' (first | exact hgd | exact trivial | refine And.intro ?_ ?_)) <;> omega) | ((repeat' (first | exact trivial | assumption | refine And.intro ?_ ?_ | exact fun h => h | (intro hpk; first | exact hpk | simp only [wantB, hpk, Bool.not_false, Bool.not_true]))) <;> omega) | fail)) | (intro hgd; have hge := hgd; simp only [wantB, Bool.and_eq_true, Bool.or_eq_true, Bool.not_not, Bool.not_eq_true', decide_eq_true_eq, decide_eq_false_iff_not, beq_iff_eq, bne_iff_ne, bne_eq_false_iff_eq, ne_eq, beq_eq_false_iff_ne] at hge; (try dsimp only [allP, inK, idxC, loC, lohiC, fullC, underG, List.append, List.nil_append, List.cons_append, Ty.den, Ty.dflt, Int.toNat_natCast, List.length_cons, List.length_nil] at *); first | omega | ((repeat' (first | exact trivial | assumption | refine And.intro ?_ ?_)) <;> omega)))) : JK ⟨Go.Proofs.Try.prog, tys, ets, mts, E, M0, n, rd, up, dp⟩ (.ops md all (⟨some d, op, ty, ps, af, some gg⟩ :: l) :: r) QA ⟨L, H, nx⟩ := JK.scg hg h hf hr hd k hc
theorem ze (h : callA tys op ⟨L, [], nx⟩ = some (cs, f, args)) (hf : Ox.Fn Go.Proofs.Try.prog f args (· = v)) (hd : ltB d n = true) (k : JK ⟨Go.Proofs.Try.prog, tys, ets, mts, E, M0, n, rd, up, dp⟩ (.ops true all l :: r) QA ⟨(d, v) :: L, H, nx⟩) (hc : allP cs := by (first | exact trivial | (try dsimp only [allP, inK, idxC, loC, lohiC, fullC, underG, List.append, List.nil_append, List.cons_append, Ty.den, Ty.dflt, Int.toNat_natCast, List.length_cons, List.length_nil] at *); first | omega | ((repeat' (first | exact trivial | assumption | refine And.intro ?_ ?_ | exact fun h => h | (intro hpk; first | exact hpk | simp only [wantB, hpk, Bool.not_false, Bool.not_true]))) <;> omega) | fail)) :
    JK ⟨Go.Proofs.Try.prog, tys, ets, mts, E, M0, n, rd, up, dp⟩ (.ops true all (⟨some d, op, ty, ps, af, none⟩ :: l) :: r) QA ⟨L, H, nx⟩ := JK.ce h hf hd k hc
theorem zt (hg : gOf all L (some gg) = some g) (hgt : g = true) {dd : Option Nat} (k : JK ⟨Go.Proofs.Try.prog, tys, ets, mts, E, M0, n, rd, up, dp⟩ (.ops true all (⟨dd, op, ty, ps, af, none⟩ :: l) :: r) QA ⟨L, H, nx⟩) : JK ⟨Go.Proofs.Try.prog, tys, ets, mts, E, M0, n, rd, up, dp⟩ (.ops true all (⟨dd, op, ty, ps, af, some gg⟩ :: l) :: r) QA ⟨L, H, nx⟩ := JK.gT hg hgt k
theorem zfl (hg : gOf all L (some gg) = some g) (hgf : g = false) (hd : ltB d n = true) (k : JK ⟨Go.Proofs.Try.prog, tys, ets, mts, E, M0, n, rd, up, dp⟩ (.ops true all l :: r) QA ⟨(d, .undef) :: L, H, nx⟩) : JK ⟨Go.Proofs.Try.prog, tys, ets, mts, E, M0, n, rd, up, dp⟩ (.ops true all (⟨some d, op, ty, ps, af, some gg⟩ :: l) :: r) QA ⟨L, H, nx⟩ := JK.gF hg hgf hd k
theorem znf (k : JK ⟨Go.Proofs.Try.prog, tys, ets, mts, E, M0, n, rd, up, dp⟩ (.ops true all l :: r) QA ⟨del L d, H, nx⟩) : JK ⟨Go.Proofs.Try.prog, tys, ets, mts, E, M0, n, rd, up, dp⟩ (.ops true all (⟨some d, .assign (.const .nilFunc), ty, ps, af, none⟩ :: l) :: r) QA ⟨L, H, nx⟩ := JK.nilF k
theorem zif {x : Operand} {c d : Code} {b : Bool} (hb : opB s.L x = some b) (ht : b = true → JK ⟨Go.Proofs.Try.prog, tys, ets, mts, E, M0, n, rd, up, dp⟩ (.code c :: r) QA s) (hf : b = false → JK ⟨Go.Proofs.Try.prog, tys, ets, mts, E, M0, n, rd, up, dp⟩ (.code d :: r) QA s) : JK ⟨Go.Proofs.Try.prog, tys, ets, mts, E, M0, n, rd, up, dp⟩ (.code (.cond x c d) :: r) QA s := JK.cond hb ht hf
/-! Maps and comparisons. -/
theorem zml (hT : MapT Go.Proofs.Try.prog kt vt t kid vid) (hu : opd L om = some (c1, .lf (.mp m))) (hl : lk H m = some (.map kt vt es clk)) (hv : opd L ok = some (c2, .val kt x)) (hd : ltB d n = true)
    (k : JK ⟨Go.Proofs.Try.prog, tys, ets, mts, E, M0, n, rd, up, dp⟩ (.ops true all l :: r) QA ⟨(d, .val vt (mGet es x vt.dflt)) :: L, H, nx⟩) (hc : allP (c1 ++ c2) := by (first | exact trivial | (try dsimp only [allP, inK, idxC, loC, lohiC, fullC, underG, List.append, List.nil_append, List.cons_append, Ty.den, Ty.dflt, Int.toNat_natCast, List.length_cons, List.length_nil] at *); first | omega | ((repeat' (first | exact trivial | assumption | refine And.intro ?_ ?_ | exact fun h => h | (intro hpk; first | exact hpk | simp only [wantB, hpk, Bool.not_false, Bool.not_true]))) <;> omega) | fail)) : JK ⟨Go.Proofs.Try.prog, tys, ets, mts, E, M0, n, rd, up, dp⟩ (.ops true all (⟨some d, .lookup t om ok false, ty, ps, af, none⟩ :: l) :: r) QA ⟨L, H, nx⟩ := JL.mLook (X := ⟨Go.Proofs.Try.prog, tys, ets, mts, E, M0, n, rd, up, dp⟩)  hT hu hl hv hd hc k
theorem zmi (hT : MapT Go.Proofs.Try.prog kt vt t kid vid) (hu : opd L om = some (c1, .lf (.mp m))) (hl : lk H m = some (.map kt vt es clk)) (hv : opd L ok = some (c2, .val kt x)) {y : vt.den} (hy : opd L ov = some (c3, .val vt y))
    (k : JK ⟨Go.Proofs.Try.prog, tys, ets, mts, E, M0, n, rd, up, dp⟩ (.ops true all l :: r) QA ⟨L, updH H m (.map kt vt (mPut es clk x y) (mClk es clk x)), nx⟩) (hc : allP (c1 ++ (c2 ++ c3)) := by (first | exact trivial | (try dsimp only [allP, inK, idxC, loC, lohiC, fullC, underG, List.append, List.nil_append, List.cons_append, Ty.den, Ty.dflt, Int.toNat_natCast, List.length_cons, List.length_nil] at *); first | omega | ((repeat' (first | exact trivial | assumption | refine And.intro ?_ ?_ | exact fun h => h | (intro hpk; first | exact hpk | simp only [wantB, hpk, Bool.not_false, Bool.not_true]))) <;> omega) | fail)) : JK ⟨Go.Proofs.Try.prog, tys, ets, mts, E, M0, n, rd, up, dp⟩ (.ops true all (⟨none, .insert t om ok ov, ty, ps, af, none⟩ :: l) :: r) QA ⟨L, H, nx⟩ := JL.mIns (X := ⟨Go.Proofs.Try.prog, tys, ets, mts, E, M0, n, rd, up, dp⟩)  hT hu hl hv hy hc k
theorem zmu (hT : MapT Go.Proofs.Try.prog kt vt t kid vid) (hu : opd L om = some (c1, .lf (.mp m))) (hl : lk H m = some (.map kt vt es clk)) (hv : opd L ok = some (c2, .val kt x)) {y : vt.den} (hy : opd L ov = some (c3, .val vt y))
    (k : JK ⟨Go.Proofs.Try.prog, tys, ets, mts, E, M0, n, rd, up, dp⟩ (.ops true all l :: r) QA ⟨L, updH H m (.map kt vt (mPut es clk x y) (mClk es clk x)), nx⟩) (hc : allP (c1 ++ (c2 ++ c3)) := by (first | exact trivial | (try dsimp only [allP, inK, idxC, loC, lohiC, fullC, underG, List.append, List.nil_append, List.cons_append, Ty.den, Ty.dflt, Int.toNat_natCast, List.length_cons, List.length_nil] at *); first | omega | ((repeat' (first | exact trivial | assumption | refine And.intro ?_ ?_ | exact fun h => h | (intro hpk; first | exact hpk | simp only [wantB, hpk, Bool.not_false, Bool.not_true]))) <;> omega) | fail)) : JK ⟨Go.Proofs.Try.prog, tys, ets, mts, E, M0, n, rd, up, dp⟩ (.ops true all (⟨none, .mapUpdate t om ok ov, ty, ps, af, none⟩ :: l) :: r) QA ⟨L, H, nx⟩ := JL.mUpd (X := ⟨Go.Proofs.Try.prog, tys, ets, mts, E, M0, n, rd, up, dp⟩)  hT hu hl hv hy hc k
theorem zmd (hT : MapT Go.Proofs.Try.prog kt vt t kid vid) {ta : TypeId} (hu : opd L om = some (c1, .lf (.mp m))) (hl : lk H m = some (.map kt vt es clk)) (hv : opd L ok = some (c2, .val kt x))
    (k : JK ⟨Go.Proofs.Try.prog, tys, ets, mts, E, M0, n, rd, up, dp⟩ (.ops true all l :: r) QA ⟨L, updH H m (.map kt vt (Ox.mDel es x) clk), nx⟩) (hc : allP (c1 ++ c2) := by (first | exact trivial | (try dsimp only [allP, inK, idxC, loC, lohiC, fullC, underG, List.append, List.nil_append, List.cons_append, Ty.den, Ty.dflt, Int.toNat_natCast, List.length_cons, List.length_nil] at *); first | omega | ((repeat' (first | exact trivial | assumption | refine And.intro ?_ ?_ | exact fun h => h | (intro hpk; first | exact hpk | simp only [wantB, hpk, Bool.not_false, Bool.not_true]))) <;> omega) | fail)) : JK ⟨Go.Proofs.Try.prog, tys, ets, mts, E, M0, n, rd, up, dp⟩ (.ops true all (⟨none, .call { callee := .builtin .delete, args := #[om, ok], argTypes := #[t, ta] }, ty, ps, af, none⟩ :: l) :: r) QA ⟨L, H, nx⟩ := JL.mDel (X := ⟨Go.Proofs.Try.prog, tys, ets, mts, E, M0, n, rd, up, dp⟩)  hT hu hl hv hc k
theorem zmr (hT : MapT Go.Proofs.Try.prog kt vt t kid vid) (hu : opd L om = some (c1, .lf (.mp m))) (hl : lk H m = some (.map kt vt es clk)) (hd : ltB d n = true)
    (k : JK ⟨Go.Proofs.Try.prog, tys, ets, mts, E, M0, n, rd, up, dp⟩ (.ops true all l :: r) QA ⟨(d, .lf (.itr nx)) :: L, (nx, .iter m clk [] clk) :: H, nx + 1⟩) (hc : allP c1 := by (first | exact trivial | (try dsimp only [allP, inK, idxC, loC, lohiC, fullC, underG, List.append, List.nil_append, List.cons_append, Ty.den, Ty.dflt, Int.toNat_natCast, List.length_cons, List.length_nil] at *); first | omega | ((repeat' (first | exact trivial | assumption | refine And.intro ?_ ?_ | exact fun h => h | (intro hpk; first | exact hpk | simp only [wantB, hpk, Bool.not_false, Bool.not_true]))) <;> omega) | fail)) : JK ⟨Go.Proofs.Try.prog, tys, ets, mts, E, M0, n, rd, up, dp⟩ (.ops true all (⟨some d, .range t om, ty, ps, af, none⟩ :: l) :: r) QA ⟨L, H, nx⟩ := JL.mRange (X := ⟨Go.Proofs.Try.prog, tys, ets, mts, E, M0, n, rd, up, dp⟩)  hT hu hl hd hc k
theorem zmm (hT : MapT Go.Proofs.Try.prog kt vt t kid vid) (hd : ltB d n = true)
    (k : JK ⟨Go.Proofs.Try.prog, tys, ets, mts, E, M0, n, rd, up, dp⟩ (.ops true all l :: r) QA ⟨(d, .lf (.mp nx)) :: L, (nx, .map kt vt [] 0) :: H, nx + 1⟩) : JK ⟨Go.Proofs.Try.prog, tys, ets, mts, E, M0, n, rd, up, dp⟩ (.ops true all (⟨some d, .makeMap t none, ty, ps, af, none⟩ :: l) :: r) QA ⟨L, H, nx⟩ := JL.mMake (X := ⟨Go.Proofs.Try.prog, tys, ets, mts, E, M0, n, rd, up, dp⟩)  hT hd k
theorem zeq (hK : EqT Go.Proofs.Try.prog kt t) (hu : opd L om = some (c1, .val kt x)) (hv : opd L ok = some (c2, .val kt y)) (hd : ltB d n = true) {tt : TypeId}
    (k : JK ⟨Go.Proofs.Try.prog, tys, ets, mts, E, M0, n, rd, up, dp⟩ (.ops md all l :: r) QA ⟨(d, .val .bool (kt.eqB x y)) :: L, H, nx⟩) (hc : allP (c1 ++ c2) := by (first | exact trivial | (try dsimp only [allP, inK, idxC, loC, lohiC, fullC, underG, List.append, List.nil_append, List.cons_append, Ty.den, Ty.dflt, Int.toNat_natCast, List.length_cons, List.length_nil] at *); first | omega | ((repeat' (first | exact trivial | assumption | refine And.intro ?_ ?_ | exact fun h => h | (intro hpk; first | exact hpk | simp only [wantB, hpk, Bool.not_false, Bool.not_true]))) <;> omega) | fail)) : JK ⟨Go.Proofs.Try.prog, tys, ets, mts, E, M0, n, rd, up, dp⟩ (.ops md all (⟨some d, .binOp .eql t om ok tt, ty, ps, af, none⟩ :: l) :: r) QA ⟨L, H, nx⟩ := JL.eqQ (X := ⟨Go.Proofs.Try.prog, tys, ets, mts, E, M0, n, rd, up, dp⟩)  hK.key hK.ag hK.gt hu hv hd hc k
theorem zne (hK : EqT Go.Proofs.Try.prog kt t) (hu : opd L om = some (c1, .val kt x)) (hv : opd L ok = some (c2, .val kt y)) (hd : ltB d n = true) {tt : TypeId}
    (k : JK ⟨Go.Proofs.Try.prog, tys, ets, mts, E, M0, n, rd, up, dp⟩ (.ops md all l :: r) QA ⟨(d, .val .bool (!kt.eqB x y)) :: L, H, nx⟩) (hc : allP (c1 ++ c2) := by (first | exact trivial | (try dsimp only [allP, inK, idxC, loC, lohiC, fullC, underG, List.append, List.nil_append, List.cons_append, Ty.den, Ty.dflt, Int.toNat_natCast, List.length_cons, List.length_nil] at *); first | omega | ((repeat' (first | exact trivial | assumption | refine And.intro ?_ ?_ | exact fun h => h | (intro hpk; first | exact hpk | simp only [wantB, hpk, Bool.not_false, Bool.not_true]))) <;> omega) | fail)) : JK ⟨Go.Proofs.Try.prog, tys, ets, mts, E, M0, n, rd, up, dp⟩ (.ops md all (⟨some d, .binOp .neq t om ok tt, ty, ps, af, none⟩ :: l) :: r) QA ⟨L, H, nx⟩ := JL.neQ (X := ⟨Go.Proofs.Try.prog, tys, ets, mts, E, M0, n, rd, up, dp⟩)  hK.key hK.ag hK.gt hu hv hd hc k
theorem zeqg {kt : Ty} {t : TypeId} {x y : kt.den} {c1 c2 : List Prop} {om ok : Operand} (hK : EqT Go.Proofs.Try.prog kt t) (hg : gOf all L (some gg) = some g) (hu : opd L om = some (c1, .val kt x)) (hv : opd L ok = some (c2, .val kt y)) (hd : ltB d n = true) {tt : TypeId}
    (k : JK ⟨Go.Proofs.Try.prog, tys, ets, mts, E, M0, n, rd, up, dp⟩ (.ops md all l :: r) QA ⟨(d, .gd g (.val .bool (kt.eqB x y))) :: L, H, nx⟩) (hc : g = true → allP (c1 ++ c2) := by (first | (exact fun _ => trivial) | (exact fun hgd => hgd) | (intro hgd; first | exact trivial | exact hgd | (have hge := hgd; (try simp only [wantB, Bool.not_not, Bool.not_eq_true', decide_eq_true_eq, decide_eq_false_iff_not, beq_iff_eq, bne_iff_ne, bne_eq_false_iff_eq, ne_eq, beq_eq_false_iff_ne] at hge); (try dsimp only [allP, inK, idxC, loC, lohiC, fullC, underG, List.append, List.nil_append, List.cons_append, Ty.den, Ty.dflt, Int.toNat_natCast, List.length_cons, List.length_nil] at *); first | omega | ((repeat' (first | exact hgd | exact trivial | refine And.intro ?_ ?_)) <;> omega) | ((repeat' (first | exact trivial | assumption | refine And.intro ?_ ?_ | exact fun h => h | (intro hpk; first | exact hpk | simp only [wantB, hpk, Bool.not_false, Bool.not_true]))) <;> omega) | fail)) | (intro hgd; have hge := hgd; simp only [wantB, Bool.and_eq_true, Bool.or_eq_true, Bool.not_not, Bool.not_eq_true', decide_eq_true_eq, decide_eq_false_iff_not, beq_iff_eq, bne_iff_ne, bne_eq_false_iff_eq, ne_eq, beq_eq_false_iff_ne] at hge; (try dsimp only [allP, inK, idxC, loC, lohiC, fullC, underG, List.append, List.nil_append, List.cons_append, Ty.den, Ty.dflt, Int.toNat_natCast, List.length_cons, List.length_nil] at *); first | omega | ((repeat' (first | exact trivial | assumption | refine And.intro ?_ ?_)) <;> omega)))) : JK ⟨Go.Proofs.Try.prog, tys, ets, mts, E, M0, n, rd, up, dp⟩ (.ops md all (⟨some d, .binOp .eql t om ok tt, ty, ps, af, some gg⟩ :: l) :: r) QA ⟨L, H, nx⟩ := JK.eqQg (X := ⟨Go.Proofs.Try.prog, tys, ets, mts, E, M0, n, rd, up, dp⟩) hK hg hu hv hd hc k
theorem zneg {kt : Ty} {t : TypeId} {x y : kt.den} {c1 c2 : List Prop} {om ok : Operand} (hK : EqT Go.Proofs.Try.prog kt t) (hg : gOf all L (some gg) = some g) (hu : opd L om = some (c1, .val kt x)) (hv : opd L ok = some (c2, .val kt y)) (hd : ltB d n = true) {tt : TypeId}
    (k : JK ⟨Go.Proofs.Try.prog, tys, ets, mts, E, M0, n, rd, up, dp⟩ (.ops md all l :: r) QA ⟨(d, .gd g (.val .bool (!kt.eqB x y))) :: L, H, nx⟩) (hc : g = true → allP (c1 ++ c2) := by (first | (exact fun _ => trivial) | (exact fun hgd => hgd) | (intro hgd; first | exact trivial | exact hgd | (have hge := hgd; (try simp only [wantB, Bool.not_not, Bool.not_eq_true', decide_eq_true_eq, decide_eq_false_iff_not, beq_iff_eq, bne_iff_ne, bne_eq_false_iff_eq, ne_eq, beq_eq_false_iff_ne] at hge); (try dsimp only [allP, inK, idxC, loC, lohiC, fullC, underG, List.append, List.nil_append, List.cons_append, Ty.den, Ty.dflt, Int.toNat_natCast, List.length_cons, List.length_nil] at *); first | omega | ((repeat' (first | exact hgd | exact trivial | refine And.intro ?_ ?_)) <;> omega) | ((repeat' (first | exact trivial | assumption | refine And.intro ?_ ?_ | exact fun h => h | (intro hpk; first | exact hpk | simp only [wantB, hpk, Bool.not_false, Bool.not_true]))) <;> omega) | fail)) | (intro hgd; have hge := hgd; simp only [wantB, Bool.and_eq_true, Bool.or_eq_true, Bool.not_not, Bool.not_eq_true', decide_eq_true_eq, decide_eq_false_iff_not, beq_iff_eq, bne_iff_ne, bne_eq_false_iff_eq, ne_eq, beq_eq_false_iff_ne] at hge; (try dsimp only [allP, inK, idxC, loC, lohiC, fullC, underG, List.append, List.nil_append, List.cons_append, Ty.den, Ty.dflt, Int.toNat_natCast, List.length_cons, List.length_nil] at *); first | omega | ((repeat' (first | exact trivial | assumption | refine And.intro ?_ ?_)) <;> omega)))) : JK ⟨Go.Proofs.Try.prog, tys, ets, mts, E, M0, n, rd, up, dp⟩ (.ops md all (⟨some d, .binOp .neq t om ok tt, ty, ps, af, some gg⟩ :: l) :: r) QA ⟨L, H, nx⟩ := JK.neQg (X := ⟨Go.Proofs.Try.prog, tys, ets, mts, E, M0, n, rd, up, dp⟩) hK hg hu hv hd hc k
/-! Variables that are functions; whether a map has a key. -/
theorem zlf {x : Operand} {ty2 : TypeId} {ps2 : String} {af2 : Array Edge} (hF : funB Go.Proofs.Try.prog t = true) (hu : opd (del L d) x = some (cs, v)) (hv : v.fnB = true) (hd : ltB d n = true) (k : JK ⟨Go.Proofs.Try.prog, tys, ets, mts, E, M0, n, rd, up, dp⟩ (.ops true all l :: r) QA ⟨(d, .pfn v) :: L, H, nx⟩) (hc : allP cs := by (first | exact trivial | (try dsimp only [allP, inK, idxC, loC, lohiC, fullC, underG, List.append, List.nil_append, List.cons_append, Ty.den, Ty.dflt, Int.toNat_natCast, List.length_cons, List.length_nil] at *); first | omega | ((repeat' (first | exact trivial | assumption | refine And.intro ?_ ?_ | exact fun h => h | (intro hpk; first | exact hpk | simp only [wantB, hpk, Bool.not_false, Bool.not_true]))) <;> omega) | fail)) :
    JK ⟨Go.Proofs.Try.prog, tys, ets, mts, E, M0, n, rd, up, dp⟩ (.ops true all (⟨some d, .alloc t, ty, ps, af, none⟩ :: ⟨none, .store t (.tmp d) x, ty2, ps2, af2, none⟩ :: l) :: r) QA ⟨L, H, nx⟩ := JK.layF (X := ⟨Go.Proofs.Try.prog, tys, ets, mts, E, M0, n, rd, up, dp⟩) hF hu hv hd hc k
theorem zdf {x : Operand} (hF : funB Go.Proofs.Try.prog t = true) (hu : opd L x = some (cs, .pfn v)) (hd : ltB d n = true) (k : JK ⟨Go.Proofs.Try.prog, tys, ets, mts, E, M0, n, rd, up, dp⟩ (.ops md all l :: r) QA ⟨(d, v) :: L, H, nx⟩) (hc : allP cs := by (first | exact trivial | (try dsimp only [allP, inK, idxC, loC, lohiC, fullC, underG, List.append, List.nil_append, List.cons_append, Ty.den, Ty.dflt, Int.toNat_natCast, List.length_cons, List.length_nil] at *); first | omega | ((repeat' (first | exact trivial | assumption | refine And.intro ?_ ?_ | exact fun h => h | (intro hpk; first | exact hpk | simp only [wantB, hpk, Bool.not_false, Bool.not_true]))) <;> omega) | fail)) :
    JK ⟨Go.Proofs.Try.prog, tys, ets, mts, E, M0, n, rd, up, dp⟩ (.ops md all (⟨some d, .load t x, ty, ps, af, none⟩ :: l) :: r) QA ⟨L, H, nx⟩ := JK.ldF (X := ⟨Go.Proofs.Try.prog, tys, ets, mts, E, M0, n, rd, up, dp⟩) hF hu hd hc k
theorem zdg {x : Operand} (hF : funB Go.Proofs.Try.prog t = true) (hg : gOf all L (some gg) = some g) (hu : opd L x = some (cs, .pfn v)) (hd : ltB d n = true) (k : JK ⟨Go.Proofs.Try.prog, tys, ets, mts, E, M0, n, rd, up, dp⟩ (.ops md all l :: r) QA ⟨(d, .gd g v) :: L, H, nx⟩) (hc : g = true → allP cs := by (first | (exact fun _ => trivial) | (exact fun hgd => hgd) | (intro hgd; first | exact trivial | exact hgd | (have hge := hgd; (try simp only [wantB, Bool.not_not, Bool.not_eq_true', decide_eq_true_eq, decide_eq_false_iff_not, beq_iff_eq, bne_iff_ne, bne_eq_false_iff_eq, ne_eq, beq_eq_false_iff_ne] at hge); (try dsimp only [allP, inK, idxC, loC, lohiC, fullC, underG, List.append, List.nil_append, List.cons_append, Ty.den, Ty.dflt, Int.toNat_natCast, List.length_cons, List.length_nil] at *); first | omega | ((repeat' (first | exact hgd | exact trivial | refine And.intro ?_ ?_)) <;> omega) | ((repeat' (first | exact trivial | assumption | refine And.intro ?_ ?_ | exact fun h => h | (intro hpk; first | exact hpk | simp only [wantB, hpk, Bool.not_false, Bool.not_true]))) <;> omega) | fail)) | (intro hgd; have hge := hgd; simp only [wantB, Bool.and_eq_true, Bool.or_eq_true, Bool.not_not, Bool.not_eq_true', decide_eq_true_eq, decide_eq_false_iff_not, beq_iff_eq, bne_iff_ne, bne_eq_false_iff_eq, ne_eq, beq_eq_false_iff_ne] at hge; (try dsimp only [allP, inK, idxC, loC, lohiC, fullC, underG, List.append, List.nil_append, List.cons_append, Ty.den, Ty.dflt, Int.toNat_natCast, List.length_cons, List.length_nil] at *); first | omega | ((repeat' (first | exact trivial | assumption | refine And.intro ?_ ?_)) <;> omega)))) :
    JK ⟨Go.Proofs.Try.prog, tys, ets, mts, E, M0, n, rd, up, dp⟩ (.ops md all (⟨some d, .load t x, ty, ps, af, some gg⟩ :: l) :: r) QA ⟨L, H, nx⟩ := JK.ldFg (X := ⟨Go.Proofs.Try.prog, tys, ets, mts, E, M0, n, rd, up, dp⟩) hF hg hu hd hc k
theorem zlm {x : Operand} {ty2 : TypeId} {ps2 : String} {af2 : Array Edge} (hF : mapB Go.Proofs.Try.prog t = true) (hu : opd (del L d) x = some (cs, v)) (hv : v.mpB = true) (hd : ltB d n = true) (k : JK ⟨Go.Proofs.Try.prog, tys, ets, mts, E, M0, n, rd, up, dp⟩ (.ops true all l :: r) QA ⟨(d, .pfn v) :: L, H, nx⟩) (hc : allP cs := by (first | exact trivial | (try dsimp only [allP, inK, idxC, loC, lohiC, fullC, underG, List.append, List.nil_append, List.cons_append, Ty.den, Ty.dflt, Int.toNat_natCast, List.length_cons, List.length_nil] at *); first | omega | ((repeat' (first | exact trivial | assumption | refine And.intro ?_ ?_ | exact fun h => h | (intro hpk; first | exact hpk | simp only [wantB, hpk, Bool.not_false, Bool.not_true]))) <;> omega) | fail)) :
    JK ⟨Go.Proofs.Try.prog, tys, ets, mts, E, M0, n, rd, up, dp⟩ (.ops true all (⟨some d, .alloc t, ty, ps, af, none⟩ :: ⟨none, .store t (.tmp d) x, ty2, ps2, af2, none⟩ :: l) :: r) QA ⟨L, H, nx⟩ := JK.layM (X := ⟨Go.Proofs.Try.prog, tys, ets, mts, E, M0, n, rd, up, dp⟩) hF hu hv hd hc k
theorem zdm {x : Operand} (hF : mapB Go.Proofs.Try.prog t = true) (hu : opd L x = some (cs, .pfn v)) (hd : ltB d n = true) (k : JK ⟨Go.Proofs.Try.prog, tys, ets, mts, E, M0, n, rd, up, dp⟩ (.ops md all l :: r) QA ⟨(d, v) :: L, H, nx⟩) (hc : allP cs := by (first | exact trivial | (try dsimp only [allP, inK, idxC, loC, lohiC, fullC, underG, List.append, List.nil_append, List.cons_append, Ty.den, Ty.dflt, Int.toNat_natCast, List.length_cons, List.length_nil] at *); first | omega | ((repeat' (first | exact trivial | assumption | refine And.intro ?_ ?_ | exact fun h => h | (intro hpk; first | exact hpk | simp only [wantB, hpk, Bool.not_false, Bool.not_true]))) <;> omega) | fail)) :
    JK ⟨Go.Proofs.Try.prog, tys, ets, mts, E, M0, n, rd, up, dp⟩ (.ops md all (⟨some d, .load t x, ty, ps, af, none⟩ :: l) :: r) QA ⟨L, H, nx⟩ := JK.ldM (X := ⟨Go.Proofs.Try.prog, tys, ets, mts, E, M0, n, rd, up, dp⟩) hF hu hd hc k
theorem zdn {x : Operand} (hF : mapB Go.Proofs.Try.prog t = true) (hg : gOf all L (some gg) = some g) (hu : opd L x = some (cs, .pfn v)) (hd : ltB d n = true) (k : JK ⟨Go.Proofs.Try.prog, tys, ets, mts, E, M0, n, rd, up, dp⟩ (.ops md all l :: r) QA ⟨(d, .gd g v) :: L, H, nx⟩) (hc : g = true → allP cs := by (first | (exact fun _ => trivial) | (exact fun hgd => hgd) | (intro hgd; first | exact trivial | exact hgd | (have hge := hgd; (try simp only [wantB, Bool.not_not, Bool.not_eq_true', decide_eq_true_eq, decide_eq_false_iff_not, beq_iff_eq, bne_iff_ne, bne_eq_false_iff_eq, ne_eq, beq_eq_false_iff_ne] at hge); (try dsimp only [allP, inK, idxC, loC, lohiC, fullC, underG, List.append, List.nil_append, List.cons_append, Ty.den, Ty.dflt, Int.toNat_natCast, List.length_cons, List.length_nil] at *); first | omega | ((repeat' (first | exact hgd | exact trivial | refine And.intro ?_ ?_)) <;> omega) | ((repeat' (first | exact trivial | assumption | refine And.intro ?_ ?_ | exact fun h => h | (intro hpk; first | exact hpk | simp only [wantB, hpk, Bool.not_false, Bool.not_true]))) <;> omega) | fail)) | (intro hgd; have hge := hgd; simp only [wantB, Bool.and_eq_true, Bool.or_eq_true, Bool.not_not, Bool.not_eq_true', decide_eq_true_eq, decide_eq_false_iff_not, beq_iff_eq, bne_iff_ne, bne_eq_false_iff_eq, ne_eq, beq_eq_false_iff_ne] at hge; (try dsimp only [allP, inK, idxC, loC, lohiC, fullC, underG, List.append, List.nil_append, List.cons_append, Ty.den, Ty.dflt, Int.toNat_natCast, List.length_cons, List.length_nil] at *); first | omega | ((repeat' (first | exact trivial | assumption | refine And.intro ?_ ?_)) <;> omega)))) :
    JK ⟨Go.Proofs.Try.prog, tys, ets, mts, E, M0, n, rd, up, dp⟩ (.ops md all (⟨some d, .load t x, ty, ps, af, some gg⟩ :: l) :: r) QA ⟨L, H, nx⟩ := JK.ldMg (X := ⟨Go.Proofs.Try.prog, tys, ets, mts, E, M0, n, rd, up, dp⟩) hF hg hu hd hc k
theorem zmo (hT : MapT Go.Proofs.Try.prog kt vt t kid vid) (hu : opd L om = some (c1, .lf (.mp m))) (hl : lk H m = some (.map kt vt es clk)) (hv : opd L ok = some (c2, .val kt x)) (hd : ltB d n = true)
    (k : JK ⟨Go.Proofs.Try.prog, tys, ets, mts, E, M0, n, rd, up, dp⟩ (.ops true all l :: r) QA ⟨(d, .tup (.acons (.val vt (mGet es x vt.dflt)) (.acons (.val .bool (mHas es x)) .anil))) :: L, H, nx⟩) (hc : allP (c1 ++ c2) := by (first | exact trivial | (try dsimp only [allP, inK, idxC, loC, lohiC, fullC, underG, List.append, List.nil_append, List.cons_append, Ty.den, Ty.dflt, Int.toNat_natCast, List.length_cons, List.length_nil] at *); first | omega | ((repeat' (first | exact trivial | assumption | refine And.intro ?_ ?_ | exact fun h => h | (intro hpk; first | exact hpk | simp only [wantB, hpk, Bool.not_false, Bool.not_true]))) <;> omega) | fail)) :
    JK ⟨Go.Proofs.Try.prog, tys, ets, mts, E, M0, n, rd, up, dp⟩ (.ops true all (⟨some d, .lookup t om ok true, ty, ps, af, none⟩ :: l) :: r) QA ⟨L, H, nx⟩ := JK.mLookOk (X := ⟨Go.Proofs.Try.prog, tys, ets, mts, E, M0, n, rd, up, dp⟩) hT hu hl hv hd k hc
end Go.Proofs.Ythiocglfgcnlhaa

namespace Ox.Two

/-- Evidence: one or the other holds. -/
abbrev Ev := List (Int × Int × Unit)
def isSay (n : Nat) (s : Int) : Prop := (1 ≤ s ∧ s ≤ n) ∨ (-(n : Int) ≤ s ∧ s ≤ -1)
def valid (n : Nat) (ev : Ev) : Prop := ∀ x ∈ ev, isSay n x.1 ∧ isSay n x.2.1
def holds (v : Nat → Bool) (s : Int) : Bool := if s < 0 then !v (-1 - s).toNat else v (s - 1).toNat
def Sat (ev : Ev) (v : Nat → Bool) : Prop := ∀ x ∈ ev, holds v x.1 = true ∨ holds v x.2.1 = true
def Step (ev : Ev) (a b : Int) : Prop := ∃ x ∈ ev, (x.1 = -a ∧ x.2.1 = b) ∨ (x.2.1 = -a ∧ x.1 = b)
/-- Chains, by their length. -/
inductive Ch (ev : Ev) : Nat → Int → Int → Prop
  | nil (a : Int) : Ch ev 0 a a
  | snoc {k : Nat} {a b c : Int} : Ch ev k a b → Step ev b c → Ch ev (k + 1) a c
def Reach (ev : Ev) (a b : Int) : Prop := ∃ k, Ch ev k a b

theorem isSay.neg {n : Nat} {s : Int} (h : isSay n s) : isSay n (-s) := by unfold isSay at *; omega
theorem isSay.ne {n : Nat} {s : Int} (h : isSay n s) : s ≠ 0 := by unfold isSay at h; omega
theorem Step.skew {ev : Ev} {a b : Int} (h : Step ev a b) : Step ev (-b) (-a) := by
  obtain ⟨x, hx, h | h⟩ := h
  · exact ⟨x, hx, .inr ⟨by omega, h.1⟩⟩
  · exact ⟨x, hx, .inl ⟨by omega, h.1⟩⟩
theorem Step.say {n : Nat} {ev : Ev} (hv : valid n ev) {a b : Int} (h : Step ev a b) : isSay n a ∧ isSay n b := by
  obtain ⟨x, hx, h | h⟩ := h
  · have := hv x hx; rw [h.1, h.2] at this; exact ⟨by have := this.1.neg; rwa [Int.neg_neg] at this, this.2⟩
  · have := hv x hx; rw [h.1, h.2] at this; exact ⟨by have := this.2.neg; rwa [Int.neg_neg] at this, this.1⟩
theorem Ch.cons {ev : Ev} {a b : Int} (h : Step ev a b) : ∀ {k : Nat} {c : Int}, Ch ev k b c → Ch ev (k + 1) a c
  | _, _, .nil _ => .snoc (.nil a) h
  | _, _, .snoc h1 h2 => .snoc (Ch.cons h h1) h2
theorem Ch.trans {ev : Ev} {a b c : Int} {k : Nat} (h : Ch ev k a b) : ∀ {m : Nat}, Ch ev m b c → Ch ev (k + m) a c
  | _, .nil _ => h
  | _, .snoc h1 h2 => .snoc (Ch.trans h h1) h2
theorem Ch.skew {ev : Ev} {a : Int} : ∀ {k : Nat} {b : Int}, Ch ev k a b → Ch ev k (-b) (-a)
  | _, _, .nil _ => .nil _
  | _, _, .snoc h1 h2 => Ch.cons h2.skew (Ch.skew h1)
theorem Ch.say {n : Nat} {ev : Ev} (hv : valid n ev) {a : Int} (ha : isSay n a) : ∀ {k : Nat} {b : Int}, Ch ev k a b → isSay n b
  | _, _, .nil _ => ha
  | _, _, .snoc _ h2 => (h2.say hv).2
theorem Reach.refl (ev : Ev) (a : Int) : Reach ev a a := ⟨0, .nil a⟩
theorem Reach.trans {ev : Ev} {a b c : Int} (h : Reach ev a b) (k : Reach ev b c) : Reach ev a c := by
  obtain ⟨i, h⟩ := h; obtain ⟨j, k⟩ := k; exact ⟨i + j, h.trans k⟩
theorem Reach.skew {ev : Ev} {a b : Int} (h : Reach ev a b) : Reach ev (-b) (-a) := by
  obtain ⟨i, h⟩ := h; exact ⟨i, h.skew⟩
theorem Reach.snoc {ev : Ev} {a b c : Int} (h : Reach ev a b) (k : Step ev b c) : Reach ev a c := by
  obtain ⟨i, h⟩ := h; exact ⟨i + 1, h.snoc k⟩

theorem holds_neg {n : Nat} (v : Nat → Bool) {s : Int} (h : isSay n s) : holds v (-s) = !holds v s := by
  unfold holds
  unfold isSay at h
  by_cases hs : s < 0
  · rw [if_neg (by omega), if_pos hs, Bool.not_not]; congr 1; omega
  · rw [if_pos (by omega), if_neg hs]; congr 2; omega
theorem Sat.step {n : Nat} {ev : Ev} {v : Nat → Bool} (hv : valid n ev) (h : Sat ev v) {a b : Int} (hs : Step ev a b) (ha : holds v a = true) : holds v b = true := by
  have hsa := (hs.say hv).1
  have hn := holds_neg v hsa
  rw [ha] at hn
  obtain ⟨x, hx, e | e⟩ := hs
  · have := h x hx
    rw [e.1, e.2, hn] at this
    simpa using this
  · have := h x hx
    rw [e.1, e.2, hn] at this
    simpa using this
theorem Sat.reach {n : Nat} {ev : Ev} {v : Nat → Bool} (hv : valid n ev) (h : Sat ev v) {a : Int} (ha : holds v a = true) : ∀ {k : Nat} {b : Int}, Ch ev k a b → holds v b = true
  | _, _, .nil _ => ha
  | _, _, .snoc h1 h2 => h.step hv h2 (Sat.reach hv h ha h1)
theorem Sat.of_step {n : Nat} {ev : Ev} {v : Nat → Bool} (hv : valid n ev) (h : ∀ a b, Step ev a b → holds v a = true → holds v b = true) : Sat ev v := by
  intro x hx
  cases h1 : holds v x.1 with
  | true => exact .inl rfl
  | false =>
    have hn := holds_neg v (hv x hx).1
    rw [h1] at hn
    exact .inr (h (-x.1) x.2.1 ⟨x, hx, .inl ⟨by omega, rfl⟩⟩ hn)

/-- A claim whose sayings follow from each other. -/
def Clash (n : Nat) (ev : Ev) : Prop := ∃ k : Nat, k < n ∧ Reach ev ((k : Int) + 1) (-((k : Int) + 1)) ∧ Reach ev (-((k : Int) + 1)) ((k : Int) + 1)
theorem no_clash {n : Nat} {ev : Ev} (hc : ¬ Clash n ev) {s : Int} (hs : isSay n s) : ¬ (Reach ev s (-s) ∧ Reach ev (-s) s) := by
  rintro ⟨h1, h2⟩
  apply hc
  unfold isSay at hs
  by_cases h : s < 0
  · refine ⟨(-1 - s).toNat, by omega, ?_, ?_⟩
    · rw [show (((-1 - s).toNat : Nat) : Int) + 1 = -s by omega, Int.neg_neg]; exact h2
    · rw [show (((-1 - s).toNat : Nat) : Int) + 1 = -s by omega, Int.neg_neg]; exact h1
  · refine ⟨(s - 1).toNat, by omega, ?_, ?_⟩
    · rw [show (((s - 1).toNat : Nat) : Int) + 1 = s by omega]; exact h1
    · rw [show (((s - 1).toNat : Nat) : Int) + 1 = s by omega]; exact h2
/-- Sayings no one of which leads to the opposite of one. -/
def Agree (ev : Ev) (A : List Int) : Prop := ∀ x ∈ A, ∀ y ∈ A, ¬ Reach ev x (-y)
theorem grow {n : Nat} {ev : Ev} (hc : ¬ Clash n ev) {A : List Int} (hA : Agree ev A) : ∀ k, k ≤ n → ∃ B : List Int, (∀ x ∈ A, x ∈ B) ∧ Agree ev B ∧ ∀ j : Nat, j < k → ∃ x ∈ B, Reach ev x ((j : Int) + 1) ∨ Reach ev x (-((j : Int) + 1))
  | 0, _ => ⟨A, fun _ h => h, hA, fun j hj => by omega⟩
  | k + 1, hk => by
    obtain ⟨B, b1, b2, b3⟩ := grow hc hA k (by omega)
    have hsay : isSay n ((k : Int) + 1) := by unfold isSay; omega
    by_cases hd : ∃ x ∈ B, Reach ev x ((k : Int) + 1) ∨ Reach ev x (-((k : Int) + 1))
    · refine ⟨B, b1, b2, fun j hj => ?_⟩
      by_cases e : j = k
      · subst e; exact hd
      · exact b3 j (by omega)
    · have hno : ∀ x ∈ B, ¬ Reach ev x ((k : Int) + 1) ∧ ¬ Reach ev x (-((k : Int) + 1)) := fun x hx => ⟨fun h => hd ⟨x, hx, .inl h⟩, fun h => hd ⟨x, hx, .inr h⟩⟩
      obtain ⟨s, hs, hss, hsB⟩ : ∃ s, (s = (k : Int) + 1 ∨ s = -((k : Int) + 1)) ∧ ¬ Reach ev s (-s) ∧ ∀ x ∈ B, ¬ Reach ev x (-s) := by
        have hcl := no_clash hc hsay
        by_cases h1 : Reach ev ((k : Int) + 1) (-((k : Int) + 1))
        · refine ⟨-((k : Int) + 1), .inr rfl, ?_, fun x hx => ?_⟩
          · rw [Int.neg_neg]; exact fun h2 => hcl ⟨h1, h2⟩
          · rw [Int.neg_neg]; exact (hno x hx).1
        · exact ⟨(k : Int) + 1, .inl rfl, h1, fun x hx => (hno x hx).2⟩
      refine ⟨s :: B, fun x hx => List.mem_cons_of_mem _ (b1 x hx), ?_, fun j hj => ?_⟩
      · intro x hx y hy hr
        rcases List.mem_cons.1 hx with rfl | hx' <;> rcases List.mem_cons.1 hy with rfl | hy'
        · exact hss hr
        · have := hr.skew
          rw [Int.neg_neg] at this
          exact hsB y hy' this
        · exact hsB x hx' hr
        · exact b2 x hx' y hy' hr
      · by_cases e : j = k
        · subst e
          rcases hs with rfl | rfl
          · exact ⟨_, List.mem_cons_self, .inl (Reach.refl _ _)⟩
          · exact ⟨_, List.mem_cons_self, .inr (Reach.refl _ _)⟩
        · obtain ⟨x, hx, h⟩ := b3 j (by omega)
          exact ⟨x, List.mem_cons_of_mem _ hx, h⟩
open Classical in
theorem extend {n : Nat} {ev : Ev} (hv : valid n ev) (hc : ¬ Clash n ev) {A : List Int} (hs : ∀ x ∈ A, isSay n x) (hA : Agree ev A) : ∃ v, Sat ev v ∧ ∀ x ∈ A, holds v x = true := by
  obtain ⟨B, b1, b2, b3⟩ := grow hc hA n (Nat.le_refl _)
  let v : Nat → Bool := fun j => decide (∃ x ∈ B, Reach ev x ((j : Int) + 1))
  have hto : ∀ a, isSay n a → holds v a = true → ∃ x ∈ B, Reach ev x a := by
    intro a ha h
    unfold isSay at ha
    unfold holds at h
    by_cases hn : a < 0
    · rw [if_pos hn] at h
      have h2 : ¬ ∃ x ∈ B, Reach ev x (((-1 - a).toNat : Int) + 1) := by
        have : v (-1 - a).toNat = false := by simpa using h
        exact of_decide_eq_false this
      obtain ⟨x, hx, h3 | h3⟩ := b3 (-1 - a).toNat (by omega)
      · exact absurd ⟨x, hx, h3⟩ h2
      · exact ⟨x, hx, by rwa [show -(((-1 - a).toNat : Int) + 1) = a by omega] at h3⟩
    · rw [if_neg hn] at h
      obtain ⟨x, hx, h3⟩ := of_decide_eq_true h
      exact ⟨x, hx, by rwa [show ((a - 1).toNat : Int) + 1 = a by omega] at h3⟩
  have hof : ∀ a, isSay n a → (∃ x ∈ B, Reach ev x a) → holds v a = true := by
    rintro a ha ⟨x, hx, h⟩
    unfold isSay at ha
    unfold holds
    by_cases hn : a < 0
    · rw [if_pos hn]
      have : v (-1 - a).toNat = false := by
        refine decide_eq_false ?_
        rintro ⟨y, hy, h2⟩
        rw [show ((-1 - a).toNat : Int) + 1 = -a by omega] at h2
        exact b2 y hy x hx (h2.trans h.skew)
      rw [this]; rfl
    · rw [if_neg hn]
      refine decide_eq_true ⟨x, hx, ?_⟩
      rwa [show ((a - 1).toNat : Int) + 1 = a by omega]
  refine ⟨v, Sat.of_step hv fun a b hab ha => ?_, fun x hx => hof x (hs x hx) ⟨x, b1 x hx, Reach.refl _ _⟩⟩
  obtain ⟨h1, h2⟩ := hab.say hv
  obtain ⟨x, hx, h3⟩ := hto a h1 ha
  exact hof b h2 ⟨x, hx, h3.snoc hab⟩

/-! What follows. -/
theorem sat_iff {n : Nat} {ev : Ev} (hv : valid n ev) : (∃ v, Sat ev v) ↔ ¬ Clash n ev := by
  constructor
  · rintro ⟨v, h⟩ ⟨k, hk, ⟨i, h1⟩, ⟨j, h2⟩⟩
    have hsay : isSay n ((k : Int) + 1) := by unfold isSay; omega
    have hn := holds_neg v hsay
    cases hh : holds v ((k : Int) + 1) with
    | true => rw [h.reach hv hh h1, hh] at hn; cases hn
    | false =>
      rw [hh] at hn
      have := h.reach hv hn h2
      rw [hh] at this; cases this
  · intro hc
    obtain ⟨v, h, _⟩ := extend hv hc (A := []) (by simp) (fun x hx => by simp at hx)
    exact ⟨v, h⟩
theorem sure_iff {n : Nat} {ev : Ev} (hv : valid n ev) (hc : ¬ Clash n ev) {s : Int} (hs : isSay n s) : (∀ v, Sat ev v → holds v s = true) ↔ Reach ev (-s) s := by
  constructor
  · intro h
    apply Classical.byContradiction
    intro hr
    obtain ⟨v, h1, h2⟩ := extend hv hc (A := [-s]) (fun x hx => by rw [List.mem_singleton.1 hx]; exact hs.neg) (fun x hx y hy => by
      rw [List.mem_singleton.1 hx, List.mem_singleton.1 hy, Int.neg_neg]; exact hr)
    have h3 := h2 (-s) (by simp)
    rw [holds_neg v hs, h v h1] at h3
    cases h3
  · rintro ⟨k, hr⟩ v h
    cases hh : holds v s with
    | true => rfl
    | false =>
      have hn := holds_neg v hs
      rw [hh] at hn
      rw [← hh]
      exact h.reach hv hn hr
theorem means_iff {n : Nat} {ev : Ev} (hv : valid n ev) (hc : ¬ Clash n ev) {a b : Int} (ha : isSay n a) (hb : isSay n b) : (∀ v, Sat ev v → holds v a = true → holds v b = true) ↔ (Reach ev a b ∨ Reach ev a (-a) ∨ Reach ev (-b) b) := by
  constructor
  · intro h
    apply Classical.byContradiction
    intro hr
    have hr1 : ¬ Reach ev a b := fun e => hr (.inl e)
    have hr2 : ¬ Reach ev a (-a) := fun e => hr (.inr (.inl e))
    have hr3 : ¬ Reach ev (-b) b := fun e => hr (.inr (.inr e))
    have key : ∀ x ∈ [a, -b], x = a ∨ x = -b := fun x hx => by simpa using hx
    obtain ⟨v, h1, h2⟩ := extend hv hc (A := [a, -b]) (fun x hx => by
      rcases key x hx with e | e
      · rw [e]; exact ha
      · rw [e]; exact hb.neg) (fun x hx y hy hrr => by
      rcases key x hx with e | e <;> rcases key y hy with e2 | e2 <;> rw [e, e2] at hrr
      · exact hr2 hrr
      · rw [Int.neg_neg] at hrr; exact hr1 hrr
      · have := hrr.skew
        rw [Int.neg_neg, Int.neg_neg] at this
        exact hr1 this
      · rw [Int.neg_neg] at hrr; exact hr3 hrr)
    have h3 := h2 (-b) (by simp)
    rw [holds_neg v hb, h v h1 (h2 a (by simp))] at h3
    cases h3
  · rintro (⟨k, hr⟩ | hr | hr) v h hh
    · exact h.reach hv hh hr
    · obtain ⟨k, hr⟩ := hr
      have h2 := h.reach hv hh hr
      rw [holds_neg v ha, hh] at h2
      cases h2
    · exact (sure_iff hv hc hb).2 hr v h
/-- What two or three of three truths say. -/
def maj (a b c : Nat → Bool) (k : Nat) : Bool := (a k && b k) || (a k && c k) || (b k && c k)
theorem holds_maj (a b c : Nat → Bool) (s : Int) : holds (maj a b c) s = ((holds a s && holds b s) || (holds a s && holds c s) || (holds b s && holds c s)) := by
  unfold holds
  by_cases h : s < 0
  · simp only [if_pos h, maj]
    cases a (-1 - s).toNat <;> cases b (-1 - s).toNat <;> cases c (-1 - s).toNat <;> rfl
  · simp only [if_neg h, maj]
theorem Sat.maj {ev : Ev} {a b c : Nat → Bool} (ha : Sat ev a) (hb : Sat ev b) (hc : Sat ev c) : Sat ev (maj a b c) := by
  intro x hx
  have h1 := ha x hx
  have h2 := hb x hx
  have h3 := hc x hx
  rw [holds_maj, holds_maj]
  revert h1 h2 h3
  cases holds a x.1 <;> cases holds b x.1 <;> cases holds c x.1 <;> cases holds a x.2.1 <;> cases holds b x.2.1 <;> cases holds c x.2.1 <;> simp
/-- If each two of some sayings hold together in some truth, all of them do in one. -/
theorem helly {n : Nat} {ev : Ev} (hv : valid n ev) {A : List Int} (hs : ∀ x ∈ A, isSay n x) (hne : ∃ v, Sat ev v) (h : ∀ x ∈ A, ∀ y ∈ A, ∃ v, Sat ev v ∧ holds v x = true ∧ holds v y = true) : ∃ v, Sat ev v ∧ ∀ x ∈ A, holds v x = true := by
  refine extend hv ((sat_iff hv).1 hne) hs fun x hx y hy ⟨k, hr⟩ => ?_
  obtain ⟨v, h1, h2, h3⟩ := h x hx y hy
  have := h1.reach hv h2 hr
  rw [holds_neg v (hs y hy), h3] at this
  cases this
end Ox.Two

namespace Ox.Sh
open Ox

abbrev Sh := Int × Int × Int × Unit
abbrev da (s : Sh) : Int := s.1
abbrev dr (s : Sh) : Int := s.2.1
abbrev dp (s : Sh) : Int := s.2.2.1
abbrev z0 : Sh := (0, 0, 0, ())
/-- One sheet more: minutes at which bath and press are free. -/
def nx (l : List Sh) (p : Int × Int) (n : Nat) : Int × Int := (p.1 + da (l.getD n z0), Max.max (p.1 + da (l.getD n z0) + dr (l.getD n z0)) p.2 + dp (l.getD n z0))
def endP (l : List Sh) (p : Int × Int) (o : List Nat) : Int × Int := o.foldl (nx l) p
def endS (l : List Sh) (p : Int × Int) (o : List Nat) : Int := (endP l p o).2
theorem endP_app (l : List Sh) (p : Int × Int) (a b : List Nat) : endP l p (a ++ b) = endP l (endP l p a) b := List.foldl_append
theorem endP_cons (l : List Sh) (p : Int × Int) (n : Nat) (o : List Nat) : endP l p (n :: o) = endP l (nx l p n) o := rfl
theorem endP_mono {l : List Sh} : ∀ (o : List Nat) {p q : Int × Int}, p.1 = q.1 → p.2 ≤ q.2 → (endP l p o).1 = (endP l q o).1 ∧ (endP l p o).2 ≤ (endP l q o).2
  | [], _, _, h, k => ⟨h, k⟩
  | n :: o, p, q, h, k => by
    rw [endP_cons, endP_cons]
    refine endP_mono o ?_ ?_
    · unfold nx; dsimp only; omega
    · unfold nx; dsimp only; omega
def al (s : Sh) : Int := da s + dr s
def be (s : Sh) : Int := dr s + dp s
/-- The rule's number of a sheet. -/
def rankS (s : Sh) : Int := if da s ≤ dp s then al s else 1048576 - be s
def okS (s : Sh) : Prop := 0 ≤ da s ∧ da s ≤ 1000 ∧ 0 ≤ dr s ∧ dr s ≤ 1000 ∧ 0 ≤ dp s ∧ dp s ≤ 1000
theorem rank_pair {i j : Sh} (hi : okS i) (hj : okS j) (h : rankS i ≤ rankS j) : Min.min (al i) (be j) ≤ Min.min (al j) (be i) := by
  unfold okS at hi hj
  unfold rankS al be at *
  split at h <;> split at h <;> omega
theorem swap_le {l : List Sh} {i j : Nat} (p : Int × Int) (h : Min.min (al (l.getD i z0)) (be (l.getD j z0)) ≤ Min.min (al (l.getD j z0)) (be (l.getD i z0))) :
    (endP l p [i, j]).1 = (endP l p [j, i]).1 ∧ (endP l p [i, j]).2 ≤ (endP l p [j, i]).2 := by
  unfold al be at h
  simp only [endP, List.foldl_cons, List.foldl_nil, nx]
  constructor
  · omega
  · omega
def okD (l : List Sh) : Prop := ∀ s ∈ l, okS s
theorem okD.get {l : List Sh} (h : okD l) (n : Nat) : okS (l.getD n z0) := by
  by_cases hn : n < l.length
  · rw [List.getD_eq_getElem?_getD, List.getElem?_eq_getElem hn]; exact h _ (List.getElem_mem hn)
  · rw [List.getD_eq_getElem?_getD, List.getElem?_eq_none (by omega)]; exact ⟨by decide, by decide, by decide, by decide, by decide, by decide⟩
def rk (l : List Sh) (n : Nat) : Int := rankS (l.getD n z0)
theorem front_le {l : List Sh} (hl : okD l) {n : Nat} : ∀ (u : List Nat), (∀ m ∈ u, rk l n ≤ rk l m) → ∀ p : Int × Int, (endP l p (n :: u)).1 = (endP l p (u ++ [n])).1 ∧ (endP l p (n :: u)).2 ≤ (endP l p (u ++ [n])).2
  | [], _, p => ⟨rfl, Int.le_refl _⟩
  | m :: u, h, p => by
    have h1 := swap_le (l := l) (i := n) (j := m) p (rank_pair (hl.get n) (hl.get m) (h m List.mem_cons_self))
    have h2 := front_le hl u (fun k hk => h k (List.mem_cons_of_mem _ hk)) (nx l p m)
    have h3 := endP_mono (l := l) u h1.1 h1.2
    rw [← endP_app, ← endP_app] at h3
    have e1 : [n, m] ++ u = n :: m :: u := rfl
    have e2 : [m, n] ++ u = m :: n :: u := rfl
    rw [e1, e2, endP_cons l p m] at h3
    rw [List.cons_append, endP_cons l p m (u ++ [n])]
    exact ⟨h3.1.trans h2.1, Int.le_trans h3.2 h2.2⟩
theorem first_le {l : List Sh} (hl : okD l) {n : Nat} {u v : List Nat} (h : ∀ m ∈ u, rk l n ≤ rk l m) (p : Int × Int) : endS l p (n :: (u ++ v)) ≤ endS l p (u ++ n :: v) := by
  have h1 := front_le hl u h p
  have h2 := endP_mono (l := l) v h1.1 h1.2
  rw [← endP_app, ← endP_app, List.append_assoc] at h2
  exact h2.2
/-- The first of a list with the least number. -/
def leastG {α : Type} (f : α → Int) (b : α) : List α → α
  | [] => b
  | x :: r => leastG f (if f x < f b then x else b) r
theorem leastG_spec {α : Type} (f : α → Int) : ∀ (r : List α) (b : α), leastG f b r ∈ b :: r ∧ (∀ x ∈ b :: r, f (leastG f b r) ≤ f x)
  | [], b => ⟨List.mem_cons_self, fun x hx => by rw [List.mem_singleton.1 hx]; exact Int.le_refl _⟩
  | x :: r, b => by
    rw [leastG]
    obtain ⟨h1, h2⟩ := leastG_spec f r (if f x < f b then x else b)
    generalize leastG f (if f x < f b then x else b) r = w at h1 h2 ⊢
    refine ⟨?_, fun y hy => ?_⟩
    · rcases List.mem_cons.1 h1 with h | h
      · rw [h]
        split
        · exact List.mem_cons_of_mem _ List.mem_cons_self
        · exact List.mem_cons_self
      · exact List.mem_cons_of_mem _ (List.mem_cons_of_mem _ h)
    · have h3 := h2 _ List.mem_cons_self
      rcases List.mem_cons.1 hy with rfl | hy
      · split at h3 <;> omega
      · rcases List.mem_cons.1 hy with rfl | hy
        · split at h3 <;> omega
        · exact h2 y (List.mem_cons_of_mem _ hy)
/-- The order by the rule of some sheets. -/
def ruleF (l : List Sh) : Nat → List Nat → List Nat
  | 0, _ => []
  | _ + 1, [] => []
  | f + 1, b :: r => leastG (rk l) b r :: ruleF l f ((b :: r).filter fun k => decide (k ≠ leastG (rk l) b r))
theorem filter_perm {n : Nat} : ∀ {a : List Nat}, a.Nodup → n ∈ a → List.Perm a (n :: a.filter fun k => decide (k ≠ n))
  | b :: r, hn, h => by
    obtain ⟨h1, h2⟩ := List.nodup_cons.1 hn
    by_cases e : b = n
    · subst e
      have e : (r.filter fun k => decide (k ≠ b)) = r := List.filter_eq_self.2 fun k hk => decide_eq_true fun e : k = b => h1 (by rw [← e]; exact hk)
      rw [List.filter_cons_of_neg (by simp), e]
    · rw [List.filter_cons_of_pos (by simpa using e)]
      have := filter_perm h2 ((List.mem_cons.1 h).resolve_left fun e' => e e'.symm)
      exact (this.cons b).trans (List.Perm.swap n b _)
theorem ruleF_perm (l : List Sh) : ∀ (f : Nat) {a : List Nat}, a.length ≤ f → a.Nodup → List.Perm (ruleF l f a) a
  | 0, a, h, _ => by rw [List.length_eq_zero_iff.1 (Nat.le_zero.1 h)]; exact .nil
  | f + 1, [], _, _ => .nil
  | f + 1, b :: r, h, hn => by
    have hm := (leastG_spec (rk l) r b).1
    have hp := filter_perm hn hm
    rw [ruleF]
    refine List.Perm.trans ?_ hp.symm
    refine List.Perm.cons _ (ruleF_perm l f ?_ (hn.filter _))
    have := hp.length_eq
    simp only [List.length_cons] at this h ⊢
    omega
/-- No order of some sheets ends sooner than that by the rule. -/
theorem rule_best {l : List Sh} (hl : okD l) : ∀ (f : Nat) {a o : List Nat} (p : Int × Int), a.length ≤ f → a.Nodup → List.Perm o a → endS l p (ruleF l f a) ≤ endS l p o
  | 0, a, o, p, h, _, ho => by
    have := List.length_eq_zero_iff.1 (Nat.le_zero.1 h)
    subst this
    rw [ho.eq_nil]; exact Int.le_refl _
  | f + 1, [], o, p, _, _, ho => by rw [ho.eq_nil]; exact Int.le_refl _
  | f + 1, b :: r, o, p, h, hn, ho => by
    obtain ⟨hm, hle⟩ := leastG_spec (rk l) r b
    have hp := filter_perm hn hm
    rw [ruleF]
    generalize leastG (rk l) b r = n at hm hle hp ⊢
    obtain ⟨u, v, rfl⟩ := List.append_of_mem (ho.mem_iff.2 hm)
    have h1 := first_le hl (n := n) (u := u) (v := v) (fun m hm => hle m (ho.mem_iff.1 (List.mem_append_left _ hm))) p
    have hq : List.Perm (u ++ v) ((b :: r).filter fun k => decide (k ≠ n)) := by
      refine List.Perm.cons_inv (a := n) ?_
      exact (List.perm_middle.symm.trans ho).trans hp
    have hlen := hp.length_eq
    have h2 := rule_best hl f (a := (b :: r).filter fun k => decide (k ≠ n)) (nx l p n) (by simp only [List.length_cons] at hlen h ⊢; omega) (hn.filter _) hq
    exact Int.le_trans h2 h1
end Ox.Sh

namespace Ox.Sh
open Ox

abbrev aN (l : List Sh) (n : Nat) : Int := da (l.getD n z0)
abbrev rN (l : List Sh) (n : Nat) : Int := dr (l.getD n z0)
abbrev cN (l : List Sh) (n : Nat) : Int := dp (l.getD n z0)
def sm (f : Nat → Int) (o : List Nat) : Int := (o.map f).sum
theorem sm_cons (f : Nat → Int) (n : Nat) (o : List Nat) : sm f (n :: o) = f n + sm f o := by simp [sm]
theorem sm_app (f : Nat → Int) (a b : List Nat) : sm f (a ++ b) = sm f a + sm f b := by simp [sm]
theorem sm_le {f g : Nat → Int} : ∀ {o : List Nat}, (∀ n ∈ o, f n ≤ g n) → sm f o ≤ sm g o
  | [], _ => Int.le_refl _
  | n :: o, h => by
    rw [sm_cons, sm_cons]
    have h1 := h n List.mem_cons_self
    have h2 := sm_le (f := f) (g := g) (o := o) fun k hk => h k (List.mem_cons_of_mem _ hk)
    omega
theorem sm_perm {f : Nat → Int} {a b : List Nat} (h : List.Perm a b) : sm f a = sm f b := by
  induction h with
  | nil => rfl
  | cons x _ ih => rw [sm_cons, sm_cons, ih]
  | swap x y l => rw [sm_cons, sm_cons, sm_cons, sm_cons]; omega
  | trans _ _ h1 h2 => exact h1.trans h2
/-- The row through a sheet, those before it, those behind. -/
def rowU (l : List Sh) (u : List Nat) (n : Nat) (v : List Nat) : Int := sm (aN l) u + aN l n + rN l n + cN l n + sm (cN l) v
theorem end_cons (l : List Sh) (p : Int × Int) (n : Nat) (o : List Nat) : endS l p (n :: o) = endS l (nx l p n) o := rfl
theorem end_press {l : List Sh} : ∀ (o : List Nat) (p : Int × Int), p.2 + sm (cN l) o ≤ endS l p o
  | [], p => by show p.2 + 0 ≤ p.2; omega
  | n :: o, p => by
    have := end_press (l := l) o (nx l p n)
    rw [sm_cons, end_cons]
    have h : (nx l p n).2 = Max.max (p.1 + aN l n + rN l n) p.2 + cN l n := rfl
    omega
theorem end_row {l : List Sh} : ∀ (u : List Nat) (n : Nat) (v : List Nat) (p : Int × Int), p.1 + rowU l u n v ≤ endS l p (u ++ n :: v)
  | [], n, v, p => by
    have h1 := end_press (l := l) v (nx l p n)
    rw [List.nil_append, end_cons, rowU]
    have h : (nx l p n).2 = Max.max (p.1 + aN l n + rN l n) p.2 + cN l n := rfl
    have h2 : sm (aN l) [] = 0 := rfl
    omega
  | m :: u, n, v, p => by
    have h1 := end_row (l := l) u n v (nx l p m)
    rw [List.cons_append, end_cons]
    unfold rowU at *
    rw [sm_cons]
    have h : (nx l p m).1 = p.1 + aN l m := rfl
    omega
theorem end_hit {l : List Sh} : ∀ (o : List Nat) (p : Int × Int), endS l p o = p.2 + sm (cN l) o ∨ ∃ u n v, o = u ++ n :: v ∧ endS l p o = p.1 + rowU l u n v
  | [], p => .inl (by show p.2 = p.2 + 0; omega)
  | m :: o, p => by
    rw [end_cons]
    have h : (nx l p m).2 = Max.max (p.1 + aN l m + rN l m) p.2 + cN l m := rfl
    have h' : (nx l p m).1 = p.1 + aN l m := rfl
    rcases end_hit o (nx l p m) with e | ⟨u, n, v, e1, e2⟩
    · by_cases hc : p.1 + aN l m + rN l m ≤ p.2
      · left; rw [e, sm_cons]; omega
      · right
        refine ⟨[], m, o, rfl, ?_⟩
        rw [e, rowU]
        have h2 : sm (aN l) [] = 0 := rfl
        omega
    · right
      refine ⟨m :: u, n, v, by rw [e1]; rfl, ?_⟩
      rw [e2]
      unfold rowU
      rw [sm_cons]
      omega
theorem sm_nonneg {l : List Sh} (hl : okD l) : ∀ o : List Nat, 0 ≤ sm (cN l) o
  | [] => Int.le_refl _
  | n :: o => by
    rw [sm_cons]
    have h1 := sm_nonneg hl o
    have h2 : okS (l.getD n z0) := hl.get n
    have h3 : 0 ≤ cN l n := h2.2.2.2.2.1
    omega
/-- From the start an order ends by the row of one of its sheets. -/
theorem end_some {l : List Sh} (hl : okD l) {o : List Nat} (ho : o ≠ []) : ∃ u n v, o = u ++ n :: v ∧ endS l (0, 0) o = rowU l u n v := by
  rcases end_hit (l := l) o (0, 0) with e | ⟨u, n, v, e1, e2⟩
  · obtain ⟨n, v, rfl⟩ := List.exists_cons_of_ne_nil ho
    refine ⟨[], n, v, rfl, ?_⟩
    have h := end_row (l := l) [] n v (0, 0)
    rw [List.nil_append] at h
    rw [e, rowU, sm_cons] at *
    have h2 : sm (aN l) [] = 0 := rfl
    have h3 : okS (l.getD n z0) := hl.get n
    have h4 : 0 ≤ aN l n := h3.1
    have h5 : 0 ≤ rN l n := h3.2.2.1
    rw [h2] at h ⊢
    dsimp only at *
    omega
  · exact ⟨u, n, v, e1, by rw [e2]; show 0 + _ = _; omega⟩
/-! Bounds. -/
def wF (l : List Sh) (own : Nat → Bool) (front : Bool) (n : Nat) : Int := if own n = true then (if front = true then cN l n else aN l n) else Min.min (aN l n) (cN l n)
def wait (l : List Sh) (front : Bool) (n : Nat) : Int := if front = true then al (l.getD n z0) else be (l.getD n z0)
/-- No order ends sooner than a bound: the sum with the wait of any sheet of its own that waits least. -/
theorem bound_lo {l : List Sh} {own : Nat → Bool} {front : Bool} {o : List Nat} {w : Int} (hs : ∃ n ∈ o, own n = true) (hw : ∀ n ∈ o, own n = true → w ≤ wait l front n) : sm (wF l own front) o + w ≤ endS l (0, 0) o := by
  cases front with
  | true =>
    have hex : ∃ u n v, o = u ++ n :: v ∧ own n = true ∧ ∀ m ∈ u, own m = false := by
      clear hw
      induction o with
      | nil => obtain ⟨n, hn, _⟩ := hs; cases hn
      | cons x o ih =>
        by_cases hx : own x = true
        · exact ⟨[], x, o, rfl, hx, fun m hm => by cases hm⟩
        · obtain ⟨u, n, v, e1, e2, e3⟩ := ih (by
            obtain ⟨n, hn, h⟩ := hs
            rcases List.mem_cons.1 hn with rfl | hn
            · exact absurd h hx
            · exact ⟨n, hn, h⟩)
          refine ⟨x :: u, n, v, by rw [e1]; rfl, e2, fun m hm => ?_⟩
          rcases List.mem_cons.1 hm with rfl | hm
          · simpa using hx
          · exact e3 m hm
    obtain ⟨u, n, v, rfl, e2, e3⟩ := hex
    have h1 := end_row (l := l) u n v (0, 0)
    have h2 := hw n (by simp) e2
    have h3 : sm (wF l own true) u ≤ sm (aN l) u := sm_le fun m hm => by unfold wF; rw [if_neg (by rw [e3 m hm]; simp)]; omega
    have h4 : sm (wF l own true) v ≤ sm (cN l) v := sm_le fun m hm => by unfold wF; split <;> (try simp) <;> (try omega)
    rw [sm_app, sm_cons]
    have h5 : wF l own true n = cN l n := by unfold wF; rw [if_pos e2, if_pos rfl]
    have h6 : wait l true n = aN l n + rN l n := rfl
    unfold rowU at h1
    dsimp only at h1
    omega
  | false =>
    have hex : ∃ u n v, o = u ++ n :: v ∧ own n = true ∧ ∀ m ∈ v, own m = false := by
      clear hw
      induction o with
      | nil => obtain ⟨n, hn, _⟩ := hs; cases hn
      | cons x o ih =>
        by_cases hx : ∃ n ∈ o, own n = true
        · obtain ⟨u, n, v, e1, e2, e3⟩ := ih hx
          exact ⟨x :: u, n, v, by rw [e1]; rfl, e2, e3⟩
        · obtain ⟨n, hn, h⟩ := hs
          rcases List.mem_cons.1 hn with rfl | hn
          · refine ⟨[], n, o, rfl, h, fun m hm => ?_⟩
            cases hb : own m with
            | false => rfl
            | true => exact absurd ⟨m, hm, hb⟩ hx
          · exact absurd ⟨n, hn, h⟩ hx
    obtain ⟨u, n, v, rfl, e2, e3⟩ := hex
    have h1 := end_row (l := l) u n v (0, 0)
    have h2 := hw n (by simp) e2
    have h3 : sm (wF l own false) u ≤ sm (aN l) u := sm_le fun m hm => by unfold wF; split <;> (try simp) <;> (try omega)
    have h4 : sm (wF l own false) v ≤ sm (cN l) v := sm_le fun m hm => by unfold wF; rw [if_neg (by rw [e3 m hm]; simp)]; omega
    rw [sm_app, sm_cons]
    have h5 : wF l own false n = aN l n := by unfold wF; rw [if_pos e2, if_neg (by simp)]
    have h6 : wait l false n = rN l n + cN l n := rfl
    unfold rowU at h1
    dsimp only at h1
    omega
section
variable {l : List Sh} {m n : Nat} (hm : okS (l.getD m z0)) (hn : okS (l.getD n z0))
include hm hn
theorem wf_u1 (hc : aN l n ≤ cN l n) (h : rk l m ≤ rk l n) : aN l m ≤ wF l (fun m => decide (wait l true n ≤ wait l true m)) true m := by
  simp only [wF, wait, rk, rankS, okS, al, be, aN, cN, if_true, decide_eq_true_eq] at *
  generalize l.getD m z0 = x at *
  generalize l.getD n z0 = y at *
  rw [if_pos hc] at h
  by_cases h1 : da x ≤ dp x
  · rw [if_pos h1] at h
    split <;> omega
  · rw [if_neg h1] at h; omega
theorem wf_v1 (hc : aN l n ≤ cN l n) (h : rk l n ≤ rk l m) : cN l m ≤ wF l (fun m => decide (wait l true n ≤ wait l true m)) true m := by
  simp only [wF, wait, rk, rankS, okS, al, be, aN, cN, if_true, decide_eq_true_eq] at *
  generalize l.getD m z0 = x at *
  generalize l.getD n z0 = y at *
  rw [if_pos hc] at h
  by_cases h1 : da x ≤ dp x
  · rw [if_pos h1] at h
    split <;> omega
  · split <;> omega
theorem wf_u2 (hc : ¬ aN l n ≤ cN l n) (h : rk l m ≤ rk l n) : aN l m ≤ wF l (fun m => decide (wait l false n ≤ wait l false m)) false m := by
  simp only [wF, wait, rk, rankS, okS, al, be, aN, cN, Bool.false_eq_true, if_false, decide_eq_true_eq] at *
  generalize l.getD m z0 = x at *
  generalize l.getD n z0 = y at *
  rw [if_neg hc] at h
  by_cases h1 : da x ≤ dp x
  · split <;> omega
  · rw [if_neg h1] at h
    split <;> omega
theorem wf_v2 (hc : ¬ aN l n ≤ cN l n) (h : rk l n ≤ rk l m) : cN l m ≤ wF l (fun m => decide (wait l false n ≤ wait l false m)) false m := by
  simp only [wF, wait, rk, rankS, okS, al, be, aN, cN, Bool.false_eq_true, if_false, decide_eq_true_eq] at *
  generalize l.getD m z0 = x at *
  generalize l.getD n z0 = y at *
  rw [if_neg hc] at h
  by_cases h1 : da x ≤ dp x
  · rw [if_pos h1] at h; omega
  · rw [if_neg h1] at h
    split <;> omega
end
/-- A list that goes by the rule has a bound that ends as it does. -/
theorem bound_hit {l : List Sh} (hl : okD l) {o : List Nat} (ho : o ≠ []) (hs : o.Pairwise fun i j => rk l i ≤ rk l j) : ∃ n ∈ o, ∃ front : Bool, endS l (0, 0) o ≤ sm (wF l (fun m => decide (wait l front n ≤ wait l front m)) front) o + wait l front n := by
  obtain ⟨u, n, v, rfl, e⟩ := end_some hl ho
  rw [List.pairwise_append] at hs
  obtain ⟨_, s2, s3⟩ := hs
  have s4 := (List.pairwise_cons.1 s2).1
  have s5 : ∀ m ∈ u, rk l m ≤ rk l n := fun m hm => s3 m hm n List.mem_cons_self
  have hn := hl.get n
  refine ⟨n, by simp, decide (aN l n ≤ cN l n), ?_⟩
  rw [e, sm_app, sm_cons, rowU]
  by_cases hc : aN l n ≤ cN l n
  · rw [decide_eq_true hc]
    have h3 : sm (aN l) u ≤ sm (wF l (fun m => decide (wait l true n ≤ wait l true m)) true) u := sm_le fun m hm => by
      have hm' := hl.get m
      have := s5 m hm
      exact wf_u1 hm' hn hc this
    have h4 : sm (cN l) v ≤ sm (wF l (fun m => decide (wait l true n ≤ wait l true m)) true) v := sm_le fun m hm => by
      have hm' := hl.get m
      have := s4 m hm
      exact wf_v1 hm' hn hc this
    have h5 : wF l (fun m => decide (wait l true n ≤ wait l true m)) true n = cN l n := by unfold wF; rw [if_pos (decide_eq_true (Int.le_refl _)), if_pos rfl]
    have h6 : wait l true n = aN l n + rN l n := rfl
    omega
  · rw [decide_eq_false hc]
    have h3 : sm (aN l) u ≤ sm (wF l (fun m => decide (wait l false n ≤ wait l false m)) false) u := sm_le fun m hm => by
      have hm' := hl.get m
      have := s5 m hm
      exact wf_u2 hm' hn hc this
    have h4 : sm (cN l) v ≤ sm (wF l (fun m => decide (wait l false n ≤ wait l false m)) false) v := sm_le fun m hm => by
      have hm' := hl.get m
      have := s4 m hm
      exact wf_v2 hm' hn hc this
    have h5 : wF l (fun m => decide (wait l false n ≤ wait l false m)) false n = aN l n := by unfold wF; rw [if_pos (decide_eq_true (Int.le_refl _)), if_neg (by simp)]
    have h6 : wait l false n = rN l n + cN l n := rfl
    omega
end Ox.Sh

namespace Ox.Sh
open Ox

def freeL (N : Nat) (row : List Nat) : List Nat := (List.range N).filter fun n => decide (n ∉ row)
theorem mem_freeL {N n : Nat} {row : List Nat} : n ∈ freeL N row ↔ n < N ∧ n ∉ row := by unfold freeL; rw [List.mem_filter, List.mem_range, decide_eq_true_eq]
theorem freeL_nodup (N : Nat) (row : List Nat) : (freeL N row).Nodup := List.nodup_range.filter _
/-- All orders that begin with some sheets. -/
def dfsL (N : Nat) : Nat → List Nat → List (List Nat)
  | 0, row => [row]
  | f + 1, row => (freeL N row).flatMap fun n => dfsL N f (row ++ [n])
theorem mem_dfsL {N : Nat} {o : List Nat} : ∀ {f : Nat} {row : List Nat}, o ∈ dfsL N f row ↔ ∃ z, o = row ++ z ∧ z.length = f ∧ z.Nodup ∧ ∀ x ∈ z, x < N ∧ x ∉ row
  | 0, row => by
    rw [dfsL, List.mem_singleton]
    constructor
    · rintro rfl; exact ⟨[], by simp, rfl, List.nodup_nil, fun x hx => by cases hx⟩
    · rintro ⟨z, rfl, h, _⟩; rw [List.length_eq_zero_iff.1 h, List.append_nil]
  | f + 1, row => by
    rw [dfsL, List.mem_flatMap]
    constructor
    · rintro ⟨n, hn, ho⟩
      obtain ⟨z, h1, h2, h3, h4⟩ := mem_dfsL.1 ho
      have hn' := mem_freeL.1 hn
      refine ⟨n :: z, by rw [h1, List.append_assoc]; rfl, by simp [h2], List.nodup_cons.2 ⟨fun hz => ?_, h3⟩, fun x hx => ?_⟩
      · exact (h4 n hz).2 (by simp)
      · rcases List.mem_cons.1 hx with rfl | hx
        · exact hn'
        · exact ⟨(h4 x hx).1, fun hr => (h4 x hx).2 (List.mem_append_left _ hr)⟩
    · rintro ⟨z, rfl, h2, h3, h4⟩
      cases z with
      | nil => simp at h2
      | cons n z =>
        obtain ⟨k1, k2⟩ := List.nodup_cons.1 h3
        refine ⟨n, mem_freeL.2 (h4 n List.mem_cons_self), mem_dfsL.2 ⟨z, by simp, by simpa using h2, k2, fun x hx => ⟨(h4 x (List.mem_cons_of_mem _ hx)).1, fun hr => ?_⟩⟩⟩
        rcases List.mem_append.1 hr with hr | hr
        · exact (h4 x (List.mem_cons_of_mem _ hx)).2 hr
        · rw [List.mem_singleton.1 hr] at hx; exact k1 hx
theorem perm_sub : ∀ {z a : List Nat}, z.Nodup → a.Nodup → (∀ x ∈ z, x ∈ a) → a.length ≤ z.length → List.Perm z a
  | [], a, _, _, _, h => by rw [List.length_eq_zero_iff.1 (Nat.le_zero.1 h)]
  | n :: z, a, hz, ha, hs, h => by
    obtain ⟨h1, h2⟩ := List.nodup_cons.1 hz
    have hp := filter_perm ha (hs n List.mem_cons_self)
    have hl := hp.length_eq
    refine List.Perm.trans ?_ hp.symm
    refine List.Perm.cons n (perm_sub h2 (ha.filter _) (fun x hx => ?_) (by simp only [List.length_cons] at hl h; omega))
    rw [List.mem_filter]
    exact ⟨hs x (List.mem_cons_of_mem _ hx), decide_eq_true fun e => h1 (e ▸ hx)⟩
/-- The rest of an order is a permutation of what is free. -/
theorem rest_perm {N f : Nat} {row z : List Nat} (hf : (freeL N row).length = f) (h2 : z.length = f) (h3 : z.Nodup) (h4 : ∀ x ∈ z, x < N ∧ x ∉ row) : List.Perm z (freeL N row) := by
  exact perm_sub h3 (freeL_nodup N row) (fun x hx => mem_freeL.2 (h4 x hx)) (by omega)
/-- The levels of all rows, as the specification makes them. -/
def lvl (N : Nat) : Nat → List (List Nat)
  | 0 => [[]]
  | k + 1 => (lvl N k).flatMap fun row => (freeL N row).map fun n => row ++ [n]
theorem lvl_dfs (N : Nat) : ∀ k f, (lvl N k).flatMap (dfsL N f) = dfsL N (k + f) []
  | 0, f => by simp [lvl]
  | k + 1, f => by
    rw [lvl, List.flatMap_assoc, show k + 1 + f = k + (f + 1) by omega, ← lvl_dfs N k (f + 1)]
    congr 1
    funext row
    rw [dfsL, List.flatMap_map]
theorem lvl_all (N : Nat) : lvl N N = dfsL N N [] := by
  have := lvl_dfs N N 0
  rw [Nat.add_zero] at this
  rw [← this]
  have e : (dfsL N 0 : List Nat → List (List Nat)) = fun o => [o] := rfl
  rw [e, List.flatMap_singleton']
/-- The first best order, sheet by sheet. -/
def greedy (l : List Sh) (N : Nat) (least : Int) : Nat → List Nat → Int × Int → List Nat
  | 0, row, _ => row
  | f + 1, row, p => match (freeL N row).find? fun n => decide (endS l (nx l p n) (ruleF l N (freeL N (row ++ [n]))) ≤ least) with
    | some n => greedy l N least f (row ++ [n]) (nx l p n)
    | none => row
theorem freeL_len {N n : Nat} {row : List Nat} (h : n ∈ freeL N row) : (freeL N (row ++ [n])).length + 1 = (freeL N row).length := by
  have hp := filter_perm (freeL_nodup N row) h
  have e : freeL N (row ++ [n]) = (freeL N row).filter fun k => decide (k ≠ n) := by
    unfold freeL
    rw [List.filter_filter]
    congr 1
    funext k
    rw [← Bool.decide_and]
    congr 1
    simp only [List.mem_append, List.mem_singleton, not_or, ne_eq, eq_iff_iff]
    exact And.comm
  rw [e, hp.length_eq, List.length_cons]
theorem freeL_le (N : Nat) (row : List Nat) : (freeL N row).length ≤ N := by
  have := List.length_filter_le (fun n => decide (n ∉ row)) (List.range N)
  rw [List.length_range] at this
  exact this
theorem greedy_first {l : List Sh} (hl : okD l) {N : Nat} {least : Int} : ∀ (f : Nat) (row : List Nat), (freeL N row).length = f → (∃ o ∈ dfsL N f row, endS l (0, 0) o ≤ least) →
    (dfsL N f row).find? (fun o => decide (endS l (0, 0) o ≤ least)) = some (greedy l N least f row (endP l (0, 0) row))
  | 0, row, _, h => by
    obtain ⟨o, ho, he⟩ := h
    rw [dfsL, List.mem_singleton] at ho
    subst ho
    rw [dfsL, greedy, List.find?_cons_of_pos (by exact decide_eq_true he)]
  | f + 1, row, hf, h => by
    have hiff : ∀ n ∈ freeL N row, (∃ o ∈ dfsL N f (row ++ [n]), endS l (0, 0) o ≤ least) ↔ endS l (nx l (endP l (0, 0) row) n) (ruleF l N (freeL N (row ++ [n]))) ≤ least := fun n hn => by
      have hlen := freeL_len hn
      have hp : endP l (0, 0) (row ++ [n]) = nx l (endP l (0, 0) row) n := by rw [endP_app]; rfl
      have hperm := ruleF_perm l N (freeL_le N (row ++ [n])) (freeL_nodup N (row ++ [n]))
      constructor
      · rintro ⟨o, ho, he⟩
        obtain ⟨z, rfl, z2, z3, z4⟩ := mem_dfsL.1 ho
        have hz := rest_perm (by omega) z2 z3 z4
        have := rule_best hl N (endP l (0, 0) (row ++ [n])) (freeL_le N (row ++ [n])) (freeL_nodup N (row ++ [n])) hz
        rw [hp] at this
        have e : endS l (0, 0) (row ++ [n] ++ z) = endS l (nx l (endP l (0, 0) row) n) z := by
          unfold endS; rw [endP_app, hp]
        omega
      · intro he
        refine ⟨row ++ [n] ++ ruleF l N (freeL N (row ++ [n])), mem_dfsL.2 ⟨_, rfl, by rw [hperm.length_eq]; omega, hperm.nodup_iff.2 (freeL_nodup _ _), fun x hx => mem_freeL.1 (hperm.mem_iff.1 hx)⟩, ?_⟩
        have e : endS l (0, 0) (row ++ [n] ++ ruleF l N (freeL N (row ++ [n]))) = endS l (nx l (endP l (0, 0) row) n) (ruleF l N (freeL N (row ++ [n]))) := by
          unfold endS; rw [endP_app, hp]
        omega
    obtain ⟨o, ho, he⟩ := h
    rw [dfsL, List.mem_flatMap] at ho
    obtain ⟨n0, hn0, ho⟩ := ho
    have hex := (hiff n0 hn0).1 ⟨o, ho, he⟩
    rw [dfsL, List.find?_flatMap, greedy]
    clear ho he
    have key : ∀ L : List Nat, (∀ n ∈ L, n ∈ freeL N row) → (∃ n ∈ L, endS l (nx l (endP l (0, 0) row) n) (ruleF l N (freeL N (row ++ [n]))) ≤ least) →
        ∃ n, n ∈ freeL N row ∧ L.find? (fun n => decide (endS l (nx l (endP l (0, 0) row) n) (ruleF l N (freeL N (row ++ [n]))) ≤ least)) = some n ∧
          L.findSome? (fun n => (dfsL N f (row ++ [n])).find? fun o => decide (endS l (0, 0) o ≤ least)) = (dfsL N f (row ++ [n])).find? (fun o => decide (endS l (0, 0) o ≤ least)) ∧ ∃ o ∈ dfsL N f (row ++ [n]), endS l (0, 0) o ≤ least := by
      intro L
      induction L with
      | nil => rintro _ ⟨n, hn, _⟩; cases hn
      | cons n L ih =>
        intro hL hx
        by_cases hc : endS l (nx l (endP l (0, 0) row) n) (ruleF l N (freeL N (row ++ [n]))) ≤ least
        · have hg := (hiff n (hL n List.mem_cons_self)).2 hc
          refine ⟨n, hL n List.mem_cons_self, List.find?_cons_of_pos (by exact decide_eq_true hc), ?_, hg⟩
          rw [List.findSome?_cons]
          cases hq : (dfsL N f (row ++ [n])).find? (fun o => decide (endS l (0, 0) o ≤ least)) with
          | some o => rfl
          | none =>
            obtain ⟨o, ho, he⟩ := hg
            exact absurd (decide_eq_true he) (List.find?_eq_none.1 hq o ho)
        · obtain ⟨m, m0, m1, m2, m3⟩ := ih (fun k hk => hL k (List.mem_cons_of_mem _ hk)) (by
            obtain ⟨k, hk, he⟩ := hx
            rcases List.mem_cons.1 hk with rfl | hk
            · exact absurd he hc
            · exact ⟨k, hk, he⟩)
          refine ⟨m, m0, ?_, ?_, m3⟩
          · rw [List.find?_cons_of_neg (by simpa using hc)]; exact m1
          · rw [List.findSome?_cons]
            have : (dfsL N f (row ++ [n])).find? (fun o => decide (endS l (0, 0) o ≤ least)) = none := by
              rw [List.find?_eq_none]
              intro o ho he
              exact hc ((hiff n (hL n List.mem_cons_self)).1 ⟨o, ho, of_decide_eq_true he⟩)
            rw [this]
            exact m2
    obtain ⟨m, m0, m1, m2, m3⟩ := key (freeL N row) (fun _ h => h) ⟨n0, hn0, hex⟩
    rw [m1, m2]
    have hlen := freeL_len m0
    have := greedy_first hl f (row ++ [m]) (by omega) m3
    rw [this]
    have hp : endP l (0, 0) (row ++ [m]) = nx l (endP l (0, 0) row) m := by rw [endP_app]; rfl
    rw [hp]
end Ox.Sh

namespace Ox
open Go Go.RowKit
variable {X : Ctx} {s : S} {M : Mem} {ρ : Env} {a : Act} {w w' : World} {QA : Exit → S → Prop} {all l : List Oper} {o : Oper}

structure FnRow (P : Program) (f : FuncId) (args : AV) (eid : TypeId) (e : Ty) (xs : List e.den) : Prop where
  call : ∀ az w, (callFunc f az).run P w = .ok (.enter f az) w
  run : ∀ M ρ w vs, MemIn M w → args.rvs M ρ vs → args.bd 0 → Calls P f vs.toArray w fun en w' => ∃ v cs M', en = Ending.returned v ∧ w'.ownsRow w.heap.size eid e.size v xs.length cs ∧ RL M' e xs cs ∧ Below w.heap.size w w' ∧ M.le M' ∧ MemIn M' w' ∧ (∀ b, b < w.heap.size → M' b = M b) ∧ ∀ b, v.ownBlock = some b → M' b = none

/-- What is asked at the end of such a body. -/
def rowQ (fn : Func) (eid : TypeId) (e : Ty) (xs : List e.den) (ex : Exit) (s : S) : Prop :=
  (ex = .ret ∨ ex = .normal) ∧ ∃ d m, fn.results.toList = [.tmp d] ∧ lk s.L d = some (.lf (.osl m)) ∧ lk s.H m = some (.sl eid e xs)

theorem FnRow.intro {P : Program} {T : List (Nat × Ty)} {ET : List (Nat × Nat)} {MT : List (Nat × (Nat × Nat))} {f : FuncId} {fn : Func} {c : Code} {args : AV} {eid : TypeId} {e : Ty} {xs : List e.den} (hf : P.funcs[f]? = some fn) (hb : fn.body = some c)
    (hcall : ∀ az w, (callFunc f az).run P w = .ok (.enter f az) w) (hn : argN args ≤ fn.ntmps) (h : ∀ E M0 up, JC ⟨P, T, ET, MT, E, M0, fn.ntmps, none, up, 0⟩ c (rowQ fn eid e xs) ⟨argL args 0, [], 0⟩) : FnRow P f args eid e xs := by
  refine ⟨hcall, fun M ρ w vs hM hvs hbd => (callsIn_wide (n := 0)).1 (callsIn_of_wp_marks hf hb trivial ?_ rfl)⟩
  let up0 : Nat → Nat → Value := fun _ _ => Go.undef
  have hsat : SAT ⟨P, T, ET, MT, w, M, fn.ntmps, none, up0, 0⟩ M ρ ⟨argL args 0, [], 0⟩ w :=
    ⟨Below.refl _ _, fun _ _ h => h, fun _ _ => rfl, hM, fun l o h => by simp [lk] at h, fun l l' o o' b h => by simp [lk] at h, fun l o b h => by simp [lk] at h⟩
  have hreg : REG ⟨P, T, ET, MT, w, M, fn.ntmps, none, up0, 0⟩ M ρ ⟨argL args 0, [], 0⟩ { tmps := vs.toArray ++ Array.replicate (fn.ntmps - vs.toArray.size) Go.undef, defers := [] } := REG.args hvs hbd rfl hn
  refine wpIn_mono (h w M up0 M ρ _ w hsat hreg) ?_
  rintro ex a1 w1 ⟨M2, ρ1, s1, k1', k2', hex, d, m, hr1, hr2, hr3⟩
  obtain ⟨Ds, hds, hnd, hDs, _⟩ := k2'.defers
  have fin : LeavesInM Fence.wide 0 P fn a1.tmps (fun en w' => ∃ v cs M', en = Ending.returned v ∧ w'.ownsRow w.heap.size eid e.size v xs.length cs ∧ RL M' e xs cs ∧ Below w.heap.size w w' ∧ M.le M' ∧ MemIn M' w' ∧ (∀ b, b < w.heap.size → M' b = M b) ∧ ∀ b, v.ownBlock = some b → M' b = none) a1.defers .returning w1 := by
    rw [hds]
    refine takeAll hnd (fun D hD => k1'.mem _ _ (hDs D hD).2) fun w' hbel hkeep => ?_
    obtain ⟨hle, k1⟩ := k1'.taken (fun D hD => by
      show M D = none
      cases hMD : M D with
      | none => rfl
      | some o => have h1 := (Array.getElem?_eq_some_iff.1 (hM D o hMD)).1; have h2 : w.heap.size ≤ D := (hDs D hD).1; omega) hDs hbel hkeep
    have hown := (k1.own m _ hr3).2.2
    simp only [HO.ok] at hown
    obtain ⟨_, cs, hrow, hrl⟩ := hown
    have hv := (k2'.reg d _ hr2).2
    rw [rv_lf] at hv
    simp only [Leaf.at, Option.some.injEq] at hv
    refine ⟨ρ1.sv m, ?_, ρ1.sv m, cs, M2.without Ds, rfl, hrow, hrl, k1.below, fun b c ty fz hm => k1.msub b _ hm, k1.mem, fun b hlt => k1.mnew b hlt, fun b hb => k1.notM m _ b hr3 hb⟩
    have hrs : (fn.results.toList.mapM (resOne a1.tmps)).run P w' = .ok [ρ1.sv m] w' := by
      rw [hr1]
      simp only [List.mapM_cons, List.mapM_nil, resOne, Sem.run_bind, Sem.run_pure, Result.andThen_ok, hv.1]
    have := results_run hrs
    simpa using this
  rcases hex with rfl | rfl
  · exact fin
  · exact fin

/-- Such a call. -/
theorem JL.callRow {cs : List Prop} {f : FuncId} {args : AV} {eid : TypeId} {e : Ty} {xs : List e.den} (hg : o.guard = none) (h : callA X.T o.op ⟨s.L, [], s.nx⟩ = some (cs, f, args)) (hf : FnRow X.P f args eid e xs) (hd : dstOk X.n o.dst) (hc : allP cs)
    (k : JL X true all QA l (putS o.dst (.lf (.osl s.nx)) ⟨s.L, (s.nx, .sl eid e xs) :: s.H, s.nx + 1⟩)) : JL X true all QA (o :: l) s := by
  intro M ρ a w h1 h2
  have h1' : SAT X M ρ ⟨s.L, [], s.nx⟩ w := ⟨h1.below, h1.msub, h1.mnew, h1.mem, fun l o h => by simp [lk] at h, fun l l' o o' b h => by simp [lk] at h, fun l o b h => by simp [lk] at h⟩
  have h2' : REG X M ρ ⟨s.L, [], s.nx⟩ a := ⟨h2.size, h2.defers, h2.reg⟩
  obtain ⟨hb, vs, hvs, hrun⟩ := callA_sound h1' (Mx := M) ⟨Mem.le_refl M, fun l o b h => by simp [lk] at h⟩ h2' h hc
  refine wpListIn_w (wanted_none hg) (wpIn_enter (callA_nd h) (by rw [hrun, hf.call]) (hf.run M ρ w vs h1.mem hvs hb) ?_)
  rintro en w' ⟨v, cs', M', rfl, hrow, hrl, hbl, hm, hin, hnew, hno⟩
  have h3 := h1.ext hbl hm hin hnew
  have hv1 : v.oneCell' = true := by rcases hrow.2 with ⟨e1, _⟩ | ⟨g, cap, cur, e1, _⟩ <;> rw [e1] <;> rfl
  have hge : ∀ b, v.ownBlock = some b → w.heap.size ≤ b := fun b hb => by
    rcases hrow.2 with ⟨e1, _⟩ | ⟨g, cap, cur, e1, e2, _⟩
    · rw [e1] at hb; cases hb
    · rw [e1] at hb
      simp only [Value.ownBlock, Option.some.injEq] at hb
      subst hb; exact e2
  have h5 : SAT X M' (ρ.with s.nx 0 e v) ⟨s.L, (s.nx, .sl eid e xs) :: s.H, s.nx + 1⟩ w' := by
    refine h3.add (row := none) ⟨rfl, rfl, rfl, Nat.le_refl _, fun _ _ _ => rfl⟩ (fun b hb => by cases hb) (fun l o hl => ⟨hl, fun b _ e => by cases e⟩) (Env.with_upTo _ _ _ _ _) trivial ?_ ?_
    · simp only [HO.ok, Env.with, if_true]
      refine ⟨trivial, cs', ⟨hrow.1, ?_⟩, hrl⟩
      rcases hrow.2 with e1 | ⟨g, cap, cur, e1, e2, e3⟩
      · exact .inl e1
      · exact .inr ⟨g, cap, cur, e1, Nat.le_trans h1.below.size e2, e3⟩
    · intro b hbb
      simp only [HO.at, Env.with, if_true] at hbb
      refine ⟨hno b hbb, fun l o1 hl hat => ?_⟩
      have := (HO.at_lt (h1.own l o1 hl).2.2 hat).2
      have := hge b hbb
      omega
  have h4 : REG X M' (ρ.with s.nx 0 e v) ⟨s.L, (s.nx, .sl eid e xs) :: s.H, s.nx + 1⟩ a := h2.grow hm (Env.with_upTo _ _ _ _ _) (Nat.le_succ _) fun D hD => by rw [hnew D (Array.getElem?_eq_some_iff.1 (h1.mem _ _ hD)).1]; exact hD
  refine ⟨_, rfl, k M' _ _ w' (putS_sat h5) (h4.putO hd.spec (Nat.lt_succ_self _) ?_)⟩
  rw [rv_lf]
  exact ⟨by simp [Leaf.at, Env.with], hv1⟩
theorem JK.callRow {r : List Fr} {L : List (Nat × AV)} {H : List (Nat × HO)} {nx d : Nat} {op : Op} {ty : TypeId} {ps : String} {af : Array Edge} {cs : List Prop} {f : FuncId} {args : AV} {eid : TypeId} {e : Ty} {xs : List e.den} (h : callA X.T op ⟨L, [], nx⟩ = some (cs, f, args)) (hf : FnRow X.P f args eid e xs) (hd : ltB d X.n = true) (hc : allP cs)
    (k : JK X (.ops true all l :: r) QA ⟨(d, .lf (.osl nx)) :: L, (nx, .sl eid e xs) :: H, nx + 1⟩) : JK X (.ops true all (⟨some d, op, ty, ps, af, none⟩ :: l) :: r) QA ⟨L, H, nx⟩ := JL.callRow (s := ⟨L, H, nx⟩) rfl h hf (ltB_lt hd) hc k
end Ox

namespace Go.Proofs.Ythiocglfgcnlhaa
open Go Go.RowKit Ox Ox.Sh
attribute [local irreducible] JC JL JK JW

abbrev vI (n : Int) : AV := .val (.int .i64) n
abbrev vB (b : Bool) : AV := .val .bool b
abbrev vL (xs : List Int) : AV := .val (.slice (.int .i64)) xs
abbrev vLL (xs : List (List Int)) : AV := .val (.slice (.slice (.int .i64))) xs
abbrev shT : Ty := .cons (.int .i64) (.cons (.int .i64) (.cons (.int .i64) .nil))
abbrev vS (z : Sh) : AV := .val shT z
abbrev vD (l : List Sh) : AV := .val (.slice shT) l
abbrev pI (n : Int) : AV := .val (.ptr (.int .i64)) (some n)
abbrev vT2 (a b : Int) : AV := .tup (.acons (vI a) (.acons (vI b) .anil))
theorem getD_nat {α : Type} (xs : List α) {i : Nat} (h : i < xs.length) (d : α) : xs.getD i d = xs[i] := by
  simp [List.getD_eq_getElem?_getD, List.getElem?_eq_getElem h]

theorem fn15 (l : List Sh) : Ox.Fn Go.Proofs.Try.prog 15 (.acons (vD l) .anil) (· = vB (decide (l.length > 15))) := by
  refine Ox.Fn.intro xok Go.Proofs.Try.func15 rfl Go.Proofs.Try.call15 (Nat.le_of_ble_eq_true rfl) (fun E M0 up => ?_)
  refine JK.start ?_
  refine JK.lenOf 0 rfl fun hlen => ?_
  replace hlen : l.length ≤ 9223372036854775807 := hlen.1
  (repeat (first | refine zs rfl ?_ | refine zg rfl rfl rfl ?_ | refine zd ?_ | refine JK.fin ?_ | refine JK.ret ?_))
  refine ⟨.inl rfl, _, _, rfl, trivial, ?_⟩
  simp; omega
/-! within -/
theorem fn71 (x lo hi : Int) : Ox.Fn Go.Proofs.Try.prog 71 (.acons (vI x) (.acons (pI lo) (.acons (pI hi) .anil))) (· = vB (decide (x < lo ∨ x > hi))) := by
  refine Ox.Fn.intro xok Go.Proofs.Try.func71 rfl Go.Proofs.Try.call71 (Nat.le_of_ble_eq_true rfl) (fun E M0 up => ?_)
  refine JK.start ?_
  (repeat (first | refine zs rfl ?_ | refine zg rfl rfl rfl ?_ | refine zd ?_ | refine JK.fin ?_ | refine JK.ret ?_))
  refine ⟨.inl rfl, _, _, rfl, trivial, ?_⟩
  by_cases h : x < lo <;> simp [h]
/-- The first place whose element is good, or -1. -/
def idxB {α : Type} (p : α → Bool) : List α → Nat → Int
  | [], _ => -1
  | x :: r, i => if p x then (i : Int) else idxB p r (i + 1)
theorem idxB_nonneg {α : Type} {p : α → Bool} : ∀ {xs : List α} {i : Nat}, (0 ≤ idxB p xs i) ↔ xs.any p = true
  | [], i => by simp [idxB]
  | x :: r, i => by
    simp only [idxB, List.any_cons, Bool.or_eq_true]
    by_cases h : p x = true
    · simp [h]
    · rw [if_neg h, idxB_nonneg]; simp [h]
theorem fn84 {f : FuncId} {t1 t2 : Ty} {x1 : t1.den} {x2 : t2.den} (xs : List Int) (p : Int → Bool) (h : ∀ x ∈ xs, Ox.Fn Go.Proofs.Try.prog f (.acons (vI x) (.acons (.val t1 x1) (.acons (.val t2 x2) .anil))) (· = vB (p x))) :
    Ox.Fn Go.Proofs.Try.prog 84 (.acons (vL xs) (.acons (.fn f .anil (.acons (.val t1 x1) (.acons (.val t2 x2) .anil))) .anil)) (· = vI (idxB p xs 0)) := by
  refine Ox.Fn.intro xok Go.Proofs.Try.func84 rfl Go.Proofs.Try.call84 (Nat.le_of_ble_eq_true rfl) (fun E M0 up => ?_)
  refine JK.start ?_
  refine JK.lenOf 0 rfl fun hlen => ?_
  replace hlen : xs.length ≤ 9223372036854775807 := hlen.1
  (repeat (first | refine zs rfl ?_ | refine zg rfl rfl rfl ?_ | refine zd ?_ | refine JK.fin ?_ | refine JK.ret ?_))
  refine JK.loop (fun i : Nat => ⟨[(0, vL xs), (1, .fn f .anil (.acons (.val t1 x1) (.acons (.val t2 x2) .anil))), (7, vI xs.length), (8, vI (i : Int))], [], 0⟩) (fun i => i ≤ xs.length ∧ idxB p xs 0 = idxB p (xs.drop i) i) (fun i => xs.length - i) 0 (by simp) (by (exact JW.Auto (by conv => lhs; reduce))) fun i ⟨hi, hn⟩ => ?_
  (repeat (first | refine zs rfl ?_ | refine zg rfl rfl rfl ?_ | refine zd ?_ | refine JK.fin ?_ | refine JK.ret ?_))
  refine JK.cond rfl (fun hc => ?_) (fun hc => ?_)
  · (simp only [↓bif_or, ↓bif_and, ↓Bool.or_eq_true, ↓Bool.or_eq_false_iff, ↓Bool.and_eq_true, ↓Bool.and_eq_false_iff, ↓Bool.not_eq_true', ↓Bool.not_eq_false', ↓decide_eq_true_eq, ↓decide_eq_false_iff_not, ↓beq_iff_eq, ↓bne_iff_ne, ↓bne_eq_false_iff_eq, ↓ne_eq, ↓beq_eq_false_iff_ne, ↓Bool.not_eq_true] at hc; try simp only [Ty.dflt, Int.toNat_natCast] at hc)
    have hi' : i < xs.length := by omega
    have hx := h (xs.getD i 0) (by rw [getD_nat xs hi']; exact List.getElem_mem hi')
    (repeat (first | refine zs rfl ?_ | refine zg rfl rfl rfl ?_ | refine zd ?_ | refine JK.fin ?_ | refine JK.ret ?_ | refine zc rfl (hx) rfl rfl ?_ | refine ze rfl (hx) rfl ?_ | refine zk rfl rfl (fun _ => hx) rfl rfl ?_))
    refine JK.cond rfl (fun hd => ?_) (fun hd => ?_)
    · (repeat (first | refine zs rfl ?_ | refine zg rfl rfl rfl ?_ | refine zd ?_ | refine JK.fin ?_ | refine JK.ret ?_))
      refine ⟨.inl rfl, _, _, rfl, trivial, ?_⟩
      rw [getD_nat xs hi'] at hd
      rw [hn, List.drop_eq_getElem_cons hi', idxB, if_pos hd]
    · (repeat (first | refine zs rfl ?_ | refine zg rfl rfl rfl ?_ | refine zd ?_ | refine JK.fin ?_ | refine JK.ret ?_))
      rw [getD_nat xs hi'] at hd
      refine ⟨i + 1, by (exact JW.Auto (by conv => lhs; reduce)), ⟨by omega, ?_⟩, by omega⟩
      rw [hn, List.drop_eq_getElem_cons hi', idxB, if_neg (by rw [hd]; simp)]
  · (simp only [↓bif_or, ↓bif_and, ↓Bool.or_eq_true, ↓Bool.or_eq_false_iff, ↓Bool.and_eq_true, ↓Bool.and_eq_false_iff, ↓Bool.not_eq_true', ↓Bool.not_eq_false', ↓decide_eq_true_eq, ↓decide_eq_false_iff_not, ↓beq_iff_eq, ↓bne_iff_ne, ↓bne_eq_false_iff_eq, ↓ne_eq, ↓beq_eq_false_iff_ne, ↓Bool.not_eq_true] at hc; try simp only [Ty.dflt, Int.toNat_natCast] at hc)
    (repeat (first | refine zs rfl ?_ | refine zg rfl rfl rfl ?_ | refine zd ?_ | refine JK.fin ?_ | refine JK.ret ?_))
    refine ⟨.inl rfl, _, _, rfl, trivial, ?_⟩
    obtain rfl : i = xs.length := by omega
    rw [hn, List.drop_length]; rfl
theorem fn70 {f : FuncId} {t1 t2 : Ty} {x1 : t1.den} {x2 : t2.den} (xs : List Int) (p : Int → Bool) (h : ∀ x ∈ xs, Ox.Fn Go.Proofs.Try.prog f (.acons (vI x) (.acons (.val t1 x1) (.acons (.val t2 x2) .anil))) (· = vB (p x))) :
    Ox.Fn Go.Proofs.Try.prog 70 (.acons (vL xs) (.acons (.fn f .anil (.acons (.val t1 x1) (.acons (.val t2 x2) .anil))) .anil)) (· = vB (xs.any p)) := by
  refine Ox.Fn.intro xok Go.Proofs.Try.func70 rfl Go.Proofs.Try.call70 (Nat.le_of_ble_eq_true rfl) (fun E M0 up => ?_)
  refine JK.start ?_
  (repeat (first | refine zs rfl ?_ | refine zg rfl rfl rfl ?_ | refine zd ?_ | refine JK.fin ?_ | refine JK.ret ?_ | refine zc rfl (fn84 xs p h) rfl rfl ?_ | refine ze rfl (fn84 xs p h) rfl ?_ | refine zk rfl rfl (fun _ => fn84 xs p h) rfl rfl ?_))
  refine ⟨.inl rfl, _, _, rfl, trivial, ?_⟩
  refine congrArg vB ?_
  rw [Bool.eq_iff_iff, ← idxB_nonneg (p := p) (i := 0)]
  simp
theorem fn52 (lo hi : Int) (xs : List Int) : Ox.Fn Go.Proofs.Try.prog 52 (.acons (vI lo) (.acons (vI hi) (.acons (vL xs) .anil))) (· = vB (decide (∀ x ∈ xs, lo ≤ x ∧ x ≤ hi))) := by
  refine Ox.Fn.intro xok Go.Proofs.Try.func52 rfl Go.Proofs.Try.call52 (Nat.le_of_ble_eq_true rfl) (fun E M0 up => ?_)
  refine JK.start ?_
  (repeat (first | refine zs rfl ?_ | refine zg rfl rfl rfl ?_ | refine zd ?_ | refine JK.fin ?_ | refine JK.ret ?_ | refine zc rfl (fn70 xs (fun x => decide (x < lo ∨ x > hi)) (fun x _ => fn71 x lo hi)) rfl rfl ?_ | refine ze rfl (fn70 xs (fun x => decide (x < lo ∨ x > hi)) (fun x _ => fn71 x lo hi)) rfl ?_ | refine zk rfl rfl (fun _ => fn70 xs (fun x => decide (x < lo ∨ x > hi)) (fun x _ => fn71 x lo hi)) rfl rfl ?_))
  refine ⟨.inl rfl, _, _, rfl, trivial, ?_⟩
  refine congrArg vB ?_
  rw [Bool.eq_iff_iff]
  simp only [Bool.not_eq_true', List.any_eq_false, decide_eq_true_eq]
  refine ⟨fun h x hx => ?_, fun h x hx => ?_⟩
  · have := h x hx; omega
  · have := h x hx; omega
/-! Days. -/
instance : DecidablePred okS := fun s => by unfold okS; infer_instance
theorem fn51 (s : Sh) : Ox.Fn Go.Proofs.Try.prog 51 (.acons (vS s) .anil) (· = vB (!decide (okS s))) := by
  obtain ⟨a, b, c, _⟩ := s
  refine Ox.Fn.intro xok Go.Proofs.Try.func51 rfl Go.Proofs.Try.call51 (Nat.le_of_ble_eq_true rfl) (fun E M0 up => ?_)
  refine JK.start ?_
  have h52 := fn52 0 1000 (a :: b :: c :: List.nil)
  (repeat (first | refine zs rfl ?_ | refine zg rfl rfl rfl ?_ | refine zd ?_ | refine JK.fin ?_ | refine JK.ret ?_ | refine zc rfl (h52) rfl rfl ?_ | refine ze rfl (h52) rfl ?_ | refine zk rfl rfl (fun _ => h52) rfl rfl ?_))
  refine ⟨.inl rfl, _, _, rfl, trivial, ?_⟩
  refine congrArg (fun b => vB (!b)) ?_
  refine decide_eq_decide.2 ?_
  simp only [List.forall_mem_cons, List.not_mem_nil, false_implies, implies_true, and_true, okS]
  constructor
  · rintro ⟨h1, h2, h3⟩; exact ⟨h1.1, h1.2, h2.1, h2.2, h3.1, h3.2⟩
  · rintro ⟨h1, h2, h3, h4, h5, h6⟩; exact ⟨⟨h1, h2⟩, ⟨h3, h4⟩, h5, h6⟩
theorem fn72 {f : FuncId} (xs : List Sh) (p : Sh → Bool) (h : ∀ x ∈ xs, Ox.Fn Go.Proofs.Try.prog f (.acons (vS x) .anil) (· = vB (p x))) :
    Ox.Fn Go.Proofs.Try.prog 72 (.acons (vD xs) (.acons (.fn f .anil .anil) .anil)) (· = vI (idxB p xs 0)) := by
  refine Ox.Fn.intro xok Go.Proofs.Try.func72 rfl Go.Proofs.Try.call72 (Nat.le_of_ble_eq_true rfl) (fun E M0 up => ?_)
  refine JK.start ?_
  refine JK.lenOf 0 rfl fun hlen => ?_
  replace hlen : xs.length ≤ 9223372036854775807 := hlen.1
  (repeat (first | refine zs rfl ?_ | refine zg rfl rfl rfl ?_ | refine zd ?_ | refine JK.fin ?_ | refine JK.ret ?_))
  refine JK.loop (fun i : Nat => ⟨[(0, vD xs), (1, .fn f .anil .anil), (7, vI xs.length), (8, vI (i : Int))], [], 0⟩) (fun i => i ≤ xs.length ∧ idxB p xs 0 = idxB p (xs.drop i) i) (fun i => xs.length - i) 0 (by simp) (by (exact JW.Auto (by conv => lhs; reduce))) fun i ⟨hi, hn⟩ => ?_
  (repeat (first | refine zs rfl ?_ | refine zg rfl rfl rfl ?_ | refine zd ?_ | refine JK.fin ?_ | refine JK.ret ?_))
  refine JK.cond rfl (fun hc => ?_) (fun hc => ?_)
  · (simp only [↓bif_or, ↓bif_and, ↓Bool.or_eq_true, ↓Bool.or_eq_false_iff, ↓Bool.and_eq_true, ↓Bool.and_eq_false_iff, ↓Bool.not_eq_true', ↓Bool.not_eq_false', ↓decide_eq_true_eq, ↓decide_eq_false_iff_not, ↓beq_iff_eq, ↓bne_iff_ne, ↓bne_eq_false_iff_eq, ↓ne_eq, ↓beq_eq_false_iff_ne, ↓Bool.not_eq_true] at hc; try simp only [Ty.dflt, Int.toNat_natCast] at hc)
    have hi' : i < xs.length := by omega
    have hx := h (xs.getD i z0) (by rw [getD_nat xs hi']; exact List.getElem_mem hi')
    (repeat (first | refine zs rfl ?_ | refine zg rfl rfl rfl ?_ | refine zd ?_ | refine JK.fin ?_ | refine JK.ret ?_ | refine zc rfl (hx) rfl rfl ?_ | refine ze rfl (hx) rfl ?_ | refine zk rfl rfl (fun _ => hx) rfl rfl ?_))
    refine JK.cond rfl (fun hd => ?_) (fun hd => ?_)
    · (repeat (first | refine zs rfl ?_ | refine zg rfl rfl rfl ?_ | refine zd ?_ | refine JK.fin ?_ | refine JK.ret ?_))
      refine ⟨.inl rfl, _, _, rfl, trivial, ?_⟩
      rw [getD_nat xs hi'] at hd
      rw [hn, List.drop_eq_getElem_cons hi', idxB, if_pos hd]
    · (repeat (first | refine zs rfl ?_ | refine zg rfl rfl rfl ?_ | refine zd ?_ | refine JK.fin ?_ | refine JK.ret ?_))
      rw [getD_nat xs hi'] at hd
      refine ⟨i + 1, by (exact JW.Auto (by conv => lhs; reduce)), ⟨by omega, ?_⟩, by omega⟩
      rw [hn, List.drop_eq_getElem_cons hi', idxB, if_neg (by rw [hd]; simp)]
  · (simp only [↓bif_or, ↓bif_and, ↓Bool.or_eq_true, ↓Bool.or_eq_false_iff, ↓Bool.and_eq_true, ↓Bool.and_eq_false_iff, ↓Bool.not_eq_true', ↓Bool.not_eq_false', ↓decide_eq_true_eq, ↓decide_eq_false_iff_not, ↓beq_iff_eq, ↓bne_iff_ne, ↓bne_eq_false_iff_eq, ↓ne_eq, ↓beq_eq_false_iff_ne, ↓Bool.not_eq_true] at hc; try simp only [Ty.dflt, Int.toNat_natCast] at hc)
    (repeat (first | refine zs rfl ?_ | refine zg rfl rfl rfl ?_ | refine zd ?_ | refine JK.fin ?_ | refine JK.ret ?_))
    refine ⟨.inl rfl, _, _, rfl, trivial, ?_⟩
    obtain rfl : i = xs.length := by omega
    rw [hn, List.drop_length]; rfl
theorem fn53 {f : FuncId} (xs : List Sh) (p : Sh → Bool) (h : ∀ x ∈ xs, Ox.Fn Go.Proofs.Try.prog f (.acons (vS x) .anil) (· = vB (p x))) :
    Ox.Fn Go.Proofs.Try.prog 53 (.acons (vD xs) (.acons (.fn f .anil .anil) .anil)) (· = vB (xs.any p)) := by
  refine Ox.Fn.intro xok Go.Proofs.Try.func53 rfl Go.Proofs.Try.call53 (Nat.le_of_ble_eq_true rfl) (fun E M0 up => ?_)
  refine JK.start ?_
  (repeat (first | refine zs rfl ?_ | refine zg rfl rfl rfl ?_ | refine zd ?_ | refine JK.fin ?_ | refine JK.ret ?_ | refine zc rfl (fn72 xs p h) rfl rfl ?_ | refine ze rfl (fn72 xs p h) rfl ?_ | refine zk rfl rfl (fun _ => fn72 xs p h) rfl rfl ?_))
  refine ⟨.inl rfl, _, _, rfl, trivial, ?_⟩
  refine congrArg vB ?_
  rw [Bool.eq_iff_iff, ← idxB_nonneg (p := p) (i := 0)]
  simp
/-- The error of a day. -/
def dayE (l : List Sh) : Int := if l.length < 1 ∨ l.length > 8 then 6 else if l.any (fun s => !decide (okS s)) = true then 3 else 0
theorem day_ok {l : List Sh} (h : dayE l = 0) : 1 ≤ l.length ∧ l.length ≤ 8 ∧ okD l := by
  unfold dayE at h
  split at h
  · omega
  · split at h
    · omega
    · rename_i h1 h2
      refine ⟨by omega, by omega, fun s hs => ?_⟩
      have := List.any_eq_false.1 (Bool.not_eq_true _ ▸ h2) s hs
      simpa using this
theorem day_of {l : List Sh} (h1 : 1 ≤ l.length) (h2 : l.length ≤ 8) (h3 : okD l) : dayE l = 0 := by
  unfold dayE
  rw [if_neg (by omega), if_neg]
  rw [Bool.not_eq_true, List.any_eq_false]
  intro s hs
  simpa using h3 s hs
theorem day_iff {l : List Sh} : dayE l = 0 ↔ 1 ≤ l.length ∧ l.length ≤ 8 ∧ okD l := ⟨day_ok, fun h => day_of h.1 h.2.1 h.2.2⟩
theorem fn21 (l : List Sh) : Ox.Fn Go.Proofs.Try.prog 21 (.acons (vD l) .anil) (· = vI (dayE l)) := by
  refine Ox.Fn.intro xok Go.Proofs.Try.func21 rfl Go.Proofs.Try.call21 (Nat.le_of_ble_eq_true rfl) (fun E M0 up => ?_)
  refine JK.start ?_
  refine JK.lenOf 0 rfl fun hlen => ?_
  replace hlen : l.length ≤ 9223372036854775807 := hlen.1
  (repeat (first | refine zs rfl ?_ | refine zg rfl rfl rfl ?_ | refine zd ?_ | refine JK.fin ?_ | refine JK.ret ?_))
  refine JK.cond rfl (fun hc => ?_) (fun hc => ?_)
  · (simp only [↓bif_or, ↓bif_and, ↓Bool.or_eq_true, ↓Bool.or_eq_false_iff, ↓Bool.and_eq_true, ↓Bool.and_eq_false_iff, ↓Bool.not_eq_true', ↓Bool.not_eq_false', ↓decide_eq_true_eq, ↓decide_eq_false_iff_not, ↓beq_iff_eq, ↓bne_iff_ne, ↓bne_eq_false_iff_eq, ↓ne_eq, ↓beq_eq_false_iff_ne, ↓Bool.not_eq_true] at hc; try simp only [Ty.dflt, Int.toNat_natCast] at hc)
    (repeat (first | refine zs rfl ?_ | refine zg rfl rfl rfl ?_ | refine zd ?_ | refine JK.fin ?_ | refine JK.ret ?_))
    refine ⟨.inl rfl, _, _, rfl, trivial, ?_⟩
    rw [dayE, if_pos (by omega)]
  · (simp only [↓bif_or, ↓bif_and, ↓Bool.or_eq_true, ↓Bool.or_eq_false_iff, ↓Bool.and_eq_true, ↓Bool.and_eq_false_iff, ↓Bool.not_eq_true', ↓Bool.not_eq_false', ↓decide_eq_true_eq, ↓decide_eq_false_iff_not, ↓beq_iff_eq, ↓bne_iff_ne, ↓bne_eq_false_iff_eq, ↓ne_eq, ↓beq_eq_false_iff_ne, ↓Bool.not_eq_true] at hc; try simp only [Ty.dflt, Int.toNat_natCast] at hc)
    (repeat (first | refine zs rfl ?_ | refine zg rfl rfl rfl ?_ | refine zd ?_ | refine JK.fin ?_ | refine JK.ret ?_ | refine zc rfl (fn53 l (fun s => !decide (okS s)) (fun s _ => fn51 s)) rfl rfl ?_ | refine ze rfl (fn53 l (fun s => !decide (okS s)) (fun s _ => fn51 s)) rfl ?_ | refine zk rfl rfl (fun _ => fn53 l (fun s => !decide (okS s)) (fun s _ => fn51 s)) rfl rfl ?_))
    refine JK.cond rfl (fun hd => ?_) (fun hd => ?_)
    · (repeat (first | refine zs rfl ?_ | refine zg rfl rfl rfl ?_ | refine zd ?_ | refine JK.fin ?_ | refine JK.ret ?_))
      refine ⟨.inl rfl, _, _, rfl, trivial, ?_⟩
      rw [dayE, if_neg (by omega), if_pos hd]
    · (repeat (first | refine zs rfl ?_ | refine zg rfl rfl rfl ?_ | refine zd ?_ | refine JK.fin ?_ | refine JK.ret ?_))
      refine ⟨.inl rfl, _, _, rfl, trivial, ?_⟩
      rw [dayE, if_neg (by omega), if_neg (by rw [hd]; simp)]
theorem fn54 (n : Int) : Ox.Fn Go.Proofs.Try.prog 54 (.acons (vI n) .anil) (· = vB (decide (0 ≤ n ∧ n ≤ 1000))) := by
  refine Ox.Fn.intro xok Go.Proofs.Try.func54 rfl Go.Proofs.Try.call54 (Nat.le_of_ble_eq_true rfl) (fun E M0 up => ?_)
  refine JK.start ?_
  (repeat (first | refine zs rfl ?_ | refine zg rfl rfl rfl ?_ | refine zd ?_ | refine JK.fin ?_ | refine JK.ret ?_))
  refine ⟨.inl rfl, _, _, rfl, trivial, ?_⟩
  by_cases h : 0 ≤ n <;> simp [h]
theorem fn22 (l : List Sh) : Ox.Fn Go.Proofs.Try.prog 22 (.acons (vD l) .anil) (· = vI (dayE l)) := by
  refine Ox.Fn.intro xok Go.Proofs.Try.func22 rfl Go.Proofs.Try.call22 (Nat.le_of_ble_eq_true rfl) (fun E M0 up => ?_)
  refine JK.start ?_
  refine JK.lenOf 0 rfl fun hlen => ?_
  replace hlen : l.length ≤ 9223372036854775807 := hlen.1
  (repeat (first | refine zs rfl ?_ | refine zg rfl rfl rfl ?_ | refine zd ?_ | refine JK.fin ?_ | refine JK.ret ?_))
  refine JK.cond rfl (fun hc => ?_) (fun hc => ?_)
  · (simp only [↓bif_or, ↓bif_and, ↓Bool.or_eq_true, ↓Bool.or_eq_false_iff, ↓Bool.and_eq_true, ↓Bool.and_eq_false_iff, ↓Bool.not_eq_true', ↓Bool.not_eq_false', ↓decide_eq_true_eq, ↓decide_eq_false_iff_not, ↓beq_iff_eq, ↓bne_iff_ne, ↓bne_eq_false_iff_eq, ↓ne_eq, ↓beq_eq_false_iff_ne, ↓Bool.not_eq_true] at hc; try simp only [Ty.dflt, Int.toNat_natCast] at hc)
    (repeat (first | refine zs rfl ?_ | refine zg rfl rfl rfl ?_ | refine zd ?_ | refine JK.fin ?_ | refine JK.ret ?_))
    refine ⟨.inl rfl, _, _, rfl, trivial, ?_⟩
    rw [dayE, if_pos (by omega)]
  · (simp only [↓bif_or, ↓bif_and, ↓Bool.or_eq_true, ↓Bool.or_eq_false_iff, ↓Bool.and_eq_true, ↓Bool.and_eq_false_iff, ↓Bool.not_eq_true', ↓Bool.not_eq_false', ↓decide_eq_true_eq, ↓decide_eq_false_iff_not, ↓beq_iff_eq, ↓bne_iff_ne, ↓bne_eq_false_iff_eq, ↓ne_eq, ↓beq_eq_false_iff_ne, ↓Bool.not_eq_true] at hc; try simp only [Ty.dflt, Int.toNat_natCast] at hc)
    (repeat (first | refine zs rfl ?_ | refine zg rfl rfl rfl ?_ | refine zd ?_ | refine JK.fin ?_ | refine JK.ret ?_))
    refine JK.loop (fun i : Nat => ⟨[(0, vD l), (3, vI (i : Int))], [], 0⟩) (fun i => i ≤ l.length ∧ ∀ s ∈ l.take i, okS s) (fun i => l.length - i) 0 (by simp) (by (exact JW.Auto (by conv => lhs; reduce))) fun i ⟨hi, hn⟩ => ?_
    (repeat (first | refine zs rfl ?_ | refine zg rfl rfl rfl ?_ | refine zd ?_ | refine JK.fin ?_ | refine JK.ret ?_))
    refine JK.cond rfl (fun hd => ?_) (fun hd => ?_)
    · (simp only [↓bif_or, ↓bif_and, ↓Bool.or_eq_true, ↓Bool.or_eq_false_iff, ↓Bool.and_eq_true, ↓Bool.and_eq_false_iff, ↓Bool.not_eq_true', ↓Bool.not_eq_false', ↓decide_eq_true_eq, ↓decide_eq_false_iff_not, ↓beq_iff_eq, ↓bne_iff_ne, ↓bne_eq_false_iff_eq, ↓ne_eq, ↓beq_eq_false_iff_ne, ↓Bool.not_eq_true] at hd; try simp only [Ty.dflt, Int.toNat_natCast] at hd)
      have hi' : i < l.length := by omega
      have e1 := fn54 (da (l.getD i z0))
      have e2 := fn54 (dr (l.getD i z0))
      have e3 := fn54 (dp (l.getD i z0))
      have hmem : l.getD i z0 ∈ l := by rw [getD_nat l hi']; exact List.getElem_mem hi'
      have htk : l.take (i + 1) = l.take i ++ [l.getD i z0] := by rw [List.take_succ, List.getElem?_eq_getElem hi', getD_nat l hi']; rfl
      (repeat (first | refine zs rfl ?_ | refine zg rfl rfl rfl ?_ | refine zd ?_ | refine JK.fin ?_ | refine JK.ret ?_ | refine zc rfl (e1) rfl rfl ?_ | refine ze rfl (e1) rfl ?_ | refine zk rfl rfl (fun _ => e1) rfl rfl ?_ | refine zc rfl (e2) rfl rfl ?_ | refine ze rfl (e2) rfl ?_ | refine zk rfl rfl (fun _ => e2) rfl rfl ?_ | refine zc rfl (e3) rfl rfl ?_ | refine ze rfl (e3) rfl ?_ | refine zk rfl rfl (fun _ => e3) rfl rfl ?_))
      refine JK.cond rfl (fun he => ?_) (fun he => ?_)
      · have he' : ¬ okS (l.getD i z0) := fun h => by
          unfold okS at h
          simp at he
          rw [List.getD_eq_getElem?_getD] at h
          omega
        (repeat (first | refine zs rfl ?_ | refine zg rfl rfl rfl ?_ | refine zd ?_ | refine JK.fin ?_ | refine JK.ret ?_))
        refine ⟨.inl rfl, _, _, rfl, trivial, ?_⟩
        rw [dayE, if_neg (by omega), if_pos]
        rw [List.any_eq_true]
        exact ⟨_, hmem, by simpa using he'⟩
      · have he' : okS (l.getD i z0) := by
          unfold okS
          simp at he
          rw [List.getD_eq_getElem?_getD]
          omega
        (repeat (first | refine zs rfl ?_ | refine zg rfl rfl rfl ?_ | refine zd ?_ | refine JK.fin ?_ | refine JK.ret ?_))
        refine ⟨i + 1, by (exact JW.Auto (by conv => lhs; reduce)), ⟨by omega, fun s hs => ?_⟩, by omega⟩
        rw [htk] at hs
        rcases List.mem_append.1 hs with hs | hs
        · exact hn s hs
        · rw [List.mem_singleton.1 hs]; exact he'
    · (simp only [↓bif_or, ↓bif_and, ↓Bool.or_eq_true, ↓Bool.or_eq_false_iff, ↓Bool.and_eq_true, ↓Bool.and_eq_false_iff, ↓Bool.not_eq_true', ↓Bool.not_eq_false', ↓decide_eq_true_eq, ↓decide_eq_false_iff_not, ↓beq_iff_eq, ↓bne_iff_ne, ↓bne_eq_false_iff_eq, ↓ne_eq, ↓beq_eq_false_iff_ne, ↓Bool.not_eq_true] at hd; try simp only [Ty.dflt, Int.toNat_natCast] at hd)
      (repeat (first | refine zs rfl ?_ | refine zg rfl rfl rfl ?_ | refine zd ?_ | refine JK.fin ?_ | refine JK.ret ?_))
      refine ⟨.inl rfl, _, _, rfl, trivial, ?_⟩
      obtain rfl : i = l.length := by omega
      rw [List.take_length] at hn
      rw [day_of (by omega) (by omega) hn]
theorem fn28 (l : List Sh) : Ox.Fn Go.Proofs.Try.prog 28 (.acons (vD l) .anil) (· = vB (decide (dayE l = 0 ∧ l.length > 6))) := by
  refine Ox.Fn.intro xok Go.Proofs.Try.func28 rfl Go.Proofs.Try.call28 (Nat.le_of_ble_eq_true rfl) (fun E M0 up => ?_)
  refine JK.start ?_
  refine JK.lenOf 0 rfl fun hlen => ?_
  replace hlen : l.length ≤ 9223372036854775807 := hlen.1
  (repeat (first | refine zs rfl ?_ | refine zg rfl rfl rfl ?_ | refine zd ?_ | refine JK.fin ?_ | refine JK.ret ?_ | refine zc rfl (fn22 l) rfl rfl ?_ | refine ze rfl (fn22 l) rfl ?_ | refine zk rfl rfl (fun _ => fn22 l) rfl rfl ?_))
  refine ⟨.inl rfl, _, _, rfl, trivial, ?_⟩
  refine congrArg vB ?_
  rw [Bool.eq_iff_iff]
  by_cases h : dayE l = 0 <;> simp [h]
  omega
theorem fn41 (l : List Sh) : Ox.Fn Go.Proofs.Try.prog 41 (.acons (vD l) .anil) (· = vB (decide (dayE l = 0))) := by
  refine Ox.Fn.intro xok Go.Proofs.Try.func41 rfl Go.Proofs.Try.call41 (Nat.le_of_ble_eq_true rfl) (fun E M0 up => ?_)
  refine JK.start ?_
  (repeat (first | refine zs rfl ?_ | refine zg rfl rfl rfl ?_ | refine zd ?_ | refine JK.fin ?_ | refine JK.ret ?_ | refine zc rfl (fn15 l) rfl rfl ?_ | refine ze rfl (fn15 l) rfl ?_ | refine zk rfl rfl (fun _ => fn15 l) rfl rfl ?_ | refine zc rfl (fn22 l) rfl rfl ?_ | refine ze rfl (fn22 l) rfl ?_ | refine zk rfl rfl (fun _ => fn22 l) rfl rfl ?_))
  refine ⟨.inl rfl, _, _, rfl, trivial, ?_⟩
  refine congrArg vB ?_
  rw [Bool.eq_iff_iff]
  by_cases h : dayE l = 0
  · have := day_ok h
    have h15 : ¬ l.length > 15 := by omega
    simp [h, h15]
  · simp [h]
/-! Lists. -/
theorem fn34 (xs ys : List Int) : Ox.Fn Go.Proofs.Try.prog 34 (.acons (vL xs) (.acons (vL ys) .anil)) (· = vB (decide (xs = ys))) := by
  refine Ox.Fn.intro xok Go.Proofs.Try.func34 rfl Go.Proofs.Try.call34 (Nat.le_of_ble_eq_true rfl) (fun E M0 up => ?_)
  refine JK.start ?_
  refine JK.lenOf 0 rfl fun hlen => ?_
  replace hlen : xs.length ≤ 9223372036854775807 := hlen.1
  (repeat (first | refine zs rfl ?_ | refine zg rfl rfl rfl ?_ | refine zd ?_ | refine JK.fin ?_ | refine JK.ret ?_))
  refine JK.cond rfl (fun hc => ?_) (fun hc => ?_)
  · (simp only [↓bif_or, ↓bif_and, ↓Bool.or_eq_true, ↓Bool.or_eq_false_iff, ↓Bool.and_eq_true, ↓Bool.and_eq_false_iff, ↓Bool.not_eq_true', ↓Bool.not_eq_false', ↓decide_eq_true_eq, ↓decide_eq_false_iff_not, ↓beq_iff_eq, ↓bne_iff_ne, ↓bne_eq_false_iff_eq, ↓ne_eq, ↓beq_eq_false_iff_ne, ↓Bool.not_eq_true] at hc; try simp only [Ty.dflt, Int.toNat_natCast] at hc)
    (repeat (first | refine zs rfl ?_ | refine zg rfl rfl rfl ?_ | refine zd ?_ | refine JK.fin ?_ | refine JK.ret ?_))
    refine ⟨.inl rfl, _, _, rfl, trivial, ?_⟩
    have : xs ≠ ys := by rintro rfl; simp at hc
    simp [this]
  · (simp only [↓bif_or, ↓bif_and, ↓Bool.or_eq_true, ↓Bool.or_eq_false_iff, ↓Bool.and_eq_true, ↓Bool.and_eq_false_iff, ↓Bool.not_eq_true', ↓Bool.not_eq_false', ↓decide_eq_true_eq, ↓decide_eq_false_iff_not, ↓beq_iff_eq, ↓bne_iff_ne, ↓bne_eq_false_iff_eq, ↓ne_eq, ↓beq_eq_false_iff_ne, ↓Bool.not_eq_true] at hc; try simp only [Ty.dflt, Int.toNat_natCast] at hc)
    have hl : xs.length = ys.length := by omega
    (repeat (first | refine zs rfl ?_ | refine zg rfl rfl rfl ?_ | refine zd ?_ | refine JK.fin ?_ | refine JK.ret ?_))
    refine JK.loop (fun i : Nat => ⟨[(0, vL xs), (1, vL ys), (5, vI (i : Int))], [], 0⟩) (fun i => i ≤ xs.length ∧ xs.take i = ys.take i) (fun i => xs.length - i) 0 (by simp) (by (exact JW.Auto (by conv => lhs; reduce))) fun i ⟨hi, hn⟩ => ?_
    (repeat (first | refine zs rfl ?_ | refine zg rfl rfl rfl ?_ | refine zd ?_ | refine JK.fin ?_ | refine JK.ret ?_))
    refine JK.cond rfl (fun hc => ?_) (fun hc => ?_)
    · (simp only [↓bif_or, ↓bif_and, ↓Bool.or_eq_true, ↓Bool.or_eq_false_iff, ↓Bool.and_eq_true, ↓Bool.and_eq_false_iff, ↓Bool.not_eq_true', ↓Bool.not_eq_false', ↓decide_eq_true_eq, ↓decide_eq_false_iff_not, ↓beq_iff_eq, ↓bne_iff_ne, ↓bne_eq_false_iff_eq, ↓ne_eq, ↓beq_eq_false_iff_ne, ↓Bool.not_eq_true] at hc; try simp only [Ty.dflt, Int.toNat_natCast] at hc)
      have hi' : i < xs.length := by omega
      have hj' : i < ys.length := by omega
      (repeat (first | refine zs rfl ?_ | refine zg rfl rfl rfl ?_ | refine zd ?_ | refine JK.fin ?_ | refine JK.ret ?_))
      refine JK.cond rfl (fun hd => ?_) (fun hd => ?_)
      · (simp only [↓bif_or, ↓bif_and, ↓Bool.or_eq_true, ↓Bool.or_eq_false_iff, ↓Bool.and_eq_true, ↓Bool.and_eq_false_iff, ↓Bool.not_eq_true', ↓Bool.not_eq_false', ↓decide_eq_true_eq, ↓decide_eq_false_iff_not, ↓beq_iff_eq, ↓bne_iff_ne, ↓bne_eq_false_iff_eq, ↓ne_eq, ↓beq_eq_false_iff_ne, ↓Bool.not_eq_true] at hd; try simp only [Ty.dflt, Int.toNat_natCast] at hd)
        (repeat (first | refine zs rfl ?_ | refine zg rfl rfl rfl ?_ | refine zd ?_ | refine JK.fin ?_ | refine JK.ret ?_))
        refine ⟨.inl rfl, _, _, rfl, trivial, ?_⟩
        rw [getD_nat xs hi', getD_nat ys hj'] at hd
        have : xs ≠ ys := by rintro rfl; exact hd rfl
        simp [this]
      · (simp only [↓bif_or, ↓bif_and, ↓Bool.or_eq_true, ↓Bool.or_eq_false_iff, ↓Bool.and_eq_true, ↓Bool.and_eq_false_iff, ↓Bool.not_eq_true', ↓Bool.not_eq_false', ↓decide_eq_true_eq, ↓decide_eq_false_iff_not, ↓beq_iff_eq, ↓bne_iff_ne, ↓bne_eq_false_iff_eq, ↓ne_eq, ↓beq_eq_false_iff_ne, ↓Bool.not_eq_true] at hd; try simp only [Ty.dflt, Int.toNat_natCast] at hd)
        (repeat (first | refine zs rfl ?_ | refine zg rfl rfl rfl ?_ | refine zd ?_ | refine JK.fin ?_ | refine JK.ret ?_))
        rw [getD_nat xs hi', getD_nat ys hj'] at hd
        refine ⟨i + 1, by (exact JW.Auto (by conv => lhs; reduce)), ⟨by omega, ?_⟩, by omega⟩
        rw [List.take_succ, List.take_succ, List.getElem?_eq_getElem hi', List.getElem?_eq_getElem hj', hn, hd]
    · (simp only [↓bif_or, ↓bif_and, ↓Bool.or_eq_true, ↓Bool.or_eq_false_iff, ↓Bool.and_eq_true, ↓Bool.and_eq_false_iff, ↓Bool.not_eq_true', ↓Bool.not_eq_false', ↓decide_eq_true_eq, ↓decide_eq_false_iff_not, ↓beq_iff_eq, ↓bne_iff_ne, ↓bne_eq_false_iff_eq, ↓ne_eq, ↓beq_eq_false_iff_ne, ↓Bool.not_eq_true] at hc; try simp only [Ty.dflt, Int.toNat_natCast] at hc)
      (repeat (first | refine zs rfl ?_ | refine zg rfl rfl rfl ?_ | refine zd ?_ | refine JK.fin ?_ | refine JK.ret ?_))
      refine ⟨.inl rfl, _, _, rfl, trivial, ?_⟩
      have : i = xs.length := by omega
      subst this
      rw [List.take_length, hl, List.take_length] at hn
      simp [hn]
theorem fn23 (xs ys : List Int) : Ox.Fn Go.Proofs.Try.prog 23 (.acons (vL xs) (.acons (vL ys) .anil)) (· = vB (decide (xs = ys))) := by
  refine Ox.Fn.intro xok Go.Proofs.Try.func23 rfl Go.Proofs.Try.call23 (Nat.le_of_ble_eq_true rfl) (fun E M0 up => ?_)
  refine JK.start ?_
  refine JK.lenOf 0 rfl fun hlen => ?_
  replace hlen : xs.length ≤ 9223372036854775807 := hlen.1
  (repeat (first | refine zs rfl ?_ | refine zg rfl rfl rfl ?_ | refine zd ?_ | refine JK.fin ?_ | refine JK.ret ?_))
  refine JK.cond rfl (fun hc => ?_) (fun hc => ?_)
  · (simp only [↓bif_or, ↓bif_and, ↓Bool.or_eq_true, ↓Bool.or_eq_false_iff, ↓Bool.and_eq_true, ↓Bool.and_eq_false_iff, ↓Bool.not_eq_true', ↓Bool.not_eq_false', ↓decide_eq_true_eq, ↓decide_eq_false_iff_not, ↓beq_iff_eq, ↓bne_iff_ne, ↓bne_eq_false_iff_eq, ↓ne_eq, ↓beq_eq_false_iff_ne, ↓Bool.not_eq_true] at hc; try simp only [Ty.dflt, Int.toNat_natCast] at hc)
    (repeat (first | refine zs rfl ?_ | refine zg rfl rfl rfl ?_ | refine zd ?_ | refine JK.fin ?_ | refine JK.ret ?_))
    refine ⟨.inl rfl, _, _, rfl, trivial, ?_⟩
    have : xs ≠ ys := by rintro rfl; simp at hc
    simp [this]
  · (simp only [↓bif_or, ↓bif_and, ↓Bool.or_eq_true, ↓Bool.or_eq_false_iff, ↓Bool.and_eq_true, ↓Bool.and_eq_false_iff, ↓Bool.not_eq_true', ↓Bool.not_eq_false', ↓decide_eq_true_eq, ↓decide_eq_false_iff_not, ↓beq_iff_eq, ↓bne_iff_ne, ↓bne_eq_false_iff_eq, ↓ne_eq, ↓beq_eq_false_iff_ne, ↓Bool.not_eq_true] at hc; try simp only [Ty.dflt, Int.toNat_natCast] at hc)
    have hl : xs.length = ys.length := by omega
    (repeat (first | refine zs rfl ?_ | refine zg rfl rfl rfl ?_ | refine zd ?_ | refine JK.fin ?_ | refine JK.ret ?_))
    refine JK.loop (fun i : Nat => ⟨[(0, vL xs), (1, vL ys), (5, vI (i : Int))], [], 0⟩) (fun i => i ≤ xs.length ∧ xs.take i = ys.take i) (fun i => xs.length - i) 0 (by simp) (by (exact JW.Auto (by conv => lhs; reduce))) fun i ⟨hi, hn⟩ => ?_
    (repeat (first | refine zs rfl ?_ | refine zg rfl rfl rfl ?_ | refine zd ?_ | refine JK.fin ?_ | refine JK.ret ?_))
    refine JK.cond rfl (fun hc => ?_) (fun hc => ?_)
    · (simp only [↓bif_or, ↓bif_and, ↓Bool.or_eq_true, ↓Bool.or_eq_false_iff, ↓Bool.and_eq_true, ↓Bool.and_eq_false_iff, ↓Bool.not_eq_true', ↓Bool.not_eq_false', ↓decide_eq_true_eq, ↓decide_eq_false_iff_not, ↓beq_iff_eq, ↓bne_iff_ne, ↓bne_eq_false_iff_eq, ↓ne_eq, ↓beq_eq_false_iff_ne, ↓Bool.not_eq_true] at hc; try simp only [Ty.dflt, Int.toNat_natCast] at hc)
      have hi' : i < xs.length := by omega
      have hj' : i < ys.length := by omega
      (repeat (first | refine zs rfl ?_ | refine zg rfl rfl rfl ?_ | refine zd ?_ | refine JK.fin ?_ | refine JK.ret ?_))
      refine JK.cond rfl (fun hd => ?_) (fun hd => ?_)
      · (simp only [↓bif_or, ↓bif_and, ↓Bool.or_eq_true, ↓Bool.or_eq_false_iff, ↓Bool.and_eq_true, ↓Bool.and_eq_false_iff, ↓Bool.not_eq_true', ↓Bool.not_eq_false', ↓decide_eq_true_eq, ↓decide_eq_false_iff_not, ↓beq_iff_eq, ↓bne_iff_ne, ↓bne_eq_false_iff_eq, ↓ne_eq, ↓beq_eq_false_iff_ne, ↓Bool.not_eq_true] at hd; try simp only [Ty.dflt, Int.toNat_natCast] at hd)
        (repeat (first | refine zs rfl ?_ | refine zg rfl rfl rfl ?_ | refine zd ?_ | refine JK.fin ?_ | refine JK.ret ?_))
        refine ⟨.inl rfl, _, _, rfl, trivial, ?_⟩
        rw [getD_nat xs hi', getD_nat ys hj'] at hd
        have : xs ≠ ys := by rintro rfl; exact hd rfl
        simp [this]
      · (simp only [↓bif_or, ↓bif_and, ↓Bool.or_eq_true, ↓Bool.or_eq_false_iff, ↓Bool.and_eq_true, ↓Bool.and_eq_false_iff, ↓Bool.not_eq_true', ↓Bool.not_eq_false', ↓decide_eq_true_eq, ↓decide_eq_false_iff_not, ↓beq_iff_eq, ↓bne_iff_ne, ↓bne_eq_false_iff_eq, ↓ne_eq, ↓beq_eq_false_iff_ne, ↓Bool.not_eq_true] at hd; try simp only [Ty.dflt, Int.toNat_natCast] at hd)
        (repeat (first | refine zs rfl ?_ | refine zg rfl rfl rfl ?_ | refine zd ?_ | refine JK.fin ?_ | refine JK.ret ?_))
        rw [getD_nat xs hi', getD_nat ys hj'] at hd
        refine ⟨i + 1, by (exact JW.Auto (by conv => lhs; reduce)), ⟨by omega, ?_⟩, by omega⟩
        rw [List.take_succ, List.take_succ, List.getElem?_eq_getElem hi', List.getElem?_eq_getElem hj', hn, hd]
    · (simp only [↓bif_or, ↓bif_and, ↓Bool.or_eq_true, ↓Bool.or_eq_false_iff, ↓Bool.and_eq_true, ↓Bool.and_eq_false_iff, ↓Bool.not_eq_true', ↓Bool.not_eq_false', ↓decide_eq_true_eq, ↓decide_eq_false_iff_not, ↓beq_iff_eq, ↓bne_iff_ne, ↓bne_eq_false_iff_eq, ↓ne_eq, ↓beq_eq_false_iff_ne, ↓Bool.not_eq_true] at hc; try simp only [Ty.dflt, Int.toNat_natCast] at hc)
      (repeat (first | refine zs rfl ?_ | refine zg rfl rfl rfl ?_ | refine zd ?_ | refine JK.fin ?_ | refine JK.ret ?_))
      refine ⟨.inl rfl, _, _, rfl, trivial, ?_⟩
      have : i = xs.length := by omega
      subst this
      rw [List.take_length, hl, List.take_length] at hn
      simp [hn]
theorem fn59 (xs : List Int) (b : Int) : Ox.Fn Go.Proofs.Try.prog 59 (.acons (vL xs) (.acons (vI b) .anil)) (· = vB (decide (b ∈ xs))) := by
  refine Ox.Fn.intro xok Go.Proofs.Try.func59 rfl Go.Proofs.Try.call59 (Nat.le_of_ble_eq_true rfl) (fun E M0 up => ?_)
  refine JK.start ?_
  refine JK.lenOf 0 rfl fun hlen => ?_
  replace hlen : xs.length ≤ 9223372036854775807 := hlen.1
  (repeat (first | refine zs rfl ?_ | refine zg rfl rfl rfl ?_ | refine zd ?_ | refine JK.fin ?_ | refine JK.ret ?_))
  refine JK.loop (fun i : Nat => ⟨[(0, vL xs), (1, vI b), (5, vI (i : Int))], [], 0⟩) (fun i => i ≤ xs.length ∧ b ∉ xs.take i) (fun i => xs.length - i) 0 (by simp) (by (exact JW.Auto (by conv => lhs; reduce))) fun i ⟨hi, hn⟩ => ?_
  (repeat (first | refine zs rfl ?_ | refine zg rfl rfl rfl ?_ | refine zd ?_ | refine JK.fin ?_ | refine JK.ret ?_))
  refine JK.cond rfl (fun hc => ?_) (fun hc => ?_)
  · (simp only [↓bif_or, ↓bif_and, ↓Bool.or_eq_true, ↓Bool.or_eq_false_iff, ↓Bool.and_eq_true, ↓Bool.and_eq_false_iff, ↓Bool.not_eq_true', ↓Bool.not_eq_false', ↓decide_eq_true_eq, ↓decide_eq_false_iff_not, ↓beq_iff_eq, ↓bne_iff_ne, ↓bne_eq_false_iff_eq, ↓ne_eq, ↓beq_eq_false_iff_ne, ↓Bool.not_eq_true] at hc; try simp only [Ty.dflt, Int.toNat_natCast] at hc)
    have hi' : i < xs.length := by omega
    (repeat (first | refine zs rfl ?_ | refine zg rfl rfl rfl ?_ | refine zd ?_ | refine JK.fin ?_ | refine JK.ret ?_))
    refine JK.cond rfl (fun hd => ?_) (fun hd => ?_)
    · (simp only [↓bif_or, ↓bif_and, ↓Bool.or_eq_true, ↓Bool.or_eq_false_iff, ↓Bool.and_eq_true, ↓Bool.and_eq_false_iff, ↓Bool.not_eq_true', ↓Bool.not_eq_false', ↓decide_eq_true_eq, ↓decide_eq_false_iff_not, ↓beq_iff_eq, ↓bne_iff_ne, ↓bne_eq_false_iff_eq, ↓ne_eq, ↓beq_eq_false_iff_ne, ↓Bool.not_eq_true] at hd; try simp only [Ty.dflt, Int.toNat_natCast] at hd)
      (repeat (first | refine zs rfl ?_ | refine zg rfl rfl rfl ?_ | refine zd ?_ | refine JK.fin ?_ | refine JK.ret ?_))
      refine ⟨.inl rfl, _, _, rfl, trivial, ?_⟩
      rw [getD_nat xs hi'] at hd
      simp [← hd]
    · (simp only [↓bif_or, ↓bif_and, ↓Bool.or_eq_true, ↓Bool.or_eq_false_iff, ↓Bool.and_eq_true, ↓Bool.and_eq_false_iff, ↓Bool.not_eq_true', ↓Bool.not_eq_false', ↓decide_eq_true_eq, ↓decide_eq_false_iff_not, ↓beq_iff_eq, ↓bne_iff_ne, ↓bne_eq_false_iff_eq, ↓ne_eq, ↓beq_eq_false_iff_ne, ↓Bool.not_eq_true] at hd; try simp only [Ty.dflt, Int.toNat_natCast] at hd)
      (repeat (first | refine zs rfl ?_ | refine zg rfl rfl rfl ?_ | refine zd ?_ | refine JK.fin ?_ | refine JK.ret ?_))
      rw [getD_nat xs hi'] at hd
      refine ⟨i + 1, by (exact JW.Auto (by conv => lhs; reduce)), ⟨by omega, ?_⟩, by omega⟩
      rw [List.take_succ, List.mem_append, List.getElem?_eq_getElem hi']
      rintro (h | h)
      · exact hn h
      · simp at h; exact hd h.symm
  · (simp only [↓bif_or, ↓bif_and, ↓Bool.or_eq_true, ↓Bool.or_eq_false_iff, ↓Bool.and_eq_true, ↓Bool.and_eq_false_iff, ↓Bool.not_eq_true', ↓Bool.not_eq_false', ↓decide_eq_true_eq, ↓decide_eq_false_iff_not, ↓beq_iff_eq, ↓bne_iff_ne, ↓bne_eq_false_iff_eq, ↓ne_eq, ↓beq_eq_false_iff_ne, ↓Bool.not_eq_true] at hc; try simp only [Ty.dflt, Int.toNat_natCast] at hc)
    (repeat (first | refine zs rfl ?_ | refine zg rfl rfl rfl ?_ | refine zd ?_ | refine JK.fin ?_ | refine JK.ret ?_))
    refine ⟨.inl rfl, _, _, rfl, trivial, ?_⟩
    have : i = xs.length := by omega
    subst this
    simp at hn
    simp [hn]
theorem fn66 (xs : List Int) (b : Int) : Ox.Fn Go.Proofs.Try.prog 66 (.acons (vL xs) (.acons (vI b) .anil)) (· = vI (idxB (fun x => decide (b = x)) xs 0)) := by
  refine Ox.Fn.intro xok Go.Proofs.Try.func66 rfl Go.Proofs.Try.call66 (Nat.le_of_ble_eq_true rfl) (fun E M0 up => ?_)
  refine JK.start ?_
  refine JK.lenOf 0 rfl fun hlen => ?_
  replace hlen : xs.length ≤ 9223372036854775807 := hlen.1
  (repeat (first | refine zs rfl ?_ | refine zg rfl rfl rfl ?_ | refine zd ?_ | refine JK.fin ?_ | refine JK.ret ?_))
  refine JK.loop (fun i : Nat => ⟨[(0, vL xs), (1, vI b), (7, vI xs.length), (8, vI (i : Int))], [], 0⟩) (fun i => i ≤ xs.length ∧ idxB (fun x => decide (b = x)) xs 0 = idxB (fun x => decide (b = x)) (xs.drop i) i) (fun i => xs.length - i) 0 (by simp) (by (exact JW.Auto (by conv => lhs; reduce))) fun i ⟨hi, hn⟩ => ?_
  (repeat (first | refine zs rfl ?_ | refine zg rfl rfl rfl ?_ | refine zd ?_ | refine JK.fin ?_ | refine JK.ret ?_))
  refine JK.cond rfl (fun hc => ?_) (fun hc => ?_)
  · (simp only [↓bif_or, ↓bif_and, ↓Bool.or_eq_true, ↓Bool.or_eq_false_iff, ↓Bool.and_eq_true, ↓Bool.and_eq_false_iff, ↓Bool.not_eq_true', ↓Bool.not_eq_false', ↓decide_eq_true_eq, ↓decide_eq_false_iff_not, ↓beq_iff_eq, ↓bne_iff_ne, ↓bne_eq_false_iff_eq, ↓ne_eq, ↓beq_eq_false_iff_ne, ↓Bool.not_eq_true] at hc; try simp only [Ty.dflt, Int.toNat_natCast] at hc)
    have hi' : i < xs.length := by omega
    (repeat (first | refine zs rfl ?_ | refine zg rfl rfl rfl ?_ | refine zd ?_ | refine JK.fin ?_ | refine JK.ret ?_))
    refine JK.cond rfl (fun hd => ?_) (fun hd => ?_)
    · (simp only [↓bif_or, ↓bif_and, ↓Bool.or_eq_true, ↓Bool.or_eq_false_iff, ↓Bool.and_eq_true, ↓Bool.and_eq_false_iff, ↓Bool.not_eq_true', ↓Bool.not_eq_false', ↓decide_eq_true_eq, ↓decide_eq_false_iff_not, ↓beq_iff_eq, ↓bne_iff_ne, ↓bne_eq_false_iff_eq, ↓ne_eq, ↓beq_eq_false_iff_ne, ↓Bool.not_eq_true] at hd; try simp only [Ty.dflt, Int.toNat_natCast] at hd)
      (repeat (first | refine zs rfl ?_ | refine zg rfl rfl rfl ?_ | refine zd ?_ | refine JK.fin ?_ | refine JK.ret ?_))
      refine ⟨.inl rfl, _, _, rfl, trivial, ?_⟩
      rw [getD_nat xs hi'] at hd
      rw [hn, List.drop_eq_getElem_cons hi', idxB, if_pos (by simpa using hd)]
    · (simp only [↓bif_or, ↓bif_and, ↓Bool.or_eq_true, ↓Bool.or_eq_false_iff, ↓Bool.and_eq_true, ↓Bool.and_eq_false_iff, ↓Bool.not_eq_true', ↓Bool.not_eq_false', ↓decide_eq_true_eq, ↓decide_eq_false_iff_not, ↓beq_iff_eq, ↓bne_iff_ne, ↓bne_eq_false_iff_eq, ↓ne_eq, ↓beq_eq_false_iff_ne, ↓Bool.not_eq_true] at hd; try simp only [Ty.dflt, Int.toNat_natCast] at hd)
      (repeat (first | refine zs rfl ?_ | refine zg rfl rfl rfl ?_ | refine zd ?_ | refine JK.fin ?_ | refine JK.ret ?_))
      rw [getD_nat xs hi'] at hd
      refine ⟨i + 1, by (exact JW.Auto (by conv => lhs; reduce)), ⟨by omega, ?_⟩, by omega⟩
      rw [hn, List.drop_eq_getElem_cons hi', idxB, if_neg (by simpa using hd)]
  · (simp only [↓bif_or, ↓bif_and, ↓Bool.or_eq_true, ↓Bool.or_eq_false_iff, ↓Bool.and_eq_true, ↓Bool.and_eq_false_iff, ↓Bool.not_eq_true', ↓Bool.not_eq_false', ↓decide_eq_true_eq, ↓decide_eq_false_iff_not, ↓beq_iff_eq, ↓bne_iff_ne, ↓bne_eq_false_iff_eq, ↓ne_eq, ↓beq_eq_false_iff_ne, ↓Bool.not_eq_true] at hc; try simp only [Ty.dflt, Int.toNat_natCast] at hc)
    (repeat (first | refine zs rfl ?_ | refine zg rfl rfl rfl ?_ | refine zd ?_ | refine JK.fin ?_ | refine JK.ret ?_))
    refine ⟨.inl rfl, _, _, rfl, trivial, ?_⟩
    obtain rfl : i = xs.length := by omega
    rw [hn, List.drop_length]; rfl
theorem fn85 (xs : List Int) (b : Int) : Ox.Fn Go.Proofs.Try.prog 85 (.acons (vL xs) (.acons (vI b) .anil)) (· = vB (decide (b ∈ xs))) := by
  refine Ox.Fn.intro xok Go.Proofs.Try.func85 rfl Go.Proofs.Try.call85 (Nat.le_of_ble_eq_true rfl) (fun E M0 up => ?_)
  refine JK.start ?_
  (repeat (first | refine zs rfl ?_ | refine zg rfl rfl rfl ?_ | refine zd ?_ | refine JK.fin ?_ | refine JK.ret ?_ | refine zc rfl (fn66 xs b) rfl rfl ?_ | refine ze rfl (fn66 xs b) rfl ?_ | refine zk rfl rfl (fun _ => fn66 xs b) rfl rfl ?_))
  refine ⟨.inl rfl, _, _, rfl, trivial, ?_⟩
  refine congrArg vB ?_
  rw [Bool.eq_iff_iff]
  simp only [decide_eq_true_eq]
  refine (idxB_nonneg (p := fun x => decide (b = x)) (i := 0)).trans ?_
  simp
end Go.Proofs.Ythiocglfgcnlhaa

namespace Ox
open Go Go.RowKit
variable {X : Ctx} {s : S} {M : Mem} {ρ : Env} {a : Act} {w w' : World} {QA : Exit → S → Prop} {all l : List Oper} {md : Bool}
variable {L : List (Nat × AV)} {H : List (Nat × HO)} {nx m lo hi : Nat} {t : TypeId} {e : Ty} {eid : TypeId} {xs : List e.den} {c1 : List Prop} {x : Operand} {ty : TypeId} {ps : String} {af : Array Edge} {f : Bool}

theorem run_clear0 {P : Program} {ad : Option Addr} {cap : Nat} (hs : P.underlying t = some (.slice eid)) : (Builtin.clear_ #[t] ty #[.slice ad 0 cap]).run P w = .ok (.tuple #[]) w := by
  cases ad <;> simp [Builtin.clear_, run_underlying hs]

/-- clear(s[lo:]) of a row of the call's own. -/
theorem JL.clearV (hX : XOK X) (hu : opd L x = some (c1, .lf (.ovw m lo hi f))) (hl : lk H m = some (.sl eid e xs)) (ht : lk X.T t = some (.slice e)) (hhi : hi = xs.length) (hlo : lo ≤ xs.length) (hc : allP c1)
    (k : JL X true all QA l ⟨L, updH H m (.sl eid e (xs.take lo ++ List.replicate (hi - lo) e.dflt)), nx⟩) :
    JL X true all QA (⟨none, .call { callee := .builtin .clear, args := #[x], argTypes := #[t] }, ty, ps, af, none⟩ :: l) ⟨L, H, nx⟩ := by
  refine JL.did rfl rfl trivial (v := .tup .anil) (s' := ⟨L, updH H m (.sl eid e (xs.take lo ++ List.replicate (hi - lo) e.dflt)), nx⟩) (fun M ρ a w h1 h2 => ?_) k
  have eu := opd_sound hu hc h2
  rw [rv_lf] at eu
  simp only [Leaf.at, Option.some.injEq] at eu
  have hok := own_ok h1 hl
  simp only [HO.ok] at hok
  obtain ⟨hty, cs0, hrow, hrl⟩ := hok
  have hto := hX.t _ _ ht
  simp only [TyOf] at hto
  obtain ⟨eid', hs, he⟩ := hto
  obtain ⟨d, hi', _⟩ := he.info
  subst hhi
  have hexec : ∀ v' w', (Builtin.clear_ #[t] ty #[a.eval x]).run X.P w = .ok v' w' →
      (execOp a.eval { dst := none, op := .call { callee := .builtin .clear, args := #[x], argTypes := #[t] }, type := ty, pos := ps, after := af, guard := none }).run X.P w = .ok (.value v') w' := by
    intro v' w' hr
    simp only [execOp, resolve, invoke, builtin, Sem.run_bind, Sem.run_pure, Result.andThen_ok, List.map_toArray, List.map_cons, List.map_nil, hr]
  have hrlz : RL M e (List.replicate (xs.length - lo) e.dflt) (List.replicate (xs.length - lo) e.zc).flatten := RL.replicate (Ty.zc_rep M e) _
  have hrl2 := (hrl.take lo).append hrlz
  have hlen2 : (xs.take lo ++ List.replicate (xs.length - lo) e.dflt).length = xs.length := by simp; omega
  rcases hrow.2 with ⟨e1, hn⟩ | ⟨g, cap, cur, hsv, hg1, hg2, hg3, hg4, hg5, hg6⟩
  · have hx : xs = [] := List.eq_nil_of_length_eq_zero hn
    subst hx
    refine ⟨ρ, w, .value (.tuple #[]), hexec _ _ ?_, Env.upTo.refl _ _, Nat.le_refl _, rfl, ?_, trivial, .inl ⟨_, rfl, by simp only [AV.rv, AV.rvs]; exact ⟨[], rfl, rfl⟩⟩⟩
    · rw [← eu.2.1, e1]
      simp only [sview, List.length_nil, Nat.zero_sub]
      exact run_clear0 hs.under
    · refine h1.upd hl (grownBy_refl w _) rfl trivial ?_
      simp only [HO.ok]
      simp only [List.take_nil, List.length_nil, Nat.zero_sub, List.replicate_zero, List.append_nil]
      exact ⟨hty, cs0, hrow, hrl⟩
  · by_cases hz : lo = xs.length
    · have hxs : xs.take lo ++ List.replicate (xs.length - lo) e.dflt = xs := by rw [hz]; simp
      refine ⟨ρ, w, .value (.tuple #[]), hexec _ _ ?_, Env.upTo.refl _ _, Nat.le_refl _, rfl, ?_, trivial, .inl ⟨_, rfl, by simp only [AV.rv, AV.rvs]; exact ⟨[], rfl, rfl⟩⟩⟩
      · rw [← eu.2.1, hsv]
        simp only [sview, hz, Nat.sub_self]
        exact run_clear0 hs.under
      · refine h1.upd hl (grownBy_refl w _) rfl trivial ?_
        rw [hxs]
        simp only [HO.ok]
        exact ⟨hty, cs0, hrow, hrl⟩
    · have hlt : lo < xs.length := by omega
      have hzl : (List.replicate (xs.length - lo) e.zc).flatten.length = (xs.length - lo) * e.size := by have := hrlz.1; simpa using this
      have hcl : cs0.length = xs.length * e.size := hrl.1
      have hm1 : lo * e.size + (xs.length - lo) * e.size = xs.length * e.size := by rw [← Nat.add_mul]; congr 1; omega
      have hm2 : xs.length * e.size ≤ cap * e.size := Nat.mul_le_mul_right _ hg3
      have hst := run_storeCells_at X.P g (lo * e.size) eid (List.replicate (xs.length - lo) e.zc).flatten 0 cur w hg2 (by rw [hzl, hg5]; omega) hrlz.one
      have hzz : (Builtin.zeroCells (e.wrap e.zc).cells (xs.length - lo)).toList = (List.replicate (xs.length - lo) e.zc).flatten := by
        rw [Ty.wrap_cells (zero_len e) (Ty.zc_rep (fun _ => none) e).one]
        unfold Builtin.zeroCells
        exact zero_cells _ e.zc
      refine ⟨ρ, w.setRow g (splice cur.toList (lo * e.size) (List.replicate (xs.length - lo) e.zc).flatten).toArray, .value (.tuple #[]), hexec _ _ ?_, Env.upTo.refl _ _, Nat.le_refl _, rfl, ?_, trivial, .inl ⟨_, rfl, by simp only [AV.rv, AV.rvs]; exact ⟨[], rfl, rfl⟩⟩⟩
      · have hst2 : (storeCells ⟨g, lo * e.size, none⟩ (List.replicate (xs.length - lo) e.zc).flatten).run X.P w = .ok () (w.setRow g (splice cur.toList (lo * e.size) (List.replicate (xs.length - lo) e.zc).flatten).toArray) := by simpa [splice] using hst
        have hsw : ∃ cp, sview (.slice (some ⟨g, 0, none⟩) xs.length cap) e.size lo xs.length f = .slice (some ⟨g, lo * e.size, none⟩) (xs.length - lo) cp := by
          refine ⟨(if f = true then xs.length else cap) - lo, ?_⟩
          have hne : ¬ (if f = true then xs.length else cap) = lo := by split <;> omega
          simp only [sview, if_neg hne]
          simp [Addr.add_plain]
        obtain ⟨cp, hsw⟩ := hsw
        rw [← eu.2.1, hsv, hty, hsw]
        obtain ⟨q, hq⟩ : ∃ q, xs.length - lo = q + 1 := ⟨xs.length - lo - 1, by omega⟩
        rw [hq] at hst2 hzz ⊢
        simp [Builtin.clear_, run_underlying hs.under, hi'.run_zero, hzz, hst2]
      · refine h1.upd hl (by rw [HO.at, hsv]; exact grownBy_setRow _ _ _) rfl trivial ?_
        simp only [HO.ok]
        refine ⟨hty, _, ?_, hrl2⟩
        have hln : (splice cur.toList (lo * e.size) (List.replicate (xs.length - lo) e.zc).flatten).length = cap * e.size := by rw [splice_length _ _ _ (by rw [hzl]; simp; omega)]; simpa using hg5
        have := ownsRow_set (new := splice cur.toList (lo * e.size) (List.replicate (xs.length - lo) e.zc).flatten) (size := e.size) hsv hg1 hg2 hg3 hg4 hln (by rw [List.length_take, hln]; omega)
        have e5 : splice (List.take (xs.length * e.size) cur.toList) (lo * e.size) (List.replicate (xs.length - lo) e.zc).flatten = cs0.take (lo * e.size) ++ (List.replicate (xs.length - lo) e.zc).flatten := by
          rw [hg6, splice, List.drop_eq_nil_of_le (by rw [hzl, hcl]; omega), List.append_nil]
        rw [splice_take _ _ _ _ (by rw [hzl]; omega) (by simp; omega), e5] at this
        rw [hlen2]; exact this
theorem JK.clearV {r : List Fr} (hX : XOK X) (hu : opd L x = some (c1, .lf (.ovw m lo hi f))) (hl : lk H m = some (.sl eid e xs)) (ht : lk X.T t = some (.slice e)) (hhi : hi = xs.length) (hlo : lo ≤ xs.length) (hc : allP c1)
    (k : JK X (.ops true all l :: r) QA ⟨L, updH H m (.sl eid e (xs.take lo ++ List.replicate (hi - lo) e.dflt)), nx⟩) :
    JK X (.ops true all (⟨none, .call { callee := .builtin .clear, args := #[x], argTypes := #[t] }, ty, ps, af, none⟩ :: l) :: r) QA ⟨L, H, nx⟩ := JL.clearV hX hu hl ht hhi hlo hc k

/-- A row of which only the beginning is held from now on. -/
theorem JW.short {d : Nat} {L' : List (Nat × AV)} {H' : List (Nat × HO)} (hd : lk L d = some (.lf (.ovw m 0 hi false))) (hl : lk H m = some (.sl eid e xs)) (hhi : hi ≤ xs.length) (hL : subL L L') (hH : subH H H') (hm : lk H' m = none) :
    JW X ⟨(d, .lf (.osl nx)) :: L', (nx, .sl eid e (xs.take hi)) :: H', nx + 1⟩ ⟨L, H, nx⟩ := by
  intro M ρ a w h1 h2
  have hok := own_ok h1 hl
  simp only [HO.ok] at hok
  obtain ⟨hty, cs0, hrow, hrl⟩ := hok
  have hdv := (h2.reg d _ hd).2
  rw [rv_lf] at hdv
  simp only [Leaf.at, Option.some.injEq] at hdv
  obtain ⟨hdv, _⟩ := hdv
  have hlen : (xs.take hi).length = hi := by simp; omega
  have key : ∃ v, sview (ρ.sv m) (ρ.ty m).size 0 hi false = v ∧ w.ownsRow X.E.heap.size eid e.size v (xs.take hi).length (cs0.take (hi * e.size)) ∧ (∀ b, v.ownBlock = some b → (ρ.sv m).ownBlock = some b) := by
    rcases hrow.2 with ⟨e1, hn⟩ | ⟨g, cap, cur, hsv, hg1, hg2, hg3, hg4, hg5, hg6⟩
    · have h0 : hi = 0 := by omega
      subst h0
      refine ⟨.slice none 0 0, by rw [e1]; rfl, ⟨by simp, .inl ⟨rfl, by simp⟩⟩, fun b hb => by simp [Value.ownBlock] at hb⟩
    · refine ⟨.slice (some ⟨g, 0, none⟩) hi cap, ?_, ⟨?_, .inr ⟨g, cap, cur, by rw [hlen], hg1, hg2, by rw [hlen]; omega, hg4, hg5, ?_⟩⟩, fun b hb => by rw [hsv]; exact hb⟩
      · rw [hsv]
        simp [sview, Addr.add]
      · rw [hlen, List.length_take, hrl.1]; exact Nat.min_eq_left (Nat.mul_le_mul_right _ hhi)
      · rw [hlen, ← hg6, List.take_take, Nat.min_eq_left (Nat.mul_le_mul_right _ hhi)]
  obtain ⟨v, hv1, hv2, hv3⟩ := key
  have hrow1 : ∀ b, (ρ.sv m).ownBlock = some b → X.E.heap.size ≤ b ∧ M b = none := h1.row hl
  have hs : SAT X M (ρ.with nx 0 e v) ⟨L, (nx, .sl eid e (xs.take hi)) :: H', nx + 1⟩ w := by
    refine SAT.newRow (s := ⟨L, H, nx⟩) h1 (row := (ρ.sv m).ownBlock) (grownBy_refl w _) (fun b hb => hrow1 b hb) (fun k o hk => ⟨hH k o hk, fun b hb heq => ?_⟩) hv2 (hrl.take hi) (fun b hb => .inl (hv3 b hb))
    have := h1.apart k m o _ b (hH k o hk) hl hb heq
    subst this
    rw [hm] at hk; cases hk
  refine ⟨ρ.with nx 0 e v, hs.regs _, h2.size, h2.defers, fun d' v' hd' => ?_⟩
  simp only [lk] at hd'
  by_cases he : d = d'
  · subst he
    rw [if_pos rfl] at hd'; injection hd' with hd'; subst hd'
    refine ⟨Nat.lt_succ_self _, ?_⟩
    rw [rv_lf]
    refine ⟨?_, ?_⟩
    · simp only [Leaf.at, Env.with, if_true]; rw [← hdv, hv1]
    · rw [← hdv, hv1]
      rcases hv2.2 with ⟨e1, _⟩ | ⟨g, cap, cur, e1, _⟩ <;> rw [e1] <;> rfl
  · rw [if_neg he] at hd'
    obtain ⟨f1, f2⟩ := h2.reg d' v' (subL_spec hL d' v' hd')
    exact ⟨AV.bd_mono (Nat.le_succ _) f1, AV.rv_mono (Mem.le_refl M) (Env.with_upTo _ _ _ _ _) f1 f2⟩

/-- A call whose result is a new row of numbers; what is handed to it, the call's own memory too, is only read. -/
theorem RL.ints {M M' : Mem} {k : IntKind} {xs : List Int} {cs : List Value} (h : RL M (.int k) xs cs) : RL M' (.int k) xs cs :=
  ⟨h.1, fun i hi => by have := h.2 i hi; simp only [Rep] at this ⊢; exact this⟩
theorem JL.callRowI {o : Oper} {cs : List Prop} {f : FuncId} {args : AV} {k : IntKind} {ys : List Int} (hg : o.guard = none) (h : callA X.T o.op s = some (cs, f, args)) (hf : FnRow X.P f args eid (.int k) ys) (hd : dstOk X.n o.dst) (hc : allP cs)
    (kk : JL X true all QA l (putS o.dst (.lf (.osl s.nx)) ⟨s.L, (s.nx, .sl eid (.int k) ys) :: s.H, s.nx + 1⟩)) : JL X true all QA (o :: l) s := by
  intro M ρ a w h1 h2
  obtain ⟨hb, vs, hvs, hrun⟩ := callA_sound h1 (seen_all h1) h2 h hc
  refine wpListIn_w (wanted_none hg) (wpIn_enter (callA_nd h) (by rw [hrun, hf.call]) (hf.run _ ρ w vs (seen_mem (Below.refl _ _)) hvs hb) ?_)
  rintro en w' ⟨v, cs', M', rfl, hrow, hrl, hbl, hm, hin, hnew, hno⟩
  have h3 := h1.later hbl
  have hv1 : v.oneCell' = true := by rcases hrow.2 with ⟨e1, _⟩ | ⟨g, cap, cur, e1, _⟩ <;> rw [e1] <;> rfl
  have hge : ∀ b, v.ownBlock = some b → w.heap.size ≤ b := fun b hb => by
    rcases hrow.2 with ⟨e1, _⟩ | ⟨g, cap, cur, e1, e2, _⟩
    · rw [e1] at hb; cases hb
    · rw [e1] at hb
      simp only [Value.ownBlock, Option.some.injEq] at hb
      subst hb; exact e2
  have h5 : SAT X M (ρ.with s.nx 0 (.int k) v) ⟨s.L, (s.nx, .sl eid (.int k) ys) :: s.H, s.nx + 1⟩ w' := by
    refine h3.add (row := none) ⟨rfl, rfl, rfl, Nat.le_refl _, fun _ _ _ => rfl⟩ (fun b hb => by cases hb) (fun l o hl => ⟨hl, fun b _ e => by cases e⟩) (Env.with_upTo _ _ _ _ _) trivial ?_ ?_
    · simp only [HO.ok, Env.with, if_true]
      refine ⟨trivial, cs', ⟨hrow.1, ?_⟩, hrl.ints⟩
      rcases hrow.2 with e1 | ⟨g, cap, cur, e1, e2, e3⟩
      · exact .inl e1
      · exact .inr ⟨g, cap, cur, e1, Nat.le_trans h1.below.size e2, e3⟩
    · intro b hbb
      simp only [HO.at, Env.with, if_true] at hbb
      have hb2 := hge b hbb
      refine ⟨?_, fun l o1 hl hat => ?_⟩
      · cases hM : M b with
        | none => rfl
        | some o => have := (Array.getElem?_eq_some_iff.1 (h1.mem b o hM)).1; omega
      · have := (HO.at_lt (h1.own l o1 hl).2.2 hat).2
        omega
  have h4 : REG X M (ρ.with s.nx 0 (.int k) v) ⟨s.L, (s.nx, .sl eid (.int k) ys) :: s.H, s.nx + 1⟩ a := h2.grow (Mem.le_refl M) (Env.with_upTo _ _ _ _ _) (Nat.le_succ _) (Mem.dle_refl M)
  refine ⟨_, rfl, kk M _ _ w' (putS_sat h5) (h4.putO hd.spec (Nat.lt_succ_self _) ?_)⟩
  rw [rv_lf]
  exact ⟨by simp [Leaf.at, Env.with], hv1⟩
theorem JK.callRowI {r : List Fr} {d : Nat} {op : Op} {cs : List Prop} {g : FuncId} {args : AV} {k : IntKind} {ys : List Int} (h : callA X.T op ⟨L, H, nx⟩ = some (cs, g, args)) (hf : FnRow X.P g args eid (.int k) ys) (hd : ltB d X.n = true) (hc : allP cs)
    (kk : JK X (.ops true all l :: r) QA ⟨(d, .lf (.osl nx)) :: L, (nx, .sl eid (.int k) ys) :: H, nx + 1⟩) : JK X (.ops true all (⟨some d, op, ty, ps, af, none⟩ :: l) :: r) QA ⟨L, H, nx⟩ := JL.callRowI (s := ⟨L, H, nx⟩) rfl h hf (ltB_lt hd) hc kk
theorem JL.CRI {d : Nat} {op : Op} {cs : List Prop} {g : FuncId} {args : AV} {k : IntKind} {ys : List Int} (h : callA X.T op ⟨L, H, nx⟩ = some (cs, g, args)) (hf : FnRow X.P g args eid (.int k) ys) (hd : ltB d X.n = true)
    (kk : JL X true all QA l ⟨(d, .lf (.osl nx)) :: L, (nx, .sl eid (.int k) ys) :: H, nx + 1⟩) (hc : allP cs) : JL X true all QA (⟨some d, op, ty, ps, af, none⟩ :: l) ⟨L, H, nx⟩ := JL.callRowI (s := ⟨L, H, nx⟩) rfl h hf (ltB_lt hd) hc kk
/-- p[:] of a pointer to an array that is data. -/
theorem JL.sliceP {n d : Nat} {p : Operand} {y : List e.den} (hX : XOK X) (hu : opd L p = some (c1, .val (.ptr (.arr n e)) (some y))) (ht : lk X.T t = some (.arr n e)) (hn : n ≤ maxLen) (hd : ltB d X.n = true) (hc : allP c1)
    (k : JL X md all QA l ⟨(d, .val (.slice e) y) :: L, H, nx⟩) : JL X md all QA (⟨some d, .slice t p none none none, ty, ps, af, none⟩ :: l) ⟨L, H, nx⟩ := by
  refine JL.vq (s := ⟨L, H, nx⟩) (v := .val (.slice e) y) rfl rfl (ltB_lt hd) trivial (fun M ρ a w h1 h2 => ?_) k
  have eu := (opd_sound hu hc h2).2
  simp only [AV.rv] at eu
  obtain ⟨cs, hr, he⟩ := eu
  simp only [Rep] at hr
  obtain ⟨b, off, c, tt, fz, rfl, hM, hrep⟩ := hr
  obtain ⟨hly, hrl⟩ := hrep
  have hto := hX.t _ _ ht
  simp only [TyOf] at hto
  obtain ⟨eid, t1, t2⟩ := hto
  obtain ⟨dd, hi', _⟩ := t2.info
  refine ⟨.slice (some ⟨b, off, none⟩) n n, ?_, fun w1 => ?_⟩
  · simp only [AV.rv]
    refine ⟨[.slice (some ⟨b, off, none⟩) n n], ?_, by simp [Ty.wrap, Ty.agg]⟩
    simp only [Rep]
    refine ⟨some ⟨b, off, none⟩, n, by rw [hly], Nat.le_of_eq hly, hn, (fun h => by cases h), .inr ⟨b, off, c, tt, fz, rfl, hM, fun i hi => ?_⟩⟩
    have h3 := hrl.2 i hi
    have hle : (i + 1) * e.size ≤ n * e.size := Nat.mul_le_mul_right _ (by rw [← hly]; exact hi)
    rw [Nat.add_mul, Nat.one_mul] at hle
    simp only [Ty.size] at h3
    rw [List.drop_take, List.take_take, List.drop_drop, Nat.min_eq_left (by omega)] at h3
    exact h3
  · have he' : a.eval p = .pointer (some ⟨b, off, none⟩) := by rw [he]; simp [Ty.wrap, Ty.agg]
    simp only [execOp, he', Instr.sliceAt, Sem.run_bind, run_underlying t1.under, Result.andThen_ok, Instr.sureAddr, Sem.run_pure, Instr.sliceBounds, hi'.run_size, Nat.zero_mul, Nat.sub_zero, Addr.add_plain, Nat.add_zero, ite_self, Option.map]
theorem JK.sliceP {r : List Fr} {n d : Nat} {p : Operand} {y : List e.den} (hX : XOK X) (hu : opd L p = some (c1, .val (.ptr (.arr n e)) (some y))) (ht : lk X.T t = some (.arr n e)) (hn : n ≤ maxLen) (hd : ltB d X.n = true) (hc : allP c1)
    (k : JK X (.ops md all l :: r) QA ⟨(d, .val (.slice e) y) :: L, H, nx⟩) : JK X (.ops md all (⟨some d, .slice t p none none none, ty, ps, af, none⟩ :: l) :: r) QA ⟨L, H, nx⟩ := JL.sliceP hX hu ht hn hd hc k
end Ox

namespace Go.Proofs.Ythiocglfgcnlhaa
open Go Go.RowKit Ox Ox.Sh
attribute [local irreducible] JC JL JK JW

abbrev dayT : Ty := .cons (.slice shT) (.cons (.int .i64) .nil)
abbrev shopT : Ty := .cons dayT (.cons (.int .i64) .nil)
/-- A shop. -/
abbrev vH (l : List Sh) (pr le : Int) : AV := .val (.ptr shopT) (some ((l, pr, ()), le, ()))
abbrev ppH (l : List Sh) (pr le : Int) : AV := .val (.ptr (.ptr shopT)) (some (some ((l, pr, ()), le, ())))
abbrev vP (z : Int × Int × Int × Unit) : AV := .val shT z
theorem sh_bd {l : List Sh} (h : okD l) (n : Nat) : 0 ≤ (l.getD n (0, 0, 0, ())).1 ∧ (l.getD n (0, 0, 0, ())).1 ≤ 1000 ∧ 0 ≤ (l.getD n (0, 0, 0, ())).2.1 ∧ (l.getD n (0, 0, 0, ())).2.1 ≤ 1000 ∧ 0 ≤ (l.getD n (0, 0, 0, ())).2.2.1 ∧ (l.getD n (0, 0, 0, ())).2.2.1 ≤ 1000 := h.get n
theorem fn80 (l : List Sh) (pr le : Int) (n : Nat) (f : Bool) (hl : okD l) (hn : n < l.length) : Ox.Fn Go.Proofs.Try.prog 80 (.acons (vH l pr le) (.acons (vI n) (.acons (vB f) .anil))) (· = vI (wait l f n)) := by
  refine Ox.Fn.intro xok Go.Proofs.Try.func80 rfl Go.Proofs.Try.call80 (Nat.le_of_ble_eq_true rfl) (fun E M0 up => ?_)
  refine JK.start ?_
  have hb := sh_bd hl n
  (repeat (first | refine zs rfl ?_ | refine zg rfl rfl rfl ?_ | refine zd ?_ | refine JK.fin ?_ | refine JK.ret ?_ | refine zlf fun118 rfl rfl rfl ?_ | refine zdf fun118 rfl rfl ?_ | refine zdg fun118 rfl rfl rfl ?_))
  refine JK.cond rfl (fun hc => ?_) (fun hc => ?_)
  · (repeat (first | refine zs rfl ?_ | refine zg rfl rfl rfl ?_ | refine zd ?_ | refine JK.fin ?_ | refine JK.ret ?_ | refine zlf fun118 rfl rfl rfl ?_ | refine zdf fun118 rfl rfl ?_ | refine zdg fun118 rfl rfl rfl ?_))
    refine ⟨.inl rfl, _, _, rfl, trivial, ?_⟩
    rw [hc]; rfl
  · (repeat (first | refine zs rfl ?_ | refine zg rfl rfl rfl ?_ | refine zd ?_ | refine JK.fin ?_ | refine JK.ret ?_ | refine zlf fun118 rfl rfl rfl ?_ | refine zdf fun118 rfl rfl ?_ | refine zdg fun118 rfl rfl rfl ?_))
    refine ⟨.inl rfl, _, _, rfl, trivial, ?_⟩
    rw [hc]; rfl
theorem fn86 (l : List Sh) (pr le : Int) (n : Nat) (hl : okD l) (hn : n < l.length) : Ox.Fn Go.Proofs.Try.prog 86 (.acons (vI n) (.acons (ppH l pr le) .anil)) (· = vI (al (l.getD n z0))) := by
  refine Ox.Fn.intro xok Go.Proofs.Try.func86 rfl Go.Proofs.Try.call86 (Nat.le_of_ble_eq_true rfl) (fun E M0 up => ?_)
  refine JK.start ?_
  have hb := sh_bd hl n
  (repeat (first | refine zs rfl ?_ | refine zg rfl rfl rfl ?_ | refine zd ?_ | refine JK.fin ?_ | refine JK.ret ?_ | refine zlf fun118 rfl rfl rfl ?_ | refine zdf fun118 rfl rfl ?_ | refine zdg fun118 rfl rfl rfl ?_))
  refine ⟨.inl rfl, _, _, rfl, trivial, ?_⟩
  rfl
theorem fn87 (l : List Sh) (pr le : Int) (n : Nat) (hl : okD l) (hn : n < l.length) : Ox.Fn Go.Proofs.Try.prog 87 (.acons (vI n) (.acons (ppH l pr le) .anil)) (· = vI (be (l.getD n z0))) := by
  refine Ox.Fn.intro xok Go.Proofs.Try.func87 rfl Go.Proofs.Try.call87 (Nat.le_of_ble_eq_true rfl) (fun E M0 up => ?_)
  refine JK.start ?_
  have hb := sh_bd hl n
  (repeat (first | refine zs rfl ?_ | refine zg rfl rfl rfl ?_ | refine zd ?_ | refine JK.fin ?_ | refine JK.ret ?_ | refine zlf fun118 rfl rfl rfl ?_ | refine zdf fun118 rfl rfl ?_ | refine zdg fun118 rfl rfl rfl ?_))
  refine ⟨.inl rfl, _, _, rfl, trivial, ?_⟩
  rfl
/-- The closure of the rank. -/
abbrev rkF (l : List Sh) (pr le : Int) : AV := .fn 88 .anil (.acons (ppH l pr le) (.acons (.pfn (.fn 86 .anil (.acons (ppH l pr le) .anil))) (.acons (.pfn (.fn 87 .anil (.acons (ppH l pr le) .anil))) .anil)))
theorem fn88 (l : List Sh) (pr le : Int) (n : Nat) (hl : okD l) (hn : n < l.length) :
    Ox.Fn Go.Proofs.Try.prog 88 (.acons (vI n) (.acons (ppH l pr le) (.acons (.pfn (.fn 86 .anil (.acons (ppH l pr le) .anil))) (.acons (.pfn (.fn 87 .anil (.acons (ppH l pr le) .anil))) .anil)))) (· = vI (rk l n)) := by
  refine Ox.Fn.intro xok Go.Proofs.Try.func88 rfl Go.Proofs.Try.call88 (Nat.le_of_ble_eq_true rfl) (fun E M0 up => ?_)
  refine JK.start ?_
  have hb := sh_bd hl n
  have h86 := fn86 l pr le n hl hn
  have h87 := fn87 l pr le n hl hn
  have hbe : 0 ≤ be (l.getD n z0) ∧ be (l.getD n z0) ≤ 2000 := by
    show 0 ≤ (l.getD n (0, 0, 0, ())).2.1 + (l.getD n (0, 0, 0, ())).2.2.1 ∧ (l.getD n (0, 0, 0, ())).2.1 + (l.getD n (0, 0, 0, ())).2.2.1 ≤ 2000
    omega
  generalize hbv : be (l.getD n z0) = bv at h87 hbe
  (repeat (first | refine zs rfl ?_ | refine zg rfl rfl rfl ?_ | refine zd ?_ | refine JK.fin ?_ | refine JK.ret ?_ | refine zlf fun118 rfl rfl rfl ?_ | refine zdf fun118 rfl rfl ?_ | refine zdg fun118 rfl rfl rfl ?_ | refine zc rfl (h86) rfl rfl ?_ | refine ze rfl (h86) rfl ?_ | refine zk rfl rfl (fun _ => h86) rfl rfl ?_ | refine zc rfl (h87) rfl rfl ?_ | refine ze rfl (h87) rfl ?_ | refine zk rfl rfl (fun _ => h87) rfl rfl ?_))
  refine JK.cond rfl (fun hc => ?_) (fun hc => ?_)
  · (simp only [↓bif_or, ↓bif_and, ↓Bool.or_eq_true, ↓Bool.or_eq_false_iff, ↓Bool.and_eq_true, ↓Bool.and_eq_false_iff, ↓Bool.not_eq_true', ↓Bool.not_eq_false', ↓decide_eq_true_eq, ↓decide_eq_false_iff_not, ↓beq_iff_eq, ↓bne_iff_ne, ↓bne_eq_false_iff_eq, ↓ne_eq, ↓beq_eq_false_iff_ne, ↓Bool.not_eq_true] at hc; try simp only [Ty.dflt, Int.toNat_natCast] at hc)
    (repeat (first | refine zs rfl ?_ | refine zg rfl rfl rfl ?_ | refine zd ?_ | refine JK.fin ?_ | refine JK.ret ?_ | refine zlf fun118 rfl rfl rfl ?_ | refine zdf fun118 rfl rfl ?_ | refine zdg fun118 rfl rfl rfl ?_ | refine zc rfl (h86) rfl rfl ?_ | refine ze rfl (h86) rfl ?_ | refine zk rfl rfl (fun _ => h86) rfl rfl ?_ | refine zc rfl (h87) rfl rfl ?_ | refine ze rfl (h87) rfl ?_ | refine zk rfl rfl (fun _ => h87) rfl rfl ?_))
    refine ⟨.inl rfl, _, _, rfl, trivial, ?_⟩
    rw [rk, rankS, if_pos hc]
  · (simp only [↓bif_or, ↓bif_and, ↓Bool.or_eq_true, ↓Bool.or_eq_false_iff, ↓Bool.and_eq_true, ↓Bool.and_eq_false_iff, ↓Bool.not_eq_true', ↓Bool.not_eq_false', ↓decide_eq_true_eq, ↓decide_eq_false_iff_not, ↓beq_iff_eq, ↓bne_iff_ne, ↓bne_eq_false_iff_eq, ↓ne_eq, ↓beq_eq_false_iff_ne, ↓Bool.not_eq_true] at hc; try simp only [Ty.dflt, Int.toNat_natCast] at hc)
    (repeat (first | refine zs rfl ?_ | refine zg rfl rfl rfl ?_ | refine zd ?_ | refine JK.fin ?_ | refine JK.ret ?_ | refine zlf fun118 rfl rfl rfl ?_ | refine zdf fun118 rfl rfl ?_ | refine zdg fun118 rfl rfl rfl ?_ | refine zc rfl (h86) rfl rfl ?_ | refine ze rfl (h86) rfl ?_ | refine zk rfl rfl (fun _ => h86) rfl rfl ?_ | refine zc rfl (h87) rfl rfl ?_ | refine ze rfl (h87) rfl ?_ | refine zk rfl rfl (fun _ => h87) rfl rfl ?_))
    refine ⟨.inl rfl, _, _, rfl, trivial, ?_⟩
    rw [rk, rankS, if_neg hc, hbv]
end Go.Proofs.Ythiocglfgcnlhaa
