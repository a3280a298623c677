/- Texts of the proof, part 3 of 6.
  The engine, part ZU: code as a stack: one step at a time, by one rule.
  The seat's steps: one rule a kind.
  Leaf functions of the definitions: ints, IsBook, Last, In, CheckDay, Before.
  The definitions: ones, CanKeep.
  The definitions: Least.
  within and what it stands on; CheckDay, Before.
  newBindery.
  Small functions of the bindery: news, fetched, many, parts, first, open.
  The definitions: Curve, Ways, Kind, Count.
  play.
  wait. -/
import Derived.Test.YtbmgijgnbilnoaaPkb
set_option linter.all false
namespace Ox
open Go Go.RowKit
variable {X : Ctx} {s : S} {QA : Exit → S → Prop} {all l : List Oper} {md : Bool} {o : Oper}

/-- What is still to be done: code, the end of a block, operations of a region, a place where something is asked, the end of a scope. -/
inductive Fr
  | code (c : Code)
  | blk (id : Nat)
  | ops (md : Bool) (all l : List Oper)
  | fin (P : S → Prop)
  | scp

def qq (X : Ctx) : List Fr → (Exit → S → Prop) → Exit → S → Prop
  | [], QA => QA
  | .code c :: r, QA => qThen (fun s => JC X c (qq X r QA) s) (qq X r QA)
  | .blk id :: r, QA => qBlock id (qq X r QA)
  | .ops md all l :: r, QA => qThen (fun s => JL X md all (qq X r QA) l s) (qq X r QA)
  | .fin P :: r, QA => qThen P (qq X r QA)
  | .scp :: r, QA => qScope (qq X r QA)

def JK (X : Ctx) (st : List Fr) (QA : Exit → S → Prop) (s : S) : Prop := qq X st QA .normal s

def popF : Nat → List Fr → Option (List Fr)
  | _, [] => none
  | id, .blk j :: r => if j = id then some r else popF id r
  | id, _ :: r => popF id r

theorem popF_spec {id : Nat} : ∀ {r r' : List Fr}, popF id r = some r' → JK X r' QA s → qq X r QA (.exit id) s
  | [], _, h, _ => by simp [popF] at h
  | .blk j :: r, r', h, k => by
    simp only [popF] at h
    simp only [qq, qBlock]
    by_cases e : j = id
    · rw [if_pos e] at h; injection h with h; subst h; rw [if_pos e.symm]; exact k
    · rw [if_neg e] at h; rw [if_neg (fun h => e h.symm)]; exact popF_spec h k
  | .code _ :: r, _, h, k => popF_spec (r := r) h k
  | .ops .. :: r, _, h, k => popF_spec (r := r) h k
  | .fin _ :: r, _, h, k => popF_spec (r := r) h k
  | .scp :: r, _, h, k => popF_spec (r := r) h k

theorem qq_ret : ∀ {r : List Fr}, QA .ret s → qq X r QA .ret s
  | [], h => h
  | .blk _ :: r, h => qq_ret (r := r) h
  | .code _ :: r, h => qq_ret (r := r) h
  | .ops .. :: r, h => qq_ret (r := r) h
  | .fin _ :: r, h => qq_ret (r := r) h
  | .scp :: r, h => qq_ret (r := r) h
theorem qq_exit {id : Nat} : ∀ {r : List Fr}, (popF id r).isNone = true → QA (.exit id) s → qq X r QA (.exit id) s
  | [], _, h => h
  | .blk j :: r, hp, h => by
    simp only [popF] at hp
    by_cases e : j = id
    · rw [if_pos e] at hp; simp at hp
    · rw [if_neg e] at hp
      simp only [qq, qBlock]
      rw [if_neg (fun h => e h.symm)]
      exact qq_exit hp h
  | .code _ :: r, hp, h => qq_exit (r := r) hp h
  | .ops .. :: r, hp, h => qq_exit (r := r) hp h
  | .fin _ :: r, hp, h => qq_exit (r := r) hp h
  | .scp :: r, hp, h => qq_exit (r := r) hp h

/-- An operation, but for calls and guards. -/
def stepO (T : List (Nat × Ty)) (ET : List (Nat × Nat)) (n : Nat) (md : Bool) (o : Oper) (s : S) : Option (List Prop × S) :=
  match o, s with
  | ⟨some d, op, _, _, _, none⟩, ⟨L, H, nx⟩ => match ltB d n with
    | true => match evb T op ⟨L, H, nx⟩ with
      | some (cs, v) => some (cs, ⟨(d, v) :: L, H, nx⟩)
      | none => match md with
        | true => match evm T ET op ⟨L, H, nx⟩ with
          | some (cs, v, ⟨L', H', nx'⟩) => some (cs, ⟨(d, v) :: L', H', nx'⟩)
          | none => none
        | false => none
    | false => none
  | ⟨none, op, _, _, _, none⟩, ⟨L, H, nx⟩ => match md with
    | true => match evm T ET op ⟨L, H, nx⟩ with
      | some (cs, _, s') => some (cs, s')
      | none => match evb T op ⟨L, H, nx⟩ with
        | some (cs, _) => some (cs, ⟨L, H, nx⟩)
        | none => none
    | false => match evb T op ⟨L, H, nx⟩ with
      | some (cs, _) => some (cs, ⟨L, H, nx⟩)
      | none => none
  | _, _ => none

theorem stepO_sound {cs : List Prop} {s' : S} (hX : XOK X) (h : stepO X.T X.ET X.n md o s = some (cs, s')) (hc : allP cs) (k : JL X md all QA l s') : JL X md all QA (o :: l) s := by
  obtain ⟨d, op, ty, ps, af, g⟩ := o
  obtain ⟨L, H, nx⟩ := s
  unfold stepO at h
  split at h
  · rename_i heq heq2
    injection heq with e1 e2 _ _ _ e3
    injection heq2 with e4 e5 e6
    subst e1; subst e2; subst e3; subst e4; subst e5; subst e6
    split at h
    · rename_i hd
      split at h
      · rename_i cs' v hv
        simp only [Option.some.injEq, Prod.mk.injEq] at h
        obtain ⟨rfl, rfl⟩ := h
        exact JL.q hX rfl hv (ltB_lt hd) hc k
      · split at h
        · split at h
          · rename_i cs' v L' H' nx' hv
            simp only [Option.some.injEq, Prod.mk.injEq] at h
            obtain ⟨rfl, rfl⟩ := h
            exact JL.m hX rfl hv (ltB_lt hd) hc k
          · cases h
        · cases h
    · cases h
  · rename_i heq heq2
    injection heq with e1 e2 _ _ _ e3
    injection heq2 with e4 e5 e6
    subst e1; subst e2; subst e3; subst e4; subst e5; subst e6
    split at h
    · split at h
      · rename_i cs' v s'' hv
        simp only [Option.some.injEq, Prod.mk.injEq] at h
        obtain ⟨rfl, rfl⟩ := h
        exact JL.m hX rfl hv trivial hc k
      · split at h
        · rename_i cs' v hv
          simp only [Option.some.injEq, Prod.mk.injEq] at h
          obtain ⟨rfl, rfl⟩ := h
          exact JL.q hX rfl hv trivial hc k
        · cases h
    · split at h
      · rename_i cs' v hv
        simp only [Option.some.injEq, Prod.mk.injEq] at h
        obtain ⟨rfl, rfl⟩ := h
        exact JL.q hX rfl hv trivial hc k
      · cases h
  · cases h

/-- One step; 'u': not into an 'if'. -/
def stepC (T : List (Nat × Ty)) (ET : List (Nat × Nat)) (n : Nat) (u : Bool) : List Fr → S → Option (List Prop × List Fr × S)
  | .ops md all (o :: l) :: r, s => match stepO T ET n md o s with
    | some (cs, s') => some (cs, .ops md all l :: r, s')
    | none => none
  | .ops _ _ [] :: r, s => some ([], r, s)
  | .blk _ :: r, s => some ([], r, s)
  | .scp :: r, s => some ([], r, s)
  | .code c :: r, s => match c with
    | .skip => some ([], r, s)
    | .label _ => some ([], r, s)
    | .seq (.region id ops d) (.cond x a b) => match u with
      | true => none
      | false => some ([], .code (.region id ops d) :: .code (.cond x a b) :: r, s)
    | .seq a b => some ([], .code a :: .code b :: r, s)
    | .block id c => some ([], .code c :: .blk id :: r, s)
    | .scope c => some ([], .code c :: .scp :: r, s)
    | .exit id => match popF id r with
      | some r' => some ([], r', s)
      | none => none
    | .region _ ⟨ops⟩ false => some ([], .ops true ops ops :: r, s)
    | _ => none
  | _, _ => none

theorem JK.step {u : Bool} {st st' : List Fr} {cs : List Prop} {s' : S} (hX : XOK X) (h : stepC X.T X.ET X.n u st s = some (cs, st', s')) (k : JK X st' QA s') (hc : allP cs) : JK X st QA s := by
  unfold stepC at h
  split at h
  · split at h
    · rename_i hv
      simp only [Option.some.injEq, Prod.mk.injEq] at h
      obtain ⟨rfl, rfl, rfl⟩ := h
      exact stepO_sound hX hv hc k
    · cases h
  · simp only [Option.some.injEq, Prod.mk.injEq] at h
    obtain ⟨rfl, rfl, rfl⟩ := h
    exact JL.nil k
  · simp only [Option.some.injEq, Prod.mk.injEq] at h
    obtain ⟨rfl, rfl, rfl⟩ := h
    exact k
  · simp only [Option.some.injEq, Prod.mk.injEq] at h
    obtain ⟨rfl, rfl, rfl⟩ := h
    exact k
  · split at h
    · simp only [Option.some.injEq, Prod.mk.injEq] at h
      obtain ⟨rfl, rfl, rfl⟩ := h
      exact JC.skip k
    · simp only [Option.some.injEq, Prod.mk.injEq] at h
      obtain ⟨rfl, rfl, rfl⟩ := h
      exact JC.label k
    · split at h
      · cases h
      · simp only [Option.some.injEq, Prod.mk.injEq] at h
        obtain ⟨rfl, rfl, rfl⟩ := h
        exact JC.seq k
    · simp only [Option.some.injEq, Prod.mk.injEq] at h
      obtain ⟨rfl, rfl, rfl⟩ := h
      exact JC.seq k
    · simp only [Option.some.injEq, Prod.mk.injEq] at h
      obtain ⟨rfl, rfl, rfl⟩ := h
      exact JC.block k
    · simp only [Option.some.injEq, Prod.mk.injEq] at h
      obtain ⟨rfl, rfl, rfl⟩ := h
      exact JC.scope k
    · split at h
      · rename_i hp
        simp only [Option.some.injEq, Prod.mk.injEq] at h
        obtain ⟨rfl, rfl, rfl⟩ := h
        exact JC.exit (popF_spec hp k)
      · cases h
    · simp only [Option.some.injEq, Prod.mk.injEq] at h
      obtain ⟨rfl, rfl, rfl⟩ := h
      exact JC.region k
    · cases h
  · cases h

/-- An operation behind a guard. -/
theorem JK.gd {L : List (Nat × AV)} {H : List (Nat × HO)} {nx d : Nat} {gg : Nat × Bool} {op : Op} {ty : TypeId} {ps : String} {af : Array Edge} {r : List Fr} {g : Bool} {cs : List Prop} {v : AV} (hX : XOK X) (hg : gOf all L (some gg) = some g) (h : evb X.T op ⟨L, H, nx⟩ = some (cs, v)) (hd : ltB d X.n = true)
    (k : JK X (.ops md all l :: r) QA ⟨(d, .gd g v) :: L, H, nx⟩) (hc : g = true → allP cs) : JK X (.ops md all (⟨some d, op, ty, ps, af, some gg⟩ :: l) :: r) QA ⟨L, H, nx⟩ := JL.g (s := ⟨L, H, nx⟩) hX hg h (ltB_lt hd) hc k

theorem JK.cond {x : Operand} {c d : Code} {r : List Fr} {b : Bool} (hb : opB s.L x = some b) (ht : b = true → JK X (.code c :: r) QA s) (hf : b = false → JK X (.code d :: r) QA s) : JK X (.code (.cond x c d) :: r) QA s := JC.cond hb ht hf
theorem JK.draw {id : Nat} {ops : List Oper} {r : List Fr} (hX : XOK X) (k : JK X (.ops false ops ops :: r) QA s) (hB : (Region.lexB .any ops.toArray && ndAll ops) = true := by decide +kernel) : JK X (.code (.region id ⟨ops⟩ true) :: r) QA s := JC.draw hX hB k
theorem JK.ret {r : List Fr} (h : QA .ret s) : JK X (.code .ret :: r) QA s := JC.ret (qq_ret h)
theorem JK.done (h : QA .normal s) : JK X [] QA s := h
theorem JK.fin {P : S → Prop} {r : List Fr} (h : P s) : JK X (.fin P :: r) QA s := h
theorem JK.exitQ {id : Nat} {r : List Fr} (hp : (popF id r).isNone = true) (h : QA (.exit id) s) : JK X (.code (.exit id) :: r) QA s := JC.exit (qq_exit hp h)
theorem JK.start {c : Code} (h : JK X [.code c] QA s) : JC X c QA s := h
theorem JK.toC {c : Code} {r : List Fr} (h : JK X (.code c :: r) QA s) : JC X c (qq X r QA) s := h
theorem JK.toL {r : List Fr} (h : JK X (.ops md all l :: r) QA s) : JL X md all (qq X r QA) l s := h
theorem JK.ofC {c : Code} {r : List Fr} (h : JC X c (qq X r QA) s) : JK X (.code c :: r) QA s := h
theorem JK.ofL {r : List Fr} (h : JL X md all (qq X r QA) l s) : JK X (.ops md all l :: r) QA s := h

theorem JK.loop {c : Code} {r : List Fr} {σ : Type} (st : σ → S) (I : σ → Prop) (μ : σ → Nat) (i0 : σ) (h0 : I i0) (hs : JW X (st i0) s)
    (round : ∀ i, I i → JK X (.code c :: .fin (fun s' => ∃ i', JW X (st i') s' ∧ I i' ∧ μ i' < μ i) :: r) QA (st i)) : JK X (.code (.loop c) :: r) QA s := JC.loop st I μ i0 h0 hs round

theorem qq_fin {P : S → Prop} {r : List Fr} (k : ∀ s, P s → JK X r QA s) : ∀ e s, qq X (.fin P :: r) QA e s → qq X r QA e s := by
  intro e s h
  cases e with
  | normal => exact k s h
  | _ => exact h
theorem JK.cutP {c : Code} {r : List Fr} (P : S → Prop) (h : JK X (.code c :: .fin P :: r) QA s) (k : ∀ s, P s → JK X r QA s) : JK X (.code c :: r) QA s := JC.mono h (qq_fin k)
theorem JK.weak {c : Code} {r : List Fr} {s' : S} (h : JW X s' s) (k : JK X (.code c :: r) QA s') : JK X (.code c :: r) QA s := JC.weak h k
/-- Ways that meet again. -/
theorem JK.cut {x y : Code} {r : List Fr} {σ : Type} (st : σ → S) (P : σ → Prop) (h : JK X (.code x :: .fin (fun s => ∃ q, JW X (st q) s ∧ P q) :: .code y :: r) QA s) (k : ∀ q, P q → JK X (.code y :: r) QA (st q)) : JK X (.code x :: .code y :: r) QA s :=
  JK.cutP _ h fun _ ⟨q, hw, hp⟩ => JK.weak hw (k q hp)
/-- A loop that is left in several places. -/
theorem JK.loopE {c : Code} {id : Nat} {y : Code} {r : List Fr} {σ τ : Type} (st : σ → S) (I : σ → Prop) (μ : σ → Nat) (i0 : σ) (h0 : I i0) (hs : JW X (st i0) s) (E : τ → S) (PE : τ → Prop) (k : ∀ q, PE q → JK X (.code y :: r) QA (E q))
    (round : ∀ i, I i → JK X (.code c :: .fin (fun s' => ∃ i', JW X (st i') s' ∧ I i' ∧ μ i' < μ i) :: .blk id :: .fin (fun s' => ∃ q, JW X (E q) s' ∧ PE q) :: .code y :: r) QA (st i)) : JK X (.code (.loop c) :: .blk id :: .code y :: r) QA s := by
  have h1 : JK X (.code (.loop c) :: .blk id :: .fin (fun s' => ∃ q, JW X (E q) s' ∧ PE q) :: .code y :: r) QA s := JK.loop st I μ i0 h0 hs round
  refine JC.mono h1 ?_
  intro e s' h
  have hk := qq_fin (X := X) (QA := QA) (r := .code y :: r) (P := fun s' => ∃ q, JW X (E q) s' ∧ PE q) fun s ⟨q, hw, hp⟩ => JK.weak hw (k q hp)
  cases e with
  | exit j =>
    simp only [qq, qBlock] at h ⊢
    split at h
    · rename_i e; rw [if_pos e]; exact hk .normal _ h
    · rename_i e; rw [if_neg e]; exact hk (.exit j) _ h
  | normal => exact hk .normal _ h
  | _ => exact h

/-! Regions that draw their order and touch memory. -/
theorem JK.drawTo {id : Nat} {y : Code} {r : List Fr} (hX : XOK X) (c : Code) (st : S) {ops : List Oper} (ho : rgn id c = ops) (n : Nat) (hn : (rgn id c).length = n)
    (h : JF X (rgn id c) (fun s' => JW X st s') [] n [] s) (k : JK X (.code y :: r) QA st) : JK X (.code (.region id ⟨ops⟩ true) :: .code y :: r) QA s := by
  subst ho; subst hn
  exact JC.drawAny hX _ h.any fun s' hs => JK.weak hs k
theorem JK.drawB {id j : Nat} {y : Code} {r : List Fr} (hX : XOK X) (c : Code) (st : S) {ops : List Oper} (ho : rgn id c = ops) (n : Nat) (hn : (rgn id c).length = n)
    (h : JF X (rgn id c) (fun s' => JW X st s') [] n [] s) (k : JK X (.code y :: r) QA st) : JK X (.code (.region id ⟨ops⟩ true) :: .blk j :: .code y :: r) QA s := by
  subst ho; subst hn
  exact JC.drawAny hX _ h.any fun s' hs => JK.weak hs k
theorem JK.drawP {id : Nat} {r : List Fr} (hX : XOK X) (c : Code) {ops : List Oper} (ho : rgn id c = ops) (n : Nat) (hn : (rgn id c).length = n)
    (h : JF X (rgn id c) (fun s' => JK X r QA s') [] n [] s) : JK X (.code (.region id ⟨ops⟩ true) :: r) QA s := by
  subst ho; subst hn
  exact JC.drawAny hX _ h.any fun _ h => h

theorem JK.lenOf {c : Code} {r : List Fr} (d : Nat) {t : Ty} {x : t.den} (h : lk s.L d = some (.val t x)) (k : t.lens x → JK X (.code c :: r) QA s) : JK X (.code c :: r) QA s := JC.lenOf d h k
theorem JK.ghost {c : Code} {r : List Fr} (d : Nat) (eid : TypeId) (e : Ty) (hd : lk s.L d = some (.lf .nils)) (k : JK X (.code c :: r) QA ⟨(d, .lf (.osl s.nx)) :: s.L, (s.nx, .sl eid e []) :: s.H, s.nx + 1⟩) : JK X (.code c :: r) QA s := JC.ghost d eid e hd k
theorem JK.ghostC {c : Code} {r : List Fr} (m i : Nat) (eid : TypeId) (e : Ty) {t : Ty} {v v' : AV} (hm : lk s.H m = some (.cell t v)) (hv : ghA s.nx v i = some v')
    (k : JK X (.code c :: r) QA ⟨s.L, updH ((s.nx, .sl eid e []) :: s.H) m (.cell t v'), s.nx + 1⟩) : JK X (.code c :: r) QA s := JC.ghostC m i eid e hm hv k
theorem JK.frz {c : Code} {r : List Fr} {cs : List Prop} {s' : S} (F K : List Nat) (h : Ox.frz F K s = some (cs, s')) (hc : allP cs) (k : JK X (.code c :: r) QA s') : JK X (.code c :: r) QA s := JC.frz F K h hc k
theorem JK.frzL {r : List Fr} {cs : List Prop} {s' : S} (F K : List Nat) (h : Ox.frz F K s = some (cs, s')) (hc : allP cs) (k : JK X (.ops md all l :: r) QA s') : JK X (.ops md all l :: r) QA s := JL.frz F K h hc k

/-! Ranges over maps. -/
section
variable {L : List (Nat × AV)} {H : List (Nat × HO)} {nx d n : Nat} {rr : List Fr} {om : Operand} {c1 : List Prop} {kt vt : Ty} {es : List (Ent kt vt)} {clk m since last : Nat} {seen seen' : List Nat} {ty : TypeId} {ps : String} {af : Array Edge} {e : Ent kt vt}
theorem JK.etr (hu : opd L om = some (c1, .lf (.itr n))) (hl : lk H n = some (.iter m since seen last)) (hm : lk H m = some (.map kt vt es clk)) (hs : seen = seen' ++ [e.2.2]) (hlast : last = clk)
    (he : e ∈ es) (hw : MWF es clk) (hd : ltB d X.n = true)
    (k : JK X (.ops true all l :: rr) QA ⟨(d, .tup (.acons (.val kt e.1) (.acons (.val vt e.2.1) .anil))) :: L, H, nx⟩) (hc : allP c1 := by (first | exact trivial | (try dsimp only [allP, inK, idxC, loC, lohiC, fullC, underG, List.append, List.nil_append, List.cons_append, Ty.den, Ty.dflt, Int.toNat_natCast, List.length_cons, List.length_nil] at *); first | omega | ((repeat' (first | exact trivial | assumption | refine And.intro ?_ ?_ | exact fun h => h | (intro hpk; first | exact hpk | simp only [wantB, hpk, Bool.not_false, Bool.not_true]))) <;> omega) | fail)) : JK X (.ops true all (⟨some d, .entry om, ty, ps, af, none⟩ :: l) :: rr) QA ⟨L, H, nx⟩ := JL.mEntry hu hl hm hs hlast he hw.nb hd hc k
theorem JK.nxt (hu : opd L om = some (c1, .lf (.itr n))) (hl : lk H n = some (.iter m since seen last)) (hm : lk H m = some (.map kt vt es clk)) (hold : ∀ e ∈ es, e.2.2 < since) (hsl : since ≤ last) (hd : ltB d X.n = true)
    (k0 : (∀ e ∈ es, e.2.2 ∈ seen) → JK X (.ops true all l :: rr) QA ⟨(d, .tup (.acons (.val .bool false) .anil)) :: L, H, nx⟩)
    (k1 : ∀ e ∈ es, e.2.2 ∉ seen → JK X (.ops true all l :: rr) QA ⟨(d, .tup (.acons (.val .bool true) (.acons (.val kt e.1) (.acons (.val vt e.2.1) .anil)))) :: L, updH H n (.iter m since (seen ++ [e.2.2]) clk), nx⟩) (hc : allP c1 := by (first | exact trivial | (try dsimp only [allP, inK, idxC, loC, lohiC, fullC, underG, List.append, List.nil_append, List.cons_append, Ty.den, Ty.dflt, Int.toNat_natCast, List.length_cons, List.length_nil] at *); first | omega | ((repeat' (first | exact trivial | assumption | refine And.intro ?_ ?_ | exact fun h => h | (intro hpk; first | exact hpk | simp only [wantB, hpk, Bool.not_false, Bool.not_true]))) <;> omega) | fail)) :
    JK X (.ops true all (⟨some d, .next om false, ty, ps, af, none⟩ :: l) :: rr) QA ⟨L, H, nx⟩ := JL.mNext hu hl hm hold hsl hd hc k0 k1
end

/-! Calls. -/
section
variable {op : Op} {L : List (Nat × AV)} {H : List (Nat × HO)} {nx d : Nat} {cs : List Prop} {ty : TypeId} {ps : String} {af : Array Edge} {g : Bool} {gg : Nat × Bool} {rr : List Fr} {f : FuncId} {args r : AV}
theorem JK.sc (h : callA X.T op ⟨L, H, nx⟩ = some (cs, f, args)) (hf : Fn X.P f args (· = r)) (hr : r.scal = true) (hd : ltB d X.n = true) (k : JK X (.ops md all l :: rr) QA ⟨(d, r) :: L, H, nx⟩) (hc : allP cs) :
    JK X (.ops md all (⟨some d, op, ty, ps, af, none⟩ :: l) :: rr) QA ⟨L, H, nx⟩ := JL.s1 (L := L) (H := H) (nx := nx) h hf hr (AV.scal_bd hr) hd hc k
theorem JK.scg (hg : gOf all L (some gg) = some g) (h : callA X.T op ⟨L, H, nx⟩ = some (cs, f, args)) (hf : g = true → Fn X.P f args (· = r)) (hr : r.scal = true) (hd : ltB d X.n = true) (k : JK X (.ops md all l :: rr) QA ⟨(d, .gd g r) :: L, H, nx⟩) (hc : g = true → allP cs) :
    JK X (.ops md all (⟨some d, op, ty, ps, af, some gg⟩ :: l) :: rr) QA ⟨L, H, nx⟩ := JL.s1g (L := L) (H := H) (nx := nx) hg h hf hr (AV.scal_bd hr) hd hc k
theorem JK.cl {R : AV → Prop} (h : callA X.T op ⟨L, [], nx⟩ = some (cs, f, args)) (hf : Fn X.P f args R) (hd : ltB d X.n = true) (k : ∀ r, R r → JK X (.ops true all l :: rr) QA ⟨(d, r) :: L, H, nx⟩) (hc : allP cs) :
    JK X (.ops true all (⟨some d, op, ty, ps, af, none⟩ :: l) :: rr) QA ⟨L, H, nx⟩ := JL.c1 (L := L) (H := H) (nx := nx) h hf hd hc k
theorem JK.ce (h : callA X.T op ⟨L, [], nx⟩ = some (cs, f, args)) (hf : Fn X.P f args (· = r)) (hd : ltB d X.n = true) (k : JK X (.ops true all l :: rr) QA ⟨(d, r) :: L, H, nx⟩) (hc : allP cs) :
    JK X (.ops true all (⟨some d, op, ty, ps, af, none⟩ :: l) :: rr) QA ⟨L, H, nx⟩ := JK.cl h hf hd (fun _ e => e ▸ k) hc
theorem JK.gT (hg : gOf all L (some gg) = some g) (hgt : g = true) {dd : Option Nat} (k : JK X (.ops true all (⟨dd, op, ty, ps, af, none⟩ :: l) :: rr) QA ⟨L, H, nx⟩) : JK X (.ops true all (⟨dd, op, ty, ps, af, some gg⟩ :: l) :: rr) QA ⟨L, H, nx⟩ := JL.gT hg hgt k
theorem JK.gF (hg : gOf all L (some gg) = some g) (hgf : g = false) (hd : ltB d X.n = true) (k : JK X (.ops true all l :: rr) QA ⟨(d, .undef) :: L, H, nx⟩) : JK X (.ops true all (⟨some d, op, ty, ps, af, some gg⟩ :: l) :: rr) QA ⟨L, H, nx⟩ := JL.gF (L := L) (H := H) (nx := nx) hg hgf hd k
theorem JK.nilF (k : JK X (.ops true all l :: rr) QA ⟨del L d, H, nx⟩) : JK X (.ops true all (⟨some d, .assign (.const .nilFunc), ty, ps, af, none⟩ :: l) :: rr) QA ⟨L, H, nx⟩ := JL.nilF (L := L) (H := H) (nx := nx) k
end
end Ox

namespace Go.Proofs.Ytbmgijgnbilnoaa
open Go Go.RowKit Ox
variable {E : World} {M0 : Mem} {n : Nat} {rd : Option Nat} {up : Nat → Nat → Value} {dp : Nat} {QA : Exit → S → Prop} {st st' r : List Fr} {s s' : S} {cs : List Prop} {md : Bool} {all l : List Oper} {d : Nat} {op : Op} {ty : TypeId} {ps : String} {af : Array Edge} {g : Bool} {gg : Nat × Bool} {v : AV}
  {f : FuncId} {args : AV} {L : List (Nat × AV)} {H : List (Nat × HO)} {nx : Nat} {kt vt : Ty} {t kid vid : TypeId} {es : List (Ent kt vt)} {clk m : Nat} {x y : kt.den} {c1 c2 c3 : List Prop} {om ok ov : Operand}
theorem zs (h : stepC tys ets n false st s = some (cs, st', s')) (k : JK ⟨Go.Proofs.Try.prog, tys, ets, mts, E, M0, n, rd, up, dp⟩ st' QA s') (hc : allP cs := by (first | exact trivial | (try dsimp only [allP, inK, idxC, loC, lohiC, fullC, underG, List.append, List.nil_append, List.cons_append, Ty.den, Ty.dflt, Int.toNat_natCast, List.length_cons, List.length_nil] at *); first | omega | ((repeat' (first | exact trivial | assumption | refine And.intro ?_ ?_ | exact fun h => h | (intro hpk; first | exact hpk | simp only [wantB, hpk, Bool.not_false, Bool.not_true]))) <;> omega) | fail)) : JK ⟨Go.Proofs.Try.prog, tys, ets, mts, E, M0, n, rd, up, dp⟩ st QA s := JK.step (xok rfl rfl rfl rfl) h k hc
theorem zu (h : stepC tys ets n true st s = some (cs, st', s')) (k : JK ⟨Go.Proofs.Try.prog, tys, ets, mts, E, M0, n, rd, up, dp⟩ st' QA s') (hc : allP cs := by (first | exact trivial | (try dsimp only [allP, inK, idxC, loC, lohiC, fullC, underG, List.append, List.nil_append, List.cons_append, Ty.den, Ty.dflt, Int.toNat_natCast, List.length_cons, List.length_nil] at *); first | omega | ((repeat' (first | exact trivial | assumption | refine And.intro ?_ ?_ | exact fun h => h | (intro hpk; first | exact hpk | simp only [wantB, hpk, Bool.not_false, Bool.not_true]))) <;> omega) | fail)) : JK ⟨Go.Proofs.Try.prog, tys, ets, mts, E, M0, n, rd, up, dp⟩ st QA s := JK.step (xok rfl rfl rfl rfl) h k hc
theorem zg (hg : gOf all L (some gg) = some g) (h : evb tys op ⟨L, H, nx⟩ = some (cs, v)) (hd : ltB d n = true) (k : JK ⟨Go.Proofs.Try.prog, tys, ets, mts, E, M0, n, rd, up, dp⟩ (.ops md all l :: r) QA ⟨(d, .gd g v) :: L, H, nx⟩)
    (hc : g = true → allP cs := by (first | (exact fun _ => trivial) | (exact fun hgd => hgd) | (intro hgd; first | exact trivial | exact hgd | (have hge := hgd; (try simp only [wantB, Bool.not_not, Bool.not_eq_true', decide_eq_true_eq, decide_eq_false_iff_not, beq_iff_eq, bne_iff_ne, bne_eq_false_iff_eq, ne_eq, beq_eq_false_iff_ne] at hge); (try dsimp only [allP, inK, idxC, loC, lohiC, fullC, underG, List.append, List.nil_append, List.cons_append, Ty.den, Ty.dflt, Int.toNat_natCast, List.length_cons, List.length_nil] at *); first | omega | ((repeat' (first | exact trivial | assumption | refine And.intro ?_ ?_ | exact fun h => h | (intro hpk; first | exact hpk | simp only [wantB, hpk, Bool.not_false, Bool.not_true]))) <;> omega) | fail)) | (exact fun hgd => And.intro hgd (fun hpk => Bool.and_eq_true_iff.2 ⟨hgd, by rw [hpk]; rfl⟩)) | (intro hgd; have hge := hgd; simp only [wantB, Bool.and_eq_true, Bool.or_eq_true, Bool.not_not, Bool.not_eq_true', decide_eq_true_eq, decide_eq_false_iff_not, beq_iff_eq, bne_iff_ne, bne_eq_false_iff_eq, ne_eq, beq_eq_false_iff_ne] at hge; (try dsimp only [allP, inK, idxC, loC, lohiC, fullC, underG, List.append, List.nil_append, List.cons_append, Ty.den, Ty.dflt, Int.toNat_natCast, List.length_cons, List.length_nil] at *); first | omega | ((repeat' (first | exact trivial | assumption | refine And.intro ?_ ?_)) <;> omega)))) :
    JK ⟨Go.Proofs.Try.prog, tys, ets, mts, E, M0, n, rd, up, dp⟩ (.ops md all (⟨some d, op, ty, ps, af, some gg⟩ :: l) :: r) QA ⟨L, H, nx⟩ := JK.gd (xok rfl rfl rfl rfl) hg h hd k hc
theorem zd {id : Nat} {ops : List Oper} (k : JK ⟨Go.Proofs.Try.prog, tys, ets, mts, E, M0, n, rd, up, dp⟩ (.ops false ops ops :: r) QA s) (hB : (Region.lexB .any ops.toArray && ndAll ops) = true := by decide +kernel) : JK ⟨Go.Proofs.Try.prog, tys, ets, mts, E, M0, n, rd, up, dp⟩ (.code (.region id ⟨ops⟩ true) :: r) QA s := JK.draw (xok rfl rfl rfl rfl) k hB
theorem zc (h : callA tys op ⟨L, H, nx⟩ = some (cs, f, args)) (hf : Ox.Fn Go.Proofs.Try.prog f args (· = v)) (hr : v.scal = true) (hd : ltB d n = true) (k : JK ⟨Go.Proofs.Try.prog, tys, ets, mts, E, M0, n, rd, up, dp⟩ (.ops md all l :: r) QA ⟨(d, v) :: L, H, nx⟩) (hc : allP cs := by (first | exact trivial | (try dsimp only [allP, inK, idxC, loC, lohiC, fullC, underG, List.append, List.nil_append, List.cons_append, Ty.den, Ty.dflt, Int.toNat_natCast, List.length_cons, List.length_nil] at *); first | omega | ((repeat' (first | exact trivial | assumption | refine And.intro ?_ ?_ | exact fun h => h | (intro hpk; first | exact hpk | simp only [wantB, hpk, Bool.not_false, Bool.not_true]))) <;> omega) | fail)) :
    JK ⟨Go.Proofs.Try.prog, tys, ets, mts, E, M0, n, rd, up, dp⟩ (.ops md all (⟨some d, op, ty, ps, af, none⟩ :: l) :: r) QA ⟨L, H, nx⟩ := JK.sc h hf hr hd k hc
theorem zk (hg : gOf all L (some gg) = some g) (h : callA tys op ⟨L, H, nx⟩ = some (cs, f, args)) (hf : g = true → Ox.Fn Go.Proofs.Try.prog f args (· = v)) (hr : v.scal = true) (hd : ltB d n = true) (k : JK ⟨Go.Proofs.Try.prog, tys, ets, mts, E, M0, n, rd, up, dp⟩ (.ops md all l :: r) QA ⟨(d, .gd g v) :: L, H, nx⟩)
    (hc : g = true → allP cs := by (first | (exact fun _ => trivial) | (exact fun hgd => hgd) | (intro hgd; first | exact trivial | exact hgd | (have hge := hgd; (try simp only [wantB, Bool.not_not, Bool.not_eq_true', decide_eq_true_eq, decide_eq_false_iff_not, beq_iff_eq, bne_iff_ne, bne_eq_false_iff_eq, ne_eq, beq_eq_false_iff_ne] at hge); (try dsimp only [allP, inK, idxC, loC, lohiC, fullC, underG, List.append, List.nil_append, List.cons_append, Ty.den, Ty.dflt, Int.toNat_natCast, List.length_cons, List.length_nil] at *); first | omega | ((repeat' (first | exact trivial | assumption | refine And.intro ?_ ?_ | exact fun h => h | (intro hpk; first | exact hpk | simp only [wantB, hpk, Bool.not_false, Bool.not_true]))) <;> omega) | fail)) | (intro hgd; have hge := hgd; simp only [wantB, Bool.and_eq_true, Bool.or_eq_true, Bool.not_not, Bool.not_eq_true', decide_eq_true_eq, decide_eq_false_iff_not, beq_iff_eq, bne_iff_ne, bne_eq_false_iff_eq, ne_eq, beq_eq_false_iff_ne] at hge; (try dsimp only [allP, inK, idxC, loC, lohiC, fullC, underG, List.append, List.nil_append, List.cons_append, Ty.den, Ty.dflt, Int.toNat_natCast, List.length_cons, List.length_nil] at *); first | omega | ((repeat' (first | exact trivial | assumption | refine And.intro ?_ ?_)) <;> omega)))) : JK ⟨Go.Proofs.Try.prog, tys, ets, mts, E, M0, n, rd, up, dp⟩ (.ops md all (⟨some d, op, ty, ps, af, some gg⟩ :: l) :: r) QA ⟨L, H, nx⟩ := JK.scg hg h hf hr hd k hc
theorem ze (h : callA tys op ⟨L, [], nx⟩ = some (cs, f, args)) (hf : Ox.Fn Go.Proofs.Try.prog f args (· = v)) (hd : ltB d n = true) (k : JK ⟨Go.Proofs.Try.prog, tys, ets, mts, E, M0, n, rd, up, dp⟩ (.ops true all l :: r) QA ⟨(d, v) :: L, H, nx⟩) (hc : allP cs := by (first | exact trivial | (try dsimp only [allP, inK, idxC, loC, lohiC, fullC, underG, List.append, List.nil_append, List.cons_append, Ty.den, Ty.dflt, Int.toNat_natCast, List.length_cons, List.length_nil] at *); first | omega | ((repeat' (first | exact trivial | assumption | refine And.intro ?_ ?_ | exact fun h => h | (intro hpk; first | exact hpk | simp only [wantB, hpk, Bool.not_false, Bool.not_true]))) <;> omega) | fail)) :
    JK ⟨Go.Proofs.Try.prog, tys, ets, mts, E, M0, n, rd, up, dp⟩ (.ops true all (⟨some d, op, ty, ps, af, none⟩ :: l) :: r) QA ⟨L, H, nx⟩ := JK.ce h hf hd k hc
theorem zt (hg : gOf all L (some gg) = some g) (hgt : g = true) {dd : Option Nat} (k : JK ⟨Go.Proofs.Try.prog, tys, ets, mts, E, M0, n, rd, up, dp⟩ (.ops true all (⟨dd, op, ty, ps, af, none⟩ :: l) :: r) QA ⟨L, H, nx⟩) : JK ⟨Go.Proofs.Try.prog, tys, ets, mts, E, M0, n, rd, up, dp⟩ (.ops true all (⟨dd, op, ty, ps, af, some gg⟩ :: l) :: r) QA ⟨L, H, nx⟩ := JK.gT hg hgt k
theorem zfl (hg : gOf all L (some gg) = some g) (hgf : g = false) (hd : ltB d n = true) (k : JK ⟨Go.Proofs.Try.prog, tys, ets, mts, E, M0, n, rd, up, dp⟩ (.ops true all l :: r) QA ⟨(d, .undef) :: L, H, nx⟩) : JK ⟨Go.Proofs.Try.prog, tys, ets, mts, E, M0, n, rd, up, dp⟩ (.ops true all (⟨some d, op, ty, ps, af, some gg⟩ :: l) :: r) QA ⟨L, H, nx⟩ := JK.gF hg hgf hd k
theorem znf (k : JK ⟨Go.Proofs.Try.prog, tys, ets, mts, E, M0, n, rd, up, dp⟩ (.ops true all l :: r) QA ⟨del L d, H, nx⟩) : JK ⟨Go.Proofs.Try.prog, tys, ets, mts, E, M0, n, rd, up, dp⟩ (.ops true all (⟨some d, .assign (.const .nilFunc), ty, ps, af, none⟩ :: l) :: r) QA ⟨L, H, nx⟩ := JK.nilF k
theorem zif {x : Operand} {c d : Code} {b : Bool} (hb : opB s.L x = some b) (ht : b = true → JK ⟨Go.Proofs.Try.prog, tys, ets, mts, E, M0, n, rd, up, dp⟩ (.code c :: r) QA s) (hf : b = false → JK ⟨Go.Proofs.Try.prog, tys, ets, mts, E, M0, n, rd, up, dp⟩ (.code d :: r) QA s) : JK ⟨Go.Proofs.Try.prog, tys, ets, mts, E, M0, n, rd, up, dp⟩ (.code (.cond x c d) :: r) QA s := JK.cond hb ht hf
/-! Maps and comparisons. -/
theorem zml (hT : MapT Go.Proofs.Try.prog kt vt t kid vid) (hu : opd L om = some (c1, .lf (.mp m))) (hl : lk H m = some (.map kt vt es clk)) (hv : opd L ok = some (c2, .val kt x)) (hd : ltB d n = true)
    (k : JK ⟨Go.Proofs.Try.prog, tys, ets, mts, E, M0, n, rd, up, dp⟩ (.ops true all l :: r) QA ⟨(d, .val vt (mGet es x vt.dflt)) :: L, H, nx⟩) (hc : allP (c1 ++ c2) := by (first | exact trivial | (try dsimp only [allP, inK, idxC, loC, lohiC, fullC, underG, List.append, List.nil_append, List.cons_append, Ty.den, Ty.dflt, Int.toNat_natCast, List.length_cons, List.length_nil] at *); first | omega | ((repeat' (first | exact trivial | assumption | refine And.intro ?_ ?_ | exact fun h => h | (intro hpk; first | exact hpk | simp only [wantB, hpk, Bool.not_false, Bool.not_true]))) <;> omega) | fail)) : JK ⟨Go.Proofs.Try.prog, tys, ets, mts, E, M0, n, rd, up, dp⟩ (.ops true all (⟨some d, .lookup t om ok false, ty, ps, af, none⟩ :: l) :: r) QA ⟨L, H, nx⟩ := JL.mLook (X := ⟨Go.Proofs.Try.prog, tys, ets, mts, E, M0, n, rd, up, dp⟩)  hT hu hl hv hd hc k
theorem zmi (hT : MapT Go.Proofs.Try.prog kt vt t kid vid) (hu : opd L om = some (c1, .lf (.mp m))) (hl : lk H m = some (.map kt vt es clk)) (hv : opd L ok = some (c2, .val kt x)) {y : vt.den} (hy : opd L ov = some (c3, .val vt y))
    (k : JK ⟨Go.Proofs.Try.prog, tys, ets, mts, E, M0, n, rd, up, dp⟩ (.ops true all l :: r) QA ⟨L, updH H m (.map kt vt (mPut es clk x y) (mClk es clk x)), nx⟩) (hc : allP (c1 ++ (c2 ++ c3)) := by (first | exact trivial | (try dsimp only [allP, inK, idxC, loC, lohiC, fullC, underG, List.append, List.nil_append, List.cons_append, Ty.den, Ty.dflt, Int.toNat_natCast, List.length_cons, List.length_nil] at *); first | omega | ((repeat' (first | exact trivial | assumption | refine And.intro ?_ ?_ | exact fun h => h | (intro hpk; first | exact hpk | simp only [wantB, hpk, Bool.not_false, Bool.not_true]))) <;> omega) | fail)) : JK ⟨Go.Proofs.Try.prog, tys, ets, mts, E, M0, n, rd, up, dp⟩ (.ops true all (⟨none, .insert t om ok ov, ty, ps, af, none⟩ :: l) :: r) QA ⟨L, H, nx⟩ := JL.mIns (X := ⟨Go.Proofs.Try.prog, tys, ets, mts, E, M0, n, rd, up, dp⟩)  hT hu hl hv hy hc k
theorem zmd (hT : MapT Go.Proofs.Try.prog kt vt t kid vid) {ta : TypeId} (hu : opd L om = some (c1, .lf (.mp m))) (hl : lk H m = some (.map kt vt es clk)) (hv : opd L ok = some (c2, .val kt x))
    (k : JK ⟨Go.Proofs.Try.prog, tys, ets, mts, E, M0, n, rd, up, dp⟩ (.ops true all l :: r) QA ⟨L, updH H m (.map kt vt (Ox.mDel es x) clk), nx⟩) (hc : allP (c1 ++ c2) := by (first | exact trivial | (try dsimp only [allP, inK, idxC, loC, lohiC, fullC, underG, List.append, List.nil_append, List.cons_append, Ty.den, Ty.dflt, Int.toNat_natCast, List.length_cons, List.length_nil] at *); first | omega | ((repeat' (first | exact trivial | assumption | refine And.intro ?_ ?_ | exact fun h => h | (intro hpk; first | exact hpk | simp only [wantB, hpk, Bool.not_false, Bool.not_true]))) <;> omega) | fail)) : JK ⟨Go.Proofs.Try.prog, tys, ets, mts, E, M0, n, rd, up, dp⟩ (.ops true all (⟨none, .call { callee := .builtin .delete, args := #[om, ok], argTypes := #[t, ta] }, ty, ps, af, none⟩ :: l) :: r) QA ⟨L, H, nx⟩ := JL.mDel (X := ⟨Go.Proofs.Try.prog, tys, ets, mts, E, M0, n, rd, up, dp⟩)  hT hu hl hv hc k
theorem zmr (hT : MapT Go.Proofs.Try.prog kt vt t kid vid) (hu : opd L om = some (c1, .lf (.mp m))) (hl : lk H m = some (.map kt vt es clk)) (hd : ltB d n = true)
    (k : JK ⟨Go.Proofs.Try.prog, tys, ets, mts, E, M0, n, rd, up, dp⟩ (.ops true all l :: r) QA ⟨(d, .lf (.itr nx)) :: L, (nx, .iter m clk [] clk) :: H, nx + 1⟩) (hc : allP c1 := by (first | exact trivial | (try dsimp only [allP, inK, idxC, loC, lohiC, fullC, underG, List.append, List.nil_append, List.cons_append, Ty.den, Ty.dflt, Int.toNat_natCast, List.length_cons, List.length_nil] at *); first | omega | ((repeat' (first | exact trivial | assumption | refine And.intro ?_ ?_ | exact fun h => h | (intro hpk; first | exact hpk | simp only [wantB, hpk, Bool.not_false, Bool.not_true]))) <;> omega) | fail)) : JK ⟨Go.Proofs.Try.prog, tys, ets, mts, E, M0, n, rd, up, dp⟩ (.ops true all (⟨some d, .range t om, ty, ps, af, none⟩ :: l) :: r) QA ⟨L, H, nx⟩ := JL.mRange (X := ⟨Go.Proofs.Try.prog, tys, ets, mts, E, M0, n, rd, up, dp⟩)  hT hu hl hd hc k
theorem zmm (hT : MapT Go.Proofs.Try.prog kt vt t kid vid) (hd : ltB d n = true)
    (k : JK ⟨Go.Proofs.Try.prog, tys, ets, mts, E, M0, n, rd, up, dp⟩ (.ops true all l :: r) QA ⟨(d, .lf (.mp nx)) :: L, (nx, .map kt vt [] 0) :: H, nx + 1⟩) : JK ⟨Go.Proofs.Try.prog, tys, ets, mts, E, M0, n, rd, up, dp⟩ (.ops true all (⟨some d, .makeMap t none, ty, ps, af, none⟩ :: l) :: r) QA ⟨L, H, nx⟩ := JL.mMake (X := ⟨Go.Proofs.Try.prog, tys, ets, mts, E, M0, n, rd, up, dp⟩)  hT hd k
theorem zeq (hK : EqT Go.Proofs.Try.prog kt t) (hu : opd L om = some (c1, .val kt x)) (hv : opd L ok = some (c2, .val kt y)) (hd : ltB d n = true) {tt : TypeId}
    (k : JK ⟨Go.Proofs.Try.prog, tys, ets, mts, E, M0, n, rd, up, dp⟩ (.ops md all l :: r) QA ⟨(d, .val .bool (kt.eqB x y)) :: L, H, nx⟩) (hc : allP (c1 ++ c2) := by (first | exact trivial | (try dsimp only [allP, inK, idxC, loC, lohiC, fullC, underG, List.append, List.nil_append, List.cons_append, Ty.den, Ty.dflt, Int.toNat_natCast, List.length_cons, List.length_nil] at *); first | omega | ((repeat' (first | exact trivial | assumption | refine And.intro ?_ ?_ | exact fun h => h | (intro hpk; first | exact hpk | simp only [wantB, hpk, Bool.not_false, Bool.not_true]))) <;> omega) | fail)) : JK ⟨Go.Proofs.Try.prog, tys, ets, mts, E, M0, n, rd, up, dp⟩ (.ops md all (⟨some d, .binOp .eql t om ok tt, ty, ps, af, none⟩ :: l) :: r) QA ⟨L, H, nx⟩ := JL.eqQ (X := ⟨Go.Proofs.Try.prog, tys, ets, mts, E, M0, n, rd, up, dp⟩)  hK.key hK.ag hK.gt hu hv hd hc k
theorem zne (hK : EqT Go.Proofs.Try.prog kt t) (hu : opd L om = some (c1, .val kt x)) (hv : opd L ok = some (c2, .val kt y)) (hd : ltB d n = true) {tt : TypeId}
    (k : JK ⟨Go.Proofs.Try.prog, tys, ets, mts, E, M0, n, rd, up, dp⟩ (.ops md all l :: r) QA ⟨(d, .val .bool (!kt.eqB x y)) :: L, H, nx⟩) (hc : allP (c1 ++ c2) := by (first | exact trivial | (try dsimp only [allP, inK, idxC, loC, lohiC, fullC, underG, List.append, List.nil_append, List.cons_append, Ty.den, Ty.dflt, Int.toNat_natCast, List.length_cons, List.length_nil] at *); first | omega | ((repeat' (first | exact trivial | assumption | refine And.intro ?_ ?_ | exact fun h => h | (intro hpk; first | exact hpk | simp only [wantB, hpk, Bool.not_false, Bool.not_true]))) <;> omega) | fail)) : JK ⟨Go.Proofs.Try.prog, tys, ets, mts, E, M0, n, rd, up, dp⟩ (.ops md all (⟨some d, .binOp .neq t om ok tt, ty, ps, af, none⟩ :: l) :: r) QA ⟨L, H, nx⟩ := JL.neQ (X := ⟨Go.Proofs.Try.prog, tys, ets, mts, E, M0, n, rd, up, dp⟩)  hK.key hK.ag hK.gt hu hv hd hc k
end Go.Proofs.Ytbmgijgnbilnoaa

namespace Go.Proofs.Ytbmgijgnbilnoaa
open Go Go.RowKit Ox
attribute [local irreducible] JC JL JK JW

abbrev vI (n : Int) : AV := .val (.int .i64) n
abbrev vB (b : Bool) : AV := .val .bool b
abbrev vL (xs : List Int) : AV := .val (.slice (.int .i64)) xs
abbrev dayT : Ty := .cons (.int .i64) (.cons (.slice (.int .i64)) .nil)
abbrev vD (r : Int) (xs : List Int) : AV := .val dayT (r, xs, ())

theorem getD_nat (xs : List Int) {i : Nat} (h : i < xs.length) (d : Int) : xs.getD i d = xs[i] := by
  simp [List.getD_eq_getElem?_getD, List.getElem?_eq_getElem h]

theorem fn43 (xs : List Int) (b : Int) : Ox.Fn Go.Proofs.Try.prog 43 (.acons (vL xs) (.acons (vI b) .anil)) (· = vB (decide (b ∈ xs))) := by
  refine Ox.Fn.intro xok Go.Proofs.Try.func43 rfl Go.Proofs.Try.call43 (Nat.le_of_ble_eq_true rfl) (fun E M0 up => ?_)
  refine JK.start ?_
  refine JK.lenOf 0 rfl fun hlen => ?_
  replace hlen : xs.length ≤ 9223372036854775807 := hlen.1
  (repeat (first | refine zs rfl ?_ | refine zg rfl rfl rfl ?_ | refine zd ?_ | refine JK.fin ?_ | refine JK.ret ?_))
  refine JK.loop (fun i : Nat => ⟨[(0, vL xs), (1, vI b), (5, vI (i : Int))], [], 0⟩) (fun i => i ≤ xs.length ∧ b ∉ xs.take i) (fun i => xs.length - i) 0 (by simp) (by (exact JW.Auto rfl)) fun i ⟨hi, hn⟩ => ?_
  (repeat (first | refine zs rfl ?_ | refine zg rfl rfl rfl ?_ | refine zd ?_ | refine JK.fin ?_ | refine JK.ret ?_))
  refine JK.cond rfl (fun hc => ?_) (fun hc => ?_)
  · (simp only [↓bif_or, ↓bif_and, ↓Bool.or_eq_true, ↓Bool.or_eq_false_iff, ↓Bool.and_eq_true, ↓Bool.and_eq_false_iff, ↓Bool.not_eq_true', ↓Bool.not_eq_false', ↓decide_eq_true_eq, ↓decide_eq_false_iff_not, ↓beq_iff_eq, ↓bne_iff_ne, ↓bne_eq_false_iff_eq, ↓ne_eq, ↓beq_eq_false_iff_ne, ↓Bool.not_eq_true] at hc; try simp only [Ty.dflt, Int.toNat_natCast] at hc)
    have hi' : i < xs.length := by omega
    (repeat (first | refine zs rfl ?_ | refine zg rfl rfl rfl ?_ | refine zd ?_ | refine JK.fin ?_ | refine JK.ret ?_))
    refine JK.cond rfl (fun hd => ?_) (fun hd => ?_)
    · (simp only [↓bif_or, ↓bif_and, ↓Bool.or_eq_true, ↓Bool.or_eq_false_iff, ↓Bool.and_eq_true, ↓Bool.and_eq_false_iff, ↓Bool.not_eq_true', ↓Bool.not_eq_false', ↓decide_eq_true_eq, ↓decide_eq_false_iff_not, ↓beq_iff_eq, ↓bne_iff_ne, ↓bne_eq_false_iff_eq, ↓ne_eq, ↓beq_eq_false_iff_ne, ↓Bool.not_eq_true] at hd; try simp only [Ty.dflt, Int.toNat_natCast] at hd)
      (repeat (first | refine zs rfl ?_ | refine zg rfl rfl rfl ?_ | refine zd ?_ | refine JK.fin ?_ | refine JK.ret ?_))
      refine ⟨.inl rfl, _, _, rfl, trivial, ?_⟩
      rw [getD_nat xs hi'] at hd
      simp [← hd]
    · (simp only [↓bif_or, ↓bif_and, ↓Bool.or_eq_true, ↓Bool.or_eq_false_iff, ↓Bool.and_eq_true, ↓Bool.and_eq_false_iff, ↓Bool.not_eq_true', ↓Bool.not_eq_false', ↓decide_eq_true_eq, ↓decide_eq_false_iff_not, ↓beq_iff_eq, ↓bne_iff_ne, ↓bne_eq_false_iff_eq, ↓ne_eq, ↓beq_eq_false_iff_ne, ↓Bool.not_eq_true] at hd; try simp only [Ty.dflt, Int.toNat_natCast] at hd)
      (repeat (first | refine zs rfl ?_ | refine zg rfl rfl rfl ?_ | refine zd ?_ | refine JK.fin ?_ | refine JK.ret ?_))
      rw [getD_nat xs hi'] at hd
      refine ⟨i + 1, by (exact JW.Auto rfl), ⟨by omega, ?_⟩, by omega⟩
      rw [List.take_succ, List.mem_append, List.getElem?_eq_getElem hi']
      rintro (h | h)
      · exact hn h
      · simp at h; exact hd h.symm
  · (simp only [↓bif_or, ↓bif_and, ↓Bool.or_eq_true, ↓Bool.or_eq_false_iff, ↓Bool.and_eq_true, ↓Bool.and_eq_false_iff, ↓Bool.not_eq_true', ↓Bool.not_eq_false', ↓decide_eq_true_eq, ↓decide_eq_false_iff_not, ↓beq_iff_eq, ↓bne_iff_ne, ↓bne_eq_false_iff_eq, ↓ne_eq, ↓beq_eq_false_iff_ne, ↓Bool.not_eq_true] at hc; try simp only [Ty.dflt, Int.toNat_natCast] at hc)
    (repeat (first | refine zs rfl ?_ | refine zg rfl rfl rfl ?_ | refine zd ?_ | refine JK.fin ?_ | refine JK.ret ?_))
    refine ⟨.inl rfl, _, _, rfl, trivial, ?_⟩
    have : i = xs.length := by omega
    subst this
    simp at hn
    simp [hn]

theorem fn27 (xs ys : List Int) : Ox.Fn Go.Proofs.Try.prog 27 (.acons (vL xs) (.acons (vL ys) .anil)) (· = vB (decide (xs = ys))) := by
  refine Ox.Fn.intro xok Go.Proofs.Try.func27 rfl Go.Proofs.Try.call27 (Nat.le_of_ble_eq_true rfl) (fun E M0 up => ?_)
  refine JK.start ?_
  refine JK.lenOf 0 rfl fun hlen => ?_
  replace hlen : xs.length ≤ 9223372036854775807 := hlen.1
  (repeat (first | refine zs rfl ?_ | refine zg rfl rfl rfl ?_ | refine zd ?_ | refine JK.fin ?_ | refine JK.ret ?_))
  refine JK.cond rfl (fun hc => ?_) (fun hc => ?_)
  · (simp only [↓bif_or, ↓bif_and, ↓Bool.or_eq_true, ↓Bool.or_eq_false_iff, ↓Bool.and_eq_true, ↓Bool.and_eq_false_iff, ↓Bool.not_eq_true', ↓Bool.not_eq_false', ↓decide_eq_true_eq, ↓decide_eq_false_iff_not, ↓beq_iff_eq, ↓bne_iff_ne, ↓bne_eq_false_iff_eq, ↓ne_eq, ↓beq_eq_false_iff_ne, ↓Bool.not_eq_true] at hc; try simp only [Ty.dflt, Int.toNat_natCast] at hc)
    (repeat (first | refine zs rfl ?_ | refine zg rfl rfl rfl ?_ | refine zd ?_ | refine JK.fin ?_ | refine JK.ret ?_))
    refine ⟨.inl rfl, _, _, rfl, trivial, ?_⟩
    have : xs ≠ ys := by rintro rfl; simp at hc
    simp [this]
  · (simp only [↓bif_or, ↓bif_and, ↓Bool.or_eq_true, ↓Bool.or_eq_false_iff, ↓Bool.and_eq_true, ↓Bool.and_eq_false_iff, ↓Bool.not_eq_true', ↓Bool.not_eq_false', ↓decide_eq_true_eq, ↓decide_eq_false_iff_not, ↓beq_iff_eq, ↓bne_iff_ne, ↓bne_eq_false_iff_eq, ↓ne_eq, ↓beq_eq_false_iff_ne, ↓Bool.not_eq_true] at hc; try simp only [Ty.dflt, Int.toNat_natCast] at hc)
    have hl : xs.length = ys.length := by omega
    (repeat (first | refine zs rfl ?_ | refine zg rfl rfl rfl ?_ | refine zd ?_ | refine JK.fin ?_ | refine JK.ret ?_))
    refine JK.loop (fun i : Nat => ⟨[(0, vL xs), (1, vL ys), (5, vI (i : Int))], [], 0⟩) (fun i => i ≤ xs.length ∧ xs.take i = ys.take i) (fun i => xs.length - i) 0 (by simp) (by (exact JW.Auto rfl)) fun i ⟨hi, hn⟩ => ?_
    (repeat (first | refine zs rfl ?_ | refine zg rfl rfl rfl ?_ | refine zd ?_ | refine JK.fin ?_ | refine JK.ret ?_))
    refine JK.cond rfl (fun hc => ?_) (fun hc => ?_)
    · (simp only [↓bif_or, ↓bif_and, ↓Bool.or_eq_true, ↓Bool.or_eq_false_iff, ↓Bool.and_eq_true, ↓Bool.and_eq_false_iff, ↓Bool.not_eq_true', ↓Bool.not_eq_false', ↓decide_eq_true_eq, ↓decide_eq_false_iff_not, ↓beq_iff_eq, ↓bne_iff_ne, ↓bne_eq_false_iff_eq, ↓ne_eq, ↓beq_eq_false_iff_ne, ↓Bool.not_eq_true] at hc; try simp only [Ty.dflt, Int.toNat_natCast] at hc)
      have hi' : i < xs.length := by omega
      have hj' : i < ys.length := by omega
      (repeat (first | refine zs rfl ?_ | refine zg rfl rfl rfl ?_ | refine zd ?_ | refine JK.fin ?_ | refine JK.ret ?_))
      refine JK.cond rfl (fun hd => ?_) (fun hd => ?_)
      · (simp only [↓bif_or, ↓bif_and, ↓Bool.or_eq_true, ↓Bool.or_eq_false_iff, ↓Bool.and_eq_true, ↓Bool.and_eq_false_iff, ↓Bool.not_eq_true', ↓Bool.not_eq_false', ↓decide_eq_true_eq, ↓decide_eq_false_iff_not, ↓beq_iff_eq, ↓bne_iff_ne, ↓bne_eq_false_iff_eq, ↓ne_eq, ↓beq_eq_false_iff_ne, ↓Bool.not_eq_true] at hd; try simp only [Ty.dflt, Int.toNat_natCast] at hd)
        (repeat (first | refine zs rfl ?_ | refine zg rfl rfl rfl ?_ | refine zd ?_ | refine JK.fin ?_ | refine JK.ret ?_))
        refine ⟨.inl rfl, _, _, rfl, trivial, ?_⟩
        rw [getD_nat xs hi', getD_nat ys hj'] at hd
        have : xs ≠ ys := by rintro rfl; exact hd rfl
        simp [this]
      · (simp only [↓bif_or, ↓bif_and, ↓Bool.or_eq_true, ↓Bool.or_eq_false_iff, ↓Bool.and_eq_true, ↓Bool.and_eq_false_iff, ↓Bool.not_eq_true', ↓Bool.not_eq_false', ↓decide_eq_true_eq, ↓decide_eq_false_iff_not, ↓beq_iff_eq, ↓bne_iff_ne, ↓bne_eq_false_iff_eq, ↓ne_eq, ↓beq_eq_false_iff_ne, ↓Bool.not_eq_true] at hd; try simp only [Ty.dflt, Int.toNat_natCast] at hd)
        (repeat (first | refine zs rfl ?_ | refine zg rfl rfl rfl ?_ | refine zd ?_ | refine JK.fin ?_ | refine JK.ret ?_))
        rw [getD_nat xs hi', getD_nat ys hj'] at hd
        refine ⟨i + 1, by (exact JW.Auto rfl), ⟨by omega, ?_⟩, by omega⟩
        rw [List.take_succ, List.take_succ, List.getElem?_eq_getElem hi', List.getElem?_eq_getElem hj', hn, hd]
    · (simp only [↓bif_or, ↓bif_and, ↓Bool.or_eq_true, ↓Bool.or_eq_false_iff, ↓Bool.and_eq_true, ↓Bool.and_eq_false_iff, ↓Bool.not_eq_true', ↓Bool.not_eq_false', ↓decide_eq_true_eq, ↓decide_eq_false_iff_not, ↓beq_iff_eq, ↓bne_iff_ne, ↓bne_eq_false_iff_eq, ↓ne_eq, ↓beq_eq_false_iff_ne, ↓Bool.not_eq_true] at hc; try simp only [Ty.dflt, Int.toNat_natCast] at hc)
      (repeat (first | refine zs rfl ?_ | refine zg rfl rfl rfl ?_ | refine zd ?_ | refine JK.fin ?_ | refine JK.ret ?_))
      refine ⟨.inl rfl, _, _, rfl, trivial, ?_⟩
      have : i = xs.length := by omega
      subst this
      rw [List.take_length, hl, List.take_length] at hn
      simp [hn]

theorem fn47 (r : Int) (xs : List Int) (n : Int) : Ox.Fn Go.Proofs.Try.prog 47 (.acons (vD r xs) (.acons (vI n) .anil)) (· = vB (decide (0 ≤ n ∧ n < xs.length))) := by
  refine Ox.Fn.intro xok Go.Proofs.Try.func47 rfl Go.Proofs.Try.call47 (Nat.le_of_ble_eq_true rfl) (fun E M0 up => ?_)
  refine JK.start ?_
  (repeat (first | refine zs rfl ?_ | refine zg rfl rfl rfl ?_ | refine zd ?_ | refine JK.fin ?_ | refine JK.ret ?_))
  refine ⟨.inl rfl, _, _, rfl, trivial, ?_⟩
  by_cases h : 0 ≤ n <;> simp [h]

/-- The nearest place before the i-th whose element is 'x', or -1. -/
def lastB (xs : List Int) (x : Int) : Nat → Int
  | 0 => -1
  | i + 1 => if xs.getD i 0 = x then i else lastB xs x i

theorem fn48 (r : Int) (xs : List Int) (n : Nat) (h : n < xs.length) : Ox.Fn Go.Proofs.Try.prog 48 (.acons (vD r xs) (.acons (vI n) .anil)) (· = vI (lastB xs (xs.getD n 0) n)) := by
  refine Ox.Fn.intro xok Go.Proofs.Try.func48 rfl Go.Proofs.Try.call48 (Nat.le_of_ble_eq_true rfl) (fun E M0 up => ?_)
  refine JK.start ?_
  refine JK.lenOf 0 rfl fun hlen => ?_
  replace hlen : xs.length ≤ 9223372036854775807 := hlen.2.1.1
  (repeat (first | refine zs rfl ?_ | refine zg rfl rfl rfl ?_ | refine zd ?_ | refine JK.fin ?_ | refine JK.ret ?_))
  refine JK.loop (fun k : Nat => ⟨[(1, vI n), (2, .lf (.optr 0 [])), (5, vI ((k : Int) - 1))], [(0, .cell dayT (vD r xs))], 1⟩) (fun k => k ≤ n ∧ lastB xs (xs.getD n 0) n = lastB xs (xs.getD n 0) k) (fun k => k) n (by simp) (by (exact JW.Auto rfl)) fun k ⟨hk, hn⟩ => ?_
  (repeat (first | refine zs rfl ?_ | refine zg rfl rfl rfl ?_ | refine zd ?_ | refine JK.fin ?_ | refine JK.ret ?_))
  refine JK.cond rfl (fun hc => ?_) (fun hc => ?_)
  · (simp only [↓bif_or, ↓bif_and, ↓Bool.or_eq_true, ↓Bool.or_eq_false_iff, ↓Bool.and_eq_true, ↓Bool.and_eq_false_iff, ↓Bool.not_eq_true', ↓Bool.not_eq_false', ↓decide_eq_true_eq, ↓decide_eq_false_iff_not, ↓beq_iff_eq, ↓bne_iff_ne, ↓bne_eq_false_iff_eq, ↓ne_eq, ↓beq_eq_false_iff_ne, ↓Bool.not_eq_true] at hc; try simp only [Ty.dflt, Int.toNat_natCast] at hc)
    obtain ⟨k, rfl⟩ : ∃ j, k = j + 1 := ⟨k - 1, by omega⟩
    (repeat (first | refine zs rfl ?_ | refine zg rfl rfl rfl ?_ | refine zd ?_ | refine JK.fin ?_ | refine JK.ret ?_))
    refine JK.cond rfl (fun hd => ?_) (fun hd => ?_)
    · (simp only [↓bif_or, ↓bif_and, ↓Bool.or_eq_true, ↓Bool.or_eq_false_iff, ↓Bool.and_eq_true, ↓Bool.and_eq_false_iff, ↓Bool.not_eq_true', ↓Bool.not_eq_false', ↓decide_eq_true_eq, ↓decide_eq_false_iff_not, ↓beq_iff_eq, ↓bne_iff_ne, ↓bne_eq_false_iff_eq, ↓ne_eq, ↓beq_eq_false_iff_ne, ↓Bool.not_eq_true] at hd; try simp only [Ty.dflt, Int.toNat_natCast] at hd)
      (repeat (first | refine zs rfl ?_ | refine zg rfl rfl rfl ?_ | refine zd ?_ | refine JK.fin ?_ | refine JK.ret ?_))
      refine ⟨.inl rfl, _, _, rfl, trivial, ?_⟩
      have e : (((k + 1 : Nat) : Int) - 1).toNat = k := by omega
      rw [e] at hd
      rw [hn, lastB, if_pos hd]
      exact congrArg vI (by omega)
    · (simp only [↓bif_or, ↓bif_and, ↓Bool.or_eq_true, ↓Bool.or_eq_false_iff, ↓Bool.and_eq_true, ↓Bool.and_eq_false_iff, ↓Bool.not_eq_true', ↓Bool.not_eq_false', ↓decide_eq_true_eq, ↓decide_eq_false_iff_not, ↓beq_iff_eq, ↓bne_iff_ne, ↓bne_eq_false_iff_eq, ↓ne_eq, ↓beq_eq_false_iff_ne, ↓Bool.not_eq_true] at hd; try simp only [Ty.dflt, Int.toNat_natCast] at hd)
      (repeat (first | refine zs rfl ?_ | refine zg rfl rfl rfl ?_ | refine zd ?_ | refine JK.fin ?_ | refine JK.ret ?_))
      have e : (((k + 1 : Nat) : Int) - 1).toNat = k := by omega
      rw [e] at hd
      refine ⟨k, by (exact JW.Auto rfl), ⟨by omega, ?_⟩, by omega⟩
      rw [hn, lastB, if_neg hd]
  · (simp only [↓bif_or, ↓bif_and, ↓Bool.or_eq_true, ↓Bool.or_eq_false_iff, ↓Bool.and_eq_true, ↓Bool.and_eq_false_iff, ↓Bool.not_eq_true', ↓Bool.not_eq_false', ↓decide_eq_true_eq, ↓decide_eq_false_iff_not, ↓beq_iff_eq, ↓bne_iff_ne, ↓bne_eq_false_iff_eq, ↓ne_eq, ↓beq_eq_false_iff_ne, ↓Bool.not_eq_true] at hc; try simp only [Ty.dflt, Int.toNat_natCast] at hc)
    (repeat (first | refine zs rfl ?_ | refine zg rfl rfl rfl ?_ | refine zd ?_ | refine JK.fin ?_ | refine JK.ret ?_))
    refine ⟨.inl rfl, _, _, rfl, trivial, ?_⟩
    obtain rfl : k = 0 := by omega
    rw [hn]; rfl

/-- The error of a day: 0 is none. -/
def dayErr (r : Int) (xs : List Int) : Int :=
  if r < 1 ∨ r > 4 then 2 else if xs.length < 1 ∨ xs.length > 24 then 6 else if ∀ x ∈ xs, 0 ≤ x ∧ x ≤ 7 then 0 else 3

theorem fn20 (r : Int) (xs : List Int) : Ox.Fn Go.Proofs.Try.prog 20 (.acons (vD r xs) .anil) (· = vI (dayErr r xs)) := by
  refine Ox.Fn.intro xok Go.Proofs.Try.func20 rfl Go.Proofs.Try.call20 (Nat.le_of_ble_eq_true rfl) (fun E M0 up => ?_)
  refine JK.start ?_
  refine JK.lenOf 0 rfl fun hlen => ?_
  replace hlen : xs.length ≤ 9223372036854775807 := hlen.2.1.1
  (repeat (first | refine zs rfl ?_ | refine zg rfl rfl rfl ?_ | refine zd ?_ | refine JK.fin ?_ | refine JK.ret ?_))
  refine JK.cond rfl (fun hc => ?_) (fun hc => ?_)
  · (simp only [↓bif_or, ↓bif_and, ↓Bool.or_eq_true, ↓Bool.or_eq_false_iff, ↓Bool.and_eq_true, ↓Bool.and_eq_false_iff, ↓Bool.not_eq_true', ↓Bool.not_eq_false', ↓decide_eq_true_eq, ↓decide_eq_false_iff_not, ↓beq_iff_eq, ↓bne_iff_ne, ↓bne_eq_false_iff_eq, ↓ne_eq, ↓beq_eq_false_iff_ne, ↓Bool.not_eq_true] at hc; try simp only [Ty.dflt, Int.toNat_natCast] at hc)
    (repeat (first | refine zs rfl ?_ | refine zg rfl rfl rfl ?_ | refine zd ?_ | refine JK.fin ?_ | refine JK.ret ?_))
    refine ⟨.inl rfl, _, _, rfl, trivial, ?_⟩
    rw [dayErr, if_pos hc]
  · (simp only [↓bif_or, ↓bif_and, ↓Bool.or_eq_true, ↓Bool.or_eq_false_iff, ↓Bool.and_eq_true, ↓Bool.and_eq_false_iff, ↓Bool.not_eq_true', ↓Bool.not_eq_false', ↓decide_eq_true_eq, ↓decide_eq_false_iff_not, ↓beq_iff_eq, ↓bne_iff_ne, ↓bne_eq_false_iff_eq, ↓ne_eq, ↓beq_eq_false_iff_ne, ↓Bool.not_eq_true] at hc; try simp only [Ty.dflt, Int.toNat_natCast] at hc)
    have hr : ¬ (r < 1 ∨ r > 4) := by omega
    (repeat (first | refine zs rfl ?_ | refine zg rfl rfl rfl ?_ | refine zd ?_ | refine JK.fin ?_ | refine JK.ret ?_))
    refine JK.cond rfl (fun hc2 => ?_) (fun hc2 => ?_)
    · (simp only [↓bif_or, ↓bif_and, ↓Bool.or_eq_true, ↓Bool.or_eq_false_iff, ↓Bool.and_eq_true, ↓Bool.and_eq_false_iff, ↓Bool.not_eq_true', ↓Bool.not_eq_false', ↓decide_eq_true_eq, ↓decide_eq_false_iff_not, ↓beq_iff_eq, ↓bne_iff_ne, ↓bne_eq_false_iff_eq, ↓ne_eq, ↓beq_eq_false_iff_ne, ↓Bool.not_eq_true] at hc2; try simp only [Ty.dflt, Int.toNat_natCast] at hc2)
      (repeat (first | refine zs rfl ?_ | refine zg rfl rfl rfl ?_ | refine zd ?_ | refine JK.fin ?_ | refine JK.ret ?_))
      refine ⟨.inl rfl, _, _, rfl, trivial, ?_⟩
      rw [dayErr, if_neg hr, if_pos (by omega)]
    · (simp only [↓bif_or, ↓bif_and, ↓Bool.or_eq_true, ↓Bool.or_eq_false_iff, ↓Bool.and_eq_true, ↓Bool.and_eq_false_iff, ↓Bool.not_eq_true', ↓Bool.not_eq_false', ↓decide_eq_true_eq, ↓decide_eq_false_iff_not, ↓beq_iff_eq, ↓bne_iff_ne, ↓bne_eq_false_iff_eq, ↓ne_eq, ↓beq_eq_false_iff_ne, ↓Bool.not_eq_true] at hc2; try simp only [Ty.dflt, Int.toNat_natCast] at hc2)
      have hl : ¬ (xs.length < 1 ∨ xs.length > 24) := by omega
      (repeat (first | refine zs rfl ?_ | refine zg rfl rfl rfl ?_ | refine zd ?_ | refine JK.fin ?_ | refine JK.ret ?_))
      refine JK.loop (fun i : Nat => ⟨[(1, .lf (.optr 0 [])), (3, vI (i : Int))], [(0, .cell dayT (vD r xs))], 1⟩) (fun i => i ≤ xs.length ∧ ∀ x ∈ xs.take i, 0 ≤ x ∧ x ≤ 7) (fun i => xs.length - i) 0 (by simp) (by (exact JW.Auto rfl)) fun i ⟨hi, hn⟩ => ?_
      (repeat (first | refine zs rfl ?_ | refine zg rfl rfl rfl ?_ | refine zd ?_ | refine JK.fin ?_ | refine JK.ret ?_))
      refine JK.cond rfl (fun hd => ?_) (fun hd => ?_)
      · (simp only [↓bif_or, ↓bif_and, ↓Bool.or_eq_true, ↓Bool.or_eq_false_iff, ↓Bool.and_eq_true, ↓Bool.and_eq_false_iff, ↓Bool.not_eq_true', ↓Bool.not_eq_false', ↓decide_eq_true_eq, ↓decide_eq_false_iff_not, ↓beq_iff_eq, ↓bne_iff_ne, ↓bne_eq_false_iff_eq, ↓ne_eq, ↓beq_eq_false_iff_ne, ↓Bool.not_eq_true] at hd; try simp only [Ty.dflt, Int.toNat_natCast] at hd)
        have hi' : i < xs.length := by omega
        (repeat (first | refine zs rfl ?_ | refine zg rfl rfl rfl ?_ | refine zd ?_ | refine JK.fin ?_ | refine JK.ret ?_))
        refine JK.cond rfl (fun he => ?_) (fun he => ?_)
        · (simp only [↓bif_or, ↓bif_and, ↓Bool.or_eq_true, ↓Bool.or_eq_false_iff, ↓Bool.and_eq_true, ↓Bool.and_eq_false_iff, ↓Bool.not_eq_true', ↓Bool.not_eq_false', ↓decide_eq_true_eq, ↓decide_eq_false_iff_not, ↓beq_iff_eq, ↓bne_iff_ne, ↓bne_eq_false_iff_eq, ↓ne_eq, ↓beq_eq_false_iff_ne, ↓Bool.not_eq_true] at he; try simp only [Ty.dflt, Int.toNat_natCast] at he)
          (repeat (first | refine zs rfl ?_ | refine zg rfl rfl rfl ?_ | refine zd ?_ | refine JK.fin ?_ | refine JK.ret ?_))
          refine ⟨.inl rfl, _, _, rfl, trivial, ?_⟩
          rw [getD_nat xs hi'] at he
          rw [dayErr, if_neg hr, if_neg hl, if_neg]
          intro h
          have := h _ (List.getElem_mem hi')
          omega
        · (simp only [↓bif_or, ↓bif_and, ↓Bool.or_eq_true, ↓Bool.or_eq_false_iff, ↓Bool.and_eq_true, ↓Bool.and_eq_false_iff, ↓Bool.not_eq_true', ↓Bool.not_eq_false', ↓decide_eq_true_eq, ↓decide_eq_false_iff_not, ↓beq_iff_eq, ↓bne_iff_ne, ↓bne_eq_false_iff_eq, ↓ne_eq, ↓beq_eq_false_iff_ne, ↓Bool.not_eq_true] at he; try simp only [Ty.dflt, Int.toNat_natCast] at he)
          (repeat (first | refine zs rfl ?_ | refine zg rfl rfl rfl ?_ | refine zd ?_ | refine JK.fin ?_ | refine JK.ret ?_))
          rw [getD_nat xs hi'] at he
          refine ⟨i + 1, by (exact JW.Auto rfl), ⟨by omega, ?_⟩, by omega⟩
          rw [List.take_succ, List.getElem?_eq_getElem hi']
          intro x hx
          rcases List.mem_append.1 hx with h | h
          · exact hn x h
          · simp at h; subst h; omega
      · (simp only [↓bif_or, ↓bif_and, ↓Bool.or_eq_true, ↓Bool.or_eq_false_iff, ↓Bool.and_eq_true, ↓Bool.and_eq_false_iff, ↓Bool.not_eq_true', ↓Bool.not_eq_false', ↓decide_eq_true_eq, ↓decide_eq_false_iff_not, ↓beq_iff_eq, ↓bne_iff_ne, ↓bne_eq_false_iff_eq, ↓ne_eq, ↓beq_eq_false_iff_ne, ↓Bool.not_eq_true] at hd; try simp only [Ty.dflt, Int.toNat_natCast] at hd)
        (repeat (first | refine zs rfl ?_ | refine zg rfl rfl rfl ?_ | refine zd ?_ | refine JK.fin ?_ | refine JK.ret ?_))
        refine ⟨.inl rfl, _, _, rfl, trivial, ?_⟩
        obtain rfl : i = xs.length := by omega
        rw [List.take_length] at hn
        rw [dayErr, if_neg hr, if_neg hl, if_pos hn]
end Go.Proofs.Ytbmgijgnbilnoaa

namespace Go.Proofs.Ytbmgijgnbilnoaa
open Go Go.RowKit Ox
attribute [local irreducible] JC JL JK JW

/-- How many bits are 1. -/
def onesF : Nat → Nat → Nat
  | 0, _ => 0
  | f + 1, n => if n = 0 then 0 else (n &&& 1) + onesF f (n / 2)
theorem onesF_le : ∀ f n, onesF f n ≤ f
  | 0, _ => Nat.le_refl _
  | f + 1, n => by
    have := onesF_le f (n / 2)
    have h1 : n &&& 1 ≤ 1 := Nat.and_le_right
    rw [onesF]; split <;> omega

theorem fn57 : ∀ (f : Nat) (x : Int), f ≤ 60 → 0 ≤ x → x < 2 ^ f → Ox.Fn Go.Proofs.Try.prog 57 (.acons (vI x) .anil) (· = vI (onesF f x.toNat : Nat))
  | 0, x, hf, h0, h1 => by
    obtain rfl : x = 0 := by omega
    refine Ox.Fn.intro xok Go.Proofs.Try.func57 rfl Go.Proofs.Try.call57 (Nat.le_of_ble_eq_true rfl) (fun E M0 up => ?_)
    refine JK.start ?_
    (repeat (first | refine zs rfl ?_ | refine zg rfl rfl rfl ?_ | refine zd ?_ | refine JK.fin ?_ | refine JK.ret ?_))
    refine JK.cond rfl (fun hc => ?_) (fun hc => absurd hc (by decide))
    (repeat (first | refine zs rfl ?_ | refine zg rfl rfl rfl ?_ | refine zd ?_ | refine JK.fin ?_ | refine JK.ret ?_))
    refine ⟨.inl rfl, _, _, rfl, trivial, ?_⟩
    rfl
  | f + 1, x, hf, h0, h1 => by
    have hp : (2 : Int) ^ (f + 1) = 2 * 2 ^ f := by rw [Int.pow_succ]; omega
    have hbig : (2 : Int) ^ (f + 1) ≤ 2 ^ 60 := by
      have := Nat.pow_le_pow_right (n := 2) (by omega) hf
      have h2 : ((2 ^ (f + 1) : Nat) : Int) ≤ ((2 ^ 60 : Nat) : Int) := by omega
      simpa using h2
    have hb2 : (2 : Int) ^ 60 = 1152921504606846976 := by decide
    have ih := fn57 f (x / 2 ^ (Int.toNat 1)) (by omega) (by show 0 ≤ x / 2; omega) (by show x / 2 < 2 ^ f; omega)
    have ho := onesF_le f (x / 2 ^ (Int.toNat 1)).toNat
    have ha : x.toNat &&& Int.toNat 1 ≤ 1 := Nat.and_le_right
    refine Ox.Fn.intro xok Go.Proofs.Try.func57 rfl Go.Proofs.Try.call57 (Nat.le_of_ble_eq_true rfl) (fun E M0 up => ?_)
    refine JK.start ?_
    (repeat (first | refine zs rfl ?_ | refine zg rfl rfl rfl ?_ | refine zd ?_ | refine JK.fin ?_ | refine JK.ret ?_))
    refine JK.cond rfl (fun hc => ?_) (fun hc => ?_)
    · (simp only [↓bif_or, ↓bif_and, ↓Bool.or_eq_true, ↓Bool.or_eq_false_iff, ↓Bool.and_eq_true, ↓Bool.and_eq_false_iff, ↓Bool.not_eq_true', ↓Bool.not_eq_false', ↓decide_eq_true_eq, ↓decide_eq_false_iff_not, ↓beq_iff_eq, ↓bne_iff_ne, ↓bne_eq_false_iff_eq, ↓ne_eq, ↓beq_eq_false_iff_ne, ↓Bool.not_eq_true] at hc; try simp only [Ty.dflt, Int.toNat_natCast] at hc)
      (repeat (first | refine zs rfl ?_ | refine zg rfl rfl rfl ?_ | refine zd ?_ | refine JK.fin ?_ | refine JK.ret ?_))
      refine ⟨.inl rfl, _, _, rfl, trivial, ?_⟩
      rw [onesF, if_pos (by omega)]; rfl
    · (simp only [↓bif_or, ↓bif_and, ↓Bool.or_eq_true, ↓Bool.or_eq_false_iff, ↓Bool.and_eq_true, ↓Bool.and_eq_false_iff, ↓Bool.not_eq_true', ↓Bool.not_eq_false', ↓decide_eq_true_eq, ↓decide_eq_false_iff_not, ↓beq_iff_eq, ↓bne_iff_ne, ↓bne_eq_false_iff_eq, ↓ne_eq, ↓beq_eq_false_iff_ne, ↓Bool.not_eq_true] at hc; try simp only [Ty.dflt, Int.toNat_natCast] at hc)
      (repeat (first | refine zs rfl ?_ | refine zg rfl rfl rfl ?_ | refine zd ?_ | refine JK.fin ?_ | refine JK.ret ?_ | refine zc rfl (ih) rfl rfl ?_ | refine ze rfl (ih) rfl ?_ | refine zk rfl rfl (fun _ => ih) rfl rfl ?_))
      refine ⟨.inl rfl, _, _, rfl, trivial, ?_⟩
      rw [onesF, if_neg (by omega)]
      refine congrArg vI ?_
      have e : (x / 2 ^ (Int.toNat 1)).toNat = x.toNat / 2 := by show (x / 2).toNat = _; omega
      rw [e]
      push_cast
      rfl

def keepN (xs kept : List Int) (t : Nat) : Nat := kept.countP fun k => decide (lastB xs (xs.getD k.toNat 0) k.toNat < t) && decide ((t : Int) < k)
def canKeepB (r : Int) (xs kept : List Int) : Nat → Bool
  | 0 => true
  | t + 1 => canKeepB r xs kept t && decide (((keepN xs kept t : Nat) : Int) ≤ r - 1)

theorem fn74 (r : Int) (xs kept : List Int) (hr : -1000 ≤ r ∧ r ≤ 1000) (hk : ∀ x ∈ kept, 0 ≤ x ∧ x < xs.length) : Ox.Fn Go.Proofs.Try.prog 74 (.acons (vD r xs) (.acons (vL kept) .anil)) (· = vB (canKeepB r xs kept xs.length)) := by
  refine Ox.Fn.intro xok Go.Proofs.Try.func74 rfl Go.Proofs.Try.call74 (Nat.le_of_ble_eq_true rfl) (fun E M0 up => ?_)
  refine JC.lenOf 0 rfl fun hlen => ?_
  replace hlen : xs.length ≤ 9223372036854775807 := hlen.2.1.1
  refine JC.lenOf 1 rfl fun hlen2 => ?_
  replace hlen2 : kept.length ≤ 9223372036854775807 := hlen2.1
  refine JK.start ?_
  (repeat (first | refine zs rfl ?_ | refine zg rfl rfl rfl ?_ | refine zd ?_ | refine JK.fin ?_ | refine JK.ret ?_))
  refine JK.loop (fun t : Nat => ⟨[(1, vL kept), (2, .lf (.optr 0 [])), (5, vI (t : Int))], [(0, .cell dayT (vD r xs))], 1⟩)
    (fun t => t ≤ xs.length ∧ canKeepB r xs kept t = true) (fun t => xs.length - t) 0 ⟨by simp, rfl⟩ (by (exact JW.Auto rfl)) fun t ht => ?_
  obtain ⟨ht, hck⟩ := ht
  (repeat (first | refine zs rfl ?_ | refine zg rfl rfl rfl ?_ | refine zd ?_ | refine JK.fin ?_ | refine JK.ret ?_))
  refine JK.cond rfl (fun hc => ?_) (fun hc => ?_)
  · (simp only [↓bif_or, ↓bif_and, ↓Bool.or_eq_true, ↓Bool.or_eq_false_iff, ↓Bool.and_eq_true, ↓Bool.and_eq_false_iff, ↓Bool.not_eq_true', ↓Bool.not_eq_false', ↓decide_eq_true_eq, ↓decide_eq_false_iff_not, ↓beq_iff_eq, ↓bne_iff_ne, ↓bne_eq_false_iff_eq, ↓ne_eq, ↓beq_eq_false_iff_ne, ↓Bool.not_eq_true] at hc; try simp only [Ty.dflt, Int.toNat_natCast] at hc)
    have ht' : t < xs.length := by omega
    (repeat (first | refine zs rfl ?_ | refine zg rfl rfl rfl ?_ | refine zd ?_ | refine JK.fin ?_ | refine JK.ret ?_))
    refine JK.loop (fun i : Nat => ⟨[(1, vL kept), (2, .lf (.optr 0 [])), (5, vI (t : Int)), (6, vI (keepN xs (kept.take i) t : Nat)), (7, vI (i : Int))], [(0, .cell dayT (vD r xs))], 1⟩)
      (fun i => i ≤ kept.length) (fun i => kept.length - i) 0 (by simp) (by (exact JW.Auto rfl)) fun i hi => ?_
    have hkn : keepN xs (kept.take i) t ≤ i := Nat.le_trans List.countP_le_length (List.length_take_le _ _)
    (repeat (first | refine zs rfl ?_ | refine zg rfl rfl rfl ?_ | refine zd ?_ | refine JK.fin ?_ | refine JK.ret ?_))
    refine JK.cond rfl (fun hd => ?_) (fun hd => ?_)
    · (simp only [↓bif_or, ↓bif_and, ↓Bool.or_eq_true, ↓Bool.or_eq_false_iff, ↓Bool.and_eq_true, ↓Bool.and_eq_false_iff, ↓Bool.not_eq_true', ↓Bool.not_eq_false', ↓decide_eq_true_eq, ↓decide_eq_false_iff_not, ↓beq_iff_eq, ↓bne_iff_ne, ↓bne_eq_false_iff_eq, ↓ne_eq, ↓beq_eq_false_iff_ne, ↓Bool.not_eq_true] at hd; try simp only [Ty.dflt, Int.toNat_natCast] at hd)
      have hi' : i < kept.length := by omega
      have hg := getD_nat kept hi' 0
      have hki := hk _ (List.getElem_mem hi')
      rw [← hg] at hki
      obtain ⟨j, hj⟩ : ∃ j : Nat, kept.getD i 0 = (j : Int) := ⟨(kept.getD i 0).toNat, by omega⟩
      have h48 := fn48 r xs j (by omega)
      rw [← hj] at h48
      have hsn : keepN xs (kept.take (i + 1)) t = keepN xs (kept.take i) t + if (decide (lastB xs (xs.getD j 0) j < t) && decide ((t : Int) < kept.getD i 0)) = true then 1 else 0 := by
        rw [keepN, List.take_succ, List.getElem?_eq_getElem hi', List.countP_append, keepN]
        simp only [Option.toList, List.countP_singleton, ← hg, hj, Int.toNat_natCast]
      (repeat (first | refine zs rfl ?_ | refine zg rfl rfl rfl ?_ | refine zd ?_ | refine JK.fin ?_ | refine JK.ret ?_ | refine zc rfl (h48) rfl rfl ?_ | refine ze rfl (h48) rfl ?_ | refine zk rfl rfl (fun _ => h48) rfl rfl ?_))
      refine JK.cond rfl (fun he => ?_) (fun he => ?_)
      · have he' : (decide (lastB xs (xs.getD j 0) j < t) && decide ((t : Int) < kept.getD i 0)) = true := by
          rw [← he]; cases decide (lastB xs (xs.getD j 0) j < t) <;> rfl
        rw [if_pos he'] at hsn
        (repeat (first | refine zs rfl ?_ | refine zg rfl rfl rfl ?_ | refine zd ?_ | refine JK.fin ?_ | refine JK.ret ?_))
        exact ⟨i + 1, by (refine JW.auto rfl ?_ ?_ ?_ ?_ rfl <;> (repeat' (first | exact trivial | exact rfl | refine And.intro ?_ ?_ | exact Nat.le_of_ble_eq_true rfl | refine HO.bdF ?_ | refine HO.bdP ?_ | (refine congrArg (fun z : Int => some (AV.val (.int .i64) z)) ?_; push_cast; omega) | (refine congrArg (fun z : Int => some (AV.val (.int .i64) z)) ?_; rw [hsn]; push_cast; rfl)))), by omega, by omega⟩
      · have he' : (decide (lastB xs (xs.getD j 0) j < t) && decide ((t : Int) < kept.getD i 0)) = false := by
          rw [← he]; cases decide (lastB xs (xs.getD j 0) j < t) <;> rfl
        rw [if_neg (by rw [he']; decide)] at hsn
        (repeat (first | refine zs rfl ?_ | refine zg rfl rfl rfl ?_ | refine zd ?_ | refine JK.fin ?_ | refine JK.ret ?_))
        exact ⟨i + 1, by (refine JW.auto rfl ?_ ?_ ?_ ?_ rfl <;> (repeat' (first | exact trivial | exact rfl | refine And.intro ?_ ?_ | exact Nat.le_of_ble_eq_true rfl | refine HO.bdF ?_ | refine HO.bdP ?_ | (refine congrArg (fun z : Int => some (AV.val (.int .i64) z)) ?_; push_cast; omega) | (refine congrArg (fun z : Int => some (AV.val (.int .i64) z)) ?_; rw [hsn]; push_cast; rfl)))), by omega, by omega⟩
    · (simp only [↓bif_or, ↓bif_and, ↓Bool.or_eq_true, ↓Bool.or_eq_false_iff, ↓Bool.and_eq_true, ↓Bool.and_eq_false_iff, ↓Bool.not_eq_true', ↓Bool.not_eq_false', ↓decide_eq_true_eq, ↓decide_eq_false_iff_not, ↓beq_iff_eq, ↓bne_iff_ne, ↓bne_eq_false_iff_eq, ↓ne_eq, ↓beq_eq_false_iff_ne, ↓Bool.not_eq_true] at hd; try simp only [Ty.dflt, Int.toNat_natCast] at hd)
      obtain rfl : i = kept.length := by omega
      (repeat (first | refine zs rfl ?_ | refine zg rfl rfl rfl ?_ | refine zd ?_ | refine JK.fin ?_ | refine JK.ret ?_))
      refine JK.cond rfl (fun he => ?_) (fun he => ?_)
      · (simp only [↓bif_or, ↓bif_and, ↓Bool.or_eq_true, ↓Bool.or_eq_false_iff, ↓Bool.and_eq_true, ↓Bool.and_eq_false_iff, ↓Bool.not_eq_true', ↓Bool.not_eq_false', ↓decide_eq_true_eq, ↓decide_eq_false_iff_not, ↓beq_iff_eq, ↓bne_iff_ne, ↓bne_eq_false_iff_eq, ↓ne_eq, ↓beq_eq_false_iff_ne, ↓Bool.not_eq_true] at he; try simp only [Ty.dflt, Int.toNat_natCast] at he)
        rw [List.take_length] at he
        (repeat (first | refine zs rfl ?_ | refine zg rfl rfl rfl ?_ | refine zd ?_ | refine JK.fin ?_ | refine JK.ret ?_))
        refine ⟨.inl rfl, _, _, rfl, trivial, ?_⟩
        have hno : ∀ n, t < n → canKeepB r xs kept n = false := by
          intro n hn
          induction n with
          | zero => omega
          | succ n ih =>
            rw [canKeepB]
            by_cases e : n = t
            · subst e; rw [decide_eq_false (by omega), Bool.and_false]
            · rw [ih (by omega)]; rfl
        rw [hno _ ht']
      · (simp only [↓bif_or, ↓bif_and, ↓Bool.or_eq_true, ↓Bool.or_eq_false_iff, ↓Bool.and_eq_true, ↓Bool.and_eq_false_iff, ↓Bool.not_eq_true', ↓Bool.not_eq_false', ↓decide_eq_true_eq, ↓decide_eq_false_iff_not, ↓beq_iff_eq, ↓bne_iff_ne, ↓bne_eq_false_iff_eq, ↓ne_eq, ↓beq_eq_false_iff_ne, ↓Bool.not_eq_true] at he; try simp only [Ty.dflt, Int.toNat_natCast] at he)
        rw [List.take_length] at he
        (repeat (first | refine zs rfl ?_ | refine zg rfl rfl rfl ?_ | refine zd ?_ | refine JK.fin ?_ | refine JK.ret ?_))
        exact ⟨t + 1, by (exact JW.Auto rfl), ⟨by omega, by rw [canKeepB, hck, decide_eq_true (by omega)]; rfl⟩, by omega⟩
  · (simp only [↓bif_or, ↓bif_and, ↓Bool.or_eq_true, ↓Bool.or_eq_false_iff, ↓Bool.and_eq_true, ↓Bool.and_eq_false_iff, ↓Bool.not_eq_true', ↓Bool.not_eq_false', ↓decide_eq_true_eq, ↓decide_eq_false_iff_not, ↓beq_iff_eq, ↓bne_iff_ne, ↓bne_eq_false_iff_eq, ↓ne_eq, ↓beq_eq_false_iff_ne, ↓Bool.not_eq_true] at hc; try simp only [Ty.dflt, Int.toNat_natCast] at hc)
    obtain rfl : t = xs.length := by omega
    (repeat (first | refine zs rfl ?_ | refine zg rfl rfl rfl ?_ | refine zd ?_ | refine JK.fin ?_ | refine JK.ret ?_))
    refine ⟨.inl rfl, _, _, rfl, trivial, ?_⟩
    rw [hck]
end Go.Proofs.Ytbmgijgnbilnoaa

namespace Go.Proofs.Ytbmgijgnbilnoaa
open Go Go.RowKit Ox
attribute [local irreducible] JC JL JK JW

def updMin (l : List Int) (i : Nat) (v : Int) : List Int := l.set i (min (l.getD i 0) v)
/-- Behind the first 'k' blocks that may be put back. -/
def leastK (own : Nat) (now : List Int) (b : Nat) (next : List Int) : Nat → List Int
  | 0 => next
  | k + 1 => if (b / 2 ^ k) &&& 1 = 1 then updMin (leastK own now b next k) ((b ^^^ (b &&& 2 ^ k)) ||| own) (now.getD b 0 + 1) else leastK own now b next k
def leastB (r : Int) (own : Nat) (now : List Int) (b : Nat) (next : List Int) : List Int :=
  if b &&& own ≠ 0 then updMin next b (now.getD b 0)
  else if ((onesF 8 b : Nat) : Int) < r then updMin next (b ||| own) (now.getD b 0 + 1)
  else leastK own now b next 8
/-- Behind the first 'b' benches. -/
def leastBs (r : Int) (own : Nat) (now : List Int) : Nat → List Int
  | 0 => List.replicate 256 1000
  | b + 1 => leastB r own now b (leastBs r own now b)
/-- The fewest fetches for each bench, behind the first 'i' books. -/
def leastNow (r : Int) (xs : List Int) : Nat → List Int
  | 0 => 0 :: List.replicate 255 1000
  | i + 1 => leastBs r (2 ^ (xs.getD i 0).toNat) (leastNow r xs i) 256
def leastMin (l : List Int) : Nat → Int
  | 0 => 1000
  | b + 1 => min (leastMin l b) (l.getD b 0)
def leastS (r : Int) (xs : List Int) : Int := leastMin (leastNow r xs xs.length) 256

/-- A row for all benches. -/
def cost (l : List Int) : Prop := l.length = 256 ∧ ∀ x ∈ l, 0 ≤ x ∧ x ≤ 1000
theorem cost.get {l : List Int} (h : cost l) {i : Nat} (hi : i < 256) : 0 ≤ l.getD i 0 ∧ l.getD i 0 ≤ 1000 := by
  have : i < l.length := by rw [h.1]; exact hi
  rw [getD_nat l this]; exact h.2 _ (List.getElem_mem this)
theorem cost.upd {l : List Int} (h : cost l) {i : Nat} (hi : i < 256) {v : Int} (hv : 0 ≤ v) : cost (updMin l i v) := by
  refine ⟨by simp [updMin, h.1], fun x hx => ?_⟩
  rcases List.mem_or_eq_of_mem_set hx with h1 | rfl
  · exact h.2 x h1
  · have := h.get hi; omega
theorem cost.rep : cost (List.replicate 256 1000) := ⟨List.length_replicate, fun x hx => by rw [List.eq_of_mem_replicate hx]; omega⟩
theorem lt256 {x y : Nat} (hx : x < 256) (hy : y < 256) : x ||| y < 256 := Nat.or_lt_two_pow (n := 8) hx hy
theorem lt256' {x y : Nat} (hx : x < 256) : x ^^^ (x &&& y) < 256 := Nat.xor_lt_two_pow (n := 8) hx (Nat.lt_of_le_of_lt Nat.and_le_left hx)
theorem cost.K {own b : Nat} {now next : List Int} (ho : own < 256) (hb : b < 256) (hn : cost now) (hx : cost next) : ∀ k, cost (leastK own now b next k)
  | 0 => hx
  | k + 1 => by
    have ih := cost.K ho hb hn hx k
    have := hn.get hb
    rw [leastK]; split
    · exact ih.upd (lt256 (lt256' hb) ho) (by omega)
    · exact ih
theorem cost.B {r : Int} {own b : Nat} {now next : List Int} (ho : own < 256) (hb : b < 256) (hn : cost now) (hx : cost next) : cost (leastB r own now b next) := by
  have := hn.get hb
  unfold leastB
  split
  · exact hx.upd hb (by omega)
  · split
    · exact hx.upd (lt256 hb ho) (by omega)
    · exact cost.K ho hb hn hx 8
theorem cost.Bs {r : Int} {own : Nat} {now : List Int} (ho : own < 256) (hn : cost now) : ∀ b, b ≤ 256 → cost (leastBs r own now b)
  | 0, _ => cost.rep
  | b + 1, hb => cost.B ho (by omega) hn (cost.Bs ho hn b (by omega))
theorem pow256 {x : Int} (h : 0 ≤ x ∧ x ≤ 7) : 2 ^ x.toNat < 256 := by
  have : 2 ^ x.toNat ≤ 2 ^ 7 := Nat.pow_le_pow_right (by omega) (by omega)
  have h2 : 2 ^ 7 = 128 := rfl
  omega
theorem cost.now {r : Int} {xs : List Int} (hx : ∀ x ∈ xs, 0 ≤ x ∧ x ≤ 7) : ∀ i, i ≤ xs.length → cost (leastNow r xs i)
  | 0, _ => ⟨by rw [leastNow, List.length_cons, List.length_replicate], fun x hx => by
    rcases List.mem_cons.1 hx with rfl | h
    · omega
    · rw [List.eq_of_mem_replicate h]; omega⟩
  | i + 1, hi => cost.Bs (pow256 (hx _ (by rw [getD_nat xs (by omega)]; exact List.getElem_mem _))) (cost.now hx i (by omega)) 256 (Nat.le_refl _)

/-- The first row while it is made. -/
def initL (f : Nat → Bool) : List Int := (List.range 256).map fun j => if f j = true then 1000 else 0
theorem initL_len (f : Nat → Bool) : (initL f).length = 256 := by simp [initL]
theorem initL_set {f g : Nat → Bool} {b : Nat} (hb : b < 256) (hg : ∀ j, j < 256 → g j = if j = b then true else f j) : (initL f).set b 1000 = initL g := by
  apply List.ext_getElem (by simp [initL])
  intro i h1 h2
  have h3 : i < 256 := by simpa [initL] using h2
  rw [List.getElem_set]
  simp only [initL, List.getElem_map, List.getElem_range, hg i h3]
  by_cases e : b = i
  · rw [if_pos e, if_pos e.symm, if_pos rfl]
  · rw [if_neg e, if_neg (show ¬ i = b from fun h => e h.symm)]

theorem pow_cast (n : Nat) : (1 : Int) * 2 ^ n = ((2 ^ n : Nat) : Int) := by rw [Int.one_mul]; exact (Int.natCast_pow 2 n).symm
theorem pow_bd {n : Nat} (h : n ≤ 7) : (0 : Int) ≤ 1 * 2 ^ n ∧ (1 : Int) * 2 ^ n < 256 := by
  rw [pow_cast]
  have h1 : 2 ^ n ≤ 2 ^ 7 := Nat.pow_le_pow_right (by omega) h
  have h2 : 2 ^ 7 = 128 := rfl
  rw [h2] at h1
  revert h1
  generalize 2 ^ n = z
  intro h1
  omega
theorem shr_cast (b k : Nat) : ((b : Int) / 2 ^ k).toNat = b / 2 ^ k := by
  have : (2 : Int) ^ k = ((2 ^ k : Nat) : Int) := (Int.natCast_pow 2 k).symm
  rw [this, ← Int.natCast_ediv, Int.toNat_natCast]
set_option maxRecDepth 4000 in
set_option maxHeartbeats 4000000 in
theorem fn31 (r : Int) (xs : List Int) (hx : ∀ x ∈ xs, 0 ≤ x ∧ x ≤ 7) : Ox.Fn Go.Proofs.Try.prog 31 (.acons (vD r xs) .anil) (· = vI (leastS r xs)) := by
  refine Ox.Fn.intro xok Go.Proofs.Try.func31 rfl Go.Proofs.Try.call31 (Nat.le_of_ble_eq_true rfl) (fun E M0 up => ?_)
  refine JC.lenOf 0 rfl fun hlen => ?_
  replace hlen : xs.length ≤ 9223372036854775807 := hlen.2.1.1
  refine JK.start ?_
  (repeat (first | refine zs rfl ?_ | refine zg rfl rfl rfl ?_ | refine zd ?_ | refine JK.fin ?_ | refine JK.ret ?_))
  have hrep : List.replicate (Int.toNat 256) (Ty.dflt (.int .i64)) = initL (fun j => decide (0 < j) && decide (j < 1)) := by decide +kernel
  rw [hrep]
  refine JK.loop (fun b : Nat => ⟨[(1, .lf (.optr 0 [])), (3, .lf (.osl 1)), (4, vI (b : Int))], [(0, .cell dayT (vD r xs)), (1, .sl 3 (.int .i64) (initL fun j => decide (0 < j) && decide (j < b)))], 2⟩)
    (fun b => 1 ≤ b ∧ b ≤ 256) (fun b => 256 - b) 1 (by omega) (by (exact JW.Auto rfl)) fun b hb => ?_
  obtain ⟨hb1, hb2⟩ := hb
  have hil := initL_len fun j => decide (0 < j) && decide (j < b)
  (repeat (first | refine zs rfl ?_ | refine zg rfl rfl rfl ?_ | refine zd ?_ | refine JK.fin ?_ | refine JK.ret ?_))
  refine JK.cond rfl (fun hc => ?_) (fun hc => ?_)
  · (simp only [↓bif_or, ↓bif_and, ↓Bool.or_eq_true, ↓Bool.or_eq_false_iff, ↓Bool.and_eq_true, ↓Bool.and_eq_false_iff, ↓Bool.not_eq_true', ↓Bool.not_eq_false', ↓decide_eq_true_eq, ↓decide_eq_false_iff_not, ↓beq_iff_eq, ↓bne_iff_ne, ↓bne_eq_false_iff_eq, ↓ne_eq, ↓beq_eq_false_iff_ne, ↓Bool.not_eq_true] at hc; try simp only [Ty.dflt, Int.toNat_natCast] at hc)
    have hset := initL_set (f := fun j => decide (0 < j) && decide (j < b)) (g := fun j => decide (0 < j) && decide (j < b + 1)) (b := b) (by omega) fun j hj => by
      by_cases e : j = b
      · rw [if_pos e]; simp; omega
      · rw [if_neg e, Bool.eq_iff_iff]; simp; omega
    (repeat (first | refine zs rfl ?_ | refine zg rfl rfl rfl ?_ | refine zd ?_ | refine JK.fin ?_ | refine JK.ret ?_))
    exact ⟨b + 1, by (refine JW.auto rfl ?_ ?_ ?_ ?_ rfl <;> (repeat' (first | exact trivial | exact rfl | refine And.intro ?_ ?_ | exact Nat.le_of_ble_eq_true rfl | refine HO.bdF ?_ | refine HO.bdP ?_ | (refine congrArg (fun z : Int => some (AV.val (.int .i64) z)) ?_; push_cast; omega) | exact congrArg (fun z : List Int => some (HO.sl 3 (.int .i64) z)) hset))), by omega, by omega⟩
  · (simp only [↓bif_or, ↓bif_and, ↓Bool.or_eq_true, ↓Bool.or_eq_false_iff, ↓Bool.and_eq_true, ↓Bool.and_eq_false_iff, ↓Bool.not_eq_true', ↓Bool.not_eq_false', ↓decide_eq_true_eq, ↓decide_eq_false_iff_not, ↓beq_iff_eq, ↓bne_iff_ne, ↓bne_eq_false_iff_eq, ↓ne_eq, ↓beq_eq_false_iff_ne, ↓Bool.not_eq_true] at hc; try simp only [Ty.dflt, Int.toNat_natCast] at hc)
    obtain rfl : b = 256 := by omega
    have h0 : initL (fun j => decide (0 < j) && decide (j < 256)) = leastNow r xs 0 := by rw [leastNow]; decide +kernel
    rw [h0]
    (repeat (first | refine zs rfl ?_ | refine zg rfl rfl rfl ?_ | refine zd ?_ | refine JK.fin ?_ | refine JK.ret ?_))
    refine JK.loop (fun i : Nat => ⟨[(1, .lf (.optr 0 [])), (3, .lf (.osl 1)), (5, vI (i : Int))], [(0, .cell dayT (vD r xs)), (1, .sl 3 (.int .i64) (leastNow r xs i))], 2⟩)
      (fun i => i ≤ xs.length) (fun i => xs.length - i) 0 (by simp) (by (exact JW.Auto rfl)) fun i hi => ?_
    have hcn := cost.now (r := r) hx i hi
    (repeat (first | refine zs rfl ?_ | refine zg rfl rfl rfl ?_ | refine zd ?_ | refine JK.fin ?_ | refine JK.ret ?_))
    refine JK.cond rfl (fun hd => ?_) (fun hd => ?_)
    · (simp only [↓bif_or, ↓bif_and, ↓Bool.or_eq_true, ↓Bool.or_eq_false_iff, ↓Bool.and_eq_true, ↓Bool.and_eq_false_iff, ↓Bool.not_eq_true', ↓Bool.not_eq_false', ↓decide_eq_true_eq, ↓decide_eq_false_iff_not, ↓beq_iff_eq, ↓bne_iff_ne, ↓bne_eq_false_iff_eq, ↓ne_eq, ↓beq_eq_false_iff_ne, ↓Bool.not_eq_true] at hd; try simp only [Ty.dflt, Int.toNat_natCast] at hd)
      have hi' : i < xs.length := by omega
      have hk := hx (xs.getD i 0) (by rw [getD_nat xs hi']; exact List.getElem_mem hi')
      have hp := pow256 hk
      have hpz := pow_bd (n := (xs.getD i 0).toNat) (by omega)
      have hrep0 : List.replicate (Int.toNat 256) (Ty.dflt (.int .i64)) = initL (fun j => decide (j < 0)) := by decide +kernel
      (repeat (first | refine zs rfl ?_ | refine zg rfl rfl rfl ?_ | refine zd ?_ | refine JK.fin ?_ | refine JK.ret ?_))
      rw [hrep0]
      refine JK.loop (fun b : Nat => ⟨[(1, .lf (.optr 0 [])), (3, .lf (.osl 1)), (5, vI (i : Int)), (6, vI ((2 ^ (xs.getD i 0).toNat : Nat) : Int)), (7, .lf (.osl 2)), (8, vI (b : Int))], [(0, .cell dayT (vD r xs)), (1, .sl 3 (.int .i64) (leastNow r xs i)), (2, .sl 3 (.int .i64) (initL fun j => decide (j < b)))], 3⟩)
        (fun b => b ≤ 256) (fun b => 256 - b) 0 (by simp) (by (refine JW.auto rfl ?_ ?_ ?_ ?_ rfl <;> (repeat' (first | exact trivial | exact rfl | refine And.intro ?_ ?_ | exact Nat.le_of_ble_eq_true rfl | refine HO.bdF ?_ | refine HO.bdP ?_ | (refine congrArg (fun z : Int => some (AV.val (.int .i64) z)) ?_; push_cast; omega) | (refine congrArg (fun z : Int => some (AV.val (.int .i64) z)) ?_; push_cast; simp))))) fun b hb => ?_
      have hil := initL_len fun j => decide (j < b)
      (repeat (first | refine zs rfl ?_ | refine zg rfl rfl rfl ?_ | refine zd ?_ | refine JK.fin ?_ | refine JK.ret ?_))
      refine JK.cond rfl (fun he => ?_) (fun he => ?_)
      · (simp only [↓bif_or, ↓bif_and, ↓Bool.or_eq_true, ↓Bool.or_eq_false_iff, ↓Bool.and_eq_true, ↓Bool.and_eq_false_iff, ↓Bool.not_eq_true', ↓Bool.not_eq_false', ↓decide_eq_true_eq, ↓decide_eq_false_iff_not, ↓beq_iff_eq, ↓bne_iff_ne, ↓bne_eq_false_iff_eq, ↓ne_eq, ↓beq_eq_false_iff_ne, ↓Bool.not_eq_true] at he; try simp only [Ty.dflt, Int.toNat_natCast] at he)
        have hset := initL_set (f := fun j => decide (j < b)) (g := fun j => decide (j < b + 1)) (b := b) (by omega) fun j hj => by
          by_cases e : j = b
          · rw [if_pos e]; simp; omega
          · rw [if_neg e, Bool.eq_iff_iff]; simp; omega
        (repeat (first | refine zs rfl ?_ | refine zg rfl rfl rfl ?_ | refine zd ?_ | refine JK.fin ?_ | refine JK.ret ?_))
        exact ⟨b + 1, by (refine JW.auto rfl ?_ ?_ ?_ ?_ rfl <;> (repeat' (first | exact trivial | exact rfl | refine And.intro ?_ ?_ | exact Nat.le_of_ble_eq_true rfl | refine HO.bdF ?_ | refine HO.bdP ?_ | (refine congrArg (fun z : Int => some (AV.val (.int .i64) z)) ?_; push_cast; omega) | exact congrArg (fun z : List Int => some (HO.sl 3 (.int .i64) z)) hset))), by omega, by omega⟩
      · (simp only [↓bif_or, ↓bif_and, ↓Bool.or_eq_true, ↓Bool.or_eq_false_iff, ↓Bool.and_eq_true, ↓Bool.and_eq_false_iff, ↓Bool.not_eq_true', ↓Bool.not_eq_false', ↓decide_eq_true_eq, ↓decide_eq_false_iff_not, ↓beq_iff_eq, ↓bne_iff_ne, ↓bne_eq_false_iff_eq, ↓ne_eq, ↓beq_eq_false_iff_ne, ↓Bool.not_eq_true] at he; try simp only [Ty.dflt, Int.toNat_natCast] at he)
        obtain rfl : b = 256 := by omega
        have h0 : initL (fun j => decide (j < 256)) = List.replicate 256 1000 := by decide +kernel
        rw [h0]
        generalize hown : 2 ^ (xs.getD i 0).toNat = own at hp
        (repeat (first | refine zs rfl ?_ | refine zg rfl rfl rfl ?_ | refine zd ?_ | refine JK.fin ?_ | refine JK.ret ?_))
        refine JK.loop (fun b : Nat => ⟨[(1, .lf (.optr 0 [])), (3, .lf (.osl 1)), (5, vI (i : Int)), (6, vI (own : Int)), (7, .lf (.osl 2)), (9, vI (b : Int))], [(0, .cell dayT (vD r xs)), (1, .sl 3 (.int .i64) (leastNow r xs i)), (2, .sl 3 (.int .i64) (leastBs r own (leastNow r xs i) b))], 3⟩)
          (fun b => b ≤ 256) (fun b => 256 - b) 0 (by simp) (by subst hown; (exact JW.Auto rfl)) fun b hb => ?_
        have hcb := cost.Bs (r := r) hp hcn b hb
        generalize hnx : leastBs r own (leastNow r xs i) b = nxt at hcb
        have hnl := hcn.1
        have hxl := hcb.1
        (repeat (first | refine zs rfl ?_ | refine zg rfl rfl rfl ?_ | refine zd ?_ | refine JK.fin ?_ | refine JK.ret ?_))
        refine JK.cond rfl (fun hf => ?_) (fun hf => ?_)
        · (simp only [↓bif_or, ↓bif_and, ↓Bool.or_eq_true, ↓Bool.or_eq_false_iff, ↓Bool.and_eq_true, ↓Bool.and_eq_false_iff, ↓Bool.not_eq_true', ↓Bool.not_eq_false', ↓decide_eq_true_eq, ↓decide_eq_false_iff_not, ↓beq_iff_eq, ↓bne_iff_ne, ↓bne_eq_false_iff_eq, ↓ne_eq, ↓beq_eq_false_iff_ne, ↓Bool.not_eq_true] at hf; try simp only [Ty.dflt, Int.toNat_natCast] at hf)
          have hb' : b < 256 := by omega
          have hgn := hcn.get hb'
          have hgb := hcb.get hb'
          have hstep : leastBs r own (leastNow r xs i) (b + 1) = leastB r own (leastNow r xs i) b nxt := by rw [leastBs, hnx]
          (repeat (first | refine zs rfl ?_ | refine zg rfl rfl rfl ?_ | refine zd ?_ | refine JK.fin ?_ | refine JK.ret ?_))
          have hor := lt256 hb' hp
          have hor0 := hcb.get hor
          have h57 := fn57 8 (b : Int) (by omega) (by omega) (by show (b : Int) < 256; omega)
          refine JK.cond rfl (fun hg => ?_) (fun hg => ?_)
          · (simp only [↓bif_or, ↓bif_and, ↓Bool.or_eq_true, ↓Bool.or_eq_false_iff, ↓Bool.and_eq_true, ↓Bool.and_eq_false_iff, ↓Bool.not_eq_true', ↓Bool.not_eq_false', ↓decide_eq_true_eq, ↓decide_eq_false_iff_not, ↓beq_iff_eq, ↓bne_iff_ne, ↓bne_eq_false_iff_eq, ↓ne_eq, ↓beq_eq_false_iff_ne, ↓Bool.not_eq_true] at hg; try simp only [Ty.dflt, Int.toNat_natCast] at hg)
            have hg' : b &&& own ≠ 0 := by
              intro h; apply hg
              show ((b &&& own : Nat) : Int) = 0
              omega
            (repeat (first | refine zs rfl ?_ | refine zg rfl rfl rfl ?_ | refine JK.fin ?_ | refine JK.ret ?_))
            refine JK.drawTo (xok rfl rfl rfl rfl) (Go.Proofs.Try.f31.body.getD .skip) ⟨[(1, .lf (.optr 0 [])), (3, .lf (.osl 1)), (5, vI (i : Int)), (6, vI (own : Int)), (7, .lf (.osl 2)), (9, vI (b : Int))], [(0, .cell dayT (vD r xs)), (1, .sl 3 (.int .i64) (leastNow r xs i)), (2, .sl 3 (.int .i64) (updMin nxt b ((leastNow r xs i).getD b 0)))], 3⟩ rfl 13 rfl ?_ ?_
            · (refine JF.First 0 (xok rfl rfl rfl rfl) rfl rfl ?_; refine JF.First 1 (xok rfl rfl rfl rfl) rfl rfl ?_; refine JF.First 2 (xok rfl rfl rfl rfl) rfl rfl ?_; refine JF.First 3 (xok rfl rfl rfl rfl) rfl rfl ?_; refine JF.First 4 (xok rfl rfl rfl rfl) rfl rfl ?_; refine JF.First 6 (xok rfl rfl rfl rfl) rfl rfl ?_; refine JF.First 7 (xok rfl rfl rfl rfl) rfl rfl ?_; refine JF.First 8 (xok rfl rfl rfl rfl) rfl rfl ?_; refine JF.Float 5 (xok rfl rfl rfl rfl) rfl rfl ?_; refine JF.Float 9 (xok rfl rfl rfl rfl) rfl rfl ?_; refine JF.Float 10 (xok rfl rfl rfl rfl) rfl rfl ?_; refine JF.Float 11 (xok rfl rfl rfl rfl) rfl rfl ?_; refine JF.Branch 12 [] (xok rfl rfl rfl rfl) ?_ ?_; (focus (repeat (first | exact StF.nil | refine StF.One rfl rfl rfl ?_))); refine BrF.one rfl rfl ?_ BrF.nil; (· (first | refine JL.Q1 (xok rfl rfl rfl rfl) rfl rfl ?_ | refine JL.G1 (xok rfl rfl rfl rfl) rfl rfl rfl ?_ | refine JL.M1 (xok rfl rfl rfl rfl) rfl rfl ?_ | refine JL.M0 (xok rfl rfl rfl rfl) rfl ?_ | refine JL.Q0 (xok rfl rfl rfl rfl) rfl ?_); refine JL.finN ?_; refine JF.Done (xok rfl rfl rfl rfl) ?_ ?_; (focus (repeat (first | exact StF.nil | refine StF.One rfl rfl rfl ?_))); ((exact JW.Auto rfl))))
            (repeat (first | refine zs rfl ?_ | refine zg rfl rfl rfl ?_ | refine zd ?_ | refine JK.fin ?_ | refine JK.ret ?_))
            exact ⟨b + 1, by (refine JW.auto rfl ?_ ?_ ?_ ?_ rfl <;> (repeat' (first | exact trivial | exact rfl | refine And.intro ?_ ?_ | exact Nat.le_of_ble_eq_true rfl | refine HO.bdF ?_ | refine HO.bdP ?_ | (refine congrArg (fun z : Int => some (AV.val (.int .i64) z)) ?_; push_cast; omega) | (refine congrArg (fun z : List Int => some (HO.sl 3 (.int .i64) z)) ?_; rw [hstep, leastB, if_pos hg'])))), by omega, by omega⟩
          · (simp only [↓bif_or, ↓bif_and, ↓Bool.or_eq_true, ↓Bool.or_eq_false_iff, ↓Bool.and_eq_true, ↓Bool.and_eq_false_iff, ↓Bool.not_eq_true', ↓Bool.not_eq_false', ↓decide_eq_true_eq, ↓decide_eq_false_iff_not, ↓beq_iff_eq, ↓bne_iff_ne, ↓bne_eq_false_iff_eq, ↓ne_eq, ↓beq_eq_false_iff_ne, ↓Bool.not_eq_true] at hg; try simp only [Ty.dflt, Int.toNat_natCast] at hg)
            have hg' : ¬ (b &&& own ≠ 0) := by
              intro h; apply h
              have : ((b &&& own : Nat) : Int) = 0 := hg
              omega
            (repeat (first | refine zs rfl ?_ | refine zg rfl rfl rfl ?_ | refine zd ?_ | refine JK.fin ?_ | refine JK.ret ?_ | refine zc rfl (h57) rfl rfl ?_ | refine ze rfl (h57) rfl ?_ | refine zk rfl rfl (fun _ => h57) rfl rfl ?_))
            refine JK.cond rfl (fun hh => ?_) (fun hh => ?_)
            · (simp only [↓bif_or, ↓bif_and, ↓Bool.or_eq_true, ↓Bool.or_eq_false_iff, ↓Bool.and_eq_true, ↓Bool.and_eq_false_iff, ↓Bool.not_eq_true', ↓Bool.not_eq_false', ↓decide_eq_true_eq, ↓decide_eq_false_iff_not, ↓beq_iff_eq, ↓bne_iff_ne, ↓bne_eq_false_iff_eq, ↓ne_eq, ↓beq_eq_false_iff_ne, ↓Bool.not_eq_true] at hh; try simp only [Ty.dflt, Int.toNat_natCast] at hh)
              (repeat (first | refine zs rfl ?_ | refine zg rfl rfl rfl ?_ | refine JK.fin ?_ | refine JK.ret ?_))
              refine JK.drawTo (xok rfl rfl rfl rfl) (Go.Proofs.Try.f31.body.getD .skip) ⟨[(1, .lf (.optr 0 [])), (3, .lf (.osl 1)), (5, vI (i : Int)), (6, vI (own : Int)), (7, .lf (.osl 2)), (9, vI (b : Int))], [(0, .cell dayT (vD r xs)), (1, .sl 3 (.int .i64) (leastNow r xs i)), (2, .sl 3 (.int .i64) (updMin nxt (b ||| own) ((leastNow r xs i).getD b 0 + 1)))], 3⟩ rfl 18 rfl ?_ ?_
              · (refine JF.First 0 (xok rfl rfl rfl rfl) rfl rfl ?_; refine JF.First 1 (xok rfl rfl rfl rfl) rfl rfl ?_; refine JF.First 2 (xok rfl rfl rfl rfl) rfl rfl ?_; refine JF.First 3 (xok rfl rfl rfl rfl) rfl rfl ?_; refine JF.First 4 (xok rfl rfl rfl rfl) rfl rfl ?_; refine JF.First 5 (xok rfl rfl rfl rfl) rfl rfl ?_; refine JF.First 6 (xok rfl rfl rfl rfl) rfl rfl ?_; refine JF.First 7 (xok rfl rfl rfl rfl) rfl rfl ?_; refine JF.First 8 (xok rfl rfl rfl rfl) rfl rfl ?_; refine JF.First 10 (xok rfl rfl rfl rfl) rfl rfl ?_; refine JF.First 11 (xok rfl rfl rfl rfl) rfl rfl ?_; refine JF.First 12 (xok rfl rfl rfl rfl) rfl rfl ?_; refine JF.Float 9 (xok rfl rfl rfl rfl) rfl rfl ?_; refine JF.Float 13 (xok rfl rfl rfl rfl) rfl rfl ?_; refine JF.Float 14 (xok rfl rfl rfl rfl) rfl rfl ?_; refine JF.Float 15 (xok rfl rfl rfl rfl) rfl rfl ?_; refine JF.Float 16 (xok rfl rfl rfl rfl) rfl rfl ?_; refine JF.Branch 17 [] (xok rfl rfl rfl rfl) ?_ ?_; (focus (repeat (first | exact StF.nil | refine StF.One rfl rfl rfl ?_))); refine BrF.one rfl rfl ?_ BrF.nil; (· (first | refine JL.Q1 (xok rfl rfl rfl rfl) rfl rfl ?_ | refine JL.G1 (xok rfl rfl rfl rfl) rfl rfl rfl ?_ | refine JL.M1 (xok rfl rfl rfl rfl) rfl rfl ?_ | refine JL.M0 (xok rfl rfl rfl rfl) rfl ?_ | refine JL.Q0 (xok rfl rfl rfl rfl) rfl ?_); refine JL.finN ?_; refine JF.Done (xok rfl rfl rfl rfl) ?_ ?_; (focus (repeat (first | exact StF.nil | refine StF.One rfl rfl rfl ?_))); ((exact JW.Auto rfl))))
              (repeat (first | refine zs rfl ?_ | refine zg rfl rfl rfl ?_ | refine zd ?_ | refine JK.fin ?_ | refine JK.ret ?_))
              exact ⟨b + 1, by (refine JW.auto rfl ?_ ?_ ?_ ?_ rfl <;> (repeat' (first | exact trivial | exact rfl | refine And.intro ?_ ?_ | exact Nat.le_of_ble_eq_true rfl | refine HO.bdF ?_ | refine HO.bdP ?_ | (refine congrArg (fun z : Int => some (AV.val (.int .i64) z)) ?_; push_cast; omega) | (refine congrArg (fun z : List Int => some (HO.sl 3 (.int .i64) z)) ?_; rw [hstep, leastB, if_neg hg', if_pos hh])))), by omega, by omega⟩
            · (simp only [↓bif_or, ↓bif_and, ↓Bool.or_eq_true, ↓Bool.or_eq_false_iff, ↓Bool.and_eq_true, ↓Bool.and_eq_false_iff, ↓Bool.not_eq_true', ↓Bool.not_eq_false', ↓decide_eq_true_eq, ↓decide_eq_false_iff_not, ↓beq_iff_eq, ↓bne_iff_ne, ↓bne_eq_false_iff_eq, ↓ne_eq, ↓beq_eq_false_iff_ne, ↓Bool.not_eq_true] at hh; try simp only [Ty.dflt, Int.toNat_natCast] at hh)
              have hlast : leastB r own (leastNow r xs i) b nxt = leastK own (leastNow r xs i) b nxt 8 := by rw [leastB, if_neg hg', if_neg hh]
              rw [hlast] at hstep
              (repeat (first | refine zs rfl ?_ | refine zg rfl rfl rfl ?_ | refine zd ?_ | refine JK.fin ?_ | refine JK.ret ?_))
              refine JK.loop (fun k : Nat => ⟨[(1, .lf (.optr 0 [])), (3, .lf (.osl 1)), (5, vI (i : Int)), (6, vI (own : Int)), (7, .lf (.osl 2)), (9, vI (b : Int)), (10, vI (k : Int))], [(0, .cell dayT (vD r xs)), (1, .sl 3 (.int .i64) (leastNow r xs i)), (2, .sl 3 (.int .i64) (leastK own (leastNow r xs i) b nxt k))], 3⟩)
                (fun k => k ≤ 8) (fun k => 8 - k) 0 (by simp) (by (exact JW.Auto rfl)) fun k hk8 => ?_
              have hck := cost.K (k := k) hp hb' hcn hcb
              have hkl := hck.1
              (repeat (first | refine zs rfl ?_ | refine zg rfl rfl rfl ?_ | refine zd ?_ | refine JK.fin ?_ | refine JK.ret ?_))
              refine JK.cond rfl (fun hj => ?_) (fun hj => ?_)
              · (simp only [↓bif_or, ↓bif_and, ↓Bool.or_eq_true, ↓Bool.or_eq_false_iff, ↓Bool.and_eq_true, ↓Bool.and_eq_false_iff, ↓Bool.not_eq_true', ↓Bool.not_eq_false', ↓decide_eq_true_eq, ↓decide_eq_false_iff_not, ↓beq_iff_eq, ↓bne_iff_ne, ↓bne_eq_false_iff_eq, ↓ne_eq, ↓beq_eq_false_iff_ne, ↓Bool.not_eq_true] at hj; try simp only [Ty.dflt, Int.toNat_natCast] at hj)
                have hkz := pow_bd (n := k) (by omega)
                have hto : (b ^^^ (b &&& ((1 : Int) * 2 ^ k).toNat)) ||| own < 256 := lt256 (lt256' hb') hp
                have hto0 := hck.get hto
                have hxa : b ^^^ (b &&& ((1 : Int) * 2 ^ k).toNat) < 256 := lt256' hb'
                have e2 : ((1 : Int) * 2 ^ k).toNat = 2 ^ k := by rw [pow_cast, Int.toNat_natCast]
                have hdiv : (0 : Int) ≤ (b : Int) / 2 ^ k ∧ (b : Int) / 2 ^ k ≤ 256 := by
                  have e : (2 : Int) ^ k = ((2 ^ k : Nat) : Int) := (Int.natCast_pow 2 k).symm
                  rw [e, ← Int.natCast_ediv]
                  have h1 := Nat.div_le_self b (2 ^ k)
                  revert h1
                  generalize b / 2 ^ k = z
                  intro h1
                  omega
                (repeat (first | refine zs rfl ?_ | refine zg rfl rfl rfl ?_ | refine zd ?_ | refine JK.fin ?_ | refine JK.ret ?_))
                refine JK.cond rfl (fun hm => ?_) (fun hm => ?_)
                · have hm' : (b / 2 ^ k) &&& 1 = 1 := by
                    have h1 : ((((b : Int) / 2 ^ k).toNat &&& 1 : Nat) : Int) = 1 := by simpa using hm
                    rw [shr_cast] at h1; omega
                  (repeat (first | refine zs rfl ?_ | refine zg rfl rfl rfl ?_ | refine JK.fin ?_ | refine JK.ret ?_))
                  refine JK.drawB (xok rfl rfl rfl rfl) (Go.Proofs.Try.f31.body.getD .skip) ⟨[(1, .lf (.optr 0 [])), (3, .lf (.osl 1)), (5, vI (i : Int)), (6, vI (own : Int)), (7, .lf (.osl 2)), (9, vI (b : Int)), (10, vI (k : Int))], [(0, .cell dayT (vD r xs)), (1, .sl 3 (.int .i64) (leastNow r xs i)), (2, .sl 3 (.int .i64) (updMin (leastK own (leastNow r xs i) b nxt k) ((b ^^^ (b &&& ((1 : Int) * 2 ^ k).toNat)) ||| own) ((leastNow r xs i).getD b 0 + 1)))], 3⟩ rfl 14 rfl ?_ ?_
                  · (refine JF.First 0 (xok rfl rfl rfl rfl) rfl rfl ?_; refine JF.First 1 (xok rfl rfl rfl rfl) rfl rfl ?_; refine JF.First 2 (xok rfl rfl rfl rfl) rfl rfl ?_; refine JF.First 3 (xok rfl rfl rfl rfl) rfl rfl ?_; refine JF.First 4 (xok rfl rfl rfl rfl) rfl rfl ?_; refine JF.First 6 (xok rfl rfl rfl rfl) rfl rfl ?_; refine JF.First 7 (xok rfl rfl rfl rfl) rfl rfl ?_; refine JF.First 8 (xok rfl rfl rfl rfl) rfl rfl ?_; refine JF.Float 5 (xok rfl rfl rfl rfl) rfl rfl ?_; refine JF.Float 9 (xok rfl rfl rfl rfl) rfl rfl ?_; refine JF.Float 10 (xok rfl rfl rfl rfl) rfl rfl ?_; refine JF.Float 11 (xok rfl rfl rfl rfl) rfl rfl ?_; refine JF.Float 12 (xok rfl rfl rfl rfl) rfl rfl ?_; refine JF.Branch 13 [] (xok rfl rfl rfl rfl) ?_ ?_; (focus (repeat (first | exact StF.nil | refine StF.One rfl rfl rfl ?_))); refine BrF.one rfl rfl ?_ BrF.nil; (· (first | refine JL.Q1 (xok rfl rfl rfl rfl) rfl rfl ?_ | refine JL.G1 (xok rfl rfl rfl rfl) rfl rfl rfl ?_ | refine JL.M1 (xok rfl rfl rfl rfl) rfl rfl ?_ | refine JL.M0 (xok rfl rfl rfl rfl) rfl ?_ | refine JL.Q0 (xok rfl rfl rfl rfl) rfl ?_); refine JL.finN ?_; refine JF.Done (xok rfl rfl rfl rfl) ?_ ?_; (focus (repeat (first | exact StF.nil | refine StF.One rfl rfl rfl ?_))); ((exact JW.Auto rfl))))
                  rw [e2]
                  (repeat (first | refine zs rfl ?_ | refine zg rfl rfl rfl ?_ | refine zd ?_ | refine JK.fin ?_ | refine JK.ret ?_))
                  exact ⟨k + 1, by (refine JW.auto rfl ?_ ?_ ?_ ?_ rfl <;> (repeat' (first | exact trivial | exact rfl | refine And.intro ?_ ?_ | exact Nat.le_of_ble_eq_true rfl | refine HO.bdF ?_ | refine HO.bdP ?_ | (refine congrArg (fun z : Int => some (AV.val (.int .i64) z)) ?_; push_cast; omega) | (refine congrArg (fun z : List Int => some (HO.sl 3 (.int .i64) z)) ?_; rw [leastK, if_pos hm'])))), by omega, by omega⟩
                · have hm' : ¬ (b / 2 ^ k) &&& 1 = 1 := by
                    have h1 : ¬ ((((b : Int) / 2 ^ k).toNat &&& 1 : Nat) : Int) = 1 := by simpa using hm
                    rw [shr_cast] at h1; omega
                  (repeat (first | refine zs rfl ?_ | refine zg rfl rfl rfl ?_ | refine zd ?_ | refine JK.fin ?_ | refine JK.ret ?_))
                  exact ⟨k + 1, by (refine JW.auto rfl ?_ ?_ ?_ ?_ rfl <;> (repeat' (first | exact trivial | exact rfl | refine And.intro ?_ ?_ | exact Nat.le_of_ble_eq_true rfl | refine HO.bdF ?_ | refine HO.bdP ?_ | (refine congrArg (fun z : Int => some (AV.val (.int .i64) z)) ?_; push_cast; omega) | (refine congrArg (fun z : List Int => some (HO.sl 3 (.int .i64) z)) ?_; rw [leastK, if_neg hm'])))), by omega, by omega⟩
              · (simp only [↓bif_or, ↓bif_and, ↓Bool.or_eq_true, ↓Bool.or_eq_false_iff, ↓Bool.and_eq_true, ↓Bool.and_eq_false_iff, ↓Bool.not_eq_true', ↓Bool.not_eq_false', ↓decide_eq_true_eq, ↓decide_eq_false_iff_not, ↓beq_iff_eq, ↓bne_iff_ne, ↓bne_eq_false_iff_eq, ↓ne_eq, ↓beq_eq_false_iff_ne, ↓Bool.not_eq_true] at hj; try simp only [Ty.dflt, Int.toNat_natCast] at hj)
                obtain rfl : k = 8 := by omega
                (repeat (first | refine zs rfl ?_ | refine zg rfl rfl rfl ?_ | refine zd ?_ | refine JK.fin ?_ | refine JK.ret ?_))
                exact ⟨b + 1, by (refine JW.auto rfl ?_ ?_ ?_ ?_ rfl <;> (repeat' (first | exact trivial | exact rfl | refine And.intro ?_ ?_ | exact Nat.le_of_ble_eq_true rfl | refine HO.bdF ?_ | refine HO.bdP ?_ | (refine congrArg (fun z : Int => some (AV.val (.int .i64) z)) ?_; push_cast; omega) | exact congrArg (fun z : List Int => some (HO.sl 3 (.int .i64) z)) hstep.symm))), by omega, by omega⟩
        · (simp only [↓bif_or, ↓bif_and, ↓Bool.or_eq_true, ↓Bool.or_eq_false_iff, ↓Bool.and_eq_true, ↓Bool.and_eq_false_iff, ↓Bool.not_eq_true', ↓Bool.not_eq_false', ↓decide_eq_true_eq, ↓decide_eq_false_iff_not, ↓beq_iff_eq, ↓bne_iff_ne, ↓bne_eq_false_iff_eq, ↓ne_eq, ↓beq_eq_false_iff_ne, ↓Bool.not_eq_true] at hf; try simp only [Ty.dflt, Int.toNat_natCast] at hf)
          obtain rfl : b = 256 := by omega
          (repeat (first | refine zs rfl ?_ | refine zg rfl rfl rfl ?_ | refine zd ?_ | refine JK.fin ?_ | refine JK.ret ?_))
          exact ⟨i + 1, by (refine JW.auto rfl ?_ ?_ ?_ ?_ rfl <;> (repeat' (first | exact trivial | exact rfl | refine And.intro ?_ ?_ | exact Nat.le_of_ble_eq_true rfl | refine HO.bdF ?_ | refine HO.bdP ?_ | (refine congrArg (fun z : Int => some (AV.val (.int .i64) z)) ?_; push_cast; omega) | (refine congrArg (fun z : List Int => some (HO.sl 3 (.int .i64) z)) ?_; rw [leastNow, hown, ← hnx])))), by omega, by omega⟩
    · (simp only [↓bif_or, ↓bif_and, ↓Bool.or_eq_true, ↓Bool.or_eq_false_iff, ↓Bool.and_eq_true, ↓Bool.and_eq_false_iff, ↓Bool.not_eq_true', ↓Bool.not_eq_false', ↓decide_eq_true_eq, ↓decide_eq_false_iff_not, ↓beq_iff_eq, ↓bne_iff_ne, ↓bne_eq_false_iff_eq, ↓ne_eq, ↓beq_eq_false_iff_ne, ↓Bool.not_eq_true] at hd; try simp only [Ty.dflt, Int.toNat_natCast] at hd)
      obtain rfl : i = xs.length := by omega
      (repeat (first | refine zs rfl ?_ | refine zg rfl rfl rfl ?_ | refine zd ?_ | refine JK.fin ?_ | refine JK.ret ?_))
      refine JK.loop (fun b : Nat => ⟨[(3, .lf (.osl 1)), (12, vI (leastMin (leastNow r xs xs.length) b)), (13, vI (b : Int))], [(0, .cell dayT (vD r xs)), (1, .sl 3 (.int .i64) (leastNow r xs xs.length))], 2⟩)
        (fun b => b ≤ 256) (fun b => 256 - b) 0 (by simp) (by (exact JW.Auto rfl)) fun b hb => ?_
      have hnl := hcn.1
      (repeat (first | refine zs rfl ?_ | refine zg rfl rfl rfl ?_ | refine zd ?_ | refine JK.fin ?_ | refine JK.ret ?_))
      refine JK.cond rfl (fun he => ?_) (fun he => ?_)
      · (simp only [↓bif_or, ↓bif_and, ↓Bool.or_eq_true, ↓Bool.or_eq_false_iff, ↓Bool.and_eq_true, ↓Bool.and_eq_false_iff, ↓Bool.not_eq_true', ↓Bool.not_eq_false', ↓decide_eq_true_eq, ↓decide_eq_false_iff_not, ↓beq_iff_eq, ↓bne_iff_ne, ↓bne_eq_false_iff_eq, ↓ne_eq, ↓beq_eq_false_iff_ne, ↓Bool.not_eq_true] at he; try simp only [Ty.dflt, Int.toNat_natCast] at he)
        (repeat (first | refine zs rfl ?_ | refine zg rfl rfl rfl ?_ | refine zd ?_ | refine JK.fin ?_ | refine JK.ret ?_))
        exact ⟨b + 1, by (exact JW.Auto rfl), by omega, by omega⟩
      · (simp only [↓bif_or, ↓bif_and, ↓Bool.or_eq_true, ↓Bool.or_eq_false_iff, ↓Bool.and_eq_true, ↓Bool.and_eq_false_iff, ↓Bool.not_eq_true', ↓Bool.not_eq_false', ↓decide_eq_true_eq, ↓decide_eq_false_iff_not, ↓beq_iff_eq, ↓bne_iff_ne, ↓bne_eq_false_iff_eq, ↓ne_eq, ↓beq_eq_false_iff_ne, ↓Bool.not_eq_true] at he; try simp only [Ty.dflt, Int.toNat_natCast] at he)
        obtain rfl : b = 256 := by omega
        (repeat (first | refine zs rfl ?_ | refine zg rfl rfl rfl ?_ | refine zd ?_ | refine JK.fin ?_ | refine JK.ret ?_))
        refine ⟨.inl rfl, _, _, rfl, trivial, ?_⟩
        rfl
end Go.Proofs.Ytbmgijgnbilnoaa

namespace Go.Proofs.Ytbmgijgnbilnoaa
open Go Go.RowKit Ox
attribute [local irreducible] JC JL JK JW
abbrev pI (n : Int) : AV := .val (.ptr (.int .i64)) (some n)

theorem fn67 (x lo hi : Int) : Ox.Fn Go.Proofs.Try.prog 67 (.acons (vI x) (.acons (pI lo) (.acons (pI hi) .anil))) (· = vB (decide (x < lo ∨ x > hi))) := by
  refine Ox.Fn.intro xok Go.Proofs.Try.func67 rfl Go.Proofs.Try.call67 (Nat.le_of_ble_eq_true rfl) (fun E M0 up => ?_)
  refine JK.start ?_
  (repeat (first | refine zs rfl ?_ | refine zg rfl rfl rfl ?_ | refine zd ?_ | refine JK.fin ?_ | refine JK.ret ?_))
  refine ⟨.inl rfl, _, _, rfl, trivial, ?_⟩
  by_cases h : x < lo <;> simp [h]

/-- The first place whose element is good, or -1. -/
def idxB (p : Int → Bool) : List Int → Nat → Int
  | [], _ => -1
  | x :: r, i => if p x then (i : Int) else idxB p r (i + 1)

theorem fn70 {f : FuncId} {t1 t2 : Ty} {x1 : t1.den} {x2 : t2.den} (xs : List Int) (p : Int → Bool) (h : ∀ x ∈ xs, Ox.Fn Go.Proofs.Try.prog f (.acons (vI x) (.acons (.val t1 x1) (.acons (.val t2 x2) .anil))) (· = vB (p x))) :
    Ox.Fn Go.Proofs.Try.prog 70 (.acons (vL xs) (.acons (.fn f .anil (.acons (.val t1 x1) (.acons (.val t2 x2) .anil))) .anil)) (· = vI (idxB p xs 0)) := by
  refine Ox.Fn.intro xok Go.Proofs.Try.func70 rfl Go.Proofs.Try.call70 (Nat.le_of_ble_eq_true rfl) (fun E M0 up => ?_)
  refine JK.start ?_
  refine JK.lenOf 0 rfl fun hlen => ?_
  replace hlen : xs.length ≤ 9223372036854775807 := hlen.1
  (repeat (first | refine zs rfl ?_ | refine zg rfl rfl rfl ?_ | refine zd ?_ | refine JK.fin ?_ | refine JK.ret ?_))
  refine JK.loop (fun i : Nat => ⟨[(0, vL xs), (1, .fn f .anil (.acons (.val t1 x1) (.acons (.val t2 x2) .anil))), (7, vI xs.length), (8, vI (i : Int))], [], 0⟩) (fun i => i ≤ xs.length ∧ idxB p xs 0 = idxB p (xs.drop i) i) (fun i => xs.length - i) 0 (by simp) (by (exact JW.Auto rfl)) fun i ⟨hi, hn⟩ => ?_
  (repeat (first | refine zs rfl ?_ | refine zg rfl rfl rfl ?_ | refine zd ?_ | refine JK.fin ?_ | refine JK.ret ?_))
  refine JK.cond rfl (fun hc => ?_) (fun hc => ?_)
  · (simp only [↓bif_or, ↓bif_and, ↓Bool.or_eq_true, ↓Bool.or_eq_false_iff, ↓Bool.and_eq_true, ↓Bool.and_eq_false_iff, ↓Bool.not_eq_true', ↓Bool.not_eq_false', ↓decide_eq_true_eq, ↓decide_eq_false_iff_not, ↓beq_iff_eq, ↓bne_iff_ne, ↓bne_eq_false_iff_eq, ↓ne_eq, ↓beq_eq_false_iff_ne, ↓Bool.not_eq_true] at hc; try simp only [Ty.dflt, Int.toNat_natCast] at hc)
    have hi' : i < xs.length := by omega
    have hx := h (xs.getD i 0) (by rw [getD_nat xs hi']; exact List.getElem_mem hi')
    (repeat (first | refine zs rfl ?_ | refine zg rfl rfl rfl ?_ | refine zd ?_ | refine JK.fin ?_ | refine JK.ret ?_ | refine zc rfl (hx) rfl rfl ?_ | refine ze rfl (hx) rfl ?_ | refine zk rfl rfl (fun _ => hx) rfl rfl ?_))
    refine JK.cond rfl (fun hd => ?_) (fun hd => ?_)
    · (repeat (first | refine zs rfl ?_ | refine zg rfl rfl rfl ?_ | refine zd ?_ | refine JK.fin ?_ | refine JK.ret ?_))
      refine ⟨.inl rfl, _, _, rfl, trivial, ?_⟩
      rw [getD_nat xs hi'] at hd
      rw [hn, List.drop_eq_getElem_cons hi', idxB, if_pos hd]
    · (repeat (first | refine zs rfl ?_ | refine zg rfl rfl rfl ?_ | refine zd ?_ | refine JK.fin ?_ | refine JK.ret ?_))
      rw [getD_nat xs hi'] at hd
      refine ⟨i + 1, by (exact JW.Auto rfl), ⟨by omega, ?_⟩, by omega⟩
      rw [hn, List.drop_eq_getElem_cons hi', idxB, if_neg (by rw [hd]; simp)]
  · (simp only [↓bif_or, ↓bif_and, ↓Bool.or_eq_true, ↓Bool.or_eq_false_iff, ↓Bool.and_eq_true, ↓Bool.and_eq_false_iff, ↓Bool.not_eq_true', ↓Bool.not_eq_false', ↓decide_eq_true_eq, ↓decide_eq_false_iff_not, ↓beq_iff_eq, ↓bne_iff_ne, ↓bne_eq_false_iff_eq, ↓ne_eq, ↓beq_eq_false_iff_ne, ↓Bool.not_eq_true] at hc; try simp only [Ty.dflt, Int.toNat_natCast] at hc)
    (repeat (first | refine zs rfl ?_ | refine zg rfl rfl rfl ?_ | refine zd ?_ | refine JK.fin ?_ | refine JK.ret ?_))
    refine ⟨.inl rfl, _, _, rfl, trivial, ?_⟩
    obtain rfl : i = xs.length := by omega
    rw [hn, List.drop_length]; rfl

theorem idxB_nonneg {p : Int → Bool} : ∀ {xs : List Int} {i : Nat}, (0 ≤ idxB p xs i) ↔ xs.any p = true
  | [], i => by simp [idxB]
  | x :: r, i => by
    simp only [idxB, List.any_cons, Bool.or_eq_true]
    by_cases h : p x = true
    · simp [h]
    · rw [if_neg h, idxB_nonneg]; simp [h]

theorem fn66 {f : FuncId} {t1 t2 : Ty} {x1 : t1.den} {x2 : t2.den} (xs : List Int) (p : Int → Bool) (h : ∀ x ∈ xs, Ox.Fn Go.Proofs.Try.prog f (.acons (vI x) (.acons (.val t1 x1) (.acons (.val t2 x2) .anil))) (· = vB (p x))) :
    Ox.Fn Go.Proofs.Try.prog 66 (.acons (vL xs) (.acons (.fn f .anil (.acons (.val t1 x1) (.acons (.val t2 x2) .anil))) .anil)) (· = vB (xs.any p)) := by
  refine Ox.Fn.intro xok Go.Proofs.Try.func66 rfl Go.Proofs.Try.call66 (Nat.le_of_ble_eq_true rfl) (fun E M0 up => ?_)
  refine JK.start ?_
  (repeat (first | refine zs rfl ?_ | refine zg rfl rfl rfl ?_ | refine zd ?_ | refine JK.fin ?_ | refine JK.ret ?_ | refine zc rfl (fn70 xs p h) rfl rfl ?_ | refine ze rfl (fn70 xs p h) rfl ?_ | refine zk rfl rfl (fun _ => fn70 xs p h) rfl rfl ?_))
  refine ⟨.inl rfl, _, _, rfl, trivial, ?_⟩
  refine congrArg vB ?_
  rw [Bool.eq_iff_iff, ← idxB_nonneg (p := p) (i := 0)]
  simp

theorem fn49 (lo hi : Int) (xs : List Int) : Ox.Fn Go.Proofs.Try.prog 49 (.acons (vI lo) (.acons (vI hi) (.acons (vL xs) .anil))) (· = vB (decide (∀ x ∈ xs, lo ≤ x ∧ x ≤ hi))) := by
  refine Ox.Fn.intro xok Go.Proofs.Try.func49 rfl Go.Proofs.Try.call49 (Nat.le_of_ble_eq_true rfl) (fun E M0 up => ?_)
  refine JK.start ?_
  (repeat (first | refine zs rfl ?_ | refine zg rfl rfl rfl ?_ | refine zd ?_ | refine JK.fin ?_ | refine JK.ret ?_ | refine zc rfl (fn66 xs (fun x => decide (x < lo ∨ x > hi)) (fun x _ => fn67 x lo hi)) rfl rfl ?_ | refine ze rfl (fn66 xs (fun x => decide (x < lo ∨ x > hi)) (fun x _ => fn67 x lo hi)) rfl ?_ | refine zk rfl rfl (fun _ => fn66 xs (fun x => decide (x < lo ∨ x > hi)) (fun x _ => fn67 x lo hi)) rfl rfl ?_))
  refine ⟨.inl rfl, _, _, rfl, trivial, ?_⟩
  refine congrArg vB ?_
  rw [Bool.eq_iff_iff]
  simp only [Bool.not_eq_true', List.any_eq_false, decide_eq_true_eq]
  refine ⟨fun h x hx => ?_, fun h x hx => ?_⟩
  · have := h x hx; omega
  · have := h x hx; omega

theorem fn19 (r : Int) (xs : List Int) : Ox.Fn Go.Proofs.Try.prog 19 (.acons (vD r xs) .anil) (· = vI (dayErr r xs)) := by
  refine Ox.Fn.intro xok Go.Proofs.Try.func19 rfl Go.Proofs.Try.call19 (Nat.le_of_ble_eq_true rfl) (fun E M0 up => ?_)
  refine JK.start ?_
  (repeat (first | refine zs rfl ?_ | refine zg rfl rfl rfl ?_ | refine zd ?_ | refine JK.fin ?_ | refine JK.ret ?_ | refine zc rfl (fn49 _ _ _) rfl rfl ?_ | refine ze rfl (fn49 _ _ _) rfl ?_ | refine zk rfl rfl (fun _ => fn49 _ _ _) rfl rfl ?_))
  refine JK.cond rfl (fun hc => ?_) (fun hc => ?_)
  · (simp only [↓bif_or, ↓bif_and, ↓Bool.or_eq_true, ↓Bool.or_eq_false_iff, ↓Bool.and_eq_true, ↓Bool.and_eq_false_iff, ↓Bool.not_eq_true', ↓Bool.not_eq_false', ↓decide_eq_true_eq, ↓decide_eq_false_iff_not, ↓beq_iff_eq, ↓bne_iff_ne, ↓bne_eq_false_iff_eq, ↓ne_eq, ↓beq_eq_false_iff_ne, ↓Bool.not_eq_true] at hc; try simp only [Ty.dflt, Int.toNat_natCast] at hc)
    have hr : r < 1 ∨ r > 4 := by
      by_cases h : r < 1 ∨ r > 4
      · exact h
      · exact absurd (fun x hx => by simp at hx; subst hx; (try dsimp only); omega) hc
    (repeat (first | refine zs rfl ?_ | refine zg rfl rfl rfl ?_ | refine zd ?_ | refine JK.fin ?_ | refine JK.ret ?_))
    refine ⟨.inl rfl, _, _, rfl, trivial, ?_⟩
    rw [dayErr, if_pos hr]
  · (simp only [↓bif_or, ↓bif_and, ↓Bool.or_eq_true, ↓Bool.or_eq_false_iff, ↓Bool.and_eq_true, ↓Bool.and_eq_false_iff, ↓Bool.not_eq_true', ↓Bool.not_eq_false', ↓decide_eq_true_eq, ↓decide_eq_false_iff_not, ↓beq_iff_eq, ↓bne_iff_ne, ↓bne_eq_false_iff_eq, ↓ne_eq, ↓beq_eq_false_iff_ne, ↓Bool.not_eq_true] at hc; try simp only [Ty.dflt, Int.toNat_natCast] at hc)
    have hr : ¬ (r < 1 ∨ r > 4) := by have := hc r (by simp); omega
    (repeat (first | refine zs rfl ?_ | refine zg rfl rfl rfl ?_ | refine zd ?_ | refine JK.fin ?_ | refine JK.ret ?_ | refine zc rfl (fn49 _ _ _) rfl rfl ?_ | refine ze rfl (fn49 _ _ _) rfl ?_ | refine zk rfl rfl (fun _ => fn49 _ _ _) rfl rfl ?_))
    refine JK.cond rfl (fun hc2 => ?_) (fun hc2 => ?_)
    · (simp only [↓bif_or, ↓bif_and, ↓Bool.or_eq_true, ↓Bool.or_eq_false_iff, ↓Bool.and_eq_true, ↓Bool.and_eq_false_iff, ↓Bool.not_eq_true', ↓Bool.not_eq_false', ↓decide_eq_true_eq, ↓decide_eq_false_iff_not, ↓beq_iff_eq, ↓bne_iff_ne, ↓bne_eq_false_iff_eq, ↓ne_eq, ↓beq_eq_false_iff_ne, ↓Bool.not_eq_true] at hc2; try simp only [Ty.dflt, Int.toNat_natCast] at hc2)
      have hl : xs.length < 1 ∨ xs.length > 24 := by
        by_cases h : xs.length < 1 ∨ xs.length > 24
        · exact h
        · exact absurd (fun x hx => by simp at hx; subst hx; (try dsimp only); omega) hc2
      (repeat (first | refine zs rfl ?_ | refine zg rfl rfl rfl ?_ | refine zd ?_ | refine JK.fin ?_ | refine JK.ret ?_))
      refine ⟨.inl rfl, _, _, rfl, trivial, ?_⟩
      rw [dayErr, if_neg hr, if_pos hl]
    · (simp only [↓bif_or, ↓bif_and, ↓Bool.or_eq_true, ↓Bool.or_eq_false_iff, ↓Bool.and_eq_true, ↓Bool.and_eq_false_iff, ↓Bool.not_eq_true', ↓Bool.not_eq_false', ↓decide_eq_true_eq, ↓decide_eq_false_iff_not, ↓beq_iff_eq, ↓bne_iff_ne, ↓bne_eq_false_iff_eq, ↓ne_eq, ↓beq_eq_false_iff_ne, ↓Bool.not_eq_true] at hc2; try simp only [Ty.dflt, Int.toNat_natCast] at hc2)
      have hl : ¬ (xs.length < 1 ∨ xs.length > 24) := by have := hc2 xs.length (by simp); omega
      (repeat (first | refine zs rfl ?_ | refine zg rfl rfl rfl ?_ | refine zd ?_ | refine JK.fin ?_ | refine JK.ret ?_ | refine zc rfl (fn49 _ _ _) rfl rfl ?_ | refine ze rfl (fn49 _ _ _) rfl ?_ | refine zk rfl rfl (fun _ => fn49 _ _ _) rfl rfl ?_))
      refine JK.cond rfl (fun hc3 => ?_) (fun hc3 => ?_)
      · (simp only [↓bif_or, ↓bif_and, ↓Bool.or_eq_true, ↓Bool.or_eq_false_iff, ↓Bool.and_eq_true, ↓Bool.and_eq_false_iff, ↓Bool.not_eq_true', ↓Bool.not_eq_false', ↓decide_eq_true_eq, ↓decide_eq_false_iff_not, ↓beq_iff_eq, ↓bne_iff_ne, ↓bne_eq_false_iff_eq, ↓ne_eq, ↓beq_eq_false_iff_ne, ↓Bool.not_eq_true] at hc3; try simp only [Ty.dflt, Int.toNat_natCast] at hc3)
        (repeat (first | refine zs rfl ?_ | refine zg rfl rfl rfl ?_ | refine zd ?_ | refine JK.fin ?_ | refine JK.ret ?_))
        refine ⟨.inl rfl, _, _, rfl, trivial, ?_⟩
        rw [dayErr, if_neg hr, if_neg hl, if_neg hc3]
      · (simp only [↓bif_or, ↓bif_and, ↓Bool.or_eq_true, ↓Bool.or_eq_false_iff, ↓Bool.and_eq_true, ↓Bool.and_eq_false_iff, ↓Bool.not_eq_true', ↓Bool.not_eq_false', ↓decide_eq_true_eq, ↓decide_eq_false_iff_not, ↓beq_iff_eq, ↓bne_iff_ne, ↓bne_eq_false_iff_eq, ↓ne_eq, ↓beq_eq_false_iff_ne, ↓Bool.not_eq_true] at hc3; try simp only [Ty.dflt, Int.toNat_natCast] at hc3)
        (repeat (first | refine zs rfl ?_ | refine zg rfl rfl rfl ?_ | refine zd ?_ | refine JK.fin ?_ | refine JK.ret ?_))
        refine ⟨.inl rfl, _, _, rfl, trivial, ?_⟩
        rw [dayErr, if_neg hr, if_neg hl, if_pos hc3]

/-- The book before a book, or the error. -/
def beforeS (r : Int) (xs : List Int) (n : Int) : Int × Int :=
  if dayErr r xs ≠ 0 then (0, dayErr r xs) else if 0 ≤ n ∧ n < xs.length then (if lastB xs (xs.getD n.toNat 0) n.toNat < 0 then (0, 5) else (lastB xs (xs.getD n.toNat 0) n.toNat, 0)) else (0, 2)

abbrev vT2 (a b : Int) : AV := .tup (.acons (vI a) (.acons (vI b) .anil))

theorem fn18 (r : Int) (xs : List Int) (n : Int) : Ox.Fn Go.Proofs.Try.prog 18 (.acons (vD r xs) (.acons (vI n) .anil)) (· = vT2 (beforeS r xs n).1 (beforeS r xs n).2) := by
  refine Ox.Fn.intro xok Go.Proofs.Try.func18 rfl Go.Proofs.Try.call18 (Nat.le_of_ble_eq_true rfl) (fun E M0 up => ?_)
  refine JK.start ?_
  (repeat (first | refine zs rfl ?_ | refine zg rfl rfl rfl ?_ | refine zd ?_ | refine JK.fin ?_ | refine JK.ret ?_ | refine zc rfl (fn20 _ _) rfl rfl ?_ | refine ze rfl (fn20 _ _) rfl ?_ | refine zk rfl rfl (fun _ => fn20 _ _) rfl rfl ?_))
  refine JK.cond rfl (fun hc => ?_) (fun hc => ?_)
  · (simp only [↓bif_or, ↓bif_and, ↓Bool.or_eq_true, ↓Bool.or_eq_false_iff, ↓Bool.and_eq_true, ↓Bool.and_eq_false_iff, ↓Bool.not_eq_true', ↓Bool.not_eq_false', ↓decide_eq_true_eq, ↓decide_eq_false_iff_not, ↓beq_iff_eq, ↓bne_iff_ne, ↓bne_eq_false_iff_eq, ↓ne_eq, ↓beq_eq_false_iff_ne, ↓Bool.not_eq_true] at hc; try simp only [Ty.dflt, Int.toNat_natCast] at hc)
    (repeat (first | refine zs rfl ?_ | refine zg rfl rfl rfl ?_ | refine zd ?_ | refine JK.fin ?_ | refine JK.ret ?_ | refine zc rfl (fn20 _ _) rfl rfl ?_ | refine ze rfl (fn20 _ _) rfl ?_ | refine zk rfl rfl (fun _ => fn20 _ _) rfl rfl ?_))
    refine ⟨.inl rfl, _, _, rfl, trivial, ?_⟩
    rw [beforeS, if_pos hc]
  · (simp only [↓bif_or, ↓bif_and, ↓Bool.or_eq_true, ↓Bool.or_eq_false_iff, ↓Bool.and_eq_true, ↓Bool.and_eq_false_iff, ↓Bool.not_eq_true', ↓Bool.not_eq_false', ↓decide_eq_true_eq, ↓decide_eq_false_iff_not, ↓beq_iff_eq, ↓bne_iff_ne, ↓bne_eq_false_iff_eq, ↓ne_eq, ↓beq_eq_false_iff_ne, ↓Bool.not_eq_true] at hc; try simp only [Ty.dflt, Int.toNat_natCast] at hc)
    (repeat (first | refine zs rfl ?_ | refine zg rfl rfl rfl ?_ | refine zd ?_ | refine JK.fin ?_ | refine JK.ret ?_ | refine zc rfl (fn47 _ _ _) rfl rfl ?_ | refine ze rfl (fn47 _ _ _) rfl ?_ | refine zk rfl rfl (fun _ => fn47 _ _ _) rfl rfl ?_))
    refine JK.cond rfl (fun hc2 => ?_) (fun hc2 => ?_)
    · (simp only [↓bif_or, ↓bif_and, ↓Bool.or_eq_true, ↓Bool.or_eq_false_iff, ↓Bool.and_eq_true, ↓Bool.and_eq_false_iff, ↓Bool.not_eq_true', ↓Bool.not_eq_false', ↓decide_eq_true_eq, ↓decide_eq_false_iff_not, ↓beq_iff_eq, ↓bne_iff_ne, ↓bne_eq_false_iff_eq, ↓ne_eq, ↓beq_eq_false_iff_ne, ↓Bool.not_eq_true] at hc2; try simp only [Ty.dflt, Int.toNat_natCast] at hc2)
      (repeat (first | refine zs rfl ?_ | refine zg rfl rfl rfl ?_ | refine zd ?_ | refine JK.fin ?_ | refine JK.ret ?_))
      refine ⟨.inl rfl, _, _, rfl, trivial, ?_⟩
      rw [beforeS, if_neg (by simpa using hc), if_neg hc2]
    · (simp only [↓bif_or, ↓bif_and, ↓Bool.or_eq_true, ↓Bool.or_eq_false_iff, ↓Bool.and_eq_true, ↓Bool.and_eq_false_iff, ↓Bool.not_eq_true', ↓Bool.not_eq_false', ↓decide_eq_true_eq, ↓decide_eq_false_iff_not, ↓beq_iff_eq, ↓bne_iff_ne, ↓bne_eq_false_iff_eq, ↓ne_eq, ↓beq_eq_false_iff_ne, ↓Bool.not_eq_true] at hc2; try simp only [Ty.dflt, Int.toNat_natCast] at hc2)
      obtain ⟨m, rfl⟩ := Int.eq_ofNat_of_zero_le hc2.1
      have hm : m < xs.length := by omega
      (repeat (first | refine zs rfl ?_ | refine zg rfl rfl rfl ?_ | refine zd ?_ | refine JK.fin ?_ | refine JK.ret ?_ | refine zc rfl (fn48 _ _ _ hm) rfl rfl ?_ | refine ze rfl (fn48 _ _ _ hm) rfl ?_ | refine zk rfl rfl (fun _ => fn48 _ _ _ hm) rfl rfl ?_))
      refine JK.cond rfl (fun hc3 => ?_) (fun hc3 => ?_)
      · (simp only [↓bif_or, ↓bif_and, ↓Bool.or_eq_true, ↓Bool.or_eq_false_iff, ↓Bool.and_eq_true, ↓Bool.and_eq_false_iff, ↓Bool.not_eq_true', ↓Bool.not_eq_false', ↓decide_eq_true_eq, ↓decide_eq_false_iff_not, ↓beq_iff_eq, ↓bne_iff_ne, ↓bne_eq_false_iff_eq, ↓ne_eq, ↓beq_eq_false_iff_ne, ↓Bool.not_eq_true] at hc3; try simp only [Ty.dflt, Int.toNat_natCast] at hc3)
        (repeat (first | refine zs rfl ?_ | refine zg rfl rfl rfl ?_ | refine zd ?_ | refine JK.fin ?_ | refine JK.ret ?_))
        refine ⟨.inl rfl, _, _, rfl, trivial, ?_⟩
        rw [beforeS, if_neg (by simpa using hc), if_pos hc2, Int.toNat_natCast, if_pos hc3]
      · (simp only [↓bif_or, ↓bif_and, ↓Bool.or_eq_true, ↓Bool.or_eq_false_iff, ↓Bool.and_eq_true, ↓Bool.and_eq_false_iff, ↓Bool.not_eq_true', ↓Bool.not_eq_false', ↓decide_eq_true_eq, ↓decide_eq_false_iff_not, ↓beq_iff_eq, ↓bne_iff_ne, ↓bne_eq_false_iff_eq, ↓ne_eq, ↓beq_eq_false_iff_ne, ↓Bool.not_eq_true] at hc3; try simp only [Ty.dflt, Int.toNat_natCast] at hc3)
        (repeat (first | refine zs rfl ?_ | refine zg rfl rfl rfl ?_ | refine zd ?_ | refine JK.fin ?_ | refine JK.ret ?_ | refine zc rfl (fn48 _ _ _ hm) rfl rfl ?_ | refine ze rfl (fn48 _ _ _ hm) rfl ?_ | refine zk rfl rfl (fun _ => fn48 _ _ _ hm) rfl rfl ?_))
        refine ⟨.inl rfl, _, _, rfl, trivial, ?_⟩
        rw [beforeS, if_neg (by simpa using hc), if_pos hc2, Int.toNat_natCast, if_neg hc3]
end Go.Proofs.Ytbmgijgnbilnoaa

namespace Go.Proofs.Ytbmgijgnbilnoaa
open Go Go.RowKit Ox
set_option maxHeartbeats 1000000
attribute [local irreducible] JC JL JK JW

abbrev binT : Ty := .cons dayT (.cons (.slice (.int .i64)) (.cons (.slice (.int .i64)) .nil))

/-- The books before the first 'k' books. -/
def lasts (xs : List Int) (k : Nat) : List Int := (List.range k).map fun i => lastB xs (xs.getD i 0) i
/-- The next books, as far as the first 'k' books say. -/
def nexts (xs : List Int) : Nat → List Int
  | 0 => []
  | k + 1 => bif decide (0 ≤ lastB xs (xs.getD k 0) k) then (nexts xs k ++ [-1]).set (lastB xs (xs.getD k 0) k).toNat k else nexts xs k ++ [-1]
/-- One more than the last book before the k-th for each block. -/
def seenB (xs : List Int) (k : Nat) : List Int := (List.range 8).map fun (b : Nat) => lastB xs (b : Int) k + 1

abbrev vBin (r : Int) (xs : List Int) : AV := .val (.ptr binT) (some ((r, xs, ()), lasts xs xs.length, nexts xs xs.length, ()))

theorem lasts_succ (xs : List Int) (k : Nat) : lasts xs (k + 1) = lasts xs k ++ [lastB xs (xs.getD k 0) k] := by simp [lasts, List.range_succ]
theorem lasts_length (xs : List Int) (k : Nat) : (lasts xs k).length = k := by simp [lasts]
theorem nexts_length (xs : List Int) : ∀ k, (nexts xs k).length = k
  | 0 => rfl
  | k + 1 => by rw [nexts]; cases decide (0 ≤ lastB xs (xs.getD k 0) k) <;> simp [nexts_length xs k]
theorem lastB_bd (xs : List Int) (x : Int) : ∀ k, -1 ≤ lastB xs x k ∧ lastB xs x k < k
  | 0 => by simp [lastB]
  | k + 1 => by have := lastB_bd xs x k; rw [lastB]; split <;> omega
theorem seenB_get (xs : List Int) (k : Nat) {b : Int} (h0 : 0 ≤ b) (h7 : b ≤ 7) : (seenB xs k).getD b.toNat 0 = lastB xs b k + 1 := by
  have h : b.toNat < 8 := by omega
  rw [seenB, List.getD_eq_getElem?_getD, List.getElem?_map, List.getElem?_range h]
  simp [Int.toNat_of_nonneg h0]
theorem seenB_succ (xs : List Int) (k : Nat) {b : Int} (h0 : 0 ≤ b) (h7 : b ≤ 7) (hb : xs.getD k 0 = b) : (seenB xs k).set b.toNat (k + 1) = seenB xs (k + 1) := by
  apply List.ext_getElem (by simp [seenB])
  intro i h1 h2
  have h2' : i < 8 := by simpa [seenB] using h2
  rw [List.getElem_set]
  simp only [seenB, List.getElem_map, List.getElem_range, lastB, hb]
  split
  · rename_i e; rw [if_pos (by omega)]
  · rename_i e; rw [if_neg (by omega)]

theorem fn56 (r : Int) (xs : List Int) (hx : ∀ x ∈ xs, 0 ≤ x ∧ x ≤ 7) (hl : xs.length ≤ 24) : Ox.Fn Go.Proofs.Try.prog 56 (.acons (vD r xs) .anil) (· = vBin r xs) := by
  refine Ox.Fn.intro xok Go.Proofs.Try.func56 rfl Go.Proofs.Try.call56 (Nat.le_of_ble_eq_true rfl) (fun E M0 up => ?_)
  refine JK.start ?_
  (repeat (first | refine zs rfl ?_ | refine zg rfl rfl rfl ?_ | refine zd ?_ | refine JK.fin ?_ | refine JK.ret ?_))
  refine JK.ghostC 1 1 3 (.int .i64) rfl rfl ?_
  refine JK.ghostC 1 2 3 (.int .i64) rfl rfl ?_
  refine JK.loop (fun k : Nat => ⟨[(3, .lf (.optr 1 [])), (4, .lf (.optr 2 [])), (12, vL xs), (13, vI xs.length), (14, vI (k : Int))],
    [(1, .cell binT (.mix (vD r xs) (.mix (.lf (.osl 3)) (.mix (.lf (.osl 4)) (.val .nil ()))))), (2, .cell (.arr 8 (.int .i64)) (.val (.arr 8 (.int .i64)) (seenB xs k))), (3, .sl 3 (.int .i64) (lasts xs k)), (4, .sl 3 (.int .i64) (nexts xs k))], 5⟩)
    (fun k => k ≤ xs.length) (fun k => xs.length - k) 0 (by simp) (by (exact JW.Auto rfl)) fun k hk => ?_
  (repeat (first | refine zs rfl ?_ | refine zg rfl rfl rfl ?_ | refine zd ?_ | refine JK.fin ?_ | refine JK.ret ?_))
  refine JK.cond rfl (fun hc => ?_) (fun hc => ?_)
  · (simp only [↓bif_or, ↓bif_and, ↓Bool.or_eq_true, ↓Bool.or_eq_false_iff, ↓Bool.and_eq_true, ↓Bool.and_eq_false_iff, ↓Bool.not_eq_true', ↓Bool.not_eq_false', ↓decide_eq_true_eq, ↓decide_eq_false_iff_not, ↓beq_iff_eq, ↓bne_iff_ne, ↓bne_eq_false_iff_eq, ↓ne_eq, ↓beq_eq_false_iff_ne, ↓Bool.not_eq_true] at hc; try simp only [Ty.dflt, Int.toNat_natCast] at hc)
    have hk' : k < xs.length := by omega
    have hb := hx (xs.getD k 0) (by rw [getD_nat xs hk']; exact List.getElem_mem hk')
    have hlb := lastB_bd xs (xs.getD k 0) k
    have hsb := seenB_get xs k hb.1 hb.2
    have hll := lasts_length xs k
    have hnl := nexts_length xs k
    generalize hlv : lastB xs (xs.getD k 0) k = lv at hlb hsb
    (repeat (first | refine zs rfl ?_ | refine zg rfl rfl rfl ?_ | refine JK.fin ?_ | refine JK.ret ?_))
    refine JK.drawTo (xok rfl rfl rfl rfl) (Go.Proofs.Try.f56.body.getD .skip) ⟨[(3, .lf (.optr 1 [])), (4, .lf (.optr 2 [])), (5, vI k), (6, vI (xs.getD k 0)), (12, vL xs), (13, vI xs.length), (14, vI (k : Int))],
    [(1, .cell binT (.mix (vD r xs) (.mix (.lf (.osl 3)) (.mix (.lf (.osl 4)) (.val .nil ()))))), (2, .cell (.arr 8 (.int .i64)) (.val (.arr 8 (.int .i64)) (seenB xs k))), (3, .sl 3 (.int .i64) (lasts xs k ++ [(seenB xs k).getD (xs.getD k 0).toNat 0 - 1])), (4, .sl 3 (.int .i64) (nexts xs k ++ [-1]))], 5⟩ rfl 24 rfl ?_ ?_
    · (refine JF.First 0 (xok rfl rfl rfl rfl) rfl rfl ?_; refine JF.First 1 (xok rfl rfl rfl rfl) rfl rfl ?_; refine JF.First 2 (xok rfl rfl rfl rfl) rfl rfl ?_; refine JF.First 3 (xok rfl rfl rfl rfl) rfl rfl ?_; refine JF.First 4 (xok rfl rfl rfl rfl) rfl rfl ?_; refine JF.First 6 (xok rfl rfl rfl rfl) rfl rfl ?_; refine JF.First 7 (xok rfl rfl rfl rfl) rfl rfl ?_; refine JF.First 12 (xok rfl rfl rfl rfl) rfl rfl ?_; refine JF.First 13 (xok rfl rfl rfl rfl) rfl rfl ?_; refine JF.First 14 (xok rfl rfl rfl rfl) rfl rfl ?_; refine JF.Float 5 (xok rfl rfl rfl rfl) rfl rfl ?_; refine JF.Float 8 (xok rfl rfl rfl rfl) rfl rfl ?_; refine JF.Float 9 (xok rfl rfl rfl rfl) rfl rfl ?_; refine JF.Float 15 (xok rfl rfl rfl rfl) rfl rfl ?_; refine JF.Branch 10 [16] (xok rfl rfl rfl rfl) ?_ ?_; (focus (repeat (first | exact StF.nil | refine StF.One rfl rfl rfl ?_))); refine BrF.one rfl rfl ?_ (BrF.one rfl rfl ?_ BrF.nil); (· (first | refine JL.Q1 (xok rfl rfl rfl rfl) rfl rfl ?_ | refine JL.G1 (xok rfl rfl rfl rfl) rfl rfl rfl ?_ | refine JL.M1 (xok rfl rfl rfl rfl) rfl rfl ?_ | refine JL.M0 (xok rfl rfl rfl rfl) rfl ?_ | refine JL.Q0 (xok rfl rfl rfl rfl) rfl ?_); refine JL.finN ?_; refine JF.Branch 11 [16] (xok rfl rfl rfl rfl) ?_ ?_; (focus (repeat (first | exact StF.nil | refine StF.One rfl rfl rfl ?_))); refine BrF.one rfl rfl ?_ (BrF.one rfl rfl ?_ BrF.nil); (· (first | refine JL.Q1 (xok rfl rfl rfl rfl) rfl rfl ?_ | refine JL.G1 (xok rfl rfl rfl rfl) rfl rfl rfl ?_ | refine JL.M1 (xok rfl rfl rfl rfl) rfl rfl ?_ | refine JL.M0 (xok rfl rfl rfl rfl) rfl ?_ | refine JL.Q0 (xok rfl rfl rfl rfl) rfl ?_); refine JL.finN ?_; refine JF.Branch 16 [] (xok rfl rfl rfl rfl) ?_ ?_; (focus (repeat (first | exact StF.nil | refine StF.One rfl rfl rfl ?_))); refine BrF.one rfl rfl ?_ BrF.nil; (· (first | refine JL.Q1 (xok rfl rfl rfl rfl) rfl rfl ?_ | refine JL.G1 (xok rfl rfl rfl rfl) rfl rfl rfl ?_ | refine JL.M1 (xok rfl rfl rfl rfl) rfl rfl ?_ | refine JL.M0 (xok rfl rfl rfl rfl) rfl ?_ | refine JL.Q0 (xok rfl rfl rfl rfl) rfl ?_); refine JL.finN ?_; refine JF.Branch 17 [] (xok rfl rfl rfl rfl) ?_ ?_; (focus (repeat (first | exact StF.nil | refine StF.One rfl rfl rfl ?_))); refine BrF.one rfl rfl ?_ BrF.nil; (· (first | refine JL.Q1 (xok rfl rfl rfl rfl) rfl rfl ?_ | refine JL.G1 (xok rfl rfl rfl rfl) rfl rfl rfl ?_ | refine JL.M1 (xok rfl rfl rfl rfl) rfl rfl ?_ | refine JL.M0 (xok rfl rfl rfl rfl) rfl ?_ | refine JL.Q0 (xok rfl rfl rfl rfl) rfl ?_); refine JL.finN ?_; refine JF.Float 18 (xok rfl rfl rfl rfl) rfl rfl ?_; refine JF.Float 19 (xok rfl rfl rfl rfl) rfl rfl ?_; refine JF.Branch 20 [] (xok rfl rfl rfl rfl) ?_ ?_; (focus (repeat (first | exact StF.nil | refine StF.One rfl rfl rfl ?_))); refine BrF.one rfl rfl ?_ BrF.nil; (· (first | refine JL.Q1 (xok rfl rfl rfl rfl) rfl rfl ?_ | refine JL.G1 (xok rfl rfl rfl rfl) rfl rfl rfl ?_ | refine JL.M1 (xok rfl rfl rfl rfl) rfl rfl ?_ | refine JL.M0 (xok rfl rfl rfl rfl) rfl ?_ | refine JL.Q0 (xok rfl rfl rfl rfl) rfl ?_); refine JL.finN ?_; refine JF.Float 21 (xok rfl rfl rfl rfl) rfl rfl ?_; refine JF.Float 22 (xok rfl rfl rfl rfl) rfl rfl ?_; refine JF.Branch 23 [] (xok rfl rfl rfl rfl) ?_ ?_; (focus (repeat (first | exact StF.nil | refine StF.One rfl rfl rfl ?_))); refine BrF.one rfl rfl ?_ BrF.nil; (· (first | refine JL.Q1 (xok rfl rfl rfl rfl) rfl rfl ?_ | refine JL.G1 (xok rfl rfl rfl rfl) rfl rfl rfl ?_ | refine JL.M1 (xok rfl rfl rfl rfl) rfl rfl ?_ | refine JL.M0 (xok rfl rfl rfl rfl) rfl ?_ | refine JL.Q0 (xok rfl rfl rfl rfl) rfl ?_); refine JL.finN ?_; refine JF.Done (xok rfl rfl rfl rfl) ?_ ?_; (focus (repeat (first | exact StF.nil | refine StF.One rfl rfl rfl ?_))); ((exact JW.Auto rfl))))))); (· (first | refine JL.Q1 (xok rfl rfl rfl rfl) rfl rfl ?_ | refine JL.G1 (xok rfl rfl rfl rfl) rfl rfl rfl ?_ | refine JL.M1 (xok rfl rfl rfl rfl) rfl rfl ?_ | refine JL.M0 (xok rfl rfl rfl rfl) rfl ?_ | refine JL.Q0 (xok rfl rfl rfl rfl) rfl ?_); refine JL.finN ?_; refine JF.Branch 11 [] (xok rfl rfl rfl rfl) ?_ ?_; (focus (repeat (first | exact StF.nil | refine StF.One rfl rfl rfl ?_))); refine BrF.one rfl rfl ?_ BrF.nil; (· (first | refine JL.Q1 (xok rfl rfl rfl rfl) rfl rfl ?_ | refine JL.G1 (xok rfl rfl rfl rfl) rfl rfl rfl ?_ | refine JL.M1 (xok rfl rfl rfl rfl) rfl rfl ?_ | refine JL.M0 (xok rfl rfl rfl rfl) rfl ?_ | refine JL.Q0 (xok rfl rfl rfl rfl) rfl ?_); refine JL.finN ?_; refine JF.Branch 17 [] (xok rfl rfl rfl rfl) ?_ ?_; (focus (repeat (first | exact StF.nil | refine StF.One rfl rfl rfl ?_))); refine BrF.one rfl rfl ?_ BrF.nil; (· (first | refine JL.Q1 (xok rfl rfl rfl rfl) rfl rfl ?_ | refine JL.G1 (xok rfl rfl rfl rfl) rfl rfl rfl ?_ | refine JL.M1 (xok rfl rfl rfl rfl) rfl rfl ?_ | refine JL.M0 (xok rfl rfl rfl rfl) rfl ?_ | refine JL.Q0 (xok rfl rfl rfl rfl) rfl ?_); refine JL.finN ?_; refine JF.Float 18 (xok rfl rfl rfl rfl) rfl rfl ?_; refine JF.Float 19 (xok rfl rfl rfl rfl) rfl rfl ?_; refine JF.Branch 20 [] (xok rfl rfl rfl rfl) ?_ ?_; (focus (repeat (first | exact StF.nil | refine StF.One rfl rfl rfl ?_))); refine BrF.one rfl rfl ?_ BrF.nil; (· (first | refine JL.Q1 (xok rfl rfl rfl rfl) rfl rfl ?_ | refine JL.G1 (xok rfl rfl rfl rfl) rfl rfl rfl ?_ | refine JL.M1 (xok rfl rfl rfl rfl) rfl rfl ?_ | refine JL.M0 (xok rfl rfl rfl rfl) rfl ?_ | refine JL.Q0 (xok rfl rfl rfl rfl) rfl ?_); refine JL.finN ?_; refine JF.Float 21 (xok rfl rfl rfl rfl) rfl rfl ?_; refine JF.Float 22 (xok rfl rfl rfl rfl) rfl rfl ?_; refine JF.Branch 23 [] (xok rfl rfl rfl rfl) ?_ ?_; (focus (repeat (first | exact StF.nil | refine StF.One rfl rfl rfl ?_))); refine BrF.one rfl rfl ?_ BrF.nil; (· (first | refine JL.Q1 (xok rfl rfl rfl rfl) rfl rfl ?_ | refine JL.G1 (xok rfl rfl rfl rfl) rfl rfl rfl ?_ | refine JL.M1 (xok rfl rfl rfl rfl) rfl rfl ?_ | refine JL.M0 (xok rfl rfl rfl rfl) rfl ?_ | refine JL.Q0 (xok rfl rfl rfl rfl) rfl ?_); refine JL.finN ?_; refine JF.Done (xok rfl rfl rfl rfl) ?_ ?_; (focus (repeat (first | exact StF.nil | refine StF.One rfl rfl rfl ?_))); ((exact JW.Auto rfl)))))))); (· (first | refine JL.Q1 (xok rfl rfl rfl rfl) rfl rfl ?_ | refine JL.G1 (xok rfl rfl rfl rfl) rfl rfl rfl ?_ | refine JL.M1 (xok rfl rfl rfl rfl) rfl rfl ?_ | refine JL.M0 (xok rfl rfl rfl rfl) rfl ?_ | refine JL.Q0 (xok rfl rfl rfl rfl) rfl ?_); refine JL.finN ?_; refine JF.Branch 10 [] (xok rfl rfl rfl rfl) ?_ ?_; (focus (repeat (first | exact StF.nil | refine StF.One rfl rfl rfl ?_))); refine BrF.one rfl rfl ?_ BrF.nil; (· (first | refine JL.Q1 (xok rfl rfl rfl rfl) rfl rfl ?_ | refine JL.G1 (xok rfl rfl rfl rfl) rfl rfl rfl ?_ | refine JL.M1 (xok rfl rfl rfl rfl) rfl rfl ?_ | refine JL.M0 (xok rfl rfl rfl rfl) rfl ?_ | refine JL.Q0 (xok rfl rfl rfl rfl) rfl ?_); refine JL.finN ?_; refine JF.Branch 11 [] (xok rfl rfl rfl rfl) ?_ ?_; (focus (repeat (first | exact StF.nil | refine StF.One rfl rfl rfl ?_))); refine BrF.one rfl rfl ?_ BrF.nil; (· (first | refine JL.Q1 (xok rfl rfl rfl rfl) rfl rfl ?_ | refine JL.G1 (xok rfl rfl rfl rfl) rfl rfl rfl ?_ | refine JL.M1 (xok rfl rfl rfl rfl) rfl rfl ?_ | refine JL.M0 (xok rfl rfl rfl rfl) rfl ?_ | refine JL.Q0 (xok rfl rfl rfl rfl) rfl ?_); refine JL.finN ?_; refine JF.Branch 17 [] (xok rfl rfl rfl rfl) ?_ ?_; (focus (repeat (first | exact StF.nil | refine StF.One rfl rfl rfl ?_))); refine BrF.one rfl rfl ?_ BrF.nil; (· (first | refine JL.Q1 (xok rfl rfl rfl rfl) rfl rfl ?_ | refine JL.G1 (xok rfl rfl rfl rfl) rfl rfl rfl ?_ | refine JL.M1 (xok rfl rfl rfl rfl) rfl rfl ?_ | refine JL.M0 (xok rfl rfl rfl rfl) rfl ?_ | refine JL.Q0 (xok rfl rfl rfl rfl) rfl ?_); refine JL.finN ?_; refine JF.Float 18 (xok rfl rfl rfl rfl) rfl rfl ?_; refine JF.Float 19 (xok rfl rfl rfl rfl) rfl rfl ?_; refine JF.Branch 20 [] (xok rfl rfl rfl rfl) ?_ ?_; (focus (repeat (first | exact StF.nil | refine StF.One rfl rfl rfl ?_))); refine BrF.one rfl rfl ?_ BrF.nil; (· (first | refine JL.Q1 (xok rfl rfl rfl rfl) rfl rfl ?_ | refine JL.G1 (xok rfl rfl rfl rfl) rfl rfl rfl ?_ | refine JL.M1 (xok rfl rfl rfl rfl) rfl rfl ?_ | refine JL.M0 (xok rfl rfl rfl rfl) rfl ?_ | refine JL.Q0 (xok rfl rfl rfl rfl) rfl ?_); refine JL.finN ?_; refine JF.Float 21 (xok rfl rfl rfl rfl) rfl rfl ?_; refine JF.Float 22 (xok rfl rfl rfl rfl) rfl rfl ?_; refine JF.Branch 23 [] (xok rfl rfl rfl rfl) ?_ ?_; (focus (repeat (first | exact StF.nil | refine StF.One rfl rfl rfl ?_))); refine BrF.one rfl rfl ?_ BrF.nil; (· (first | refine JL.Q1 (xok rfl rfl rfl rfl) rfl rfl ?_ | refine JL.G1 (xok rfl rfl rfl rfl) rfl rfl rfl ?_ | refine JL.M1 (xok rfl rfl rfl rfl) rfl rfl ?_ | refine JL.M0 (xok rfl rfl rfl rfl) rfl ?_ | refine JL.Q0 (xok rfl rfl rfl rfl) rfl ?_); refine JL.finN ?_; refine JF.Done (xok rfl rfl rfl rfl) ?_ ?_; (focus (repeat (first | exact StF.nil | refine StF.One rfl rfl rfl ?_))); ((exact JW.Auto rfl)))))))))
    · rw [hsb, show lv + 1 - 1 = lv by omega, show lasts xs k ++ [lv] = lasts xs (k + 1) by rw [lasts_succ, hlv]]
      (repeat (first | refine zs rfl ?_ | refine zg rfl rfl rfl ?_ | refine zd ?_ | refine JK.fin ?_ | refine JK.ret ?_))
      refine JK.cond rfl (fun hd => ?_) (fun hd => ?_)
      · (simp only [↓bif_or, ↓bif_and, ↓Bool.or_eq_true, ↓Bool.or_eq_false_iff, ↓Bool.and_eq_true, ↓Bool.and_eq_false_iff, ↓Bool.not_eq_true', ↓Bool.not_eq_false', ↓decide_eq_true_eq, ↓decide_eq_false_iff_not, ↓beq_iff_eq, ↓bne_iff_ne, ↓bne_eq_false_iff_eq, ↓ne_eq, ↓beq_eq_false_iff_ne, ↓Bool.not_eq_true] at hd; try simp only [Ty.dflt, Int.toNat_natCast] at hd)
        rw [hsb] at hd
        have hnl1 : (nexts xs k ++ [(-1 : Int)]).length = k + 1 := by simp [hnl]
        (repeat (first | refine zs rfl ?_ | refine zg rfl rfl rfl ?_ | refine JK.fin ?_ | refine JK.ret ?_))
        refine JK.drawTo (xok rfl rfl rfl rfl) (Go.Proofs.Try.f56.body.getD .skip) ⟨[(3, .lf (.optr 1 [])), (4, .lf (.optr 2 [])), (5, vI k), (6, vI (xs.getD k 0)), (12, vL xs), (13, vI xs.length), (14, vI (k : Int))],
          [(1, .cell binT (.mix (vD r xs) (.mix (.lf (.osl 3)) (.mix (.lf (.osl 4)) (.val .nil ()))))), (2, .cell (.arr 8 (.int .i64)) (.val (.arr 8 (.int .i64)) (seenB xs k))), (3, .sl 3 (.int .i64) (lasts xs (k + 1))), (4, .sl 3 (.int .i64) ((nexts xs k ++ [-1]).set ((seenB xs k).getD (xs.getD k 0).toNat 0 - 1).toNat k))], 5⟩ rfl 11 rfl ?_ ?_
        · (refine JF.First 0 (xok rfl rfl rfl rfl) rfl rfl ?_; refine JF.First 1 (xok rfl rfl rfl rfl) rfl rfl ?_; refine JF.First 2 (xok rfl rfl rfl rfl) rfl rfl ?_; refine JF.First 4 (xok rfl rfl rfl rfl) rfl rfl ?_; refine JF.First 5 (xok rfl rfl rfl rfl) rfl rfl ?_; refine JF.First 8 (xok rfl rfl rfl rfl) rfl rfl ?_; refine JF.Float 3 (xok rfl rfl rfl rfl) rfl rfl ?_; refine JF.Float 6 (xok rfl rfl rfl rfl) rfl rfl ?_; refine JF.Float 7 (xok rfl rfl rfl rfl) rfl rfl ?_; refine JF.Float 9 (xok rfl rfl rfl rfl) rfl rfl ?_; refine JF.Branch 10 [] (xok rfl rfl rfl rfl) ?_ ?_; (focus (repeat (first | exact StF.nil | refine StF.One rfl rfl rfl ?_))); refine BrF.one rfl rfl ?_ BrF.nil; (· (first | refine JL.Q1 (xok rfl rfl rfl rfl) rfl rfl ?_ | refine JL.G1 (xok rfl rfl rfl rfl) rfl rfl rfl ?_ | refine JL.M1 (xok rfl rfl rfl rfl) rfl rfl ?_ | refine JL.M0 (xok rfl rfl rfl rfl) rfl ?_ | refine JL.Q0 (xok rfl rfl rfl rfl) rfl ?_); refine JL.finN ?_; refine JF.Done (xok rfl rfl rfl rfl) ?_ ?_; (focus (repeat (first | exact StF.nil | refine StF.One rfl rfl rfl ?_))); ((exact JW.Auto rfl))))
        · rw [hsb, show lv + 1 - 1 = lv by omega, show (nexts xs k ++ [(-1 : Int)]).set lv.toNat (k : Int) = nexts xs (k + 1) by rw [nexts, hlv, decide_eq_true (by omega : 0 ≤ lv)]; rfl]
          (repeat (first | refine zs rfl ?_ | refine zg rfl rfl rfl ?_ | refine zd ?_ | refine JK.fin ?_ | refine JK.ret ?_))
          exact ⟨k + 1, by (refine JW.auto rfl ?_ ?_ ?_ ?_ rfl <;> (repeat' (first | exact trivial | exact rfl | refine And.intro ?_ ?_ | exact Nat.le_of_ble_eq_true rfl | refine HO.bdF ?_ | refine HO.bdP ?_ | (refine congrArg (fun z : Int => some (AV.val (.int .i64) z)) ?_; push_cast; omega) | (refine congrArg (fun z : List Int => some (HO.cell (.arr 8 (.int .i64)) (AV.val (.arr 8 (.int .i64)) z))) ?_; exact seenB_succ xs k hb.1 hb.2 rfl)))), by omega, by omega⟩
      · (simp only [↓bif_or, ↓bif_and, ↓Bool.or_eq_true, ↓Bool.or_eq_false_iff, ↓Bool.and_eq_true, ↓Bool.and_eq_false_iff, ↓Bool.not_eq_true', ↓Bool.not_eq_false', ↓decide_eq_true_eq, ↓decide_eq_false_iff_not, ↓beq_iff_eq, ↓bne_iff_ne, ↓bne_eq_false_iff_eq, ↓ne_eq, ↓beq_eq_false_iff_ne, ↓Bool.not_eq_true] at hd; try simp only [Ty.dflt, Int.toNat_natCast] at hd)
        rw [hsb] at hd
        rw [show nexts xs k ++ [(-1 : Int)] = nexts xs (k + 1) by rw [nexts, hlv, decide_eq_false (by omega : ¬ 0 ≤ lv)]; rfl]
        (repeat (first | refine zs rfl ?_ | refine zg rfl rfl rfl ?_ | refine zd ?_ | refine JK.fin ?_ | refine JK.ret ?_))
        exact ⟨k + 1, by (refine JW.auto rfl ?_ ?_ ?_ ?_ rfl <;> (repeat' (first | exact trivial | exact rfl | refine And.intro ?_ ?_ | exact Nat.le_of_ble_eq_true rfl | refine HO.bdF ?_ | refine HO.bdP ?_ | (refine congrArg (fun z : Int => some (AV.val (.int .i64) z)) ?_; push_cast; omega) | (refine congrArg (fun z : List Int => some (HO.cell (.arr 8 (.int .i64)) (AV.val (.arr 8 (.int .i64)) z))) ?_; exact seenB_succ xs k hb.1 hb.2 rfl)))), by omega, by omega⟩
  · (simp only [↓bif_or, ↓bif_and, ↓Bool.or_eq_true, ↓Bool.or_eq_false_iff, ↓Bool.and_eq_true, ↓Bool.and_eq_false_iff, ↓Bool.not_eq_true', ↓Bool.not_eq_false', ↓decide_eq_true_eq, ↓decide_eq_false_iff_not, ↓beq_iff_eq, ↓bne_iff_ne, ↓bne_eq_false_iff_eq, ↓ne_eq, ↓beq_eq_false_iff_ne, ↓Bool.not_eq_true] at hc; try simp only [Ty.dflt, Int.toNat_natCast] at hc)
    (repeat (first | refine zs rfl ?_ | refine zg rfl rfl rfl ?_ | refine zd ?_ | refine JK.fin ?_ | refine JK.ret ?_))
    obtain rfl : k = xs.length := by omega
    refine ⟨.inl rfl, _, _, rfl, trivial, ?_⟩
    rfl
end Go.Proofs.Ytbmgijgnbilnoaa

namespace Go.Proofs.Ytbmgijgnbilnoaa
open Go Go.RowKit Ox
attribute [local irreducible] JC JL JK JW

abbrev binD := (Int × List Int × Unit) × List Int × List Int × Unit
abbrev mkBin (r : Int) (xs la ne : List Int) : binD := ((r, xs, ()), la, ne, ())
abbrev vB0 (r : Int) (xs la ne : List Int) : AV := .val (.ptr binT) (some (mkBin r xs la ne))
abbrev marT : Ty := .arr 8 (.int .i64)
abbrev vM (m : List Int) : AV := .val marT m
abbrev benT : Ty := .cons marT (.cons .bool .nil)
abbrev vBs (l : List (List Int × Bool × Unit)) : AV := .val (.slice benT) l

theorem take_snoc {α : Type} {xs : List α} {i : Nat} (h : i < xs.length) : xs.take (i + 1) = xs.take i ++ [xs[i]] := by
  rw [List.take_succ, List.getElem?_eq_getElem h]; rfl

theorem fn58 (r : Int) (xs la ne : List Int) : Ox.Fn Go.Proofs.Try.prog 58 (.acons (vB0 r xs la ne) .anil) (· = vI (la.countP (decide <| · < 0) : Nat)) := by
  refine Ox.Fn.intro xok Go.Proofs.Try.func58 rfl Go.Proofs.Try.call58 (Nat.le_of_ble_eq_true rfl) (fun E M0 up => ?_)
  refine JK.start ?_
  refine JK.lenOf 0 rfl fun hlen => ?_
  replace hlen : la.length ≤ 9223372036854775807 := hlen.2.1.1
  (repeat (first | refine zs rfl ?_ | refine zg rfl rfl rfl ?_ | refine zd ?_ | refine JK.fin ?_ | refine JK.ret ?_))
  refine JK.loop (fun i : Nat => ⟨[(3, vI ((la.take i).countP (decide <| · < 0) : Nat)), (9, vL la), (10, vI la.length), (11, vI (i : Int))], [], 0⟩) (fun i => i ≤ la.length) (fun i => la.length - i) 0 (by simp) (by (exact JW.Auto rfl)) fun i hi => ?_
  have hcp := List.countP_le_length (p := (decide <| · < (0 : Int))) (l := la.take i)
  have htl : (la.take i).length ≤ i := List.length_take_le _ _
  (repeat (first | refine zs rfl ?_ | refine zg rfl rfl rfl ?_ | refine zd ?_ | refine JK.fin ?_ | refine JK.ret ?_))
  refine JK.cond rfl (fun hc => ?_) (fun hc => ?_)
  · (simp only [↓bif_or, ↓bif_and, ↓Bool.or_eq_true, ↓Bool.or_eq_false_iff, ↓Bool.and_eq_true, ↓Bool.and_eq_false_iff, ↓Bool.not_eq_true', ↓Bool.not_eq_false', ↓decide_eq_true_eq, ↓decide_eq_false_iff_not, ↓beq_iff_eq, ↓bne_iff_ne, ↓bne_eq_false_iff_eq, ↓ne_eq, ↓beq_eq_false_iff_ne, ↓Bool.not_eq_true] at hc; try simp only [Ty.dflt, Int.toNat_natCast] at hc)
    have hi' : i < la.length := by omega
    have hg := getD_nat la hi' 0
    (repeat (first | refine zs rfl ?_ | refine zg rfl rfl rfl ?_ | refine zd ?_ | refine JK.fin ?_ | refine JK.ret ?_))
    refine JK.cond rfl (fun hd => ?_) (fun hd => ?_)
    · (simp only [↓bif_or, ↓bif_and, ↓Bool.or_eq_true, ↓Bool.or_eq_false_iff, ↓Bool.and_eq_true, ↓Bool.and_eq_false_iff, ↓Bool.not_eq_true', ↓Bool.not_eq_false', ↓decide_eq_true_eq, ↓decide_eq_false_iff_not, ↓beq_iff_eq, ↓bne_iff_ne, ↓bne_eq_false_iff_eq, ↓ne_eq, ↓beq_eq_false_iff_ne, ↓Bool.not_eq_true] at hd; try simp only [Ty.dflt, Int.toNat_natCast] at hd)
      rw [hg] at hd
      (repeat (first | refine zs rfl ?_ | refine zg rfl rfl rfl ?_ | refine zd ?_ | refine JK.fin ?_ | refine JK.ret ?_))
      exact ⟨i + 1, by (refine JW.auto rfl ?_ ?_ ?_ ?_ rfl <;> (repeat' (first | exact trivial | exact rfl | refine And.intro ?_ ?_ | exact Nat.le_of_ble_eq_true rfl | refine HO.bdF ?_ | refine HO.bdP ?_ | (refine congrArg (fun z : Int => some (AV.val (.int .i64) z)) ?_; push_cast; omega) | (refine congrArg (fun z : Int => some (AV.val (.int .i64) z)) ?_; rw [take_snoc hi', List.countP_append]; simp [hd])))), by omega, by omega⟩
    · (simp only [↓bif_or, ↓bif_and, ↓Bool.or_eq_true, ↓Bool.or_eq_false_iff, ↓Bool.and_eq_true, ↓Bool.and_eq_false_iff, ↓Bool.not_eq_true', ↓Bool.not_eq_false', ↓decide_eq_true_eq, ↓decide_eq_false_iff_not, ↓beq_iff_eq, ↓bne_iff_ne, ↓bne_eq_false_iff_eq, ↓ne_eq, ↓beq_eq_false_iff_ne, ↓Bool.not_eq_true] at hd; try simp only [Ty.dflt, Int.toNat_natCast] at hd)
      rw [hg] at hd
      (repeat (first | refine zs rfl ?_ | refine zg rfl rfl rfl ?_ | refine zd ?_ | refine JK.fin ?_ | refine JK.ret ?_))
      exact ⟨i + 1, by (refine JW.auto rfl ?_ ?_ ?_ ?_ rfl <;> (repeat' (first | exact trivial | exact rfl | refine And.intro ?_ ?_ | exact Nat.le_of_ble_eq_true rfl | refine HO.bdF ?_ | refine HO.bdP ?_ | (refine congrArg (fun z : Int => some (AV.val (.int .i64) z)) ?_; push_cast; omega) | (refine congrArg (fun z : Int => some (AV.val (.int .i64) z)) ?_; rw [take_snoc hi', List.countP_append]; simp [hd])))), by omega, by omega⟩
  · (simp only [↓bif_or, ↓bif_and, ↓Bool.or_eq_true, ↓Bool.or_eq_false_iff, ↓Bool.and_eq_true, ↓Bool.and_eq_false_iff, ↓Bool.not_eq_true', ↓Bool.not_eq_false', ↓decide_eq_true_eq, ↓decide_eq_false_iff_not, ↓beq_iff_eq, ↓bne_iff_ne, ↓bne_eq_false_iff_eq, ↓ne_eq, ↓beq_eq_false_iff_ne, ↓Bool.not_eq_true] at hc; try simp only [Ty.dflt, Int.toNat_natCast] at hc)
    (repeat (first | refine zs rfl ?_ | refine zg rfl rfl rfl ?_ | refine zd ?_ | refine JK.fin ?_ | refine JK.ret ?_))
    obtain rfl : i = la.length := by omega
    refine ⟨.inl rfl, _, _, rfl, trivial, ?_⟩
    rw [List.take_length]

theorem fn51 (l : List (List Int × Bool × Unit)) : Ox.Fn Go.Proofs.Try.prog 51 (.acons (vBs l) .anil) (· = vI (l.countP (fun x => !x.2.1) : Nat)) := by
  refine Ox.Fn.intro xok Go.Proofs.Try.func51 rfl Go.Proofs.Try.call51 (Nat.le_of_ble_eq_true rfl) (fun E M0 up => ?_)
  refine JK.start ?_
  refine JK.lenOf 0 rfl fun hlen => ?_
  replace hlen : l.length ≤ 9223372036854775807 := hlen.1
  (repeat (first | refine zs rfl ?_ | refine zg rfl rfl rfl ?_ | refine zd ?_ | refine JK.fin ?_ | refine JK.ret ?_))
  refine JK.loop (fun i : Nat => ⟨[(3, vI ((l.take i).countP (fun x => !x.2.1) : Nat)), (6, vBs l), (7, vI l.length), (8, vI (i : Int))], [], 0⟩) (fun i => i ≤ l.length) (fun i => l.length - i) 0 (by simp) (by (exact JW.Auto rfl)) fun i hi => ?_
  have hcp := List.countP_le_length (p := fun x : List Int × Bool × Unit => !x.2.1) (l := l.take i)
  have htl : (l.take i).length ≤ i := List.length_take_le _ _
  (repeat (first | refine zs rfl ?_ | refine zg rfl rfl rfl ?_ | refine zd ?_ | refine JK.fin ?_ | refine JK.ret ?_))
  refine JK.cond rfl (fun hc => ?_) (fun hc => ?_)
  · (simp only [↓bif_or, ↓bif_and, ↓Bool.or_eq_true, ↓Bool.or_eq_false_iff, ↓Bool.and_eq_true, ↓Bool.and_eq_false_iff, ↓Bool.not_eq_true', ↓Bool.not_eq_false', ↓decide_eq_true_eq, ↓decide_eq_false_iff_not, ↓beq_iff_eq, ↓bne_iff_ne, ↓bne_eq_false_iff_eq, ↓ne_eq, ↓beq_eq_false_iff_ne, ↓Bool.not_eq_true] at hc; try simp only [Ty.dflt, Int.toNat_natCast] at hc)
    have hi' : i < l.length := by omega
    have hg : ∀ d, l.getD i d = l[i] := fun d => by simp [List.getD_eq_getElem?_getD, List.getElem?_eq_getElem hi']
    (repeat (first | refine zs rfl ?_ | refine zg rfl rfl rfl ?_ | refine zd ?_ | refine JK.fin ?_ | refine JK.ret ?_))
    refine JK.cond rfl (fun hd => ?_) (fun hd => ?_)
    · (simp only [↓bif_or, ↓bif_and, ↓Bool.or_eq_true, ↓Bool.or_eq_false_iff, ↓Bool.and_eq_true, ↓Bool.and_eq_false_iff, ↓Bool.not_eq_true', ↓Bool.not_eq_false', ↓decide_eq_true_eq, ↓decide_eq_false_iff_not, ↓beq_iff_eq, ↓bne_iff_ne, ↓bne_eq_false_iff_eq, ↓ne_eq, ↓beq_eq_false_iff_ne, ↓Bool.not_eq_true] at hd; try simp only [Ty.dflt, Int.toNat_natCast] at hd)
      rw [hg] at hd
      (repeat (first | refine zs rfl ?_ | refine zg rfl rfl rfl ?_ | refine zd ?_ | refine JK.fin ?_ | refine JK.ret ?_))
      exact ⟨i + 1, by (refine JW.auto rfl ?_ ?_ ?_ ?_ rfl <;> (repeat' (first | exact trivial | exact rfl | refine And.intro ?_ ?_ | exact Nat.le_of_ble_eq_true rfl | refine HO.bdF ?_ | refine HO.bdP ?_ | (refine congrArg (fun z : Int => some (AV.val (.int .i64) z)) ?_; push_cast; omega) | (refine congrArg (fun z : Int => some (AV.val (.int .i64) z)) ?_; rw [take_snoc hi', List.countP_append]; simp [hd])))), by omega, by omega⟩
    · (simp only [↓bif_or, ↓bif_and, ↓Bool.or_eq_true, ↓Bool.or_eq_false_iff, ↓Bool.and_eq_true, ↓Bool.and_eq_false_iff, ↓Bool.not_eq_true', ↓Bool.not_eq_false', ↓decide_eq_true_eq, ↓decide_eq_false_iff_not, ↓beq_iff_eq, ↓bne_iff_ne, ↓bne_eq_false_iff_eq, ↓ne_eq, ↓beq_eq_false_iff_ne, ↓Bool.not_eq_true] at hd; try simp only [Ty.dflt, Int.toNat_natCast] at hd)
      rw [hg] at hd
      (repeat (first | refine zs rfl ?_ | refine zg rfl rfl rfl ?_ | refine zd ?_ | refine JK.fin ?_ | refine JK.ret ?_))
      exact ⟨i + 1, by (refine JW.auto rfl ?_ ?_ ?_ ?_ rfl <;> (repeat' (first | exact trivial | exact rfl | refine And.intro ?_ ?_ | exact Nat.le_of_ble_eq_true rfl | refine HO.bdF ?_ | refine HO.bdP ?_ | (refine congrArg (fun z : Int => some (AV.val (.int .i64) z)) ?_; push_cast; omega) | (refine congrArg (fun z : Int => some (AV.val (.int .i64) z)) ?_; rw [take_snoc hi', List.countP_append]; simp [hd])))), by omega, by omega⟩
  · (simp only [↓bif_or, ↓bif_and, ↓Bool.or_eq_true, ↓Bool.or_eq_false_iff, ↓Bool.and_eq_true, ↓Bool.and_eq_false_iff, ↓Bool.not_eq_true', ↓Bool.not_eq_false', ↓decide_eq_true_eq, ↓decide_eq_false_iff_not, ↓beq_iff_eq, ↓bne_iff_ne, ↓bne_eq_false_iff_eq, ↓ne_eq, ↓beq_eq_false_iff_ne, ↓Bool.not_eq_true] at hc; try simp only [Ty.dflt, Int.toNat_natCast] at hc)
    (repeat (first | refine zs rfl ?_ | refine zg rfl rfl rfl ?_ | refine zd ?_ | refine JK.fin ?_ | refine JK.ret ?_))
    obtain rfl : i = l.length := by omega
    refine ⟨.inl rfl, _, _, rfl, trivial, ?_⟩
    rw [List.take_length]

theorem sum_snoc (xs : List Int) (x : Int) : (xs ++ [x]).sum = xs.sum + x := by simp
theorem sum_bd {l : List Int} (h : ∀ x ∈ l, 0 ≤ x ∧ x ≤ 1) : 0 ≤ l.sum ∧ l.sum ≤ l.length := by
  induction l with
  | nil => simp
  | cons a l ih =>
    have h1 := ih fun x hx => h x (List.mem_cons_of_mem _ hx)
    have h2 := h a List.mem_cons_self
    simp only [List.sum_cons, List.length_cons]; omega

theorem fn68 (m : List Int) (hm : ∀ x ∈ m, 0 ≤ x ∧ x ≤ 1) : Ox.Fn Go.Proofs.Try.prog 68 (.acons (vM m) .anil) (· = vI m.sum) := by
  refine Ox.Fn.intro xok Go.Proofs.Try.func68 rfl Go.Proofs.Try.call68 (Nat.le_of_ble_eq_true rfl) (fun E M0 up => ?_)
  refine JK.start ?_
  refine JK.lenOf 0 rfl fun hlen => ?_
  replace hlen : m.length = 8 := hlen.1
  (repeat (first | refine zs rfl ?_ | refine zg rfl rfl rfl ?_ | refine zd ?_ | refine JK.fin ?_ | refine JK.ret ?_))
  refine JK.loop (fun i : Nat => ⟨[(3, vI (m.take i).sum), (6, vM m), (7, vI (i : Int))], [], 0⟩) (fun i => i ≤ 8) (fun i => 8 - i) 0 (by simp) (by (exact JW.Auto rfl)) fun i hi => ?_
  have hsb := sum_bd (l := m.take i) fun x hx => hm x (List.mem_of_mem_take hx)
  have htl : (m.take i).length ≤ i := List.length_take_le _ _
  (repeat (first | refine zs rfl ?_ | refine zg rfl rfl rfl ?_ | refine zd ?_ | refine JK.fin ?_ | refine JK.ret ?_))
  refine JK.cond rfl (fun hc => ?_) (fun hc => ?_)
  · (simp only [↓bif_or, ↓bif_and, ↓Bool.or_eq_true, ↓Bool.or_eq_false_iff, ↓Bool.and_eq_true, ↓Bool.and_eq_false_iff, ↓Bool.not_eq_true', ↓Bool.not_eq_false', ↓decide_eq_true_eq, ↓decide_eq_false_iff_not, ↓beq_iff_eq, ↓bne_iff_ne, ↓bne_eq_false_iff_eq, ↓ne_eq, ↓beq_eq_false_iff_ne, ↓Bool.not_eq_true] at hc; try simp only [Ty.dflt, Int.toNat_natCast] at hc)
    have hi' : i < m.length := by omega
    have hg := getD_nat m hi' 0
    have hmi := hm _ (List.getElem_mem hi')
    rw [← hg] at hmi
    (repeat (first | refine zs rfl ?_ | refine zg rfl rfl rfl ?_ | refine zd ?_ | refine JK.fin ?_ | refine JK.ret ?_))
    exact ⟨i + 1, by (refine JW.auto rfl ?_ ?_ ?_ ?_ rfl <;> (repeat' (first | exact trivial | exact rfl | refine And.intro ?_ ?_ | exact Nat.le_of_ble_eq_true rfl | refine HO.bdF ?_ | refine HO.bdP ?_ | (refine congrArg (fun z : Int => some (AV.val (.int .i64) z)) ?_; push_cast; omega) | (refine congrArg (fun z : Int => some (AV.val (.int .i64) z)) ?_; rw [take_snoc hi', sum_snoc, ← hg]; rfl)))), by omega, by omega⟩
  · (simp only [↓bif_or, ↓bif_and, ↓Bool.or_eq_true, ↓Bool.or_eq_false_iff, ↓Bool.and_eq_true, ↓Bool.and_eq_false_iff, ↓Bool.not_eq_true', ↓Bool.not_eq_false', ↓decide_eq_true_eq, ↓decide_eq_false_iff_not, ↓beq_iff_eq, ↓bne_iff_ne, ↓bne_eq_false_iff_eq, ↓ne_eq, ↓beq_eq_false_iff_ne, ↓Bool.not_eq_true] at hc; try simp only [Ty.dflt, Int.toNat_natCast] at hc)
    (repeat (first | refine zs rfl ?_ | refine zg rfl rfl rfl ?_ | refine zd ?_ | refine JK.fin ?_ | refine JK.ret ?_))
    obtain rfl : i = 8 := by omega
    refine ⟨.inl rfl, _, _, rfl, trivial, ?_⟩
    rw [← hlen, List.take_length]

theorem fn61 (r : Int) (xs la ne : List Int) (t : Int) (k : Nat) (hk : k < la.length) : Ox.Fn Go.Proofs.Try.prog 61 (.acons (vB0 r xs la ne) (.acons (vI t) (.acons (vI k) .anil))) (· = vB (decide (la.getD k 0 < t ∧ t < k))) := by
  refine Ox.Fn.intro xok Go.Proofs.Try.func61 rfl Go.Proofs.Try.call61 (Nat.le_of_ble_eq_true rfl) (fun E M0 up => ?_)
  refine JK.start ?_
  (repeat (first | refine zs rfl ?_ | refine zg rfl rfl rfl ?_ | refine zd ?_ | refine JK.fin ?_ | refine JK.ret ?_))
  refine ⟨.inl rfl, _, _, rfl, trivial, ?_⟩
  simp [Ty.dflt]

theorem fn59 {f : FuncId} {t1 t2 : Ty} {x1 : t1.den} {x2 : t2.den} (xs : List Int) (p : Int → Bool) (h : ∀ x ∈ xs, Ox.Fn Go.Proofs.Try.prog f (.acons (vI x) (.acons (.val t1 x1) (.acons (.val t2 x2) .anil))) (· = vB (p x))) :
    Ox.Fn Go.Proofs.Try.prog 59 (.acons (vL xs) (.acons (.fn f .anil (.acons (.val t1 x1) (.acons (.val t2 x2) .anil))) .anil)) (· = vI (idxB p xs 0)) := by
  refine Ox.Fn.intro xok Go.Proofs.Try.func59 rfl Go.Proofs.Try.call59 (Nat.le_of_ble_eq_true rfl) (fun E M0 up => ?_)
  refine JK.start ?_
  (repeat (first | refine zs rfl ?_ | refine zg rfl rfl rfl ?_ | refine zd ?_ | refine JK.fin ?_ | refine JK.ret ?_ | refine zc rfl (fn70 xs p h) rfl rfl ?_ | refine ze rfl (fn70 xs p h) rfl ?_ | refine zk rfl rfl (fun _ => fn70 xs p h) rfl rfl ?_))
  refine ⟨.inl rfl, _, _, rfl, trivial, ?_⟩
  rfl

theorem fn60 (r : Int) (xs la ne : List Int) (t : Int) (k : Nat) (hk : k < la.length) :
    Ox.Fn Go.Proofs.Try.prog 60 (.acons (vI t) (.acons (.val (.ptr (.ptr binT)) (some (some (mkBin r xs la ne)))) (.acons (pI k) .anil))) (· = vB (decide (la.getD k 0 < t ∧ t < k))) := by
  refine Ox.Fn.intro xok Go.Proofs.Try.func60 rfl Go.Proofs.Try.call60 (Nat.le_of_ble_eq_true rfl) (fun E M0 up => ?_)
  refine JK.start ?_
  (repeat (first | refine zs rfl ?_ | refine zg rfl rfl rfl ?_ | refine zd ?_ | refine JK.fin ?_ | refine JK.ret ?_ | refine zc rfl (fn61 r xs la ne t k hk) rfl rfl ?_ | refine ze rfl (fn61 r xs la ne t k hk) rfl ?_ | refine zk rfl rfl (fun _ => fn61 r xs la ne t k hk) rfl rfl ?_))
  refine ⟨.inl rfl, _, _, rfl, trivial, ?_⟩
  rfl

/-- 'open': the bindery of a valid day, or its error, or that of books. -/
def openE (r : Int) (xs : List Int) (bs : List Int) : Int :=
  if dayErr r xs ≠ 0 then dayErr r xs else if ∀ x ∈ bs, 0 ≤ x ∧ x ≤ (xs.length : Int) - 1 then 0 else 2

theorem dayErr_zero {r : Int} {xs : List Int} : dayErr r xs = 0 ↔ (1 ≤ r ∧ r ≤ 4) ∧ (1 ≤ xs.length ∧ xs.length ≤ 24) ∧ ∀ x ∈ xs, 0 ≤ x ∧ x ≤ 7 := by
  unfold dayErr
  by_cases h1 : r < 1 ∨ r > 4
  · rw [if_pos h1]; constructor
    · intro h; omega
    · rintro ⟨h, _⟩; omega
  · rw [if_neg h1]
    by_cases h2 : xs.length < 1 ∨ xs.length > 24
    · rw [if_pos h2]; constructor
      · intro h; omega
      · rintro ⟨_, h, _⟩; omega
    · rw [if_neg h2]
      by_cases h3 : ∀ x ∈ xs, 0 ≤ x ∧ x ≤ 7
      · rw [if_pos h3]; exact ⟨fun _ => ⟨by omega, by omega, h3⟩, fun _ => rfl⟩
      · rw [if_neg h3]; exact ⟨fun h => by omega, fun h => absurd h.2.2 h3⟩

abbrev vDay (r : Int) (xs : List Int) : binD := mkBin r xs (lasts xs xs.length) (nexts xs xs.length)
def openB (r : Int) (xs : List Int) (bs : List Int) : Option binD := if openE r xs bs = 0 then some (vDay r xs) else none

theorem fn46 (r : Int) (xs bs : List Int) : Ox.Fn Go.Proofs.Try.prog 46 (.acons (vD r xs) (.acons (vL bs) .anil)) (· = .tup (.acons (.val (.ptr binT) (openB r xs bs)) (.acons (vI (openE r xs bs)) .anil))) := by
  refine Ox.Fn.intro xok Go.Proofs.Try.func46 rfl Go.Proofs.Try.call46 (Nat.le_of_ble_eq_true rfl) (fun E M0 up => ?_)
  refine JK.start ?_
  refine JK.lenOf 0 rfl fun hlen => ?_
  replace hlen : xs.length ≤ 9223372036854775807 := hlen.2.1.1
  (repeat (first | refine zs rfl ?_ | refine zg rfl rfl rfl ?_ | refine zd ?_ | refine JK.fin ?_ | refine JK.ret ?_ | refine zc rfl (fn19 _ _) rfl rfl ?_ | refine ze rfl (fn19 _ _) rfl ?_ | refine zk rfl rfl (fun _ => fn19 _ _) rfl rfl ?_))
  refine JK.cond rfl (fun hc => ?_) (fun hc => ?_)
  · (simp only [↓bif_or, ↓bif_and, ↓Bool.or_eq_true, ↓Bool.or_eq_false_iff, ↓Bool.and_eq_true, ↓Bool.and_eq_false_iff, ↓Bool.not_eq_true', ↓Bool.not_eq_false', ↓decide_eq_true_eq, ↓decide_eq_false_iff_not, ↓beq_iff_eq, ↓bne_iff_ne, ↓bne_eq_false_iff_eq, ↓ne_eq, ↓beq_eq_false_iff_ne, ↓Bool.not_eq_true] at hc; try simp only [Ty.dflt, Int.toNat_natCast] at hc)
    (repeat (first | refine zs rfl ?_ | refine zg rfl rfl rfl ?_ | refine zd ?_ | refine JK.fin ?_ | refine JK.ret ?_))
    refine ⟨.inl rfl, _, _, rfl, trivial, ?_⟩
    have : openE r xs bs ≠ 0 := by rw [openE, if_pos hc]; exact hc
    rw [openB, if_neg this, openE, if_pos hc]
  · (simp only [↓bif_or, ↓bif_and, ↓Bool.or_eq_true, ↓Bool.or_eq_false_iff, ↓Bool.and_eq_true, ↓Bool.and_eq_false_iff, ↓Bool.not_eq_true', ↓Bool.not_eq_false', ↓decide_eq_true_eq, ↓decide_eq_false_iff_not, ↓beq_iff_eq, ↓bne_iff_ne, ↓bne_eq_false_iff_eq, ↓ne_eq, ↓beq_eq_false_iff_ne, ↓Bool.not_eq_true] at hc; try simp only [Ty.dflt, Int.toNat_natCast] at hc)
    have hv := dayErr_zero.1 (by simpa using hc)
    (repeat (first | refine zs rfl ?_ | refine zg rfl rfl rfl ?_ | refine zd ?_ | refine JK.fin ?_ | refine JK.ret ?_ | refine zc rfl (fn49 _ _ _) rfl rfl ?_ | refine ze rfl (fn49 _ _ _) rfl ?_ | refine zk rfl rfl (fun _ => fn49 _ _ _) rfl rfl ?_))
    refine JK.cond rfl (fun hd => ?_) (fun hd => ?_)
    · (simp only [↓bif_or, ↓bif_and, ↓Bool.or_eq_true, ↓Bool.or_eq_false_iff, ↓Bool.and_eq_true, ↓Bool.and_eq_false_iff, ↓Bool.not_eq_true', ↓Bool.not_eq_false', ↓decide_eq_true_eq, ↓decide_eq_false_iff_not, ↓beq_iff_eq, ↓bne_iff_ne, ↓bne_eq_false_iff_eq, ↓ne_eq, ↓beq_eq_false_iff_ne, ↓Bool.not_eq_true] at hd; try simp only [Ty.dflt, Int.toNat_natCast] at hd)
      (repeat (first | refine zs rfl ?_ | refine zg rfl rfl rfl ?_ | refine zd ?_ | refine JK.fin ?_ | refine JK.ret ?_))
      refine ⟨.inl rfl, _, _, rfl, trivial, ?_⟩
      have : openE r xs bs = 2 := by rw [openE, if_neg (by simpa using hc), if_neg hd]
      rw [openB, if_neg (by omega), this]
    · (simp only [↓bif_or, ↓bif_and, ↓Bool.or_eq_true, ↓Bool.or_eq_false_iff, ↓Bool.and_eq_true, ↓Bool.and_eq_false_iff, ↓Bool.not_eq_true', ↓Bool.not_eq_false', ↓decide_eq_true_eq, ↓decide_eq_false_iff_not, ↓beq_iff_eq, ↓bne_iff_ne, ↓bne_eq_false_iff_eq, ↓ne_eq, ↓beq_eq_false_iff_ne, ↓Bool.not_eq_true] at hd; try simp only [Ty.dflt, Int.toNat_natCast] at hd)
      have : openE r xs bs = 0 := by rw [openE, if_neg (by simpa using hc), if_pos hd]
      (repeat (first | refine zs rfl ?_ | refine zg rfl rfl rfl ?_ | refine zd ?_ | refine JK.fin ?_ | refine JK.ret ?_ | refine zc rfl (fn56 r xs hv.2.2 hv.2.1.2) rfl rfl ?_ | refine ze rfl (fn56 r xs hv.2.2 hv.2.1.2) rfl ?_ | refine zk rfl rfl (fun _ => fn56 r xs hv.2.2 hv.2.1.2) rfl rfl ?_))
      refine ⟨.inl rfl, _, _, rfl, trivial, ?_⟩
      rw [openB, if_pos this, this]
end Go.Proofs.Ytbmgijgnbilnoaa

namespace Go.Proofs.Ytbmgijgnbilnoaa
open Go Go.RowKit Ox
attribute [local irreducible] JC JL JK JW

abbrev vLs (l : List (List Int)) : AV := .val (.slice (.slice (.int .i64))) l
def curveR (r : Int) (xs : List Int) : List Int := if dayErr r xs = 0 then (List.range 4).map fun m : Nat => leastS ((m : Int) + 1) xs else []
theorem fn30 (r : Int) (xs : List Int) : Ox.Fn Go.Proofs.Try.prog 30 (.acons (vD r xs) .anil) (· = .tup (.acons (vL (curveR r xs)) (.acons (vI (dayErr r xs)) .anil))) := by
  refine Ox.Fn.intro xok Go.Proofs.Try.func30 rfl Go.Proofs.Try.call30 (Nat.le_of_ble_eq_true rfl) (fun E M0 up => ?_)
  refine JK.start ?_
  have h20 := fn20 r xs
  (repeat (first | refine zs rfl ?_ | refine zg rfl rfl rfl ?_ | refine zd ?_ | refine JK.fin ?_ | refine JK.ret ?_ | refine zc rfl (h20) rfl rfl ?_ | refine ze rfl (h20) rfl ?_ | refine zk rfl rfl (fun _ => h20) rfl rfl ?_))
  refine JK.cond rfl (fun hc => ?_) (fun hc => ?_)
  · (simp only [↓bif_or, ↓bif_and, ↓Bool.or_eq_true, ↓Bool.or_eq_false_iff, ↓Bool.and_eq_true, ↓Bool.and_eq_false_iff, ↓Bool.not_eq_true', ↓Bool.not_eq_false', ↓decide_eq_true_eq, ↓decide_eq_false_iff_not, ↓beq_iff_eq, ↓bne_iff_ne, ↓bne_eq_false_iff_eq, ↓ne_eq, ↓beq_eq_false_iff_ne, ↓Bool.not_eq_true] at hc; try simp only [Ty.dflt, Int.toNat_natCast] at hc)
    (repeat (first | refine zs rfl ?_ | refine zg rfl rfl rfl ?_ | refine zd ?_ | refine JK.fin ?_ | refine JK.ret ?_ | refine zc rfl (h20) rfl rfl ?_ | refine ze rfl (h20) rfl ?_ | refine zk rfl rfl (fun _ => h20) rfl rfl ?_))
    refine ⟨.inl rfl, _, _, rfl, trivial, ?_⟩
    rw [curveR, if_neg hc]
  · (simp only [↓bif_or, ↓bif_and, ↓Bool.or_eq_true, ↓Bool.or_eq_false_iff, ↓Bool.and_eq_true, ↓Bool.and_eq_false_iff, ↓Bool.not_eq_true', ↓Bool.not_eq_false', ↓decide_eq_true_eq, ↓decide_eq_false_iff_not, ↓beq_iff_eq, ↓bne_iff_ne, ↓bne_eq_false_iff_eq, ↓ne_eq, ↓beq_eq_false_iff_ne, ↓Bool.not_eq_true] at hc; try simp only [Ty.dflt, Int.toNat_natCast] at hc)
    have ho : dayErr r xs = 0 := by simpa using hc
    obtain ⟨hr, hl, hx⟩ := dayErr_zero.1 ho
    (repeat (first | refine zs rfl ?_ | refine zg rfl rfl rfl ?_ | refine zd ?_ | refine JK.fin ?_ | refine JK.ret ?_))
    refine JK.ghost 4 3 (.int .i64) rfl ?_
    refine JK.loop (fun m : Nat => ⟨[(1, .lf (.optr 0 [])), (4, .lf (.osl 1)), (5, vI ((m : Int) + 1))], [(0, .cell dayT (vD r xs)), (1, .sl 3 (.int .i64) ((List.range m).map fun m : Nat => leastS ((m : Int) + 1) xs))], 2⟩)
      (fun m => m ≤ 4) (fun m => 4 - m) 0 (by simp) (by (exact JW.Auto rfl)) fun m hm => ?_
    have hlm : ((List.range m).map fun m : Nat => leastS ((m : Int) + 1) xs).length = m := by simp
    (repeat (first | refine zs rfl ?_ | refine zg rfl rfl rfl ?_ | refine zd ?_ | refine JK.fin ?_ | refine JK.ret ?_))
    refine JK.cond rfl (fun hd => ?_) (fun hd => ?_)
    · (simp only [↓bif_or, ↓bif_and, ↓Bool.or_eq_true, ↓Bool.or_eq_false_iff, ↓Bool.and_eq_true, ↓Bool.and_eq_false_iff, ↓Bool.not_eq_true', ↓Bool.not_eq_false', ↓decide_eq_true_eq, ↓decide_eq_false_iff_not, ↓beq_iff_eq, ↓bne_iff_ne, ↓bne_eq_false_iff_eq, ↓ne_eq, ↓beq_eq_false_iff_ne, ↓Bool.not_eq_true] at hd; try simp only [Ty.dflt, Int.toNat_natCast] at hd)
      have hsn : (List.range (m + 1)).map (fun m : Nat => leastS ((m : Int) + 1) xs) = (List.range m).map (fun m : Nat => leastS ((m : Int) + 1) xs) ++ [leastS ((m : Int) + 1) xs] := by rw [List.range_succ]; simp
      (repeat (first | refine zs rfl ?_ | refine zg rfl rfl rfl ?_ | refine zd ?_ | refine JK.fin ?_ | refine JK.ret ?_ | refine zc rfl (fn31 ((m : Int) + 1) xs hx) rfl rfl ?_ | refine ze rfl (fn31 ((m : Int) + 1) xs hx) rfl ?_ | refine zk rfl rfl (fun _ => fn31 ((m : Int) + 1) xs hx) rfl rfl ?_))
      exact ⟨m + 1, by (refine JW.auto rfl ?_ ?_ ?_ ?_ rfl <;> (repeat' (first | exact trivial | exact rfl | refine And.intro ?_ ?_ | exact Nat.le_of_ble_eq_true rfl | refine HO.bdF ?_ | refine HO.bdP ?_ | (refine congrArg (fun z : Int => some (AV.val (.int .i64) z)) ?_; push_cast; omega) | exact congrArg (fun z : List Int => some (HO.sl 3 (.int .i64) z)) hsn.symm))), by omega, by omega⟩
    · (simp only [↓bif_or, ↓bif_and, ↓Bool.or_eq_true, ↓Bool.or_eq_false_iff, ↓Bool.and_eq_true, ↓Bool.and_eq_false_iff, ↓Bool.not_eq_true', ↓Bool.not_eq_false', ↓decide_eq_true_eq, ↓decide_eq_false_iff_not, ↓beq_iff_eq, ↓bne_iff_ne, ↓bne_eq_false_iff_eq, ↓ne_eq, ↓beq_eq_false_iff_ne, ↓Bool.not_eq_true] at hd; try simp only [Ty.dflt, Int.toNat_natCast] at hd)
      obtain rfl : m = 4 := by omega
      (repeat (first | refine zs rfl ?_ | refine zg rfl rfl rfl ?_ | refine zd ?_ | refine JK.fin ?_ | refine JK.ret ?_))
      refine ⟨.inl rfl, _, _, rfl, trivial, ?_⟩
      rw [ho, curveR, if_pos ho]

/-- One more book that may be kept. -/
def wayStep (r : Int) (xs : List Int) (i : Nat) (w : List Int) : List (List Int) := if canKeepB r xs (w ++ [(i : Int)]) xs.length = true then [w, w ++ [(i : Int)]] else [w]
def waysL (r : Int) (xs : List Int) : Nat → List (List Int)
  | 0 => [[]]
  | i + 1 => if lastB xs (xs.getD i 0) i < 0 then waysL r xs i else (waysL r xs i).flatMap (wayStep r xs i)
def waysR (r : Int) (xs : List Int) : List (List Int) := (waysL r xs xs.length).filter fun w => decide (((w.length : Nat) : Int) = (xs.length : Int) - leastS r xs)
theorem waysL_len (r : Int) (xs : List Int) : ∀ i, (waysL r xs i).length ≤ 2 ^ i
  | 0 => by simp [waysL]
  | i + 1 => by
    have h1 := waysL_len r xs i
    have h2 : ∀ l : List (List Int), (l.flatMap (wayStep r xs i)).length ≤ 2 * l.length := by
      intro l
      induction l with
      | nil => simp
      | cons w l ih =>
        have : (wayStep r xs i w).length ≤ 2 := by unfold wayStep; split <;> simp
        simp only [List.flatMap_cons, List.length_append, List.length_cons]; omega
    have := h2 (waysL r xs i)
    rw [waysL, Nat.pow_succ]; split <;> omega
theorem waysL_mem (r : Int) (xs : List Int) : ∀ {i w}, w ∈ waysL r xs i → w.length ≤ i ∧ ∀ x ∈ w, 0 ≤ x ∧ x < i
  | 0, w, h => by rw [waysL, List.mem_singleton] at h; subst h; simp
  | i + 1, w, h => by
    rw [waysL] at h
    have old : ∀ {w}, w ∈ waysL r xs i → w.length ≤ i + 1 ∧ ∀ x ∈ w, 0 ≤ x ∧ x < ((i + 1 : Nat) : Int) := fun h => by
      have := waysL_mem r xs h
      exact ⟨by omega, fun x hx => by have := this.2 x hx; omega⟩
    split at h
    · exact old h
    · obtain ⟨v, hv, hw⟩ := List.mem_flatMap.1 h
      have hv' := waysL_mem r xs hv
      have hnew : w = v ∨ w = v ++ [(i : Int)] := by
        unfold wayStep at hw
        split at hw
        · simpa using hw
        · simp at hw; exact .inl hw
      rcases hnew with rfl | rfl
      · exact old hv
      · refine ⟨by simp; omega, fun x hx => ?_⟩
        rcases List.mem_append.1 hx with hx | hx
        · have := hv'.2 x hx; omega
        · rw [List.mem_singleton.1 hx]; omega
theorem leastMin_bd {l : List Int} (h : cost l) : ∀ n, n ≤ 256 → 0 ≤ leastMin l n ∧ leastMin l n ≤ 1000
  | 0, _ => by simp [leastMin]
  | n + 1, hn => by have := leastMin_bd h n (by omega); have := h.get (i := n) (by omega); rw [leastMin]; omega
theorem leastS_bd {r : Int} {xs : List Int} (hx : ∀ x ∈ xs, 0 ≤ x ∧ x ≤ 7) : 0 ≤ leastS r xs ∧ leastS r xs ≤ 1000 := leastMin_bd (cost.now hx _ (Nat.le_refl _)) _ (Nat.le_refl _)

set_option maxHeartbeats 4000000 in
theorem fn64 (r : Int) (xs : List Int) (hr : 1 ≤ r ∧ r ≤ 4) (hx : ∀ x ∈ xs, 0 ≤ x ∧ x ≤ 7) (hl : xs.length ≤ 24) : Ox.Fn Go.Proofs.Try.prog 64 (.acons (vD r xs) .anil) (· = vLs (waysR r xs)) := by
  refine Ox.Fn.intro xok Go.Proofs.Try.func64 rfl Go.Proofs.Try.call64 (Nat.le_of_ble_eq_true rfl) (fun E M0 up => ?_)
  refine JK.start ?_
  (repeat (first | refine zs rfl ?_ | refine zg rfl rfl rfl ?_ | refine zd ?_ | refine JK.fin ?_ | refine JK.ret ?_))
  refine JK.loop (fun i : Nat => ⟨[(1, .lf (.optr 0 [])), (3, .lf (.osl 1)), (4, vI (i : Int))], [(0, .cell dayT (vD r xs)), (1, .sl 22 (.slice (.int .i64)) (waysL r xs i))], 2⟩)
    (fun i => i ≤ xs.length) (fun i => xs.length - i) 0 (by simp) (by (exact JW.Auto rfl)) fun i hi => ?_
  have hwl := waysL_len r xs i
  have hp : 2 ^ i ≤ 2 ^ 24 := Nat.pow_le_pow_right (by omega) (by omega)
  have hol : (waysL r xs i).length ≤ 16777216 := Nat.le_trans hwl hp
  clear hp
  clear hwl
  have hwm := fun {w} => waysL_mem r xs (i := i) (w := w)
  have hwn : waysL r xs (i + 1) = if lastB xs (xs.getD i 0) i < 0 then waysL r xs i else (waysL r xs i).flatMap (wayStep r xs i) := rfl
  generalize hout : waysL r xs i = out at hol hwm hwn
  (repeat (first | refine zs rfl ?_ | refine zg rfl rfl rfl ?_ | refine zd ?_ | refine JK.fin ?_ | refine JK.ret ?_))
  refine JK.cond rfl (fun hc => ?_) (fun hc => ?_)
  · (simp only [↓bif_or, ↓bif_and, ↓Bool.or_eq_true, ↓Bool.or_eq_false_iff, ↓Bool.and_eq_true, ↓Bool.and_eq_false_iff, ↓Bool.not_eq_true', ↓Bool.not_eq_false', ↓decide_eq_true_eq, ↓decide_eq_false_iff_not, ↓beq_iff_eq, ↓bne_iff_ne, ↓bne_eq_false_iff_eq, ↓ne_eq, ↓beq_eq_false_iff_ne, ↓Bool.not_eq_true] at hc; try simp only [Ty.dflt, Int.toNat_natCast] at hc)
    have hi' : i < xs.length := by omega
    (repeat (first | refine zs rfl ?_ | refine zg rfl rfl rfl ?_ | refine zd ?_ | refine JK.fin ?_ | refine JK.ret ?_ | refine zc rfl (fn48 r xs i hi') rfl rfl ?_ | refine ze rfl (fn48 r xs i hi') rfl ?_ | refine zk rfl rfl (fun _ => fn48 r xs i hi') rfl rfl ?_))
    refine JK.cond rfl (fun hd => ?_) (fun hd => ?_)
    · (simp only [↓bif_or, ↓bif_and, ↓Bool.or_eq_true, ↓Bool.or_eq_false_iff, ↓Bool.and_eq_true, ↓Bool.and_eq_false_iff, ↓Bool.not_eq_true', ↓Bool.not_eq_false', ↓decide_eq_true_eq, ↓decide_eq_false_iff_not, ↓beq_iff_eq, ↓bne_iff_ne, ↓bne_eq_false_iff_eq, ↓ne_eq, ↓beq_eq_false_iff_ne, ↓Bool.not_eq_true] at hd; try simp only [Ty.dflt, Int.toNat_natCast] at hd)
      rw [if_pos hd] at hwn
      (repeat (first | refine zs rfl ?_ | refine zg rfl rfl rfl ?_ | refine zd ?_ | refine JK.fin ?_ | refine JK.ret ?_))
      exact ⟨i + 1, by (refine JW.auto rfl ?_ ?_ ?_ ?_ rfl <;> (repeat' (first | exact trivial | exact rfl | refine And.intro ?_ ?_ | exact Nat.le_of_ble_eq_true rfl | refine HO.bdF ?_ | refine HO.bdP ?_ | (refine congrArg (fun z : Int => some (AV.val (.int .i64) z)) ?_; push_cast; omega) | exact congrArg (fun z : List (List Int) => some (HO.sl 22 (.slice (.int .i64)) z)) hwn.symm))), by omega, by omega⟩
    · (simp only [↓bif_or, ↓bif_and, ↓Bool.or_eq_true, ↓Bool.or_eq_false_iff, ↓Bool.and_eq_true, ↓Bool.and_eq_false_iff, ↓Bool.not_eq_true', ↓Bool.not_eq_false', ↓decide_eq_true_eq, ↓decide_eq_false_iff_not, ↓beq_iff_eq, ↓bne_iff_ne, ↓bne_eq_false_iff_eq, ↓ne_eq, ↓beq_eq_false_iff_ne, ↓Bool.not_eq_true] at hd; try simp only [Ty.dflt, Int.toNat_natCast] at hd)
      rw [if_neg hd] at hwn
      (repeat (first | refine zs rfl ?_ | refine zg rfl rfl rfl ?_ | refine zd ?_ | refine JK.fin ?_ | refine JK.ret ?_))
      refine JK.ghost 5 22 (.slice (.int .i64)) rfl ?_
      refine JK.loop (fun k : Nat => ⟨[(1, .lf (.optr 0 [])), (3, .lf (.osl 1)), (4, vI (i : Int)), (5, .lf (.osl 2)), (6, vI (k : Int))], [(0, .cell dayT (vD r xs)), (1, .sl 22 (.slice (.int .i64)) out), (2, .sl 22 (.slice (.int .i64)) ((out.take k).flatMap (wayStep r xs i)))], 3⟩)
        (fun k => k ≤ out.length) (fun k => out.length - k) 0 (by simp) (by (exact JW.Auto rfl)) fun k hk => ?_
      have hfl : ∀ l : List (List Int), (l.flatMap (wayStep r xs i)).length ≤ 2 * l.length := fun l => by
        induction l with
        | nil => simp
        | cons w l ih =>
          have : (wayStep r xs i w).length ≤ 2 := by unfold wayStep; split <;> simp
          simp only [List.flatMap_cons, List.length_append, List.length_cons]; omega
      have hfk := hfl (out.take k)
      have htk : (out.take k).length ≤ k := List.length_take_le _ _
      (repeat (first | refine zs rfl ?_ | refine zg rfl rfl rfl ?_ | refine zd ?_ | refine JK.fin ?_ | refine JK.ret ?_))
      refine JK.cond rfl (fun he => ?_) (fun he => ?_)
      · (simp only [↓bif_or, ↓bif_and, ↓Bool.or_eq_true, ↓Bool.or_eq_false_iff, ↓Bool.and_eq_true, ↓Bool.and_eq_false_iff, ↓Bool.not_eq_true', ↓Bool.not_eq_false', ↓decide_eq_true_eq, ↓decide_eq_false_iff_not, ↓beq_iff_eq, ↓bne_iff_ne, ↓bne_eq_false_iff_eq, ↓ne_eq, ↓beq_eq_false_iff_ne, ↓Bool.not_eq_true] at he; try simp only [Ty.dflt, Int.toNat_natCast] at he)
        have hk' : k < out.length := by omega
        have hgk : out.getD k [] = out[k] := by rw [List.getD_eq_getElem?_getD, List.getElem?_eq_getElem hk']; rfl
        have hwk := hwm (List.getElem_mem hk')
        rw [← hgk] at hwk
        have hsn : (out.take (k + 1)).flatMap (wayStep r xs i) = (out.take k).flatMap (wayStep r xs i) ++ wayStep r xs i (out.getD k []) := by
          rw [List.take_succ, List.getElem?_eq_getElem hk', List.flatMap_append, hgk]; simp
        have hal : ((out.take k).flatMap (wayStep r xs i)).length ≤ 33554432 := by omega
        generalize hacc : (out.take k).flatMap (wayStep r xs i) = acc at hsn hal ⊢
        clear hfk
        have hal2 : (acc ++ [out.getD ((k : Int)).toNat (Ty.dflt (.slice (.int .i64)))]).length ≤ 33554433 := by
          rw [List.length_append]; have : [out.getD ((k : Int)).toNat (Ty.dflt (.slice (.int .i64)))].length = 1 := rfl
          omega
        have h74 : Ox.Fn Go.Proofs.Try.prog 74 (.acons (vD r xs) (.acons (vL ([] ++ out.getD ((k : Int)).toNat (Ty.dflt (.slice (.int .i64))) ++ [(i : Int)])) .anil)) (· = vB (canKeepB r xs (out.getD k [] ++ [(i : Int)]) xs.length)) :=
          fn74 r xs (out.getD k [] ++ [(i : Int)]) (by omega) (fun x hx => by
            rcases List.mem_append.1 hx with hx | hx
            · have := hwk.2 x hx; omega
            · rw [List.mem_singleton.1 hx]; omega)
        (repeat (first | refine zs rfl ?_ | refine zg rfl rfl rfl ?_ | refine zd ?_ | refine JK.fin ?_ | refine JK.ret ?_))
        (refine JK.frzL [8] [1,3,4,5,6,7,45,46] rfl (by (first | exact trivial | (try dsimp only [allP, inK, idxC, loC, lohiC, fullC, underG, List.append, List.nil_append, List.cons_append, Ty.den, Ty.dflt, Int.toNat_natCast, List.length_cons, List.length_nil] at *); first | omega | ((repeat' (first | exact trivial | assumption | refine And.intro ?_ ?_ | exact fun h => h | (intro hpk; first | exact hpk | simp only [wantB, hpk, Bool.not_false, Bool.not_true]))) <;> omega) | fail)) ?_)
        (repeat (first | refine zs rfl ?_ | refine zg rfl rfl rfl ?_ | refine zd ?_ | refine JK.fin ?_ | refine JK.ret ?_ | refine zc rfl (h74) rfl rfl ?_ | refine ze rfl (h74) rfl ?_ | refine zk rfl rfl (fun _ => h74) rfl rfl ?_))
        refine JK.cond rfl (fun hf => ?_) (fun hf => ?_)
        · try skip
          have hst : wayStep r xs i (out.getD k []) = [out.getD k [], out.getD k [] ++ [(i : Int)]] := by rw [wayStep, if_pos hf]
          rw [hst] at hsn
          (repeat (first | refine zs rfl ?_ | refine zg rfl rfl rfl ?_ | refine zd ?_ | refine JK.fin ?_ | refine JK.ret ?_))
          exact ⟨k + 1, by (refine JW.auto rfl ?_ ?_ ?_ ?_ rfl <;> (repeat' (first | exact trivial | exact rfl | refine And.intro ?_ ?_ | exact Nat.le_of_ble_eq_true rfl | refine HO.bdF ?_ | refine HO.bdP ?_ | (refine congrArg (fun z : Int => some (AV.val (.int .i64) z)) ?_; push_cast; omega) | exact congrArg (fun z : List (List Int) => some (HO.sl 22 (.slice (.int .i64)) z)) (hsn.trans (List.append_assoc _ [out.getD k []] [out.getD k [] ++ [(i : Int)]]).symm).symm))), by omega, by omega⟩
        · try skip
          have hst : wayStep r xs i (out.getD k []) = [out.getD k []] := by rw [wayStep, if_neg (by rw [hf]; decide)]
          rw [hst] at hsn
          (repeat (first | refine zs rfl ?_ | refine zg rfl rfl rfl ?_ | refine zd ?_ | refine JK.fin ?_ | refine JK.ret ?_))
          exact ⟨k + 1, by (refine JW.auto rfl ?_ ?_ ?_ ?_ rfl <;> (repeat' (first | exact trivial | exact rfl | refine And.intro ?_ ?_ | exact Nat.le_of_ble_eq_true rfl | refine HO.bdF ?_ | refine HO.bdP ?_ | (refine congrArg (fun z : Int => some (AV.val (.int .i64) z)) ?_; push_cast; omega) | exact congrArg (fun z : List (List Int) => some (HO.sl 22 (.slice (.int .i64)) z)) hsn.symm))), by omega, by omega⟩
      · (simp only [↓bif_or, ↓bif_and, ↓Bool.or_eq_true, ↓Bool.or_eq_false_iff, ↓Bool.and_eq_true, ↓Bool.and_eq_false_iff, ↓Bool.not_eq_true', ↓Bool.not_eq_false', ↓decide_eq_true_eq, ↓decide_eq_false_iff_not, ↓beq_iff_eq, ↓bne_iff_ne, ↓bne_eq_false_iff_eq, ↓ne_eq, ↓beq_eq_false_iff_ne, ↓Bool.not_eq_true] at he; try simp only [Ty.dflt, Int.toNat_natCast] at he)
        obtain rfl : k = out.length := by omega
        rw [List.take_length]
        (repeat (first | refine zs rfl ?_ | refine zg rfl rfl rfl ?_ | refine zd ?_ | refine JK.fin ?_ | refine JK.ret ?_))
        exact ⟨i + 1, by (refine JW.auto rfl ?_ ?_ ?_ ?_ rfl <;> (repeat' (first | exact trivial | exact rfl | refine And.intro ?_ ?_ | exact Nat.le_of_ble_eq_true rfl | refine HO.bdF ?_ | refine HO.bdP ?_ | (refine congrArg (fun z : Int => some (AV.val (.int .i64) z)) ?_; push_cast; omega) | exact congrArg (fun z : List (List Int) => some (HO.sl 22 (.slice (.int .i64)) z)) hwn.symm))), by omega, by omega⟩
  · (simp only [↓bif_or, ↓bif_and, ↓Bool.or_eq_true, ↓Bool.or_eq_false_iff, ↓Bool.and_eq_true, ↓Bool.and_eq_false_iff, ↓Bool.not_eq_true', ↓Bool.not_eq_false', ↓decide_eq_true_eq, ↓decide_eq_false_iff_not, ↓beq_iff_eq, ↓bne_iff_ne, ↓bne_eq_false_iff_eq, ↓ne_eq, ↓beq_eq_false_iff_ne, ↓Bool.not_eq_true] at hc; try simp only [Ty.dflt, Int.toNat_natCast] at hc)
    obtain rfl : i = xs.length := by omega
    have hls := leastS_bd (r := r) hx
    (repeat (first | refine zs rfl ?_ | refine zg rfl rfl rfl ?_ | refine zd ?_ | refine JK.fin ?_ | refine JK.ret ?_ | refine zc rfl (fn31 r xs hx) rfl rfl ?_ | refine ze rfl (fn31 r xs hx) rfl ?_ | refine zk rfl rfl (fun _ => fn31 r xs hx) rfl rfl ?_))
    refine JK.ghost 9 22 (.slice (.int .i64)) rfl ?_
    refine JK.loop (fun k : Nat => ⟨[(3, .lf (.osl 1)), (8, vI ((xs.length : Int) - leastS r xs)), (9, .lf (.osl 2)), (10, vI (k : Int))], [(1, .sl 22 (.slice (.int .i64)) out), (2, .sl 22 (.slice (.int .i64)) ((out.take k).filter fun w => decide (((w.length : Nat) : Int) = (xs.length : Int) - leastS r xs)))], 3⟩)
      (fun k => k ≤ out.length) (fun k => out.length - k) 0 (by simp) (by (exact JW.Auto rfl)) fun k hk => ?_
    have hfl := List.length_filter_le (fun w : List Int => decide (((w.length : Nat) : Int) = (xs.length : Int) - leastS r xs)) (out.take k)
    have htk : (out.take k).length ≤ k := List.length_take_le _ _
    (repeat (first | refine zs rfl ?_ | refine zg rfl rfl rfl ?_ | refine zd ?_ | refine JK.fin ?_ | refine JK.ret ?_))
    refine JK.cond rfl (fun he => ?_) (fun he => ?_)
    · (simp only [↓bif_or, ↓bif_and, ↓Bool.or_eq_true, ↓Bool.or_eq_false_iff, ↓Bool.and_eq_true, ↓Bool.and_eq_false_iff, ↓Bool.not_eq_true', ↓Bool.not_eq_false', ↓decide_eq_true_eq, ↓decide_eq_false_iff_not, ↓beq_iff_eq, ↓bne_iff_ne, ↓bne_eq_false_iff_eq, ↓ne_eq, ↓beq_eq_false_iff_ne, ↓Bool.not_eq_true] at he; try simp only [Ty.dflt, Int.toNat_natCast] at he)
      have hk' : k < out.length := by omega
      have hgk : out.getD k [] = out[k] := by rw [List.getD_eq_getElem?_getD, List.getElem?_eq_getElem hk']; rfl
      have hwk := hwm (List.getElem_mem hk')
      rw [← hgk] at hwk
      have hsn : (out.take (k + 1)).filter (fun w => decide (((w.length : Nat) : Int) = (xs.length : Int) - leastS r xs)) = (out.take k).filter (fun w => decide (((w.length : Nat) : Int) = (xs.length : Int) - leastS r xs)) ++
          (if decide ((((out.getD k []).length : Nat) : Int) = (xs.length : Int) - leastS r xs) = true then [out.getD k []] else []) := by
        rw [List.take_succ, List.getElem?_eq_getElem hk', List.filter_append, hgk]; simp [List.filter_cons]
      (repeat (first | refine zs rfl ?_ | refine zg rfl rfl rfl ?_ | refine zd ?_ | refine JK.fin ?_ | refine JK.ret ?_))
      refine JK.cond rfl (fun hf => ?_) (fun hf => ?_)
      · have hf' : decide ((((out.getD k []).length : Nat) : Int) = (xs.length : Int) - leastS r xs) = true := by
          rw [decide_eq_true_iff]; have hf := of_decide_eq_true hf; exact hf
        rw [if_pos hf'] at hsn
        (repeat (first | refine zs rfl ?_ | refine zg rfl rfl rfl ?_ | refine zd ?_ | refine JK.fin ?_ | refine JK.ret ?_))
        exact ⟨k + 1, by (refine JW.auto rfl ?_ ?_ ?_ ?_ rfl <;> (repeat' (first | exact trivial | exact rfl | refine And.intro ?_ ?_ | exact Nat.le_of_ble_eq_true rfl | refine HO.bdF ?_ | refine HO.bdP ?_ | (refine congrArg (fun z : Int => some (AV.val (.int .i64) z)) ?_; push_cast; omega) | exact congrArg (fun z : List (List Int) => some (HO.sl 22 (.slice (.int .i64)) z)) hsn.symm))), by omega, by omega⟩
      · have hf' : ¬ decide ((((out.getD k []).length : Nat) : Int) = (xs.length : Int) - leastS r xs) = true := by
          rw [decide_eq_true_iff]; have hf := of_decide_eq_false hf; exact hf
        rw [if_neg hf', List.append_nil] at hsn
        (repeat (first | refine zs rfl ?_ | refine zg rfl rfl rfl ?_ | refine zd ?_ | refine JK.fin ?_ | refine JK.ret ?_))
        exact ⟨k + 1, by (refine JW.auto rfl ?_ ?_ ?_ ?_ rfl <;> (repeat' (first | exact trivial | exact rfl | refine And.intro ?_ ?_ | exact Nat.le_of_ble_eq_true rfl | refine HO.bdF ?_ | refine HO.bdP ?_ | (refine congrArg (fun z : Int => some (AV.val (.int .i64) z)) ?_; push_cast; omega) | exact congrArg (fun z : List (List Int) => some (HO.sl 22 (.slice (.int .i64)) z)) hsn.symm))), by omega, by omega⟩
    · (simp only [↓bif_or, ↓bif_and, ↓Bool.or_eq_true, ↓Bool.or_eq_false_iff, ↓Bool.and_eq_true, ↓Bool.and_eq_false_iff, ↓Bool.not_eq_true', ↓Bool.not_eq_false', ↓decide_eq_true_eq, ↓decide_eq_false_iff_not, ↓beq_iff_eq, ↓bne_iff_ne, ↓bne_eq_false_iff_eq, ↓ne_eq, ↓beq_eq_false_iff_ne, ↓Bool.not_eq_true] at he; try simp only [Ty.dflt, Int.toNat_natCast] at he)
      obtain rfl : k = out.length := by omega
      (repeat (first | refine zs rfl ?_ | refine zg rfl rfl rfl ?_ | refine zd ?_ | refine JK.fin ?_ | refine JK.ret ?_))
      refine ⟨.inl rfl, _, _, rfl, trivial, ?_⟩
      rw [List.take_length, waysR]
      rw [hout]
theorem waysR_len (r : Int) (xs : List Int) (hl : xs.length ≤ 24) : (waysR r xs).length ≤ 16777216 := by
  have h1 := List.length_filter_le (fun w : List Int => decide (((w.length : Nat) : Int) = (xs.length : Int) - leastS r xs)) (waysL r xs xs.length)
  have hp : 2 ^ xs.length ≤ 2 ^ 24 := Nat.pow_le_pow_right (by omega) hl
  exact Nat.le_trans h1 (Nat.le_trans (waysL_len r xs _) hp)
def countR (r : Int) (xs : List Int) : Int := if dayErr r xs = 0 then ((waysR r xs).length : Int) else 0
theorem fn39 (r : Int) (xs : List Int) : Ox.Fn Go.Proofs.Try.prog 39 (.acons (vD r xs) .anil) (· = .tup (.acons (vI (countR r xs)) (.acons (vI (dayErr r xs)) .anil))) := by
  refine Ox.Fn.intro xok Go.Proofs.Try.func39 rfl Go.Proofs.Try.call39 (Nat.le_of_ble_eq_true rfl) (fun E M0 up => ?_)
  refine JK.start ?_
  have h20 := fn20 r xs
  (repeat (first | refine zs rfl ?_ | refine zg rfl rfl rfl ?_ | refine zd ?_ | refine JK.fin ?_ | refine JK.ret ?_ | refine zc rfl (h20) rfl rfl ?_ | refine ze rfl (h20) rfl ?_ | refine zk rfl rfl (fun _ => h20) rfl rfl ?_))
  refine JK.cond rfl (fun hc => ?_) (fun hc => ?_)
  · (simp only [↓bif_or, ↓bif_and, ↓Bool.or_eq_true, ↓Bool.or_eq_false_iff, ↓Bool.and_eq_true, ↓Bool.and_eq_false_iff, ↓Bool.not_eq_true', ↓Bool.not_eq_false', ↓decide_eq_true_eq, ↓decide_eq_false_iff_not, ↓beq_iff_eq, ↓bne_iff_ne, ↓bne_eq_false_iff_eq, ↓ne_eq, ↓beq_eq_false_iff_ne, ↓Bool.not_eq_true] at hc; try simp only [Ty.dflt, Int.toNat_natCast] at hc)
    (repeat (first | refine zs rfl ?_ | refine zg rfl rfl rfl ?_ | refine zd ?_ | refine JK.fin ?_ | refine JK.ret ?_ | refine zc rfl (h20) rfl rfl ?_ | refine ze rfl (h20) rfl ?_ | refine zk rfl rfl (fun _ => h20) rfl rfl ?_))
    refine ⟨.inl rfl, _, _, rfl, trivial, ?_⟩
    rw [countR, if_neg hc]
  · (simp only [↓bif_or, ↓bif_and, ↓Bool.or_eq_true, ↓Bool.or_eq_false_iff, ↓Bool.and_eq_true, ↓Bool.and_eq_false_iff, ↓Bool.not_eq_true', ↓Bool.not_eq_false', ↓decide_eq_true_eq, ↓decide_eq_false_iff_not, ↓beq_iff_eq, ↓bne_iff_ne, ↓bne_eq_false_iff_eq, ↓ne_eq, ↓beq_eq_false_iff_ne, ↓Bool.not_eq_true] at hc; try simp only [Ty.dflt, Int.toNat_natCast] at hc)
    have ho : dayErr r xs = 0 := by simpa using hc
    obtain ⟨hr, hl, hx⟩ := dayErr_zero.1 ho
    have h64 := fn64 r xs hr hx hl.2
    (repeat (first | refine zs rfl ?_ | refine zg rfl rfl rfl ?_ | refine zd ?_ | refine JK.fin ?_ | refine JK.ret ?_ | refine zc rfl (h64) rfl rfl ?_ | refine ze rfl (h64) rfl ?_ | refine zk rfl rfl (fun _ => h64) rfl rfl ?_))
    refine ⟨.inl rfl, _, _, rfl, trivial, ?_⟩
    rw [countR, if_pos ho, ho]
def kindR (r : Int) (xs : List Int) (n : Int) : Int × Int :=
  if dayErr r xs ≠ 0 then (0, dayErr r xs) else if ¬ (0 ≤ n ∧ n < xs.length) then (0, 2)
  else if (((waysR r xs).filter fun w => decide (n ∈ w)).length : Int) = 0 then (2, 0)
  else if (((waysR r xs).filter fun w => decide (n ∈ w)).length : Int) = (waysR r xs).length then (0, 0) else (1, 0)
set_option maxHeartbeats 4000000 in
theorem fn37 (r : Int) (xs : List Int) (n : Int) : Ox.Fn Go.Proofs.Try.prog 37 (.acons (vD r xs) (.acons (vI n) .anil)) (· = vT2 (kindR r xs n).1 (kindR r xs n).2) := by
  refine Ox.Fn.intro xok Go.Proofs.Try.func37 rfl Go.Proofs.Try.call37 (Nat.le_of_ble_eq_true rfl) (fun E M0 up => ?_)
  refine JK.start ?_
  have h20 := fn20 r xs
  have h47 := fn47 r xs n
  (repeat (first | refine zs rfl ?_ | refine zg rfl rfl rfl ?_ | refine zd ?_ | refine JK.fin ?_ | refine JK.ret ?_ | refine zc rfl (h20) rfl rfl ?_ | refine ze rfl (h20) rfl ?_ | refine zk rfl rfl (fun _ => h20) rfl rfl ?_))
  refine JK.cond rfl (fun hc => ?_) (fun hc => ?_)
  · (simp only [↓bif_or, ↓bif_and, ↓Bool.or_eq_true, ↓Bool.or_eq_false_iff, ↓Bool.and_eq_true, ↓Bool.and_eq_false_iff, ↓Bool.not_eq_true', ↓Bool.not_eq_false', ↓decide_eq_true_eq, ↓decide_eq_false_iff_not, ↓beq_iff_eq, ↓bne_iff_ne, ↓bne_eq_false_iff_eq, ↓ne_eq, ↓beq_eq_false_iff_ne, ↓Bool.not_eq_true] at hc; try simp only [Ty.dflt, Int.toNat_natCast] at hc)
    (repeat (first | refine zs rfl ?_ | refine zg rfl rfl rfl ?_ | refine zd ?_ | refine JK.fin ?_ | refine JK.ret ?_ | refine zc rfl (h20) rfl rfl ?_ | refine ze rfl (h20) rfl ?_ | refine zk rfl rfl (fun _ => h20) rfl rfl ?_))
    refine ⟨.inl rfl, _, _, rfl, trivial, ?_⟩
    rw [kindR, if_pos hc]
  · (simp only [↓bif_or, ↓bif_and, ↓Bool.or_eq_true, ↓Bool.or_eq_false_iff, ↓Bool.and_eq_true, ↓Bool.and_eq_false_iff, ↓Bool.not_eq_true', ↓Bool.not_eq_false', ↓decide_eq_true_eq, ↓decide_eq_false_iff_not, ↓beq_iff_eq, ↓bne_iff_ne, ↓bne_eq_false_iff_eq, ↓ne_eq, ↓beq_eq_false_iff_ne, ↓Bool.not_eq_true] at hc; try simp only [Ty.dflt, Int.toNat_natCast] at hc)
    have ho : dayErr r xs = 0 := by simpa using hc
    obtain ⟨hr, hl, hx⟩ := dayErr_zero.1 ho
    have h64 := fn64 r xs hr hx hl.2
    (repeat (first | refine zs rfl ?_ | refine zg rfl rfl rfl ?_ | refine zd ?_ | refine JK.fin ?_ | refine JK.ret ?_ | refine zc rfl (h47) rfl rfl ?_ | refine ze rfl (h47) rfl ?_ | refine zk rfl rfl (fun _ => h47) rfl rfl ?_))
    refine JK.cond rfl (fun hd => ?_) (fun hd => ?_)
    · (simp only [↓bif_or, ↓bif_and, ↓Bool.or_eq_true, ↓Bool.or_eq_false_iff, ↓Bool.and_eq_true, ↓Bool.and_eq_false_iff, ↓Bool.not_eq_true', ↓Bool.not_eq_false', ↓decide_eq_true_eq, ↓decide_eq_false_iff_not, ↓beq_iff_eq, ↓bne_iff_ne, ↓bne_eq_false_iff_eq, ↓ne_eq, ↓beq_eq_false_iff_ne, ↓Bool.not_eq_true] at hd; try simp only [Ty.dflt, Int.toNat_natCast] at hd)
      (repeat (first | refine zs rfl ?_ | refine zg rfl rfl rfl ?_ | refine zd ?_ | refine JK.fin ?_ | refine JK.ret ?_))
      refine ⟨.inl rfl, _, _, rfl, trivial, ?_⟩
      rw [kindR, if_neg (by omega), if_pos (by simpa using hd)]
    · (simp only [↓bif_or, ↓bif_and, ↓Bool.or_eq_true, ↓Bool.or_eq_false_iff, ↓Bool.and_eq_true, ↓Bool.and_eq_false_iff, ↓Bool.not_eq_true', ↓Bool.not_eq_false', ↓decide_eq_true_eq, ↓decide_eq_false_iff_not, ↓beq_iff_eq, ↓bne_iff_ne, ↓bne_eq_false_iff_eq, ↓ne_eq, ↓beq_eq_false_iff_ne, ↓Bool.not_eq_true] at hd; try simp only [Ty.dflt, Int.toNat_natCast] at hd)
      have hn : 0 ≤ n ∧ n < xs.length := by simpa using hd
      (repeat (first | refine zs rfl ?_ | refine zg rfl rfl rfl ?_ | refine zd ?_ | refine JK.fin ?_ | refine JK.ret ?_ | refine zc rfl (h64) rfl rfl ?_ | refine ze rfl (h64) rfl ?_ | refine zk rfl rfl (fun _ => h64) rfl rfl ?_))
      have hwl := waysR_len r xs hl.2
      have hkind : kindR r xs n = if (((waysR r xs).filter fun w => decide (n ∈ w)).length : Int) = 0 then (2, 0)
          else if (((waysR r xs).filter fun w => decide (n ∈ w)).length : Int) = (waysR r xs).length then (0, 0) else (1, 0) := by
        rw [kindR, if_neg (by omega), if_neg (by omega)]
      rw [hkind]
      clear hkind
      generalize hout : waysR r xs = out at hwl ⊢
      refine JK.loop (fun k : Nat => ⟨[(1, vI n), (6, vLs out), (7, vI (((out.take k).filter fun w => decide (n ∈ w)).length : Int)), (8, vI (k : Int))], [(0, .cell dayT (vD r xs))], 1⟩)
        (fun k => k ≤ out.length) (fun k => out.length - k) 0 (by simp) (by (exact JW.Auto rfl)) fun k hk => ?_
      have hfl := List.length_filter_le (fun w : List Int => decide (n ∈ w)) (out.take k)
      have htk : (out.take k).length ≤ k := List.length_take_le _ _
      (repeat (first | refine zs rfl ?_ | refine zg rfl rfl rfl ?_ | refine zd ?_ | refine JK.fin ?_ | refine JK.ret ?_))
      refine JK.cond rfl (fun he => ?_) (fun he => ?_)
      · (simp only [↓bif_or, ↓bif_and, ↓Bool.or_eq_true, ↓Bool.or_eq_false_iff, ↓Bool.and_eq_true, ↓Bool.and_eq_false_iff, ↓Bool.not_eq_true', ↓Bool.not_eq_false', ↓decide_eq_true_eq, ↓decide_eq_false_iff_not, ↓beq_iff_eq, ↓bne_iff_ne, ↓bne_eq_false_iff_eq, ↓ne_eq, ↓beq_eq_false_iff_ne, ↓Bool.not_eq_true] at he; try simp only [Ty.dflt, Int.toNat_natCast] at he)
        have hk' : k < out.length := by omega
        have hgk : out.getD k [] = out[k] := by rw [List.getD_eq_getElem?_getD, List.getElem?_eq_getElem hk']; rfl
        have h43 : Ox.Fn Go.Proofs.Try.prog 43 (.acons (vL (out.getD ((k : Int)).toNat (Ty.dflt (.slice (.int .i64))))) (.acons (vI n) .anil)) (· = vB (decide (n ∈ out.getD k []))) := fn43 _ n
        have hsn : (out.take (k + 1)).filter (fun w => decide (n ∈ w)) = (out.take k).filter (fun w => decide (n ∈ w)) ++ (if decide (n ∈ out.getD k []) = true then [out.getD k []] else []) := by
          rw [List.take_succ, List.getElem?_eq_getElem hk', List.filter_append, hgk]; simp [List.filter_cons]
        (repeat (first | refine zs rfl ?_ | refine zg rfl rfl rfl ?_ | refine zd ?_ | refine JK.fin ?_ | refine JK.ret ?_ | refine zc rfl (h43) rfl rfl ?_ | refine ze rfl (h43) rfl ?_ | refine zk rfl rfl (fun _ => h43) rfl rfl ?_))
        refine JK.cond rfl (fun hf => ?_) (fun hf => ?_)
        · rw [if_pos hf] at hsn
          have hsl : (((out.take (k + 1)).filter fun w => decide (n ∈ w)).length : Int) = ((out.take k).filter fun w => decide (n ∈ w)).length + 1 := by rw [hsn, List.length_append]; rfl
          (repeat (first | refine zs rfl ?_ | refine zg rfl rfl rfl ?_ | refine zd ?_ | refine JK.fin ?_ | refine JK.ret ?_))
          exact ⟨k + 1, by (refine JW.auto rfl ?_ ?_ ?_ ?_ rfl <;> (repeat' (first | exact trivial | exact rfl | refine And.intro ?_ ?_ | exact Nat.le_of_ble_eq_true rfl | refine HO.bdF ?_ | refine HO.bdP ?_ | (refine congrArg (fun z : Int => some (AV.val (.int .i64) z)) ?_; push_cast; omega) | exact congrArg (fun z : Int => some (AV.val (.int .i64) z)) hsl.symm))), by omega, by omega⟩
        · rw [if_neg (by rw [hf]; decide), List.append_nil] at hsn
          (repeat (first | refine zs rfl ?_ | refine zg rfl rfl rfl ?_ | refine zd ?_ | refine JK.fin ?_ | refine JK.ret ?_))
          exact ⟨k + 1, by (refine JW.auto rfl ?_ ?_ ?_ ?_ rfl <;> (repeat' (first | exact trivial | exact rfl | refine And.intro ?_ ?_ | exact Nat.le_of_ble_eq_true rfl | refine HO.bdF ?_ | refine HO.bdP ?_ | (refine congrArg (fun z : Int => some (AV.val (.int .i64) z)) ?_; push_cast; omega) | exact congrArg (fun z : List (List Int) => some (AV.val (.int .i64) (z.length : Int))) hsn.symm))), by omega, by omega⟩
      · (simp only [↓bif_or, ↓bif_and, ↓Bool.or_eq_true, ↓Bool.or_eq_false_iff, ↓Bool.and_eq_true, ↓Bool.and_eq_false_iff, ↓Bool.not_eq_true', ↓Bool.not_eq_false', ↓decide_eq_true_eq, ↓decide_eq_false_iff_not, ↓beq_iff_eq, ↓bne_iff_ne, ↓bne_eq_false_iff_eq, ↓ne_eq, ↓beq_eq_false_iff_ne, ↓Bool.not_eq_true] at he; try simp only [Ty.dflt, Int.toNat_natCast] at he)
        obtain rfl : k = out.length := by omega
        rw [List.take_length]
        (repeat (first | refine zs rfl ?_ | refine zg rfl rfl rfl ?_ | refine zd ?_ | refine JK.fin ?_ | refine JK.ret ?_))
        refine JK.cond rfl (fun hg => ?_) (fun hg => ?_)
        · (simp only [↓bif_or, ↓bif_and, ↓Bool.or_eq_true, ↓Bool.or_eq_false_iff, ↓Bool.and_eq_true, ↓Bool.and_eq_false_iff, ↓Bool.not_eq_true', ↓Bool.not_eq_false', ↓decide_eq_true_eq, ↓decide_eq_false_iff_not, ↓beq_iff_eq, ↓bne_iff_ne, ↓bne_eq_false_iff_eq, ↓ne_eq, ↓beq_eq_false_iff_ne, ↓Bool.not_eq_true] at hg; try simp only [Ty.dflt, Int.toNat_natCast] at hg)
          (repeat (first | refine zs rfl ?_ | refine zg rfl rfl rfl ?_ | refine zd ?_ | refine JK.fin ?_ | refine JK.ret ?_))
          refine ⟨.inl rfl, _, _, rfl, trivial, ?_⟩
          rw [if_pos hg]
        · (simp only [↓bif_or, ↓bif_and, ↓Bool.or_eq_true, ↓Bool.or_eq_false_iff, ↓Bool.and_eq_true, ↓Bool.and_eq_false_iff, ↓Bool.not_eq_true', ↓Bool.not_eq_false', ↓decide_eq_true_eq, ↓decide_eq_false_iff_not, ↓beq_iff_eq, ↓bne_iff_ne, ↓bne_eq_false_iff_eq, ↓ne_eq, ↓beq_eq_false_iff_ne, ↓Bool.not_eq_true] at hg; try simp only [Ty.dflt, Int.toNat_natCast] at hg)
          (repeat (first | refine zs rfl ?_ | refine zg rfl rfl rfl ?_ | refine zd ?_ | refine JK.fin ?_ | refine JK.ret ?_))
          refine JK.cond rfl (fun hm => ?_) (fun hm => ?_)
          · (simp only [↓bif_or, ↓bif_and, ↓Bool.or_eq_true, ↓Bool.or_eq_false_iff, ↓Bool.and_eq_true, ↓Bool.and_eq_false_iff, ↓Bool.not_eq_true', ↓Bool.not_eq_false', ↓decide_eq_true_eq, ↓decide_eq_false_iff_not, ↓beq_iff_eq, ↓bne_iff_ne, ↓bne_eq_false_iff_eq, ↓ne_eq, ↓beq_eq_false_iff_ne, ↓Bool.not_eq_true] at hm; try simp only [Ty.dflt, Int.toNat_natCast] at hm)
            (repeat (first | refine zs rfl ?_ | refine zg rfl rfl rfl ?_ | refine zd ?_ | refine JK.fin ?_ | refine JK.ret ?_))
            refine ⟨.inl rfl, _, _, rfl, trivial, ?_⟩
            rw [if_neg hg, if_pos hm]
          · (simp only [↓bif_or, ↓bif_and, ↓Bool.or_eq_true, ↓Bool.or_eq_false_iff, ↓Bool.and_eq_true, ↓Bool.and_eq_false_iff, ↓Bool.not_eq_true', ↓Bool.not_eq_false', ↓decide_eq_true_eq, ↓decide_eq_false_iff_not, ↓beq_iff_eq, ↓bne_iff_ne, ↓bne_eq_false_iff_eq, ↓ne_eq, ↓beq_eq_false_iff_ne, ↓Bool.not_eq_true] at hm; try simp only [Ty.dflt, Int.toNat_natCast] at hm)
            (repeat (first | refine zs rfl ?_ | refine zg rfl rfl rfl ?_ | refine zd ?_ | refine JK.fin ?_ | refine JK.ret ?_))
            refine ⟨.inl rfl, _, _, rfl, trivial, ?_⟩
            rw [if_neg hg, if_neg hm]
end Go.Proofs.Ytbmgijgnbilnoaa

namespace Go.Proofs.Ytbmgijgnbilnoaa
open Go Go.RowKit Ox
attribute [local irreducible] JC JL JK JW

/-- The blocks on the bench after a book, if the plan is one so far. -/
def stepP (r : Int) (m : List Int) (k b : Int) : Option (List Int) :=
  if m.getD k.toNat 0 = 1 ∨ m.sum < r then (if b = -1 then some (m.set k.toNat 1) else none)
  else if (0 ≤ b ∧ b ≤ 7) ∧ m.getD b.toNat 0 ≠ 0 then some ((m.set b.toNat 0).set k.toNat 1) else none

abbrev ben := List Int × Bool × Unit
def playF (r : Int) : List (Int × Int) → List Int → List ben
  | [], _ => []
  | (k, b) :: rest, m => match stepP r m k b with
    | none => []
    | some m' => (m', decide (m.getD k.toNat 0 = 1), ()) :: playF r rest m'

abbrev zero8 : List Int := List.replicate 8 0
def playS (r : Int) (xs plan : List Int) : List ben := playF r (xs.zip plan) zero8

def bits (m : List Int) : Prop := m.length = 8 ∧ ∀ x ∈ m, 0 ≤ x ∧ x ≤ 1
theorem bits_set {m : List Int} (h : bits m) (i : Nat) {x : Int} (hx : 0 ≤ x ∧ x ≤ 1) : bits (m.set i x) := by
  refine ⟨by simp [h.1], fun y hy => ?_⟩
  rcases List.mem_or_eq_of_mem_set hy with h1 | rfl
  · exact h.2 y h1
  · exact hx

theorem zip_drop {xs plan : List Int} {i : Nat} (h1 : i < xs.length) (h2 : i < plan.length) : (xs.zip plan).drop i = (xs.getD i 0, plan.getD i 0) :: (xs.zip plan).drop (i + 1) := by
  rw [List.drop_eq_getElem_cons (by simp; omega), List.getElem_zip, getD_nat xs h1, getD_nat plan h2]

theorem fn49s (lo hi x : Int) : Ox.Fn Go.Proofs.Try.prog 49 (.acons (vI lo) (.acons (vI hi) (.acons (vL [x]) .anil))) (· = vB (decide (lo ≤ x ∧ x ≤ hi))) := by
  have := fn49 lo hi [x]
  rwa [show decide (∀ y ∈ [x], lo ≤ y ∧ y ≤ hi) = decide (lo ≤ x ∧ x ≤ hi) by simp] at this

set_option maxHeartbeats 1000000 in
theorem fn55 (r : Int) (xs la ne plan : List Int) (hx : ∀ x ∈ xs, 0 ≤ x ∧ x ≤ 7) (hl : xs.length ≤ 1000) (hp : plan.length = xs.length) :
    Ox.Fn Go.Proofs.Try.prog 55 (.acons (vB0 r xs la ne) (.acons (vL plan) .anil)) (· = vBs (playS r xs plan)) := by
  refine Ox.Fn.intro xok Go.Proofs.Try.func55 rfl Go.Proofs.Try.call55 (Nat.le_of_ble_eq_true rfl) (fun E M0 up => ?_)
  refine JK.start ?_
  (repeat (first | refine zs rfl ?_ | refine zg rfl rfl rfl ?_ | refine zd ?_ | refine JK.fin ?_ | refine JK.ret ?_))
  refine JK.ghost 5 78 benT rfl ?_
  refine JK.loop (σ := Nat × List Int × List ben) (fun q => ⟨[(0, vB0 r xs la ne), (1, vL plan), (5, .lf (.osl 1)), (6, .lf (.optr 0 [])), (16, vL xs), (17, vI xs.length), (18, vI (q.1 : Int))], [(0, .cell marT (vM q.2.1)), (1, .sl 78 benT q.2.2)], 2⟩)
    (fun q => q.1 ≤ xs.length ∧ bits q.2.1 ∧ q.2.2.length = q.1 ∧ q.2.2 ++ playF r ((xs.zip plan).drop q.1) q.2.1 = playS r xs plan) (fun q => xs.length - q.1) (0, zero8, [])
    ⟨by simp, ⟨by simp, by simp [zero8]⟩, rfl, rfl⟩ (by (exact JW.Auto rfl)) fun q hq => ?_
  obtain ⟨i, m, out⟩ := q
  obtain ⟨hi, hm, hol, hinv⟩ := hq
  dsimp only at hi hm hol hinv
  have hm8 := hm.1
  (repeat (first | refine zs rfl ?_ | refine zg rfl rfl rfl ?_ | refine zd ?_ | refine JK.fin ?_ | refine JK.ret ?_))
  refine JK.cond rfl (fun hc => ?_) (fun hc => ?_)
  · (simp only [↓bif_or, ↓bif_and, ↓Bool.or_eq_true, ↓Bool.or_eq_false_iff, ↓Bool.and_eq_true, ↓Bool.and_eq_false_iff, ↓Bool.not_eq_true', ↓Bool.not_eq_false', ↓decide_eq_true_eq, ↓decide_eq_false_iff_not, ↓beq_iff_eq, ↓bne_iff_ne, ↓bne_eq_false_iff_eq, ↓ne_eq, ↓beq_eq_false_iff_ne, ↓Bool.not_eq_true] at hc; try simp only [Ty.dflt, Int.toNat_natCast] at hc)
    have hi' : i < xs.length := by omega
    have hb := hx (xs.getD i 0) (by rw [getD_nat xs hi']; exact List.getElem_mem hi')
    rw [zip_drop hi' (by omega), playF] at hinv
    have hkm : m.getD (xs.getD i 0).toNat 0 ∈ m := by rw [getD_nat m (by omega)]; exact List.getElem_mem _
    have hm68 := fn68 m hm.2
    have hsb := sum_bd hm.2
    (repeat (first | refine zs rfl ?_ | refine zg rfl rfl rfl ?_ | refine zd ?_ | refine JK.fin ?_ | refine JK.ret ?_ | refine zc rfl (hm68) rfl rfl ?_ | refine ze rfl (hm68) rfl ?_ | refine zk rfl rfl (fun _ => hm68) rfl rfl ?_))
    refine JK.cond rfl (fun hd => ?_) (fun hd => ?_)
    · (simp only [↓bif_or, ↓bif_and, ↓Bool.or_eq_true, ↓Bool.or_eq_false_iff, ↓Bool.and_eq_true, ↓Bool.and_eq_false_iff, ↓Bool.not_eq_true', ↓Bool.not_eq_false', ↓decide_eq_true_eq, ↓decide_eq_false_iff_not, ↓beq_iff_eq, ↓bne_iff_ne, ↓bne_eq_false_iff_eq, ↓ne_eq, ↓beq_eq_false_iff_ne, ↓Bool.not_eq_true] at hd; try simp only [Ty.dflt, Int.toNat_natCast] at hd)
      (repeat (first | refine zs rfl ?_ | refine zg rfl rfl rfl ?_ | refine zd ?_ | refine JK.fin ?_ | refine JK.ret ?_))
      refine JK.cond rfl (fun he => ?_) (fun he => ?_)
      · (simp only [↓bif_or, ↓bif_and, ↓Bool.or_eq_true, ↓Bool.or_eq_false_iff, ↓Bool.and_eq_true, ↓Bool.and_eq_false_iff, ↓Bool.not_eq_true', ↓Bool.not_eq_false', ↓decide_eq_true_eq, ↓decide_eq_false_iff_not, ↓beq_iff_eq, ↓bne_iff_ne, ↓bne_eq_false_iff_eq, ↓ne_eq, ↓beq_eq_false_iff_ne, ↓Bool.not_eq_true] at he; try simp only [Ty.dflt, Int.toNat_natCast] at he)
        (repeat (first | refine zs rfl ?_ | refine zg rfl rfl rfl ?_ | refine zd ?_ | refine JK.fin ?_ | refine JK.ret ?_))
        refine ⟨.inl rfl, _, _, rfl, trivial, ?_⟩
        rw [stepP, if_pos hd, if_neg he] at hinv
        rw [← hinv, List.append_nil]
      · (simp only [↓bif_or, ↓bif_and, ↓Bool.or_eq_true, ↓Bool.or_eq_false_iff, ↓Bool.and_eq_true, ↓Bool.and_eq_false_iff, ↓Bool.not_eq_true', ↓Bool.not_eq_false', ↓decide_eq_true_eq, ↓decide_eq_false_iff_not, ↓beq_iff_eq, ↓bne_iff_ne, ↓bne_eq_false_iff_eq, ↓ne_eq, ↓beq_eq_false_iff_ne, ↓Bool.not_eq_true] at he; try simp only [Ty.dflt, Int.toNat_natCast] at he)
        rw [stepP, if_pos hd, if_pos (by omega)] at hinv
        (repeat (first | refine zs rfl ?_ | refine zg rfl rfl rfl ?_ | refine zd ?_ | refine JK.fin ?_ | refine JK.ret ?_))
        refine ⟨(i + 1, m.set (xs.getD i 0).toNat 1, out ++ [(m.set (xs.getD i 0).toNat 1, decide (m.getD (xs.getD i 0).toNat 0 = 1), ())]), by (exact JW.Auto rfl), ⟨by omega, bits_set hm _ (by omega), by simp [hol], ?_⟩, by dsimp only; omega⟩
        rw [List.append_assoc]; exact hinv
    · (simp only [↓bif_or, ↓bif_and, ↓Bool.or_eq_true, ↓Bool.or_eq_false_iff, ↓Bool.and_eq_true, ↓Bool.and_eq_false_iff, ↓Bool.not_eq_true', ↓Bool.not_eq_false', ↓decide_eq_true_eq, ↓decide_eq_false_iff_not, ↓beq_iff_eq, ↓bne_iff_ne, ↓bne_eq_false_iff_eq, ↓ne_eq, ↓beq_eq_false_iff_ne, ↓Bool.not_eq_true] at hd; try simp only [Ty.dflt, Int.toNat_natCast] at hd)
      (repeat (first | refine zs rfl ?_ | refine zg rfl rfl rfl ?_ | refine zd ?_ | refine JK.fin ?_ | refine JK.ret ?_ | refine zc rfl (fn49s 0 7 (plan.getD i 0)) rfl rfl ?_ | refine ze rfl (fn49s 0 7 (plan.getD i 0)) rfl ?_ | refine zk rfl rfl (fun _ => fn49s 0 7 (plan.getD i 0)) rfl rfl ?_))
      refine JK.cond rfl (fun he => ?_) (fun he => ?_)
      · (simp only [↓bif_or, ↓bif_and, ↓Bool.or_eq_true, ↓Bool.or_eq_false_iff, ↓Bool.and_eq_true, ↓Bool.and_eq_false_iff, ↓Bool.not_eq_true', ↓Bool.not_eq_false', ↓decide_eq_true_eq, ↓decide_eq_false_iff_not, ↓beq_iff_eq, ↓bne_iff_ne, ↓bne_eq_false_iff_eq, ↓ne_eq, ↓beq_eq_false_iff_ne, ↓Bool.not_eq_true] at he; try simp only [Ty.dflt, Int.toNat_natCast] at he)
        (repeat (first | refine zs rfl ?_ | refine zg rfl rfl rfl ?_ | refine zd ?_ | refine JK.fin ?_ | refine JK.ret ?_))
        refine ⟨.inl rfl, _, _, rfl, trivial, ?_⟩
        rw [stepP, if_neg (by omega), if_neg (by omega)] at hinv
        rw [← hinv, List.append_nil]
      · (simp only [↓bif_or, ↓bif_and, ↓Bool.or_eq_true, ↓Bool.or_eq_false_iff, ↓Bool.and_eq_true, ↓Bool.and_eq_false_iff, ↓Bool.not_eq_true', ↓Bool.not_eq_false', ↓decide_eq_true_eq, ↓decide_eq_false_iff_not, ↓beq_iff_eq, ↓bne_iff_ne, ↓bne_eq_false_iff_eq, ↓ne_eq, ↓beq_eq_false_iff_ne, ↓Bool.not_eq_true] at he; try simp only [Ty.dflt, Int.toNat_natCast] at he)
        rw [stepP, if_neg (by omega), if_pos (by omega)] at hinv
        have hm2 := bits_set hm (plan.getD i 0).toNat (x := 0) (by omega)
        (repeat (first | refine zs rfl ?_ | refine zg rfl rfl rfl ?_ | refine zd ?_ | refine JK.fin ?_ | refine JK.ret ?_))
        refine ⟨(i + 1, (m.set (plan.getD i 0).toNat 0).set (xs.getD i 0).toNat 1, out ++ [((m.set (plan.getD i 0).toNat 0).set (xs.getD i 0).toNat 1, decide (m.getD (xs.getD i 0).toNat 0 = 1), ())]), by (exact JW.Auto rfl), ⟨by omega, bits_set hm2 _ (by omega), by simp [hol], ?_⟩, by dsimp only; omega⟩
        rw [List.append_assoc]; exact hinv
  · (simp only [↓bif_or, ↓bif_and, ↓Bool.or_eq_true, ↓Bool.or_eq_false_iff, ↓Bool.and_eq_true, ↓Bool.and_eq_false_iff, ↓Bool.not_eq_true', ↓Bool.not_eq_false', ↓decide_eq_true_eq, ↓decide_eq_false_iff_not, ↓beq_iff_eq, ↓bne_iff_ne, ↓bne_eq_false_iff_eq, ↓ne_eq, ↓beq_eq_false_iff_ne, ↓Bool.not_eq_true] at hc; try simp only [Ty.dflt, Int.toNat_natCast] at hc)
    (repeat (first | refine zs rfl ?_ | refine zg rfl rfl rfl ?_ | refine zd ?_ | refine JK.fin ?_ | refine JK.ret ?_))
    obtain rfl : i = xs.length := by omega
    refine ⟨.inl rfl, _, _, rfl, trivial, ?_⟩
    rw [List.drop_of_length_le (by simp; omega), playF, List.append_nil] at hinv
    rw [← hinv]
end Go.Proofs.Ytbmgijgnbilnoaa

namespace Go.Proofs.Ytbmgijgnbilnoaa
open Go Go.RowKit Ox
attribute [local irreducible] JC JL JW

/-- The next place from the i-th on whose element is 'b': at most 'n' are looked at. -/
def waitF (xs : List Int) (b : Int) : Nat → Nat → Nat
  | 0, i => i
  | n + 1, i => if xs.getD i 0 = b then i else waitF xs b n (i + 1)
def waitS (xs : List Int) (b : Int) (i : Nat) : Nat := waitF xs b (xs.length - i) i

abbrev ppB (r : Int) (xs la ne : List Int) : AV := .val (.ptr (.ptr binT)) (some (some (mkBin r xs la ne)))

theorem fn75 (r : Int) (xs la ne : List Int) (b : Int) (i : Int) : Ox.Fn Go.Proofs.Try.prog 75 (.acons (vB0 r xs la ne) (.acons (vI b) (.acons (vI i) .anil))) (· = .fn 76 .anil (.acons (pI i) (.acons (ppB r xs la ne) (.acons (pI b) .anil)))) := by
  refine Ox.Fn.intro xok Go.Proofs.Try.func75 rfl Go.Proofs.Try.call75 (Nat.le_of_ble_eq_true rfl) (fun E M0 up => ?_)
  (repeat (first   | refine JL.Q1 (xok rfl rfl rfl rfl) rfl rfl ?_   | refine JL.G1 (xok rfl rfl rfl rfl) rfl rfl rfl ?_   | refine JL.g1 (xok rfl rfl rfl rfl) rfl rfl rfl (fun hgd => And.intro hgd (fun hpk => Bool.and_eq_true_iff.2 ⟨hgd, by rw [hpk]; rfl⟩)) ?_   | refine JL.G2 (xok rfl rfl rfl rfl) rfl rfl rfl ?_   | refine JL.M1 (xok rfl rfl rfl rfl) rfl rfl ?_   | refine JL.M0 (xok rfl rfl rfl rfl) rfl ?_   | refine JL.Q0 (xok rfl rfl rfl rfl) rfl ?_   | refine JL.nilF ?_   | refine JL.nil ?_   | refine JC.scope ?_   | refine QX.tn ?_   | refine JC.seq ?_   | refine JC.region ?_   | refine JC.Draw (xok rfl rfl rfl rfl) ?_   | refine JC.block ?_   | refine JC.skip ?_   | refine JC.label ?_   | refine JC.exit ?_   | refine JC.ret ?_   | refine QX.te ?_ | refine QX.tr ?_ | refine QX.bn ?_ | refine QX.be ?_ | refine QX.bx rfl ?_ | refine QX.br ?_ | refine QX.sn ?_ | refine QX.se ?_ | refine QX.sr ?_ | refine QX.ee ?_ | refine QX.eo rfl ?_ | refine QX.er ?_ | refine QX.en ?_))
  refine ⟨.inl rfl, _, _, rfl, trivial, ?_⟩
  rfl

set_option maxHeartbeats 1000000 in
theorem fn69 (r : Int) (xs la ne : List Int) (b : Int) (i0 : Nat) (hi0 : i0 ≤ xs.length) : Ox.Fn Go.Proofs.Try.prog 69 (.acons (vB0 r xs la ne) (.acons (vI b) (.acons (vI i0) .anil))) (· = vI (waitS xs b i0)) := by
  refine Ox.Fn.intro xok Go.Proofs.Try.func69 rfl Go.Proofs.Try.call69 (Nat.le_of_ble_eq_true rfl) (fun E M0 up => ?_)
  refine JC.lenOf 0 rfl fun hlen => ?_
  replace hlen : xs.length ≤ 9223372036854775807 := hlen.1.2.1.1
  (repeat (first   | refine JL.Q1 (xok rfl rfl rfl rfl) rfl rfl ?_   | refine JL.G1 (xok rfl rfl rfl rfl) rfl rfl rfl ?_   | refine JL.g1 (xok rfl rfl rfl rfl) rfl rfl rfl (fun hgd => And.intro hgd (fun hpk => Bool.and_eq_true_iff.2 ⟨hgd, by rw [hpk]; rfl⟩)) ?_   | refine JL.G2 (xok rfl rfl rfl rfl) rfl rfl rfl ?_   | refine JL.M1 (xok rfl rfl rfl rfl) rfl rfl ?_   | refine JL.M0 (xok rfl rfl rfl rfl) rfl ?_   | refine JL.Q0 (xok rfl rfl rfl rfl) rfl ?_   | refine JL.nilF ?_   | refine JL.nil ?_   | refine JC.scope ?_   | refine QX.tn ?_   | refine JC.seq ?_   | refine JC.region ?_   | refine JC.Draw (xok rfl rfl rfl rfl) ?_   | refine JC.block ?_   | refine JC.skip ?_   | refine JC.label ?_   | refine JC.exit ?_   | refine JC.ret ?_   | refine QX.te ?_ | refine QX.tr ?_ | refine QX.bn ?_ | refine QX.be ?_ | refine QX.bx rfl ?_ | refine QX.br ?_ | refine QX.sn ?_ | refine QX.se ?_ | refine QX.sr ?_ | refine QX.ee ?_ | refine QX.eo rfl ?_ | refine QX.er ?_ | refine QX.en ?_ | refine JL.S1 rfl (fn75 r xs la ne b i0) rfl trivial rfl ?_ | refine JL.T1 rfl (fn75 r xs la ne b i0) rfl rfl ?_ | refine JL.C1 rfl (fn75 r xs la ne b i0) rfl (fun r hr => ?_); subst hr | refine JL.S1g rfl rfl (fun hgd => fn75 r xs la ne b i0) rfl trivial rfl ?_))
  refine JC.rangeF [0, 6] rfl rfl rfl (by (first | exact trivial | (try dsimp only [allP, inK, idxC, loC, lohiC, fullC, underG, List.append, List.nil_append, List.cons_append, Ty.den, Ty.dflt, Int.toNat_natCast, List.length_cons, List.length_nil] at *); first | omega | ((repeat' (first | exact trivial | assumption | refine And.intro ?_ ?_ | exact fun h => h | (intro hpk; first | exact hpk | simp only [wantB, hpk, Bool.not_false, Bool.not_true]))) <;> omega) | fail)) Go.Proofs.Try.func76 rfl Go.Proofs.Try.call76 (Nat.le_of_ble_eq_true rfl) (fun M up => ?_)
  (repeat (first   | refine JL.Q1 (xok rfl rfl rfl rfl) rfl rfl ?_   | refine JL.G1 (xok rfl rfl rfl rfl) rfl rfl rfl ?_   | refine JL.g1 (xok rfl rfl rfl rfl) rfl rfl rfl (fun hgd => And.intro hgd (fun hpk => Bool.and_eq_true_iff.2 ⟨hgd, by rw [hpk]; rfl⟩)) ?_   | refine JL.G2 (xok rfl rfl rfl rfl) rfl rfl rfl ?_   | refine JL.M1 (xok rfl rfl rfl rfl) rfl rfl ?_   | refine JL.M0 (xok rfl rfl rfl rfl) rfl ?_   | refine JL.Q0 (xok rfl rfl rfl rfl) rfl ?_   | refine JL.nilF ?_   | refine JL.nil ?_   | refine JC.scope ?_   | refine QX.tn ?_   | refine JC.seq ?_   | refine JC.region ?_   | refine JC.Draw (xok rfl rfl rfl rfl) ?_   | refine JC.block ?_   | refine JC.skip ?_   | refine JC.label ?_   | refine JC.exit ?_   | refine JC.ret ?_   | refine QX.te ?_ | refine QX.tr ?_ | refine QX.bn ?_ | refine QX.be ?_ | refine QX.bx rfl ?_ | refine QX.br ?_ | refine QX.sn ?_ | refine QX.se ?_ | refine QX.sr ?_ | refine QX.ee ?_ | refine QX.eo rfl ?_ | refine QX.er ?_ | refine QX.en ?_))
  refine JC.loop (fun i : Nat => ⟨[(0, .lf (.yld 1)), (2, ppB r xs la ne), (3, pI b), (5, vI (i : Int))], [(2, .fr 0 [(20, .lf (.yld 1)), (0, vB0 r xs la ne), (6, .lf (.optr 0 []))]), (1, .loop .ready none #[12] (rgA Go.Proofs.Try.f69.body) (rgB Go.Proofs.Try.f69.body) 20 [(0, vB0 r xs la ne), (6, .lf (.optr 0 []))]), (0, .cell (.int .i64) (vI 0))], 3⟩) (fun i => i ≤ xs.length ∧ waitS xs b i0 = waitS xs b i) (fun i => xs.length - i) i0 ⟨hi0, rfl⟩ (by (exact JW.Auto rfl)) fun i ⟨hi, hinv⟩ => ?_
  (repeat (first   | refine JL.Q1 (xok rfl rfl rfl rfl) rfl rfl ?_   | refine JL.G1 (xok rfl rfl rfl rfl) rfl rfl rfl ?_   | refine JL.g1 (xok rfl rfl rfl rfl) rfl rfl rfl (fun hgd => And.intro hgd (fun hpk => Bool.and_eq_true_iff.2 ⟨hgd, by rw [hpk]; rfl⟩)) ?_   | refine JL.G2 (xok rfl rfl rfl rfl) rfl rfl rfl ?_   | refine JL.M1 (xok rfl rfl rfl rfl) rfl rfl ?_   | refine JL.M0 (xok rfl rfl rfl rfl) rfl ?_   | refine JL.Q0 (xok rfl rfl rfl rfl) rfl ?_   | refine JL.nilF ?_   | refine JL.nil ?_   | refine JC.scope ?_   | refine QX.tn ?_   | refine JC.seq ?_   | refine JC.region ?_   | refine JC.Draw (xok rfl rfl rfl rfl) ?_   | refine JC.block ?_   | refine JC.skip ?_   | refine JC.label ?_   | refine JC.exit ?_   | refine JC.ret ?_   | refine QX.te ?_ | refine QX.tr ?_ | refine QX.bn ?_ | refine QX.be ?_ | refine QX.bx rfl ?_ | refine QX.br ?_ | refine QX.sn ?_ | refine QX.se ?_ | refine QX.sr ?_ | refine QX.ee ?_ | refine QX.eo rfl ?_ | refine QX.er ?_ | refine QX.en ?_))
  refine JC.cond rfl (fun hc => ?_) (fun hc => ?_)
  · (simp only [↓bif_or, ↓bif_and, ↓Bool.or_eq_true, ↓Bool.or_eq_false_iff, ↓Bool.and_eq_true, ↓Bool.and_eq_false_iff, ↓Bool.not_eq_true', ↓Bool.not_eq_false', ↓decide_eq_true_eq, ↓decide_eq_false_iff_not, ↓beq_iff_eq, ↓bne_iff_ne, ↓bne_eq_false_iff_eq, ↓ne_eq, ↓beq_eq_false_iff_ne, ↓Bool.not_eq_true] at hc; try simp only [Ty.dflt, Int.toNat_natCast] at hc)
    have hi' : i < xs.length := by omega
    rw [waitS, waitS, show xs.length - i = (xs.length - (i + 1)) + 1 by omega, waitF] at hinv
    by_cases hx : xs.getD i 0 = b
    · rw [if_pos hx] at hinv
      (repeat (first   | refine JL.Q1 (xok rfl rfl rfl rfl) rfl rfl ?_   | refine JL.G1 (xok rfl rfl rfl rfl) rfl rfl rfl ?_   | refine JL.g1 (xok rfl rfl rfl rfl) rfl rfl rfl (fun hgd => And.intro hgd (fun hpk => Bool.and_eq_true_iff.2 ⟨hgd, by rw [hpk]; rfl⟩)) ?_   | refine JL.G2 (xok rfl rfl rfl rfl) rfl rfl rfl ?_   | refine JL.M1 (xok rfl rfl rfl rfl) rfl rfl ?_   | refine JL.M0 (xok rfl rfl rfl rfl) rfl ?_   | refine JL.Q0 (xok rfl rfl rfl rfl) rfl ?_   | refine JL.nilF ?_   | refine JL.nil ?_   | refine JC.scope ?_   | refine QX.tn ?_   | refine JC.seq ?_   | refine JC.region ?_      | refine JC.block ?_   | refine JC.skip ?_   | refine JC.label ?_   | refine JC.exit ?_   | refine JC.ret ?_   | refine QX.te ?_ | refine QX.tr ?_ | refine QX.bn ?_ | refine QX.be ?_ | refine QX.bx rfl ?_ | refine QX.br ?_ | refine QX.sn ?_ | refine QX.se ?_ | refine QX.sr ?_ | refine QX.ee ?_ | refine QX.eo rfl ?_ | refine QX.er ?_ | refine QX.en ?_))
      refine JC.drawF (xok rfl rfl rfl rfl) (Go.Proofs.Try.f76.body.getD .skip) ⟨[(32, vB true)], [(2, .fr 0 [(20, .lf (.yld 1)), (0, vB0 r xs la ne), (6, .lf (.optr 0 []))]), (1, .loop .done (some .ret) #[12] (rgA Go.Proofs.Try.f69.body) (rgB Go.Proofs.Try.f69.body) 20 [(0, vB0 r xs la ne), (6, .lf (.optr 0 []))]), (0, .cell (.int .i64) (vI i))], 3⟩ rfl 16 rfl ?_ ?_
      · (refine JF.First 5 (xok rfl rfl rfl rfl) rfl rfl ?_; refine JF.Float 0 (xok rfl rfl rfl rfl) rfl rfl ?_; refine JF.Float 1 (xok rfl rfl rfl rfl) rfl rfl ?_; refine JF.Float 2 (xok rfl rfl rfl rfl) rfl rfl ?_; refine JF.Float 3 (xok rfl rfl rfl rfl) rfl rfl ?_; refine JF.Float 4 (xok rfl rfl rfl rfl) rfl rfl ?_; refine JF.Float 6 (xok rfl rfl rfl rfl) rfl rfl ?_; refine JF.Float 7 (xok rfl rfl rfl rfl) rfl rfl ?_; refine JF.Float 8 (xok rfl rfl rfl rfl) rfl rfl ?_; refine JF.Float 9 (xok rfl rfl rfl rfl) rfl rfl ?_; refine JF.Float 10 (xok rfl rfl rfl rfl) rfl rfl ?_; refine JF.Branch 11 [12] (xok rfl rfl rfl rfl) ?_ ?_; (focus (repeat (first | exact StF.nil | refine StF.One rfl rfl rfl ?_))); refine BrF.one rfl rfl ?_ (BrF.one rfl rfl ?_ BrF.nil); (· (first | (refine JL.gT rfl (by show (xs.getD i 0 == b) = true; simpa using hx) ?_; first | refine JL.q1 (xok rfl rfl rfl rfl) rfl rfl (by (first | exact trivial | (try dsimp only [allP, inK, idxC, loC, lohiC, fullC, underG, List.append, List.nil_append, List.cons_append, Ty.den, Ty.dflt, Int.toNat_natCast, List.length_cons, List.length_nil] at *); first | omega | ((repeat' (first | exact trivial | assumption | refine And.intro ?_ ?_ | exact fun h => h | (intro hpk; first | exact hpk | simp only [wantB, hpk, Bool.not_false, Bool.not_true]))) <;> omega) | fail)) ?_ | (refine JL.yield [2, 3, 5, 17, 18, 19, 20, 21, 22, 23, 24, 25, 26, 27] rfl rfl rfl rfl (by (first | exact trivial | (try dsimp only [allP, inK, idxC, loC, lohiC, fullC, underG, List.append, List.nil_append, List.cons_append, Ty.den, Ty.dflt, Int.toNat_natCast, List.length_cons, List.length_nil] at *); first | omega | ((repeat' (first | exact trivial | assumption | refine And.intro ?_ ?_ | exact fun h => h | (intro hpk; first | exact hpk | simp only [wantB, hpk, Bool.not_false, Bool.not_true]))) <;> omega) | fail)) rfl rfl rfl (ltB_lt rfl) (fun M0 up bl hup => ?_); (conv => arg 2; whnf); (repeat (first   | refine JL.Q1 (xok rfl rfl rfl rfl) rfl rfl ?_   | refine JL.G1 (xok rfl rfl rfl rfl) rfl rfl rfl ?_   | refine JL.g1 (xok rfl rfl rfl rfl) rfl rfl rfl (fun hgd => And.intro hgd (fun hpk => Bool.and_eq_true_iff.2 ⟨hgd, by rw [hpk]; rfl⟩)) ?_   | refine JL.G2 (xok rfl rfl rfl rfl) rfl rfl rfl ?_   | refine JL.M1 (xok rfl rfl rfl rfl) rfl rfl ?_   | refine JL.M0 (xok rfl rfl rfl rfl) rfl ?_   | refine JL.Q0 (xok rfl rfl rfl rfl) rfl ?_   | refine JL.nilF ?_   | refine JL.nil ?_   | refine JC.scope ?_   | refine QX.tn ?_   | refine JC.seq ?_   | refine JC.region ?_   | refine JC.Draw (xok rfl rfl rfl rfl) ?_   | refine JC.block ?_   | refine JC.skip ?_   | refine JC.label ?_   | refine JC.exit ?_   | refine JC.ret ?_   | refine QX.te ?_ | refine QX.tr ?_ | refine QX.bn ?_ | refine QX.be ?_ | refine QX.bx rfl ?_ | refine QX.br ?_ | refine QX.sn ?_ | refine QX.se ?_ | refine QX.sr ?_ | refine QX.ee ?_ | refine QX.eo rfl ?_ | refine QX.er ?_ | refine QX.en ?_)); refine asgQ.nor rfl rfl rfl rfl ?_; (conv => arg 2; whnf); (repeat (first   | refine JL.Q1 (xok rfl rfl rfl rfl) rfl rfl ?_   | refine JL.G1 (xok rfl rfl rfl rfl) rfl rfl rfl ?_   | refine JL.g1 (xok rfl rfl rfl rfl) rfl rfl rfl (fun hgd => And.intro hgd (fun hpk => Bool.and_eq_true_iff.2 ⟨hgd, by rw [hpk]; rfl⟩)) ?_   | refine JL.G2 (xok rfl rfl rfl rfl) rfl rfl rfl ?_   | refine JL.M1 (xok rfl rfl rfl rfl) rfl rfl ?_   | refine JL.M0 (xok rfl rfl rfl rfl) rfl ?_   | refine JL.Q0 (xok rfl rfl rfl rfl) rfl ?_   | refine JL.nilF ?_   | refine JL.nil ?_   | refine JC.scope ?_   | refine QX.tn ?_   | refine JC.seq ?_   | refine JC.region ?_   | refine JC.Draw (xok rfl rfl rfl rfl) ?_   | refine JC.block ?_   | refine JC.skip ?_   | refine JC.label ?_   | refine JC.exit ?_   | refine JC.ret ?_   | refine QX.te ?_ | refine QX.tr ?_ | refine QX.bn ?_ | refine QX.be ?_ | refine QX.bx rfl ?_ | refine QX.br ?_ | refine QX.sn ?_ | refine QX.se ?_ | refine QX.sr ?_ | refine QX.ee ?_ | refine QX.eo rfl ?_ | refine QX.er ?_ | refine QX.en ?_)); refine bodyQ.of rfl rfl rfl rfl rfl rfl ?_)) | refine JL.pickT rfl (by show (xs.getD i 0 == b) = true; simpa using hx) rfl rfl (by (first | exact trivial | (try dsimp only [allP, inK, idxC, loC, lohiC, fullC, underG, List.append, List.nil_append, List.cons_append, Ty.den, Ty.dflt, Int.toNat_natCast, List.length_cons, List.length_nil] at *); first | omega | ((repeat' (first | exact trivial | assumption | refine And.intro ?_ ?_ | exact fun h => h | (intro hpk; first | exact hpk | simp only [wantB, hpk, Bool.not_false, Bool.not_true]))) <;> omega) | fail)) (by (first | exact trivial | (try dsimp only [allP, inK, idxC, loC, lohiC, fullC, underG, List.append, List.nil_append, List.cons_append, Ty.den, Ty.dflt, Int.toNat_natCast, List.length_cons, List.length_nil] at *); first | omega | ((repeat' (first | exact trivial | assumption | refine And.intro ?_ ?_ | exact fun h => h | (intro hpk; first | exact hpk | simp only [wantB, hpk, Bool.not_false, Bool.not_true]))) <;> omega) | fail)) ?_ | refine JL.q1 (xok rfl rfl rfl rfl) rfl rfl (by (first | exact trivial | (try dsimp only [allP, inK, idxC, loC, lohiC, fullC, underG, List.append, List.nil_append, List.cons_append, Ty.den, Ty.dflt, Int.toNat_natCast, List.length_cons, List.length_nil] at *); first | omega | ((repeat' (first | exact trivial | assumption | refine And.intro ?_ ?_ | exact fun h => h | (intro hpk; first | exact hpk | simp only [wantB, hpk, Bool.not_false, Bool.not_true]))) <;> omega) | fail)) ?_); refine JL.finN ?_; refine JF.Branch 12 [] (xok rfl rfl rfl rfl) ?_ ?_; (focus (repeat (first | exact StF.nil | refine StF.One rfl rfl rfl ?_))); refine BrF.one rfl rfl ?_ BrF.nil; (· (first | (refine JL.gT rfl (by show (xs.getD i 0 == b) = true; simpa using hx) ?_; first | refine JL.q1 (xok rfl rfl rfl rfl) rfl rfl (by (first | exact trivial | (try dsimp only [allP, inK, idxC, loC, lohiC, fullC, underG, List.append, List.nil_append, List.cons_append, Ty.den, Ty.dflt, Int.toNat_natCast, List.length_cons, List.length_nil] at *); first | omega | ((repeat' (first | exact trivial | assumption | refine And.intro ?_ ?_ | exact fun h => h | (intro hpk; first | exact hpk | simp only [wantB, hpk, Bool.not_false, Bool.not_true]))) <;> omega) | fail)) ?_ | (refine JL.yield [2, 3, 5, 17, 18, 19, 20, 21, 22, 23, 24, 25, 26, 27] rfl rfl rfl rfl (by (first | exact trivial | (try dsimp only [allP, inK, idxC, loC, lohiC, fullC, underG, List.append, List.nil_append, List.cons_append, Ty.den, Ty.dflt, Int.toNat_natCast, List.length_cons, List.length_nil] at *); first | omega | ((repeat' (first | exact trivial | assumption | refine And.intro ?_ ?_ | exact fun h => h | (intro hpk; first | exact hpk | simp only [wantB, hpk, Bool.not_false, Bool.not_true]))) <;> omega) | fail)) rfl rfl rfl (ltB_lt rfl) (fun M0 up bl hup => ?_); (conv => arg 2; whnf); (repeat (first   | refine JL.Q1 (xok rfl rfl rfl rfl) rfl rfl ?_   | refine JL.G1 (xok rfl rfl rfl rfl) rfl rfl rfl ?_   | refine JL.g1 (xok rfl rfl rfl rfl) rfl rfl rfl (fun hgd => And.intro hgd (fun hpk => Bool.and_eq_true_iff.2 ⟨hgd, by rw [hpk]; rfl⟩)) ?_   | refine JL.G2 (xok rfl rfl rfl rfl) rfl rfl rfl ?_   | refine JL.M1 (xok rfl rfl rfl rfl) rfl rfl ?_   | refine JL.M0 (xok rfl rfl rfl rfl) rfl ?_   | refine JL.Q0 (xok rfl rfl rfl rfl) rfl ?_   | refine JL.nilF ?_   | refine JL.nil ?_   | refine JC.scope ?_   | refine QX.tn ?_   | refine JC.seq ?_   | refine JC.region ?_   | refine JC.Draw (xok rfl rfl rfl rfl) ?_   | refine JC.block ?_   | refine JC.skip ?_   | refine JC.label ?_   | refine JC.exit ?_   | refine JC.ret ?_   | refine QX.te ?_ | refine QX.tr ?_ | refine QX.bn ?_ | refine QX.be ?_ | refine QX.bx rfl ?_ | refine QX.br ?_ | refine QX.sn ?_ | refine QX.se ?_ | refine QX.sr ?_ | refine QX.ee ?_ | refine QX.eo rfl ?_ | refine QX.er ?_ | refine QX.en ?_)); refine asgQ.nor rfl rfl rfl rfl ?_; (conv => arg 2; whnf); (repeat (first   | refine JL.Q1 (xok rfl rfl rfl rfl) rfl rfl ?_   | refine JL.G1 (xok rfl rfl rfl rfl) rfl rfl rfl ?_   | refine JL.g1 (xok rfl rfl rfl rfl) rfl rfl rfl (fun hgd => And.intro hgd (fun hpk => Bool.and_eq_true_iff.2 ⟨hgd, by rw [hpk]; rfl⟩)) ?_   | refine JL.G2 (xok rfl rfl rfl rfl) rfl rfl rfl ?_   | refine JL.M1 (xok rfl rfl rfl rfl) rfl rfl ?_   | refine JL.M0 (xok rfl rfl rfl rfl) rfl ?_   | refine JL.Q0 (xok rfl rfl rfl rfl) rfl ?_   | refine JL.nilF ?_   | refine JL.nil ?_   | refine JC.scope ?_   | refine QX.tn ?_   | refine JC.seq ?_   | refine JC.region ?_   | refine JC.Draw (xok rfl rfl rfl rfl) ?_   | refine JC.block ?_   | refine JC.skip ?_   | refine JC.label ?_   | refine JC.exit ?_   | refine JC.ret ?_   | refine QX.te ?_ | refine QX.tr ?_ | refine QX.bn ?_ | refine QX.be ?_ | refine QX.bx rfl ?_ | refine QX.br ?_ | refine QX.sn ?_ | refine QX.se ?_ | refine QX.sr ?_ | refine QX.ee ?_ | refine QX.eo rfl ?_ | refine QX.er ?_ | refine QX.en ?_)); refine bodyQ.of rfl rfl rfl rfl rfl rfl ?_)) | refine JL.pickT rfl (by show (xs.getD i 0 == b) = true; simpa using hx) rfl rfl (by (first | exact trivial | (try dsimp only [allP, inK, idxC, loC, lohiC, fullC, underG, List.append, List.nil_append, List.cons_append, Ty.den, Ty.dflt, Int.toNat_natCast, List.length_cons, List.length_nil] at *); first | omega | ((repeat' (first | exact trivial | assumption | refine And.intro ?_ ?_ | exact fun h => h | (intro hpk; first | exact hpk | simp only [wantB, hpk, Bool.not_false, Bool.not_true]))) <;> omega) | fail)) (by (first | exact trivial | (try dsimp only [allP, inK, idxC, loC, lohiC, fullC, underG, List.append, List.nil_append, List.cons_append, Ty.den, Ty.dflt, Int.toNat_natCast, List.length_cons, List.length_nil] at *); first | omega | ((repeat' (first | exact trivial | assumption | refine And.intro ?_ ?_ | exact fun h => h | (intro hpk; first | exact hpk | simp only [wantB, hpk, Bool.not_false, Bool.not_true]))) <;> omega) | fail)) ?_ | refine JL.q1 (xok rfl rfl rfl rfl) rfl rfl (by (first | exact trivial | (try dsimp only [allP, inK, idxC, loC, lohiC, fullC, underG, List.append, List.nil_append, List.cons_append, Ty.den, Ty.dflt, Int.toNat_natCast, List.length_cons, List.length_nil] at *); first | omega | ((repeat' (first | exact trivial | assumption | refine And.intro ?_ ?_ | exact fun h => h | (intro hpk; first | exact hpk | simp only [wantB, hpk, Bool.not_false, Bool.not_true]))) <;> omega) | fail)) ?_); refine JL.finN ?_; refine JF.Branch 13 [] (xok rfl rfl rfl rfl) ?_ ?_; (focus (repeat (first | exact StF.nil | refine StF.One rfl rfl rfl ?_))); refine BrF.one rfl rfl ?_ BrF.nil; (· (first | (refine JL.gT rfl (by show (xs.getD i 0 == b) = true; simpa using hx) ?_; first | refine JL.q1 (xok rfl rfl rfl rfl) rfl rfl (by (first | exact trivial | (try dsimp only [allP, inK, idxC, loC, lohiC, fullC, underG, List.append, List.nil_append, List.cons_append, Ty.den, Ty.dflt, Int.toNat_natCast, List.length_cons, List.length_nil] at *); first | omega | ((repeat' (first | exact trivial | assumption | refine And.intro ?_ ?_ | exact fun h => h | (intro hpk; first | exact hpk | simp only [wantB, hpk, Bool.not_false, Bool.not_true]))) <;> omega) | fail)) ?_ | (refine JL.yield [2, 3, 5, 17, 18, 19, 20, 21, 22, 23, 24, 25, 26, 27] rfl rfl rfl rfl (by (first | exact trivial | (try dsimp only [allP, inK, idxC, loC, lohiC, fullC, underG, List.append, List.nil_append, List.cons_append, Ty.den, Ty.dflt, Int.toNat_natCast, List.length_cons, List.length_nil] at *); first | omega | ((repeat' (first | exact trivial | assumption | refine And.intro ?_ ?_ | exact fun h => h | (intro hpk; first | exact hpk | simp only [wantB, hpk, Bool.not_false, Bool.not_true]))) <;> omega) | fail)) rfl rfl rfl (ltB_lt rfl) (fun M0 up bl hup => ?_); (conv => arg 2; whnf); (repeat (first   | refine JL.Q1 (xok rfl rfl rfl rfl) rfl rfl ?_   | refine JL.G1 (xok rfl rfl rfl rfl) rfl rfl rfl ?_   | refine JL.g1 (xok rfl rfl rfl rfl) rfl rfl rfl (fun hgd => And.intro hgd (fun hpk => Bool.and_eq_true_iff.2 ⟨hgd, by rw [hpk]; rfl⟩)) ?_   | refine JL.G2 (xok rfl rfl rfl rfl) rfl rfl rfl ?_   | refine JL.M1 (xok rfl rfl rfl rfl) rfl rfl ?_   | refine JL.M0 (xok rfl rfl rfl rfl) rfl ?_   | refine JL.Q0 (xok rfl rfl rfl rfl) rfl ?_   | refine JL.nilF ?_   | refine JL.nil ?_   | refine JC.scope ?_   | refine QX.tn ?_   | refine JC.seq ?_   | refine JC.region ?_   | refine JC.Draw (xok rfl rfl rfl rfl) ?_   | refine JC.block ?_   | refine JC.skip ?_   | refine JC.label ?_   | refine JC.exit ?_   | refine JC.ret ?_   | refine QX.te ?_ | refine QX.tr ?_ | refine QX.bn ?_ | refine QX.be ?_ | refine QX.bx rfl ?_ | refine QX.br ?_ | refine QX.sn ?_ | refine QX.se ?_ | refine QX.sr ?_ | refine QX.ee ?_ | refine QX.eo rfl ?_ | refine QX.er ?_ | refine QX.en ?_)); refine asgQ.nor rfl rfl rfl rfl ?_; (conv => arg 2; whnf); (repeat (first   | refine JL.Q1 (xok rfl rfl rfl rfl) rfl rfl ?_   | refine JL.G1 (xok rfl rfl rfl rfl) rfl rfl rfl ?_   | refine JL.g1 (xok rfl rfl rfl rfl) rfl rfl rfl (fun hgd => And.intro hgd (fun hpk => Bool.and_eq_true_iff.2 ⟨hgd, by rw [hpk]; rfl⟩)) ?_   | refine JL.G2 (xok rfl rfl rfl rfl) rfl rfl rfl ?_   | refine JL.M1 (xok rfl rfl rfl rfl) rfl rfl ?_   | refine JL.M0 (xok rfl rfl rfl rfl) rfl ?_   | refine JL.Q0 (xok rfl rfl rfl rfl) rfl ?_   | refine JL.nilF ?_   | refine JL.nil ?_   | refine JC.scope ?_   | refine QX.tn ?_   | refine JC.seq ?_   | refine JC.region ?_   | refine JC.Draw (xok rfl rfl rfl rfl) ?_   | refine JC.block ?_   | refine JC.skip ?_   | refine JC.label ?_   | refine JC.exit ?_   | refine JC.ret ?_   | refine QX.te ?_ | refine QX.tr ?_ | refine QX.bn ?_ | refine QX.be ?_ | refine QX.bx rfl ?_ | refine QX.br ?_ | refine QX.sn ?_ | refine QX.se ?_ | refine QX.sr ?_ | refine QX.ee ?_ | refine QX.eo rfl ?_ | refine QX.er ?_ | refine QX.en ?_)); refine bodyQ.of rfl rfl rfl rfl rfl rfl ?_)) | refine JL.pickT rfl (by show (xs.getD i 0 == b) = true; simpa using hx) rfl rfl (by (first | exact trivial | (try dsimp only [allP, inK, idxC, loC, lohiC, fullC, underG, List.append, List.nil_append, List.cons_append, Ty.den, Ty.dflt, Int.toNat_natCast, List.length_cons, List.length_nil] at *); first | omega | ((repeat' (first | exact trivial | assumption | refine And.intro ?_ ?_ | exact fun h => h | (intro hpk; first | exact hpk | simp only [wantB, hpk, Bool.not_false, Bool.not_true]))) <;> omega) | fail)) (by (first | exact trivial | (try dsimp only [allP, inK, idxC, loC, lohiC, fullC, underG, List.append, List.nil_append, List.cons_append, Ty.den, Ty.dflt, Int.toNat_natCast, List.length_cons, List.length_nil] at *); first | omega | ((repeat' (first | exact trivial | assumption | refine And.intro ?_ ?_ | exact fun h => h | (intro hpk; first | exact hpk | simp only [wantB, hpk, Bool.not_false, Bool.not_true]))) <;> omega) | fail)) ?_ | refine JL.q1 (xok rfl rfl rfl rfl) rfl rfl (by (first | exact trivial | (try dsimp only [allP, inK, idxC, loC, lohiC, fullC, underG, List.append, List.nil_append, List.cons_append, Ty.den, Ty.dflt, Int.toNat_natCast, List.length_cons, List.length_nil] at *); first | omega | ((repeat' (first | exact trivial | assumption | refine And.intro ?_ ?_ | exact fun h => h | (intro hpk; first | exact hpk | simp only [wantB, hpk, Bool.not_false, Bool.not_true]))) <;> omega) | fail)) ?_); refine JL.finN ?_; refine JF.Branch 14 [] (xok rfl rfl rfl rfl) ?_ ?_; (focus (repeat (first | exact StF.nil | refine StF.One rfl rfl rfl ?_))); refine BrF.one rfl rfl ?_ BrF.nil; (· (first | (refine JL.gT rfl (by show (xs.getD i 0 == b) = true; simpa using hx) ?_; first | refine JL.q1 (xok rfl rfl rfl rfl) rfl rfl (by (first | exact trivial | (try dsimp only [allP, inK, idxC, loC, lohiC, fullC, underG, List.append, List.nil_append, List.cons_append, Ty.den, Ty.dflt, Int.toNat_natCast, List.length_cons, List.length_nil] at *); first | omega | ((repeat' (first | exact trivial | assumption | refine And.intro ?_ ?_ | exact fun h => h | (intro hpk; first | exact hpk | simp only [wantB, hpk, Bool.not_false, Bool.not_true]))) <;> omega) | fail)) ?_ | (refine JL.yield [2, 3, 5, 17, 18, 19, 20, 21, 22, 23, 24, 25, 26, 27] rfl rfl rfl rfl (by (first | exact trivial | (try dsimp only [allP, inK, idxC, loC, lohiC, fullC, underG, List.append, List.nil_append, List.cons_append, Ty.den, Ty.dflt, Int.toNat_natCast, List.length_cons, List.length_nil] at *); first | omega | ((repeat' (first | exact trivial | assumption | refine And.intro ?_ ?_ | exact fun h => h | (intro hpk; first | exact hpk | simp only [wantB, hpk, Bool.not_false, Bool.not_true]))) <;> omega) | fail)) rfl rfl rfl (ltB_lt rfl) (fun M0 up bl hup => ?_); (conv => arg 2; whnf); (repeat (first   | refine JL.Q1 (xok rfl rfl rfl rfl) rfl rfl ?_   | refine JL.G1 (xok rfl rfl rfl rfl) rfl rfl rfl ?_   | refine JL.g1 (xok rfl rfl rfl rfl) rfl rfl rfl (fun hgd => And.intro hgd (fun hpk => Bool.and_eq_true_iff.2 ⟨hgd, by rw [hpk]; rfl⟩)) ?_   | refine JL.G2 (xok rfl rfl rfl rfl) rfl rfl rfl ?_   | refine JL.M1 (xok rfl rfl rfl rfl) rfl rfl ?_   | refine JL.M0 (xok rfl rfl rfl rfl) rfl ?_   | refine JL.Q0 (xok rfl rfl rfl rfl) rfl ?_   | refine JL.nilF ?_   | refine JL.nil ?_   | refine JC.scope ?_   | refine QX.tn ?_   | refine JC.seq ?_   | refine JC.region ?_   | refine JC.Draw (xok rfl rfl rfl rfl) ?_   | refine JC.block ?_   | refine JC.skip ?_   | refine JC.label ?_   | refine JC.exit ?_   | refine JC.ret ?_   | refine QX.te ?_ | refine QX.tr ?_ | refine QX.bn ?_ | refine QX.be ?_ | refine QX.bx rfl ?_ | refine QX.br ?_ | refine QX.sn ?_ | refine QX.se ?_ | refine QX.sr ?_ | refine QX.ee ?_ | refine QX.eo rfl ?_ | refine QX.er ?_ | refine QX.en ?_)); refine asgQ.nor rfl rfl rfl rfl ?_; (conv => arg 2; whnf); (repeat (first   | refine JL.Q1 (xok rfl rfl rfl rfl) rfl rfl ?_   | refine JL.G1 (xok rfl rfl rfl rfl) rfl rfl rfl ?_   | refine JL.g1 (xok rfl rfl rfl rfl) rfl rfl rfl (fun hgd => And.intro hgd (fun hpk => Bool.and_eq_true_iff.2 ⟨hgd, by rw [hpk]; rfl⟩)) ?_   | refine JL.G2 (xok rfl rfl rfl rfl) rfl rfl rfl ?_   | refine JL.M1 (xok rfl rfl rfl rfl) rfl rfl ?_   | refine JL.M0 (xok rfl rfl rfl rfl) rfl ?_   | refine JL.Q0 (xok rfl rfl rfl rfl) rfl ?_   | refine JL.nilF ?_   | refine JL.nil ?_   | refine JC.scope ?_   | refine QX.tn ?_   | refine JC.seq ?_   | refine JC.region ?_   | refine JC.Draw (xok rfl rfl rfl rfl) ?_   | refine JC.block ?_   | refine JC.skip ?_   | refine JC.label ?_   | refine JC.exit ?_   | refine JC.ret ?_   | refine QX.te ?_ | refine QX.tr ?_ | refine QX.bn ?_ | refine QX.be ?_ | refine QX.bx rfl ?_ | refine QX.br ?_ | refine QX.sn ?_ | refine QX.se ?_ | refine QX.sr ?_ | refine QX.ee ?_ | refine QX.eo rfl ?_ | refine QX.er ?_ | refine QX.en ?_)); refine bodyQ.of rfl rfl rfl rfl rfl rfl ?_)) | refine JL.pickT rfl (by show (xs.getD i 0 == b) = true; simpa using hx) rfl rfl (by (first | exact trivial | (try dsimp only [allP, inK, idxC, loC, lohiC, fullC, underG, List.append, List.nil_append, List.cons_append, Ty.den, Ty.dflt, Int.toNat_natCast, List.length_cons, List.length_nil] at *); first | omega | ((repeat' (first | exact trivial | assumption | refine And.intro ?_ ?_ | exact fun h => h | (intro hpk; first | exact hpk | simp only [wantB, hpk, Bool.not_false, Bool.not_true]))) <;> omega) | fail)) (by (first | exact trivial | (try dsimp only [allP, inK, idxC, loC, lohiC, fullC, underG, List.append, List.nil_append, List.cons_append, Ty.den, Ty.dflt, Int.toNat_natCast, List.length_cons, List.length_nil] at *); first | omega | ((repeat' (first | exact trivial | assumption | refine And.intro ?_ ?_ | exact fun h => h | (intro hpk; first | exact hpk | simp only [wantB, hpk, Bool.not_false, Bool.not_true]))) <;> omega) | fail)) ?_ | refine JL.q1 (xok rfl rfl rfl rfl) rfl rfl (by (first | exact trivial | (try dsimp only [allP, inK, idxC, loC, lohiC, fullC, underG, List.append, List.nil_append, List.cons_append, Ty.den, Ty.dflt, Int.toNat_natCast, List.length_cons, List.length_nil] at *); first | omega | ((repeat' (first | exact trivial | assumption | refine And.intro ?_ ?_ | exact fun h => h | (intro hpk; first | exact hpk | simp only [wantB, hpk, Bool.not_false, Bool.not_true]))) <;> omega) | fail)) ?_); refine JL.finN ?_; refine JF.Branch 15 [] (xok rfl rfl rfl rfl) ?_ ?_; (focus (repeat (first | exact StF.nil | refine StF.One rfl rfl rfl ?_))); refine BrF.one rfl rfl ?_ BrF.nil; (· (first | (refine JL.gT rfl (by show (xs.getD i 0 == b) = true; simpa using hx) ?_; first | refine JL.q1 (xok rfl rfl rfl rfl) rfl rfl (by (first | exact trivial | (try dsimp only [allP, inK, idxC, loC, lohiC, fullC, underG, List.append, List.nil_append, List.cons_append, Ty.den, Ty.dflt, Int.toNat_natCast, List.length_cons, List.length_nil] at *); first | omega | ((repeat' (first | exact trivial | assumption | refine And.intro ?_ ?_ | exact fun h => h | (intro hpk; first | exact hpk | simp only [wantB, hpk, Bool.not_false, Bool.not_true]))) <;> omega) | fail)) ?_ | (refine JL.yield [2, 3, 5, 17, 18, 19, 20, 21, 22, 23, 24, 25, 26, 27] rfl rfl rfl rfl (by (first | exact trivial | (try dsimp only [allP, inK, idxC, loC, lohiC, fullC, underG, List.append, List.nil_append, List.cons_append, Ty.den, Ty.dflt, Int.toNat_natCast, List.length_cons, List.length_nil] at *); first | omega | ((repeat' (first | exact trivial | assumption | refine And.intro ?_ ?_ | exact fun h => h | (intro hpk; first | exact hpk | simp only [wantB, hpk, Bool.not_false, Bool.not_true]))) <;> omega) | fail)) rfl rfl rfl (ltB_lt rfl) (fun M0 up bl hup => ?_); (conv => arg 2; whnf); (repeat (first   | refine JL.Q1 (xok rfl rfl rfl rfl) rfl rfl ?_   | refine JL.G1 (xok rfl rfl rfl rfl) rfl rfl rfl ?_   | refine JL.g1 (xok rfl rfl rfl rfl) rfl rfl rfl (fun hgd => And.intro hgd (fun hpk => Bool.and_eq_true_iff.2 ⟨hgd, by rw [hpk]; rfl⟩)) ?_   | refine JL.G2 (xok rfl rfl rfl rfl) rfl rfl rfl ?_   | refine JL.M1 (xok rfl rfl rfl rfl) rfl rfl ?_   | refine JL.M0 (xok rfl rfl rfl rfl) rfl ?_   | refine JL.Q0 (xok rfl rfl rfl rfl) rfl ?_   | refine JL.nilF ?_   | refine JL.nil ?_   | refine JC.scope ?_   | refine QX.tn ?_   | refine JC.seq ?_   | refine JC.region ?_   | refine JC.Draw (xok rfl rfl rfl rfl) ?_   | refine JC.block ?_   | refine JC.skip ?_   | refine JC.label ?_   | refine JC.exit ?_   | refine JC.ret ?_   | refine QX.te ?_ | refine QX.tr ?_ | refine QX.bn ?_ | refine QX.be ?_ | refine QX.bx rfl ?_ | refine QX.br ?_ | refine QX.sn ?_ | refine QX.se ?_ | refine QX.sr ?_ | refine QX.ee ?_ | refine QX.eo rfl ?_ | refine QX.er ?_ | refine QX.en ?_)); refine asgQ.nor rfl rfl rfl rfl ?_; (conv => arg 2; whnf); (repeat (first   | refine JL.Q1 (xok rfl rfl rfl rfl) rfl rfl ?_   | refine JL.G1 (xok rfl rfl rfl rfl) rfl rfl rfl ?_   | refine JL.g1 (xok rfl rfl rfl rfl) rfl rfl rfl (fun hgd => And.intro hgd (fun hpk => Bool.and_eq_true_iff.2 ⟨hgd, by rw [hpk]; rfl⟩)) ?_   | refine JL.G2 (xok rfl rfl rfl rfl) rfl rfl rfl ?_   | refine JL.M1 (xok rfl rfl rfl rfl) rfl rfl ?_   | refine JL.M0 (xok rfl rfl rfl rfl) rfl ?_   | refine JL.Q0 (xok rfl rfl rfl rfl) rfl ?_   | refine JL.nilF ?_   | refine JL.nil ?_   | refine JC.scope ?_   | refine QX.tn ?_   | refine JC.seq ?_   | refine JC.region ?_   | refine JC.Draw (xok rfl rfl rfl rfl) ?_   | refine JC.block ?_   | refine JC.skip ?_   | refine JC.label ?_   | refine JC.exit ?_   | refine JC.ret ?_   | refine QX.te ?_ | refine QX.tr ?_ | refine QX.bn ?_ | refine QX.be ?_ | refine QX.bx rfl ?_ | refine QX.br ?_ | refine QX.sn ?_ | refine QX.se ?_ | refine QX.sr ?_ | refine QX.ee ?_ | refine QX.eo rfl ?_ | refine QX.er ?_ | refine QX.en ?_)); refine bodyQ.of rfl rfl rfl rfl rfl rfl ?_)) | refine JL.pickT rfl (by show (xs.getD i 0 == b) = true; simpa using hx) rfl rfl (by (first | exact trivial | (try dsimp only [allP, inK, idxC, loC, lohiC, fullC, underG, List.append, List.nil_append, List.cons_append, Ty.den, Ty.dflt, Int.toNat_natCast, List.length_cons, List.length_nil] at *); first | omega | ((repeat' (first | exact trivial | assumption | refine And.intro ?_ ?_ | exact fun h => h | (intro hpk; first | exact hpk | simp only [wantB, hpk, Bool.not_false, Bool.not_true]))) <;> omega) | fail)) (by (first | exact trivial | (try dsimp only [allP, inK, idxC, loC, lohiC, fullC, underG, List.append, List.nil_append, List.cons_append, Ty.den, Ty.dflt, Int.toNat_natCast, List.length_cons, List.length_nil] at *); first | omega | ((repeat' (first | exact trivial | assumption | refine And.intro ?_ ?_ | exact fun h => h | (intro hpk; first | exact hpk | simp only [wantB, hpk, Bool.not_false, Bool.not_true]))) <;> omega) | fail)) ?_ | refine JL.q1 (xok rfl rfl rfl rfl) rfl rfl (by (first | exact trivial | (try dsimp only [allP, inK, idxC, loC, lohiC, fullC, underG, List.append, List.nil_append, List.cons_append, Ty.den, Ty.dflt, Int.toNat_natCast, List.length_cons, List.length_nil] at *); first | omega | ((repeat' (first | exact trivial | assumption | refine And.intro ?_ ?_ | exact fun h => h | (intro hpk; first | exact hpk | simp only [wantB, hpk, Bool.not_false, Bool.not_true]))) <;> omega) | fail)) ?_); refine JL.finN ?_; refine JF.Done (xok rfl rfl rfl rfl) ?_ ?_; (focus (repeat (first | exact StF.nil | refine StF.One rfl rfl rfl ?_))); ((exact JW.Auto rfl))))))); (· (first | (refine JL.gT rfl (by show (xs.getD i 0 == b) = true; simpa using hx) ?_; first | refine JL.q1 (xok rfl rfl rfl rfl) rfl rfl (by (first | exact trivial | (try dsimp only [allP, inK, idxC, loC, lohiC, fullC, underG, List.append, List.nil_append, List.cons_append, Ty.den, Ty.dflt, Int.toNat_natCast, List.length_cons, List.length_nil] at *); first | omega | ((repeat' (first | exact trivial | assumption | refine And.intro ?_ ?_ | exact fun h => h | (intro hpk; first | exact hpk | simp only [wantB, hpk, Bool.not_false, Bool.not_true]))) <;> omega) | fail)) ?_ | (refine JL.yield [2, 3, 5, 17, 18, 19, 20, 21, 22, 23, 24, 25, 26, 27] rfl rfl rfl rfl (by (first | exact trivial | (try dsimp only [allP, inK, idxC, loC, lohiC, fullC, underG, List.append, List.nil_append, List.cons_append, Ty.den, Ty.dflt, Int.toNat_natCast, List.length_cons, List.length_nil] at *); first | omega | ((repeat' (first | exact trivial | assumption | refine And.intro ?_ ?_ | exact fun h => h | (intro hpk; first | exact hpk | simp only [wantB, hpk, Bool.not_false, Bool.not_true]))) <;> omega) | fail)) rfl rfl rfl (ltB_lt rfl) (fun M0 up bl hup => ?_); (conv => arg 2; whnf); (repeat (first   | refine JL.Q1 (xok rfl rfl rfl rfl) rfl rfl ?_   | refine JL.G1 (xok rfl rfl rfl rfl) rfl rfl rfl ?_   | refine JL.g1 (xok rfl rfl rfl rfl) rfl rfl rfl (fun hgd => And.intro hgd (fun hpk => Bool.and_eq_true_iff.2 ⟨hgd, by rw [hpk]; rfl⟩)) ?_   | refine JL.G2 (xok rfl rfl rfl rfl) rfl rfl rfl ?_   | refine JL.M1 (xok rfl rfl rfl rfl) rfl rfl ?_   | refine JL.M0 (xok rfl rfl rfl rfl) rfl ?_   | refine JL.Q0 (xok rfl rfl rfl rfl) rfl ?_   | refine JL.nilF ?_   | refine JL.nil ?_   | refine JC.scope ?_   | refine QX.tn ?_   | refine JC.seq ?_   | refine JC.region ?_   | refine JC.Draw (xok rfl rfl rfl rfl) ?_   | refine JC.block ?_   | refine JC.skip ?_   | refine JC.label ?_   | refine JC.exit ?_   | refine JC.ret ?_   | refine QX.te ?_ | refine QX.tr ?_ | refine QX.bn ?_ | refine QX.be ?_ | refine QX.bx rfl ?_ | refine QX.br ?_ | refine QX.sn ?_ | refine QX.se ?_ | refine QX.sr ?_ | refine QX.ee ?_ | refine QX.eo rfl ?_ | refine QX.er ?_ | refine QX.en ?_)); refine asgQ.nor rfl rfl rfl rfl ?_; (conv => arg 2; whnf); (repeat (first   | refine JL.Q1 (xok rfl rfl rfl rfl) rfl rfl ?_   | refine JL.G1 (xok rfl rfl rfl rfl) rfl rfl rfl ?_   | refine JL.g1 (xok rfl rfl rfl rfl) rfl rfl rfl (fun hgd => And.intro hgd (fun hpk => Bool.and_eq_true_iff.2 ⟨hgd, by rw [hpk]; rfl⟩)) ?_   | refine JL.G2 (xok rfl rfl rfl rfl) rfl rfl rfl ?_   | refine JL.M1 (xok rfl rfl rfl rfl) rfl rfl ?_   | refine JL.M0 (xok rfl rfl rfl rfl) rfl ?_   | refine JL.Q0 (xok rfl rfl rfl rfl) rfl ?_   | refine JL.nilF ?_   | refine JL.nil ?_   | refine JC.scope ?_   | refine QX.tn ?_   | refine JC.seq ?_   | refine JC.region ?_   | refine JC.Draw (xok rfl rfl rfl rfl) ?_   | refine JC.block ?_   | refine JC.skip ?_   | refine JC.label ?_   | refine JC.exit ?_   | refine JC.ret ?_   | refine QX.te ?_ | refine QX.tr ?_ | refine QX.bn ?_ | refine QX.be ?_ | refine QX.bx rfl ?_ | refine QX.br ?_ | refine QX.sn ?_ | refine QX.se ?_ | refine QX.sr ?_ | refine QX.ee ?_ | refine QX.eo rfl ?_ | refine QX.er ?_ | refine QX.en ?_)); refine bodyQ.of rfl rfl rfl rfl rfl rfl ?_)) | refine JL.pickT rfl (by show (xs.getD i 0 == b) = true; simpa using hx) rfl rfl (by (first | exact trivial | (try dsimp only [allP, inK, idxC, loC, lohiC, fullC, underG, List.append, List.nil_append, List.cons_append, Ty.den, Ty.dflt, Int.toNat_natCast, List.length_cons, List.length_nil] at *); first | omega | ((repeat' (first | exact trivial | assumption | refine And.intro ?_ ?_ | exact fun h => h | (intro hpk; first | exact hpk | simp only [wantB, hpk, Bool.not_false, Bool.not_true]))) <;> omega) | fail)) (by (first | exact trivial | (try dsimp only [allP, inK, idxC, loC, lohiC, fullC, underG, List.append, List.nil_append, List.cons_append, Ty.den, Ty.dflt, Int.toNat_natCast, List.length_cons, List.length_nil] at *); first | omega | ((repeat' (first | exact trivial | assumption | refine And.intro ?_ ?_ | exact fun h => h | (intro hpk; first | exact hpk | simp only [wantB, hpk, Bool.not_false, Bool.not_true]))) <;> omega) | fail)) ?_ | refine JL.q1 (xok rfl rfl rfl rfl) rfl rfl (by (first | exact trivial | (try dsimp only [allP, inK, idxC, loC, lohiC, fullC, underG, List.append, List.nil_append, List.cons_append, Ty.den, Ty.dflt, Int.toNat_natCast, List.length_cons, List.length_nil] at *); first | omega | ((repeat' (first | exact trivial | assumption | refine And.intro ?_ ?_ | exact fun h => h | (intro hpk; first | exact hpk | simp only [wantB, hpk, Bool.not_false, Bool.not_true]))) <;> omega) | fail)) ?_); refine JL.finN ?_; refine JF.Branch 11 [] (xok rfl rfl rfl rfl) ?_ ?_; (focus (repeat (first | exact StF.nil | refine StF.One rfl rfl rfl ?_))); refine BrF.one rfl rfl ?_ BrF.nil; (· (first | (refine JL.gT rfl (by show (xs.getD i 0 == b) = true; simpa using hx) ?_; first | refine JL.q1 (xok rfl rfl rfl rfl) rfl rfl (by (first | exact trivial | (try dsimp only [allP, inK, idxC, loC, lohiC, fullC, underG, List.append, List.nil_append, List.cons_append, Ty.den, Ty.dflt, Int.toNat_natCast, List.length_cons, List.length_nil] at *); first | omega | ((repeat' (first | exact trivial | assumption | refine And.intro ?_ ?_ | exact fun h => h | (intro hpk; first | exact hpk | simp only [wantB, hpk, Bool.not_false, Bool.not_true]))) <;> omega) | fail)) ?_ | (refine JL.yield [2, 3, 5, 17, 18, 19, 20, 21, 22, 23, 24, 25, 26, 27] rfl rfl rfl rfl (by (first | exact trivial | (try dsimp only [allP, inK, idxC, loC, lohiC, fullC, underG, List.append, List.nil_append, List.cons_append, Ty.den, Ty.dflt, Int.toNat_natCast, List.length_cons, List.length_nil] at *); first | omega | ((repeat' (first | exact trivial | assumption | refine And.intro ?_ ?_ | exact fun h => h | (intro hpk; first | exact hpk | simp only [wantB, hpk, Bool.not_false, Bool.not_true]))) <;> omega) | fail)) rfl rfl rfl (ltB_lt rfl) (fun M0 up bl hup => ?_); (conv => arg 2; whnf); (repeat (first   | refine JL.Q1 (xok rfl rfl rfl rfl) rfl rfl ?_   | refine JL.G1 (xok rfl rfl rfl rfl) rfl rfl rfl ?_   | refine JL.g1 (xok rfl rfl rfl rfl) rfl rfl rfl (fun hgd => And.intro hgd (fun hpk => Bool.and_eq_true_iff.2 ⟨hgd, by rw [hpk]; rfl⟩)) ?_   | refine JL.G2 (xok rfl rfl rfl rfl) rfl rfl rfl ?_   | refine JL.M1 (xok rfl rfl rfl rfl) rfl rfl ?_   | refine JL.M0 (xok rfl rfl rfl rfl) rfl ?_   | refine JL.Q0 (xok rfl rfl rfl rfl) rfl ?_   | refine JL.nilF ?_   | refine JL.nil ?_   | refine JC.scope ?_   | refine QX.tn ?_   | refine JC.seq ?_   | refine JC.region ?_   | refine JC.Draw (xok rfl rfl rfl rfl) ?_   | refine JC.block ?_   | refine JC.skip ?_   | refine JC.label ?_   | refine JC.exit ?_   | refine JC.ret ?_   | refine QX.te ?_ | refine QX.tr ?_ | refine QX.bn ?_ | refine QX.be ?_ | refine QX.bx rfl ?_ | refine QX.br ?_ | refine QX.sn ?_ | refine QX.se ?_ | refine QX.sr ?_ | refine QX.ee ?_ | refine QX.eo rfl ?_ | refine QX.er ?_ | refine QX.en ?_)); refine asgQ.nor rfl rfl rfl rfl ?_; (conv => arg 2; whnf); (repeat (first   | refine JL.Q1 (xok rfl rfl rfl rfl) rfl rfl ?_   | refine JL.G1 (xok rfl rfl rfl rfl) rfl rfl rfl ?_   | refine JL.g1 (xok rfl rfl rfl rfl) rfl rfl rfl (fun hgd => And.intro hgd (fun hpk => Bool.and_eq_true_iff.2 ⟨hgd, by rw [hpk]; rfl⟩)) ?_   | refine JL.G2 (xok rfl rfl rfl rfl) rfl rfl rfl ?_   | refine JL.M1 (xok rfl rfl rfl rfl) rfl rfl ?_   | refine JL.M0 (xok rfl rfl rfl rfl) rfl ?_   | refine JL.Q0 (xok rfl rfl rfl rfl) rfl ?_   | refine JL.nilF ?_   | refine JL.nil ?_   | refine JC.scope ?_   | refine QX.tn ?_   | refine JC.seq ?_   | refine JC.region ?_   | refine JC.Draw (xok rfl rfl rfl rfl) ?_   | refine JC.block ?_   | refine JC.skip ?_   | refine JC.label ?_   | refine JC.exit ?_   | refine JC.ret ?_   | refine QX.te ?_ | refine QX.tr ?_ | refine QX.bn ?_ | refine QX.be ?_ | refine QX.bx rfl ?_ | refine QX.br ?_ | refine QX.sn ?_ | refine QX.se ?_ | refine QX.sr ?_ | refine QX.ee ?_ | refine QX.eo rfl ?_ | refine QX.er ?_ | refine QX.en ?_)); refine bodyQ.of rfl rfl rfl rfl rfl rfl ?_)) | refine JL.pickT rfl (by show (xs.getD i 0 == b) = true; simpa using hx) rfl rfl (by (first | exact trivial | (try dsimp only [allP, inK, idxC, loC, lohiC, fullC, underG, List.append, List.nil_append, List.cons_append, Ty.den, Ty.dflt, Int.toNat_natCast, List.length_cons, List.length_nil] at *); first | omega | ((repeat' (first | exact trivial | assumption | refine And.intro ?_ ?_ | exact fun h => h | (intro hpk; first | exact hpk | simp only [wantB, hpk, Bool.not_false, Bool.not_true]))) <;> omega) | fail)) (by (first | exact trivial | (try dsimp only [allP, inK, idxC, loC, lohiC, fullC, underG, List.append, List.nil_append, List.cons_append, Ty.den, Ty.dflt, Int.toNat_natCast, List.length_cons, List.length_nil] at *); first | omega | ((repeat' (first | exact trivial | assumption | refine And.intro ?_ ?_ | exact fun h => h | (intro hpk; first | exact hpk | simp only [wantB, hpk, Bool.not_false, Bool.not_true]))) <;> omega) | fail)) ?_ | refine JL.q1 (xok rfl rfl rfl rfl) rfl rfl (by (first | exact trivial | (try dsimp only [allP, inK, idxC, loC, lohiC, fullC, underG, List.append, List.nil_append, List.cons_append, Ty.den, Ty.dflt, Int.toNat_natCast, List.length_cons, List.length_nil] at *); first | omega | ((repeat' (first | exact trivial | assumption | refine And.intro ?_ ?_ | exact fun h => h | (intro hpk; first | exact hpk | simp only [wantB, hpk, Bool.not_false, Bool.not_true]))) <;> omega) | fail)) ?_); refine JL.finN ?_; refine JF.Branch 13 [] (xok rfl rfl rfl rfl) ?_ ?_; (focus (repeat (first | exact StF.nil | refine StF.One rfl rfl rfl ?_))); refine BrF.one rfl rfl ?_ BrF.nil; (· (first | (refine JL.gT rfl (by show (xs.getD i 0 == b) = true; simpa using hx) ?_; first | refine JL.q1 (xok rfl rfl rfl rfl) rfl rfl (by (first | exact trivial | (try dsimp only [allP, inK, idxC, loC, lohiC, fullC, underG, List.append, List.nil_append, List.cons_append, Ty.den, Ty.dflt, Int.toNat_natCast, List.length_cons, List.length_nil] at *); first | omega | ((repeat' (first | exact trivial | assumption | refine And.intro ?_ ?_ | exact fun h => h | (intro hpk; first | exact hpk | simp only [wantB, hpk, Bool.not_false, Bool.not_true]))) <;> omega) | fail)) ?_ | (refine JL.yield [2, 3, 5, 17, 18, 19, 20, 21, 22, 23, 24, 25, 26, 27] rfl rfl rfl rfl (by (first | exact trivial | (try dsimp only [allP, inK, idxC, loC, lohiC, fullC, underG, List.append, List.nil_append, List.cons_append, Ty.den, Ty.dflt, Int.toNat_natCast, List.length_cons, List.length_nil] at *); first | omega | ((repeat' (first | exact trivial | assumption | refine And.intro ?_ ?_ | exact fun h => h | (intro hpk; first | exact hpk | simp only [wantB, hpk, Bool.not_false, Bool.not_true]))) <;> omega) | fail)) rfl rfl rfl (ltB_lt rfl) (fun M0 up bl hup => ?_); (conv => arg 2; whnf); (repeat (first   | refine JL.Q1 (xok rfl rfl rfl rfl) rfl rfl ?_   | refine JL.G1 (xok rfl rfl rfl rfl) rfl rfl rfl ?_   | refine JL.g1 (xok rfl rfl rfl rfl) rfl rfl rfl (fun hgd => And.intro hgd (fun hpk => Bool.and_eq_true_iff.2 ⟨hgd, by rw [hpk]; rfl⟩)) ?_   | refine JL.G2 (xok rfl rfl rfl rfl) rfl rfl rfl ?_   | refine JL.M1 (xok rfl rfl rfl rfl) rfl rfl ?_   | refine JL.M0 (xok rfl rfl rfl rfl) rfl ?_   | refine JL.Q0 (xok rfl rfl rfl rfl) rfl ?_   | refine JL.nilF ?_   | refine JL.nil ?_   | refine JC.scope ?_   | refine QX.tn ?_   | refine JC.seq ?_   | refine JC.region ?_   | refine JC.Draw (xok rfl rfl rfl rfl) ?_   | refine JC.block ?_   | refine JC.skip ?_   | refine JC.label ?_   | refine JC.exit ?_   | refine JC.ret ?_   | refine QX.te ?_ | refine QX.tr ?_ | refine QX.bn ?_ | refine QX.be ?_ | refine QX.bx rfl ?_ | refine QX.br ?_ | refine QX.sn ?_ | refine QX.se ?_ | refine QX.sr ?_ | refine QX.ee ?_ | refine QX.eo rfl ?_ | refine QX.er ?_ | refine QX.en ?_)); refine asgQ.nor rfl rfl rfl rfl ?_; (conv => arg 2; whnf); (repeat (first   | refine JL.Q1 (xok rfl rfl rfl rfl) rfl rfl ?_   | refine JL.G1 (xok rfl rfl rfl rfl) rfl rfl rfl ?_   | refine JL.g1 (xok rfl rfl rfl rfl) rfl rfl rfl (fun hgd => And.intro hgd (fun hpk => Bool.and_eq_true_iff.2 ⟨hgd, by rw [hpk]; rfl⟩)) ?_   | refine JL.G2 (xok rfl rfl rfl rfl) rfl rfl rfl ?_   | refine JL.M1 (xok rfl rfl rfl rfl) rfl rfl ?_   | refine JL.M0 (xok rfl rfl rfl rfl) rfl ?_   | refine JL.Q0 (xok rfl rfl rfl rfl) rfl ?_   | refine JL.nilF ?_   | refine JL.nil ?_   | refine JC.scope ?_   | refine QX.tn ?_   | refine JC.seq ?_   | refine JC.region ?_   | refine JC.Draw (xok rfl rfl rfl rfl) ?_   | refine JC.block ?_   | refine JC.skip ?_   | refine JC.label ?_   | refine JC.exit ?_   | refine JC.ret ?_   | refine QX.te ?_ | refine QX.tr ?_ | refine QX.bn ?_ | refine QX.be ?_ | refine QX.bx rfl ?_ | refine QX.br ?_ | refine QX.sn ?_ | refine QX.se ?_ | refine QX.sr ?_ | refine QX.ee ?_ | refine QX.eo rfl ?_ | refine QX.er ?_ | refine QX.en ?_)); refine bodyQ.of rfl rfl rfl rfl rfl rfl ?_)) | refine JL.pickT rfl (by show (xs.getD i 0 == b) = true; simpa using hx) rfl rfl (by (first | exact trivial | (try dsimp only [allP, inK, idxC, loC, lohiC, fullC, underG, List.append, List.nil_append, List.cons_append, Ty.den, Ty.dflt, Int.toNat_natCast, List.length_cons, List.length_nil] at *); first | omega | ((repeat' (first | exact trivial | assumption | refine And.intro ?_ ?_ | exact fun h => h | (intro hpk; first | exact hpk | simp only [wantB, hpk, Bool.not_false, Bool.not_true]))) <;> omega) | fail)) (by (first | exact trivial | (try dsimp only [allP, inK, idxC, loC, lohiC, fullC, underG, List.append, List.nil_append, List.cons_append, Ty.den, Ty.dflt, Int.toNat_natCast, List.length_cons, List.length_nil] at *); first | omega | ((repeat' (first | exact trivial | assumption | refine And.intro ?_ ?_ | exact fun h => h | (intro hpk; first | exact hpk | simp only [wantB, hpk, Bool.not_false, Bool.not_true]))) <;> omega) | fail)) ?_ | refine JL.q1 (xok rfl rfl rfl rfl) rfl rfl (by (first | exact trivial | (try dsimp only [allP, inK, idxC, loC, lohiC, fullC, underG, List.append, List.nil_append, List.cons_append, Ty.den, Ty.dflt, Int.toNat_natCast, List.length_cons, List.length_nil] at *); first | omega | ((repeat' (first | exact trivial | assumption | refine And.intro ?_ ?_ | exact fun h => h | (intro hpk; first | exact hpk | simp only [wantB, hpk, Bool.not_false, Bool.not_true]))) <;> omega) | fail)) ?_); refine JL.finN ?_; refine JF.Branch 14 [] (xok rfl rfl rfl rfl) ?_ ?_; (focus (repeat (first | exact StF.nil | refine StF.One rfl rfl rfl ?_))); refine BrF.one rfl rfl ?_ BrF.nil; (· (first | (refine JL.gT rfl (by show (xs.getD i 0 == b) = true; simpa using hx) ?_; first | refine JL.q1 (xok rfl rfl rfl rfl) rfl rfl (by (first | exact trivial | (try dsimp only [allP, inK, idxC, loC, lohiC, fullC, underG, List.append, List.nil_append, List.cons_append, Ty.den, Ty.dflt, Int.toNat_natCast, List.length_cons, List.length_nil] at *); first | omega | ((repeat' (first | exact trivial | assumption | refine And.intro ?_ ?_ | exact fun h => h | (intro hpk; first | exact hpk | simp only [wantB, hpk, Bool.not_false, Bool.not_true]))) <;> omega) | fail)) ?_ | (refine JL.yield [2, 3, 5, 17, 18, 19, 20, 21, 22, 23, 24, 25, 26, 27] rfl rfl rfl rfl (by (first | exact trivial | (try dsimp only [allP, inK, idxC, loC, lohiC, fullC, underG, List.append, List.nil_append, List.cons_append, Ty.den, Ty.dflt, Int.toNat_natCast, List.length_cons, List.length_nil] at *); first | omega | ((repeat' (first | exact trivial | assumption | refine And.intro ?_ ?_ | exact fun h => h | (intro hpk; first | exact hpk | simp only [wantB, hpk, Bool.not_false, Bool.not_true]))) <;> omega) | fail)) rfl rfl rfl (ltB_lt rfl) (fun M0 up bl hup => ?_); (conv => arg 2; whnf); (repeat (first   | refine JL.Q1 (xok rfl rfl rfl rfl) rfl rfl ?_   | refine JL.G1 (xok rfl rfl rfl rfl) rfl rfl rfl ?_   | refine JL.g1 (xok rfl rfl rfl rfl) rfl rfl rfl (fun hgd => And.intro hgd (fun hpk => Bool.and_eq_true_iff.2 ⟨hgd, by rw [hpk]; rfl⟩)) ?_   | refine JL.G2 (xok rfl rfl rfl rfl) rfl rfl rfl ?_   | refine JL.M1 (xok rfl rfl rfl rfl) rfl rfl ?_   | refine JL.M0 (xok rfl rfl rfl rfl) rfl ?_   | refine JL.Q0 (xok rfl rfl rfl rfl) rfl ?_   | refine JL.nilF ?_   | refine JL.nil ?_   | refine JC.scope ?_   | refine QX.tn ?_   | refine JC.seq ?_   | refine JC.region ?_   | refine JC.Draw (xok rfl rfl rfl rfl) ?_   | refine JC.block ?_   | refine JC.skip ?_   | refine JC.label ?_   | refine JC.exit ?_   | refine JC.ret ?_   | refine QX.te ?_ | refine QX.tr ?_ | refine QX.bn ?_ | refine QX.be ?_ | refine QX.bx rfl ?_ | refine QX.br ?_ | refine QX.sn ?_ | refine QX.se ?_ | refine QX.sr ?_ | refine QX.ee ?_ | refine QX.eo rfl ?_ | refine QX.er ?_ | refine QX.en ?_)); refine asgQ.nor rfl rfl rfl rfl ?_; (conv => arg 2; whnf); (repeat (first   | refine JL.Q1 (xok rfl rfl rfl rfl) rfl rfl ?_   | refine JL.G1 (xok rfl rfl rfl rfl) rfl rfl rfl ?_   | refine JL.g1 (xok rfl rfl rfl rfl) rfl rfl rfl (fun hgd => And.intro hgd (fun hpk => Bool.and_eq_true_iff.2 ⟨hgd, by rw [hpk]; rfl⟩)) ?_   | refine JL.G2 (xok rfl rfl rfl rfl) rfl rfl rfl ?_   | refine JL.M1 (xok rfl rfl rfl rfl) rfl rfl ?_   | refine JL.M0 (xok rfl rfl rfl rfl) rfl ?_   | refine JL.Q0 (xok rfl rfl rfl rfl) rfl ?_   | refine JL.nilF ?_   | refine JL.nil ?_   | refine JC.scope ?_   | refine QX.tn ?_   | refine JC.seq ?_   | refine JC.region ?_   | refine JC.Draw (xok rfl rfl rfl rfl) ?_   | refine JC.block ?_   | refine JC.skip ?_   | refine JC.label ?_   | refine JC.exit ?_   | refine JC.ret ?_   | refine QX.te ?_ | refine QX.tr ?_ | refine QX.bn ?_ | refine QX.be ?_ | refine QX.bx rfl ?_ | refine QX.br ?_ | refine QX.sn ?_ | refine QX.se ?_ | refine QX.sr ?_ | refine QX.ee ?_ | refine QX.eo rfl ?_ | refine QX.er ?_ | refine QX.en ?_)); refine bodyQ.of rfl rfl rfl rfl rfl rfl ?_)) | refine JL.pickT rfl (by show (xs.getD i 0 == b) = true; simpa using hx) rfl rfl (by (first | exact trivial | (try dsimp only [allP, inK, idxC, loC, lohiC, fullC, underG, List.append, List.nil_append, List.cons_append, Ty.den, Ty.dflt, Int.toNat_natCast, List.length_cons, List.length_nil] at *); first | omega | ((repeat' (first | exact trivial | assumption | refine And.intro ?_ ?_ | exact fun h => h | (intro hpk; first | exact hpk | simp only [wantB, hpk, Bool.not_false, Bool.not_true]))) <;> omega) | fail)) (by (first | exact trivial | (try dsimp only [allP, inK, idxC, loC, lohiC, fullC, underG, List.append, List.nil_append, List.cons_append, Ty.den, Ty.dflt, Int.toNat_natCast, List.length_cons, List.length_nil] at *); first | omega | ((repeat' (first | exact trivial | assumption | refine And.intro ?_ ?_ | exact fun h => h | (intro hpk; first | exact hpk | simp only [wantB, hpk, Bool.not_false, Bool.not_true]))) <;> omega) | fail)) ?_ | refine JL.q1 (xok rfl rfl rfl rfl) rfl rfl (by (first | exact trivial | (try dsimp only [allP, inK, idxC, loC, lohiC, fullC, underG, List.append, List.nil_append, List.cons_append, Ty.den, Ty.dflt, Int.toNat_natCast, List.length_cons, List.length_nil] at *); first | omega | ((repeat' (first | exact trivial | assumption | refine And.intro ?_ ?_ | exact fun h => h | (intro hpk; first | exact hpk | simp only [wantB, hpk, Bool.not_false, Bool.not_true]))) <;> omega) | fail)) ?_); refine JL.finN ?_; refine JF.Branch 15 [] (xok rfl rfl rfl rfl) ?_ ?_; (focus (repeat (first | exact StF.nil | refine StF.One rfl rfl rfl ?_))); refine BrF.one rfl rfl ?_ BrF.nil; (· (first | (refine JL.gT rfl (by show (xs.getD i 0 == b) = true; simpa using hx) ?_; first | refine JL.q1 (xok rfl rfl rfl rfl) rfl rfl (by (first | exact trivial | (try dsimp only [allP, inK, idxC, loC, lohiC, fullC, underG, List.append, List.nil_append, List.cons_append, Ty.den, Ty.dflt, Int.toNat_natCast, List.length_cons, List.length_nil] at *); first | omega | ((repeat' (first | exact trivial | assumption | refine And.intro ?_ ?_ | exact fun h => h | (intro hpk; first | exact hpk | simp only [wantB, hpk, Bool.not_false, Bool.not_true]))) <;> omega) | fail)) ?_ | (refine JL.yield [2, 3, 5, 17, 18, 19, 20, 21, 22, 23, 24, 25, 26, 27] rfl rfl rfl rfl (by (first | exact trivial | (try dsimp only [allP, inK, idxC, loC, lohiC, fullC, underG, List.append, List.nil_append, List.cons_append, Ty.den, Ty.dflt, Int.toNat_natCast, List.length_cons, List.length_nil] at *); first | omega | ((repeat' (first | exact trivial | assumption | refine And.intro ?_ ?_ | exact fun h => h | (intro hpk; first | exact hpk | simp only [wantB, hpk, Bool.not_false, Bool.not_true]))) <;> omega) | fail)) rfl rfl rfl (ltB_lt rfl) (fun M0 up bl hup => ?_); (conv => arg 2; whnf); (repeat (first   | refine JL.Q1 (xok rfl rfl rfl rfl) rfl rfl ?_   | refine JL.G1 (xok rfl rfl rfl rfl) rfl rfl rfl ?_   | refine JL.g1 (xok rfl rfl rfl rfl) rfl rfl rfl (fun hgd => And.intro hgd (fun hpk => Bool.and_eq_true_iff.2 ⟨hgd, by rw [hpk]; rfl⟩)) ?_   | refine JL.G2 (xok rfl rfl rfl rfl) rfl rfl rfl ?_   | refine JL.M1 (xok rfl rfl rfl rfl) rfl rfl ?_   | refine JL.M0 (xok rfl rfl rfl rfl) rfl ?_   | refine JL.Q0 (xok rfl rfl rfl rfl) rfl ?_   | refine JL.nilF ?_   | refine JL.nil ?_   | refine JC.scope ?_   | refine QX.tn ?_   | refine JC.seq ?_   | refine JC.region ?_   | refine JC.Draw (xok rfl rfl rfl rfl) ?_   | refine JC.block ?_   | refine JC.skip ?_   | refine JC.label ?_   | refine JC.exit ?_   | refine JC.ret ?_   | refine QX.te ?_ | refine QX.tr ?_ | refine QX.bn ?_ | refine QX.be ?_ | refine QX.bx rfl ?_ | refine QX.br ?_ | refine QX.sn ?_ | refine QX.se ?_ | refine QX.sr ?_ | refine QX.ee ?_ | refine QX.eo rfl ?_ | refine QX.er ?_ | refine QX.en ?_)); refine asgQ.nor rfl rfl rfl rfl ?_; (conv => arg 2; whnf); (repeat (first   | refine JL.Q1 (xok rfl rfl rfl rfl) rfl rfl ?_   | refine JL.G1 (xok rfl rfl rfl rfl) rfl rfl rfl ?_   | refine JL.g1 (xok rfl rfl rfl rfl) rfl rfl rfl (fun hgd => And.intro hgd (fun hpk => Bool.and_eq_true_iff.2 ⟨hgd, by rw [hpk]; rfl⟩)) ?_   | refine JL.G2 (xok rfl rfl rfl rfl) rfl rfl rfl ?_   | refine JL.M1 (xok rfl rfl rfl rfl) rfl rfl ?_   | refine JL.M0 (xok rfl rfl rfl rfl) rfl ?_   | refine JL.Q0 (xok rfl rfl rfl rfl) rfl ?_   | refine JL.nilF ?_   | refine JL.nil ?_   | refine JC.scope ?_   | refine QX.tn ?_   | refine JC.seq ?_   | refine JC.region ?_   | refine JC.Draw (xok rfl rfl rfl rfl) ?_   | refine JC.block ?_   | refine JC.skip ?_   | refine JC.label ?_   | refine JC.exit ?_   | refine JC.ret ?_   | refine QX.te ?_ | refine QX.tr ?_ | refine QX.bn ?_ | refine QX.be ?_ | refine QX.bx rfl ?_ | refine QX.br ?_ | refine QX.sn ?_ | refine QX.se ?_ | refine QX.sr ?_ | refine QX.ee ?_ | refine QX.eo rfl ?_ | refine QX.er ?_ | refine QX.en ?_)); refine bodyQ.of rfl rfl rfl rfl rfl rfl ?_)) | refine JL.pickT rfl (by show (xs.getD i 0 == b) = true; simpa using hx) rfl rfl (by (first | exact trivial | (try dsimp only [allP, inK, idxC, loC, lohiC, fullC, underG, List.append, List.nil_append, List.cons_append, Ty.den, Ty.dflt, Int.toNat_natCast, List.length_cons, List.length_nil] at *); first | omega | ((repeat' (first | exact trivial | assumption | refine And.intro ?_ ?_ | exact fun h => h | (intro hpk; first | exact hpk | simp only [wantB, hpk, Bool.not_false, Bool.not_true]))) <;> omega) | fail)) (by (first | exact trivial | (try dsimp only [allP, inK, idxC, loC, lohiC, fullC, underG, List.append, List.nil_append, List.cons_append, Ty.den, Ty.dflt, Int.toNat_natCast, List.length_cons, List.length_nil] at *); first | omega | ((repeat' (first | exact trivial | assumption | refine And.intro ?_ ?_ | exact fun h => h | (intro hpk; first | exact hpk | simp only [wantB, hpk, Bool.not_false, Bool.not_true]))) <;> omega) | fail)) ?_ | refine JL.q1 (xok rfl rfl rfl rfl) rfl rfl (by (first | exact trivial | (try dsimp only [allP, inK, idxC, loC, lohiC, fullC, underG, List.append, List.nil_append, List.cons_append, Ty.den, Ty.dflt, Int.toNat_natCast, List.length_cons, List.length_nil] at *); first | omega | ((repeat' (first | exact trivial | assumption | refine And.intro ?_ ?_ | exact fun h => h | (intro hpk; first | exact hpk | simp only [wantB, hpk, Bool.not_false, Bool.not_true]))) <;> omega) | fail)) ?_); refine JL.finN ?_; refine JF.Done (xok rfl rfl rfl rfl) ?_ ?_; (focus (repeat (first | exact StF.nil | refine StF.One rfl rfl rfl ?_))); ((exact JW.Auto rfl))))))))
      · refine JC.cond rfl (fun _ => ?_) (fun h => by cases h)
        (repeat (first   | refine JL.Q1 (xok rfl rfl rfl rfl) rfl rfl ?_   | refine JL.G1 (xok rfl rfl rfl rfl) rfl rfl rfl ?_   | refine JL.g1 (xok rfl rfl rfl rfl) rfl rfl rfl (fun hgd => And.intro hgd (fun hpk => Bool.and_eq_true_iff.2 ⟨hgd, by rw [hpk]; rfl⟩)) ?_   | refine JL.G2 (xok rfl rfl rfl rfl) rfl rfl rfl ?_   | refine JL.M1 (xok rfl rfl rfl rfl) rfl rfl ?_   | refine JL.M0 (xok rfl rfl rfl rfl) rfl ?_   | refine JL.Q0 (xok rfl rfl rfl rfl) rfl ?_   | refine JL.nilF ?_   | refine JL.nil ?_   | refine JC.scope ?_   | refine QX.tn ?_   | refine JC.seq ?_   | refine JC.region ?_   | refine JC.Draw (xok rfl rfl rfl rfl) ?_   | refine JC.block ?_   | refine JC.skip ?_   | refine JC.label ?_   | refine JC.exit ?_   | refine JC.ret ?_   | refine QX.te ?_ | refine QX.tr ?_ | refine QX.bn ?_ | refine QX.be ?_ | refine QX.bx rfl ?_ | refine QX.br ?_ | refine QX.sn ?_ | refine QX.se ?_ | refine QX.sr ?_ | refine QX.ee ?_ | refine QX.eo rfl ?_ | refine QX.er ?_ | refine QX.en ?_))
        refine rngQ.of (.inl rfl) rfl rfl rfl rfl rfl rfl rfl ?_
        refine endJ.r ?_
        (repeat (first   | refine JL.Q1 (xok rfl rfl rfl rfl) rfl rfl ?_   | refine JL.G1 (xok rfl rfl rfl rfl) rfl rfl rfl ?_   | refine JL.g1 (xok rfl rfl rfl rfl) rfl rfl rfl (fun hgd => And.intro hgd (fun hpk => Bool.and_eq_true_iff.2 ⟨hgd, by rw [hpk]; rfl⟩)) ?_   | refine JL.G2 (xok rfl rfl rfl rfl) rfl rfl rfl ?_   | refine JL.M1 (xok rfl rfl rfl rfl) rfl rfl ?_   | refine JL.M0 (xok rfl rfl rfl rfl) rfl ?_   | refine JL.Q0 (xok rfl rfl rfl rfl) rfl ?_   | refine JL.nilF ?_   | refine JL.nil ?_   | refine JC.scope ?_   | refine QX.tn ?_   | refine JC.seq ?_   | refine JC.region ?_   | refine JC.Draw (xok rfl rfl rfl rfl) ?_   | refine JC.block ?_   | refine JC.skip ?_   | refine JC.label ?_   | refine JC.exit ?_   | refine JC.ret ?_   | refine QX.te ?_ | refine QX.tr ?_ | refine QX.bn ?_ | refine QX.be ?_ | refine QX.bx rfl ?_ | refine QX.br ?_ | refine QX.sn ?_ | refine QX.se ?_ | refine QX.sr ?_ | refine QX.ee ?_ | refine QX.eo rfl ?_ | refine QX.er ?_ | refine QX.en ?_))
        refine ⟨.inl rfl, _, _, rfl, trivial, ?_⟩
        rw [waitS, hinv]
    · rw [if_neg hx] at hinv
      (repeat (first   | refine JL.Q1 (xok rfl rfl rfl rfl) rfl rfl ?_   | refine JL.G1 (xok rfl rfl rfl rfl) rfl rfl rfl ?_   | refine JL.g1 (xok rfl rfl rfl rfl) rfl rfl rfl (fun hgd => And.intro hgd (fun hpk => Bool.and_eq_true_iff.2 ⟨hgd, by rw [hpk]; rfl⟩)) ?_   | refine JL.G2 (xok rfl rfl rfl rfl) rfl rfl rfl ?_   | refine JL.M1 (xok rfl rfl rfl rfl) rfl rfl ?_   | refine JL.M0 (xok rfl rfl rfl rfl) rfl ?_   | refine JL.Q0 (xok rfl rfl rfl rfl) rfl ?_   | refine JL.nilF ?_   | refine JL.nil ?_   | refine JC.scope ?_   | refine QX.tn ?_   | refine JC.seq ?_   | refine JC.region ?_      | refine JC.block ?_   | refine JC.skip ?_   | refine JC.label ?_   | refine JC.exit ?_   | refine JC.ret ?_   | refine QX.te ?_ | refine QX.tr ?_ | refine QX.bn ?_ | refine QX.be ?_ | refine QX.bx rfl ?_ | refine QX.br ?_ | refine QX.sn ?_ | refine QX.se ?_ | refine QX.sr ?_ | refine QX.ee ?_ | refine QX.eo rfl ?_ | refine QX.er ?_ | refine QX.en ?_))
      refine JC.drawF (xok rfl rfl rfl rfl) (Go.Proofs.Try.f76.body.getD .skip) ⟨[(0, .lf (.yld 1)), (2, ppB r xs la ne), (3, pI b), (5, vI (i : Int)), (32, vB false)], [(2, .fr 0 [(20, .lf (.yld 1)), (0, vB0 r xs la ne), (6, .lf (.optr 0 []))]), (1, .loop .ready none #[12] (rgA Go.Proofs.Try.f69.body) (rgB Go.Proofs.Try.f69.body) 20 [(0, vB0 r xs la ne), (6, .lf (.optr 0 []))]), (0, .cell (.int .i64) (vI 0))], 3⟩ rfl 16 rfl ?_ ?_
      · (refine JF.First 5 (xok rfl rfl rfl rfl) rfl rfl ?_; refine JF.Float 0 (xok rfl rfl rfl rfl) rfl rfl ?_; refine JF.Float 1 (xok rfl rfl rfl rfl) rfl rfl ?_; refine JF.Float 2 (xok rfl rfl rfl rfl) rfl rfl ?_; refine JF.Float 3 (xok rfl rfl rfl rfl) rfl rfl ?_; refine JF.Float 4 (xok rfl rfl rfl rfl) rfl rfl ?_; refine JF.Float 6 (xok rfl rfl rfl rfl) rfl rfl ?_; refine JF.Float 7 (xok rfl rfl rfl rfl) rfl rfl ?_; refine JF.Float 8 (xok rfl rfl rfl rfl) rfl rfl ?_; refine JF.Float 9 (xok rfl rfl rfl rfl) rfl rfl ?_; refine JF.Float 10 (xok rfl rfl rfl rfl) rfl rfl ?_; refine JF.Branch 11 [12] (xok rfl rfl rfl rfl) ?_ ?_; (focus (repeat (first | exact StF.nil | refine StF.One rfl rfl rfl ?_))); refine BrF.one rfl rfl ?_ (BrF.one rfl rfl ?_ BrF.nil); (· (first | refine JL.gf1 rfl (by show (xs.getD i 0 == b) = false; simpa using hx) rfl ?_ | refine JL.pickF rfl (by show (xs.getD i 0 == b) = false; simpa using hx) rfl rfl (by (first | exact trivial | (try dsimp only [allP, inK, idxC, loC, lohiC, fullC, underG, List.append, List.nil_append, List.cons_append, Ty.den, Ty.dflt, Int.toNat_natCast, List.length_cons, List.length_nil] at *); first | omega | ((repeat' (first | exact trivial | assumption | refine And.intro ?_ ?_ | exact fun h => h | (intro hpk; first | exact hpk | simp only [wantB, hpk, Bool.not_false, Bool.not_true]))) <;> omega) | fail)) (by (first | exact trivial | (try dsimp only [allP, inK, idxC, loC, lohiC, fullC, underG, List.append, List.nil_append, List.cons_append, Ty.den, Ty.dflt, Int.toNat_natCast, List.length_cons, List.length_nil] at *); first | omega | ((repeat' (first | exact trivial | assumption | refine And.intro ?_ ?_ | exact fun h => h | (intro hpk; first | exact hpk | simp only [wantB, hpk, Bool.not_false, Bool.not_true]))) <;> omega) | fail)) ?_ | refine JL.q1 (xok rfl rfl rfl rfl) rfl rfl (by (first | exact trivial | (try dsimp only [allP, inK, idxC, loC, lohiC, fullC, underG, List.append, List.nil_append, List.cons_append, Ty.den, Ty.dflt, Int.toNat_natCast, List.length_cons, List.length_nil] at *); first | omega | ((repeat' (first | exact trivial | assumption | refine And.intro ?_ ?_ | exact fun h => h | (intro hpk; first | exact hpk | simp only [wantB, hpk, Bool.not_false, Bool.not_true]))) <;> omega) | fail)) ?_); refine JL.finN ?_; refine JF.Branch 12 [] (xok rfl rfl rfl rfl) ?_ ?_; (focus (repeat (first | exact StF.nil | refine StF.One rfl rfl rfl ?_))); refine BrF.one rfl rfl ?_ BrF.nil; (· (first | refine JL.gf1 rfl (by show (xs.getD i 0 == b) = false; simpa using hx) rfl ?_ | refine JL.pickF rfl (by show (xs.getD i 0 == b) = false; simpa using hx) rfl rfl (by (first | exact trivial | (try dsimp only [allP, inK, idxC, loC, lohiC, fullC, underG, List.append, List.nil_append, List.cons_append, Ty.den, Ty.dflt, Int.toNat_natCast, List.length_cons, List.length_nil] at *); first | omega | ((repeat' (first | exact trivial | assumption | refine And.intro ?_ ?_ | exact fun h => h | (intro hpk; first | exact hpk | simp only [wantB, hpk, Bool.not_false, Bool.not_true]))) <;> omega) | fail)) (by (first | exact trivial | (try dsimp only [allP, inK, idxC, loC, lohiC, fullC, underG, List.append, List.nil_append, List.cons_append, Ty.den, Ty.dflt, Int.toNat_natCast, List.length_cons, List.length_nil] at *); first | omega | ((repeat' (first | exact trivial | assumption | refine And.intro ?_ ?_ | exact fun h => h | (intro hpk; first | exact hpk | simp only [wantB, hpk, Bool.not_false, Bool.not_true]))) <;> omega) | fail)) ?_ | refine JL.q1 (xok rfl rfl rfl rfl) rfl rfl (by (first | exact trivial | (try dsimp only [allP, inK, idxC, loC, lohiC, fullC, underG, List.append, List.nil_append, List.cons_append, Ty.den, Ty.dflt, Int.toNat_natCast, List.length_cons, List.length_nil] at *); first | omega | ((repeat' (first | exact trivial | assumption | refine And.intro ?_ ?_ | exact fun h => h | (intro hpk; first | exact hpk | simp only [wantB, hpk, Bool.not_false, Bool.not_true]))) <;> omega) | fail)) ?_); refine JL.finN ?_; refine JF.Branch 13 [] (xok rfl rfl rfl rfl) ?_ ?_; (focus (repeat (first | exact StF.nil | refine StF.One rfl rfl rfl ?_))); refine BrF.one rfl rfl ?_ BrF.nil; (· (first | refine JL.gf1 rfl (by show (xs.getD i 0 == b) = false; simpa using hx) rfl ?_ | refine JL.pickF rfl (by show (xs.getD i 0 == b) = false; simpa using hx) rfl rfl (by (first | exact trivial | (try dsimp only [allP, inK, idxC, loC, lohiC, fullC, underG, List.append, List.nil_append, List.cons_append, Ty.den, Ty.dflt, Int.toNat_natCast, List.length_cons, List.length_nil] at *); first | omega | ((repeat' (first | exact trivial | assumption | refine And.intro ?_ ?_ | exact fun h => h | (intro hpk; first | exact hpk | simp only [wantB, hpk, Bool.not_false, Bool.not_true]))) <;> omega) | fail)) (by (first | exact trivial | (try dsimp only [allP, inK, idxC, loC, lohiC, fullC, underG, List.append, List.nil_append, List.cons_append, Ty.den, Ty.dflt, Int.toNat_natCast, List.length_cons, List.length_nil] at *); first | omega | ((repeat' (first | exact trivial | assumption | refine And.intro ?_ ?_ | exact fun h => h | (intro hpk; first | exact hpk | simp only [wantB, hpk, Bool.not_false, Bool.not_true]))) <;> omega) | fail)) ?_ | refine JL.q1 (xok rfl rfl rfl rfl) rfl rfl (by (first | exact trivial | (try dsimp only [allP, inK, idxC, loC, lohiC, fullC, underG, List.append, List.nil_append, List.cons_append, Ty.den, Ty.dflt, Int.toNat_natCast, List.length_cons, List.length_nil] at *); first | omega | ((repeat' (first | exact trivial | assumption | refine And.intro ?_ ?_ | exact fun h => h | (intro hpk; first | exact hpk | simp only [wantB, hpk, Bool.not_false, Bool.not_true]))) <;> omega) | fail)) ?_); refine JL.finN ?_; refine JF.Branch 14 [] (xok rfl rfl rfl rfl) ?_ ?_; (focus (repeat (first | exact StF.nil | refine StF.One rfl rfl rfl ?_))); refine BrF.one rfl rfl ?_ BrF.nil; (· (first | refine JL.gf1 rfl (by show (xs.getD i 0 == b) = false; simpa using hx) rfl ?_ | refine JL.pickF rfl (by show (xs.getD i 0 == b) = false; simpa using hx) rfl rfl (by (first | exact trivial | (try dsimp only [allP, inK, idxC, loC, lohiC, fullC, underG, List.append, List.nil_append, List.cons_append, Ty.den, Ty.dflt, Int.toNat_natCast, List.length_cons, List.length_nil] at *); first | omega | ((repeat' (first | exact trivial | assumption | refine And.intro ?_ ?_ | exact fun h => h | (intro hpk; first | exact hpk | simp only [wantB, hpk, Bool.not_false, Bool.not_true]))) <;> omega) | fail)) (by (first | exact trivial | (try dsimp only [allP, inK, idxC, loC, lohiC, fullC, underG, List.append, List.nil_append, List.cons_append, Ty.den, Ty.dflt, Int.toNat_natCast, List.length_cons, List.length_nil] at *); first | omega | ((repeat' (first | exact trivial | assumption | refine And.intro ?_ ?_ | exact fun h => h | (intro hpk; first | exact hpk | simp only [wantB, hpk, Bool.not_false, Bool.not_true]))) <;> omega) | fail)) ?_ | refine JL.q1 (xok rfl rfl rfl rfl) rfl rfl (by (first | exact trivial | (try dsimp only [allP, inK, idxC, loC, lohiC, fullC, underG, List.append, List.nil_append, List.cons_append, Ty.den, Ty.dflt, Int.toNat_natCast, List.length_cons, List.length_nil] at *); first | omega | ((repeat' (first | exact trivial | assumption | refine And.intro ?_ ?_ | exact fun h => h | (intro hpk; first | exact hpk | simp only [wantB, hpk, Bool.not_false, Bool.not_true]))) <;> omega) | fail)) ?_); refine JL.finN ?_; refine JF.Branch 15 [] (xok rfl rfl rfl rfl) ?_ ?_; (focus (repeat (first | exact StF.nil | refine StF.One rfl rfl rfl ?_))); refine BrF.one rfl rfl ?_ BrF.nil; (· (first | refine JL.gf1 rfl (by show (xs.getD i 0 == b) = false; simpa using hx) rfl ?_ | refine JL.pickF rfl (by show (xs.getD i 0 == b) = false; simpa using hx) rfl rfl (by (first | exact trivial | (try dsimp only [allP, inK, idxC, loC, lohiC, fullC, underG, List.append, List.nil_append, List.cons_append, Ty.den, Ty.dflt, Int.toNat_natCast, List.length_cons, List.length_nil] at *); first | omega | ((repeat' (first | exact trivial | assumption | refine And.intro ?_ ?_ | exact fun h => h | (intro hpk; first | exact hpk | simp only [wantB, hpk, Bool.not_false, Bool.not_true]))) <;> omega) | fail)) (by (first | exact trivial | (try dsimp only [allP, inK, idxC, loC, lohiC, fullC, underG, List.append, List.nil_append, List.cons_append, Ty.den, Ty.dflt, Int.toNat_natCast, List.length_cons, List.length_nil] at *); first | omega | ((repeat' (first | exact trivial | assumption | refine And.intro ?_ ?_ | exact fun h => h | (intro hpk; first | exact hpk | simp only [wantB, hpk, Bool.not_false, Bool.not_true]))) <;> omega) | fail)) ?_ | refine JL.q1 (xok rfl rfl rfl rfl) rfl rfl (by (first | exact trivial | (try dsimp only [allP, inK, idxC, loC, lohiC, fullC, underG, List.append, List.nil_append, List.cons_append, Ty.den, Ty.dflt, Int.toNat_natCast, List.length_cons, List.length_nil] at *); first | omega | ((repeat' (first | exact trivial | assumption | refine And.intro ?_ ?_ | exact fun h => h | (intro hpk; first | exact hpk | simp only [wantB, hpk, Bool.not_false, Bool.not_true]))) <;> omega) | fail)) ?_); refine JL.finN ?_; refine JF.Done (xok rfl rfl rfl rfl) ?_ ?_; (focus (repeat (first | exact StF.nil | refine StF.One rfl rfl rfl ?_))); ((exact JW.Auto rfl))))))); (· (first | refine JL.gf1 rfl (by show (xs.getD i 0 == b) = false; simpa using hx) rfl ?_ | refine JL.pickF rfl (by show (xs.getD i 0 == b) = false; simpa using hx) rfl rfl (by (first | exact trivial | (try dsimp only [allP, inK, idxC, loC, lohiC, fullC, underG, List.append, List.nil_append, List.cons_append, Ty.den, Ty.dflt, Int.toNat_natCast, List.length_cons, List.length_nil] at *); first | omega | ((repeat' (first | exact trivial | assumption | refine And.intro ?_ ?_ | exact fun h => h | (intro hpk; first | exact hpk | simp only [wantB, hpk, Bool.not_false, Bool.not_true]))) <;> omega) | fail)) (by (first | exact trivial | (try dsimp only [allP, inK, idxC, loC, lohiC, fullC, underG, List.append, List.nil_append, List.cons_append, Ty.den, Ty.dflt, Int.toNat_natCast, List.length_cons, List.length_nil] at *); first | omega | ((repeat' (first | exact trivial | assumption | refine And.intro ?_ ?_ | exact fun h => h | (intro hpk; first | exact hpk | simp only [wantB, hpk, Bool.not_false, Bool.not_true]))) <;> omega) | fail)) ?_ | refine JL.q1 (xok rfl rfl rfl rfl) rfl rfl (by (first | exact trivial | (try dsimp only [allP, inK, idxC, loC, lohiC, fullC, underG, List.append, List.nil_append, List.cons_append, Ty.den, Ty.dflt, Int.toNat_natCast, List.length_cons, List.length_nil] at *); first | omega | ((repeat' (first | exact trivial | assumption | refine And.intro ?_ ?_ | exact fun h => h | (intro hpk; first | exact hpk | simp only [wantB, hpk, Bool.not_false, Bool.not_true]))) <;> omega) | fail)) ?_); refine JL.finN ?_; refine JF.Branch 11 [] (xok rfl rfl rfl rfl) ?_ ?_; (focus (repeat (first | exact StF.nil | refine StF.One rfl rfl rfl ?_))); refine BrF.one rfl rfl ?_ BrF.nil; (· (first | refine JL.gf1 rfl (by show (xs.getD i 0 == b) = false; simpa using hx) rfl ?_ | refine JL.pickF rfl (by show (xs.getD i 0 == b) = false; simpa using hx) rfl rfl (by (first | exact trivial | (try dsimp only [allP, inK, idxC, loC, lohiC, fullC, underG, List.append, List.nil_append, List.cons_append, Ty.den, Ty.dflt, Int.toNat_natCast, List.length_cons, List.length_nil] at *); first | omega | ((repeat' (first | exact trivial | assumption | refine And.intro ?_ ?_ | exact fun h => h | (intro hpk; first | exact hpk | simp only [wantB, hpk, Bool.not_false, Bool.not_true]))) <;> omega) | fail)) (by (first | exact trivial | (try dsimp only [allP, inK, idxC, loC, lohiC, fullC, underG, List.append, List.nil_append, List.cons_append, Ty.den, Ty.dflt, Int.toNat_natCast, List.length_cons, List.length_nil] at *); first | omega | ((repeat' (first | exact trivial | assumption | refine And.intro ?_ ?_ | exact fun h => h | (intro hpk; first | exact hpk | simp only [wantB, hpk, Bool.not_false, Bool.not_true]))) <;> omega) | fail)) ?_ | refine JL.q1 (xok rfl rfl rfl rfl) rfl rfl (by (first | exact trivial | (try dsimp only [allP, inK, idxC, loC, lohiC, fullC, underG, List.append, List.nil_append, List.cons_append, Ty.den, Ty.dflt, Int.toNat_natCast, List.length_cons, List.length_nil] at *); first | omega | ((repeat' (first | exact trivial | assumption | refine And.intro ?_ ?_ | exact fun h => h | (intro hpk; first | exact hpk | simp only [wantB, hpk, Bool.not_false, Bool.not_true]))) <;> omega) | fail)) ?_); refine JL.finN ?_; refine JF.Branch 13 [] (xok rfl rfl rfl rfl) ?_ ?_; (focus (repeat (first | exact StF.nil | refine StF.One rfl rfl rfl ?_))); refine BrF.one rfl rfl ?_ BrF.nil; (· (first | refine JL.gf1 rfl (by show (xs.getD i 0 == b) = false; simpa using hx) rfl ?_ | refine JL.pickF rfl (by show (xs.getD i 0 == b) = false; simpa using hx) rfl rfl (by (first | exact trivial | (try dsimp only [allP, inK, idxC, loC, lohiC, fullC, underG, List.append, List.nil_append, List.cons_append, Ty.den, Ty.dflt, Int.toNat_natCast, List.length_cons, List.length_nil] at *); first | omega | ((repeat' (first | exact trivial | assumption | refine And.intro ?_ ?_ | exact fun h => h | (intro hpk; first | exact hpk | simp only [wantB, hpk, Bool.not_false, Bool.not_true]))) <;> omega) | fail)) (by (first | exact trivial | (try dsimp only [allP, inK, idxC, loC, lohiC, fullC, underG, List.append, List.nil_append, List.cons_append, Ty.den, Ty.dflt, Int.toNat_natCast, List.length_cons, List.length_nil] at *); first | omega | ((repeat' (first | exact trivial | assumption | refine And.intro ?_ ?_ | exact fun h => h | (intro hpk; first | exact hpk | simp only [wantB, hpk, Bool.not_false, Bool.not_true]))) <;> omega) | fail)) ?_ | refine JL.q1 (xok rfl rfl rfl rfl) rfl rfl (by (first | exact trivial | (try dsimp only [allP, inK, idxC, loC, lohiC, fullC, underG, List.append, List.nil_append, List.cons_append, Ty.den, Ty.dflt, Int.toNat_natCast, List.length_cons, List.length_nil] at *); first | omega | ((repeat' (first | exact trivial | assumption | refine And.intro ?_ ?_ | exact fun h => h | (intro hpk; first | exact hpk | simp only [wantB, hpk, Bool.not_false, Bool.not_true]))) <;> omega) | fail)) ?_); refine JL.finN ?_; refine JF.Branch 14 [] (xok rfl rfl rfl rfl) ?_ ?_; (focus (repeat (first | exact StF.nil | refine StF.One rfl rfl rfl ?_))); refine BrF.one rfl rfl ?_ BrF.nil; (· (first | refine JL.gf1 rfl (by show (xs.getD i 0 == b) = false; simpa using hx) rfl ?_ | refine JL.pickF rfl (by show (xs.getD i 0 == b) = false; simpa using hx) rfl rfl (by (first | exact trivial | (try dsimp only [allP, inK, idxC, loC, lohiC, fullC, underG, List.append, List.nil_append, List.cons_append, Ty.den, Ty.dflt, Int.toNat_natCast, List.length_cons, List.length_nil] at *); first | omega | ((repeat' (first | exact trivial | assumption | refine And.intro ?_ ?_ | exact fun h => h | (intro hpk; first | exact hpk | simp only [wantB, hpk, Bool.not_false, Bool.not_true]))) <;> omega) | fail)) (by (first | exact trivial | (try dsimp only [allP, inK, idxC, loC, lohiC, fullC, underG, List.append, List.nil_append, List.cons_append, Ty.den, Ty.dflt, Int.toNat_natCast, List.length_cons, List.length_nil] at *); first | omega | ((repeat' (first | exact trivial | assumption | refine And.intro ?_ ?_ | exact fun h => h | (intro hpk; first | exact hpk | simp only [wantB, hpk, Bool.not_false, Bool.not_true]))) <;> omega) | fail)) ?_ | refine JL.q1 (xok rfl rfl rfl rfl) rfl rfl (by (first | exact trivial | (try dsimp only [allP, inK, idxC, loC, lohiC, fullC, underG, List.append, List.nil_append, List.cons_append, Ty.den, Ty.dflt, Int.toNat_natCast, List.length_cons, List.length_nil] at *); first | omega | ((repeat' (first | exact trivial | assumption | refine And.intro ?_ ?_ | exact fun h => h | (intro hpk; first | exact hpk | simp only [wantB, hpk, Bool.not_false, Bool.not_true]))) <;> omega) | fail)) ?_); refine JL.finN ?_; refine JF.Branch 15 [] (xok rfl rfl rfl rfl) ?_ ?_; (focus (repeat (first | exact StF.nil | refine StF.One rfl rfl rfl ?_))); refine BrF.one rfl rfl ?_ BrF.nil; (· (first | refine JL.gf1 rfl (by show (xs.getD i 0 == b) = false; simpa using hx) rfl ?_ | refine JL.pickF rfl (by show (xs.getD i 0 == b) = false; simpa using hx) rfl rfl (by (first | exact trivial | (try dsimp only [allP, inK, idxC, loC, lohiC, fullC, underG, List.append, List.nil_append, List.cons_append, Ty.den, Ty.dflt, Int.toNat_natCast, List.length_cons, List.length_nil] at *); first | omega | ((repeat' (first | exact trivial | assumption | refine And.intro ?_ ?_ | exact fun h => h | (intro hpk; first | exact hpk | simp only [wantB, hpk, Bool.not_false, Bool.not_true]))) <;> omega) | fail)) (by (first | exact trivial | (try dsimp only [allP, inK, idxC, loC, lohiC, fullC, underG, List.append, List.nil_append, List.cons_append, Ty.den, Ty.dflt, Int.toNat_natCast, List.length_cons, List.length_nil] at *); first | omega | ((repeat' (first | exact trivial | assumption | refine And.intro ?_ ?_ | exact fun h => h | (intro hpk; first | exact hpk | simp only [wantB, hpk, Bool.not_false, Bool.not_true]))) <;> omega) | fail)) ?_ | refine JL.q1 (xok rfl rfl rfl rfl) rfl rfl (by (first | exact trivial | (try dsimp only [allP, inK, idxC, loC, lohiC, fullC, underG, List.append, List.nil_append, List.cons_append, Ty.den, Ty.dflt, Int.toNat_natCast, List.length_cons, List.length_nil] at *); first | omega | ((repeat' (first | exact trivial | assumption | refine And.intro ?_ ?_ | exact fun h => h | (intro hpk; first | exact hpk | simp only [wantB, hpk, Bool.not_false, Bool.not_true]))) <;> omega) | fail)) ?_); refine JL.finN ?_; refine JF.Done (xok rfl rfl rfl rfl) ?_ ?_; (focus (repeat (first | exact StF.nil | refine StF.One rfl rfl rfl ?_))); ((exact JW.Auto rfl))))))))
      · refine JC.cond rfl (fun h => by cases h) (fun _ => ?_)
        (repeat (first   | refine JL.Q1 (xok rfl rfl rfl rfl) rfl rfl ?_   | refine JL.G1 (xok rfl rfl rfl rfl) rfl rfl rfl ?_   | refine JL.g1 (xok rfl rfl rfl rfl) rfl rfl rfl (fun hgd => And.intro hgd (fun hpk => Bool.and_eq_true_iff.2 ⟨hgd, by rw [hpk]; rfl⟩)) ?_   | refine JL.G2 (xok rfl rfl rfl rfl) rfl rfl rfl ?_   | refine JL.M1 (xok rfl rfl rfl rfl) rfl rfl ?_   | refine JL.M0 (xok rfl rfl rfl rfl) rfl ?_   | refine JL.Q0 (xok rfl rfl rfl rfl) rfl ?_   | refine JL.nilF ?_   | refine JL.nil ?_   | refine JC.scope ?_   | refine QX.tn ?_   | refine JC.seq ?_   | refine JC.region ?_   | refine JC.Draw (xok rfl rfl rfl rfl) ?_   | refine JC.block ?_   | refine JC.skip ?_   | refine JC.label ?_   | refine JC.exit ?_   | refine JC.ret ?_   | refine QX.te ?_ | refine QX.tr ?_ | refine QX.bn ?_ | refine QX.be ?_ | refine QX.bx rfl ?_ | refine QX.br ?_ | refine QX.sn ?_ | refine QX.se ?_ | refine QX.sr ?_ | refine QX.ee ?_ | refine QX.eo rfl ?_ | refine QX.er ?_ | refine QX.en ?_))
        exact ⟨i + 1, by (exact JW.Auto rfl), ⟨by omega, by rw [waitS, waitS]; exact hinv⟩, by omega⟩
  · (simp only [↓bif_or, ↓bif_and, ↓Bool.or_eq_true, ↓Bool.or_eq_false_iff, ↓Bool.and_eq_true, ↓Bool.and_eq_false_iff, ↓Bool.not_eq_true', ↓Bool.not_eq_false', ↓decide_eq_true_eq, ↓decide_eq_false_iff_not, ↓beq_iff_eq, ↓bne_iff_ne, ↓bne_eq_false_iff_eq, ↓ne_eq, ↓beq_eq_false_iff_ne, ↓Bool.not_eq_true] at hc; try simp only [Ty.dflt, Int.toNat_natCast] at hc)
    (repeat (first   | refine JL.Q1 (xok rfl rfl rfl rfl) rfl rfl ?_   | refine JL.G1 (xok rfl rfl rfl rfl) rfl rfl rfl ?_   | refine JL.g1 (xok rfl rfl rfl rfl) rfl rfl rfl (fun hgd => And.intro hgd (fun hpk => Bool.and_eq_true_iff.2 ⟨hgd, by rw [hpk]; rfl⟩)) ?_   | refine JL.G2 (xok rfl rfl rfl rfl) rfl rfl rfl ?_   | refine JL.M1 (xok rfl rfl rfl rfl) rfl rfl ?_   | refine JL.M0 (xok rfl rfl rfl rfl) rfl ?_   | refine JL.Q0 (xok rfl rfl rfl rfl) rfl ?_   | refine JL.nilF ?_   | refine JL.nil ?_   | refine JC.scope ?_   | refine QX.tn ?_   | refine JC.seq ?_   | refine JC.region ?_   | refine JC.Draw (xok rfl rfl rfl rfl) ?_   | refine JC.block ?_   | refine JC.skip ?_   | refine JC.label ?_   | refine JC.exit ?_   | refine JC.ret ?_   | refine QX.te ?_ | refine QX.tr ?_ | refine QX.bn ?_ | refine QX.be ?_ | refine QX.bx rfl ?_ | refine QX.br ?_ | refine QX.sn ?_ | refine QX.se ?_ | refine QX.sr ?_ | refine QX.ee ?_ | refine QX.eo rfl ?_ | refine QX.er ?_ | refine QX.en ?_))
    refine rngQ.of (.inr rfl) rfl rfl rfl rfl rfl rfl rfl ?_
    refine endJ.n ?_
    (repeat (first   | refine JL.Q1 (xok rfl rfl rfl rfl) rfl rfl ?_   | refine JL.G1 (xok rfl rfl rfl rfl) rfl rfl rfl ?_   | refine JL.g1 (xok rfl rfl rfl rfl) rfl rfl rfl (fun hgd => And.intro hgd (fun hpk => Bool.and_eq_true_iff.2 ⟨hgd, by rw [hpk]; rfl⟩)) ?_   | refine JL.G2 (xok rfl rfl rfl rfl) rfl rfl rfl ?_   | refine JL.M1 (xok rfl rfl rfl rfl) rfl rfl ?_   | refine JL.M0 (xok rfl rfl rfl rfl) rfl ?_   | refine JL.Q0 (xok rfl rfl rfl rfl) rfl ?_   | refine JL.nilF ?_   | refine JL.nil ?_   | refine JC.scope ?_   | refine QX.tn ?_   | refine JC.seq ?_   | refine JC.region ?_   | refine JC.Draw (xok rfl rfl rfl rfl) ?_   | refine JC.block ?_   | refine JC.skip ?_   | refine JC.label ?_   | refine JC.exit ?_   | refine JC.ret ?_   | refine QX.te ?_ | refine QX.tr ?_ | refine QX.bn ?_ | refine QX.be ?_ | refine QX.bx rfl ?_ | refine QX.br ?_ | refine QX.sn ?_ | refine QX.se ?_ | refine QX.sr ?_ | refine QX.ee ?_ | refine QX.eo rfl ?_ | refine QX.er ?_ | refine QX.en ?_))
    refine ⟨.inl rfl, _, _, rfl, trivial, ?_⟩
    obtain rfl : i = xs.length := by omega
    rw [hinv, waitS, Nat.sub_self]; rfl
end Go.Proofs.Ytbmgijgnbilnoaa
