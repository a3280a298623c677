/- Texts of the proof, part 3 of 5.
  The engine, part ZN: maps as data: what is kept, what is counted.
  The engine, part ZO: steps on maps and comparisons, their side conditions shown by themselves.
  The seat's table of types for the engine.
  The engine, part ZP: sequences, but for those that begin with an 'if'.
  The engine, part ZU: code as a stack: one step at a time, by one rule.
  The seat's steps: one rule a kind.
  Leaf functions of the definitions: ints, IsBook, Last, In, CheckDay, Before.
  within and what it stands on; CheckDay, Before.
  newBindery.
  Small functions of the bindery: news, fetched, many, parts, first, open.
  play.
  wait.
  plan.
  What count reckons: the ways, as a list of places, and maps that say how often each comes. -/
import Derived.Test.YtbmgijgnbilnoaaPkb
import Derived.Test.YtbmgijgnbilnoaaProg
set_option linter.all false
namespace Ox
open Go Go.RowKit
variable {kt vt : Ty} {es : List (Ent kt vt)} {clk : Nat} {x y : kt.den} {v d : vt.den} {e : Ent kt vt}

theorem mIdx_none : mIdx es x = none ↔ ∀ e ∈ es, e.1 ≠ x := by
  unfold mIdx
  rw [List.findIdx?_eq_none_iff]
  refine ⟨fun h e he hx => ?_, fun h e he => ?_⟩
  · have := h e he
    rw [Ty.eqB_iff.2 hx.symm] at this; cases this
  · cases hb : kt.eqB x e.1
    · rfl
    · exact absurd (Ty.eqB_iff.1 hb).symm (h e he)
theorem mIdx_some {j : Nat} (h : mIdx es x = some j) : ∃ hj : j < es.length, (es[j]).1 = x := by
  unfold mIdx at h
  rw [List.findIdx?_eq_some_iff_getElem] at h
  obtain ⟨hj, h1, _⟩ := h
  exact ⟨hj, (Ty.eqB_iff.1 h1).symm⟩

/-- A map in order: no entry is as young as the clock, none as old as another one, no key comes twice. -/
structure MWF (es : List (Ent kt vt)) (clk : Nat) : Prop where
  lt : ∀ e ∈ es, e.2.2 < clk
  nb : (es.map (·.2.2)).Nodup
  nk : (es.map (·.1)).Nodup

theorem MWF.nil : MWF ([] : List (Ent kt vt)) clk := ⟨(fun _ h => by cases h), List.nodup_nil, List.nodup_nil⟩

theorem nodup_at {α β : Type} {f : α → β} : ∀ {l : List α}, (l.map f).Nodup → ∀ {a b : α}, a ∈ l → b ∈ l → f a = f b → a = b
  | [], _, _, _, h, _, _ => by cases h
  | c :: l, hn, a, b, ha, hb, e => by
    rw [List.map_cons, List.nodup_cons] at hn
    rcases List.mem_cons.1 ha with h1 | h1
    · rcases List.mem_cons.1 hb with h2 | h2
      · rw [h1, h2]
      · exact absurd (List.mem_map.2 ⟨b, h2, by rw [← e, h1]⟩) hn.1
    · rcases List.mem_cons.1 hb with h2 | h2
      · exact absurd (List.mem_map.2 ⟨a, h1, by rw [e, h2]⟩) hn.1
      · exact nodup_at hn.2 h1 h2 e
theorem idx_at {α β : Type} {f : α → β} {l : List α} (hn : (l.map f).Nodup) {i j : Nat} (hi : i < l.length) (hj : j < l.length) (e : f l[i] = f l[j]) : i = j := by
  have := List.pairwise_iff_getElem.1 hn
  rcases Nat.lt_trichotomy i j with hlt | h | hlt
  · exact absurd (by rw [List.getElem_map, List.getElem_map]; exact e) (this i j (by simpa using hi) (by simpa using hj) hlt)
  · exact h
  · exact absurd (by rw [List.getElem_map, List.getElem_map]; exact e.symm) (this j i (by simpa using hj) (by simpa using hi) hlt)
theorem MWF.eq (h : MWF es clk) {e e' : Ent kt vt} (h1 : e ∈ es) (h2 : e' ∈ es) (hk : e.1 = e'.1) : e = e' := nodup_at h.nk h1 h2 hk
theorem MWF.eqb (h : MWF es clk) {e e' : Ent kt vt} (h1 : e ∈ es) (h2 : e' ∈ es) (hk : e.2.2 = e'.2.2) : e = e' := nodup_at h.nb h1 h2 hk

theorem mGet_mem (h : MWF es clk) (he : e ∈ es) : mGet es e.1 d = e.2.1 := by
  unfold mGet
  split
  · rename_i hn
    exact absurd rfl (mIdx_none.1 hn e he)
  · rename_i j hj
    obtain ⟨hl, hk⟩ := mIdx_some hj
    rw [List.getElem?_eq_getElem hl]
    have := h.eq (List.getElem_mem hl) he hk
    rw [this]; rfl
theorem mGet_not (h : ∀ e ∈ es, e.1 ≠ x) : mGet es x d = d := by
  unfold mGet
  rw [mIdx_none.2 h]

theorem map_mod {α β : Type} {f : α → α} {g : α → β} (hg : ∀ a, g (f a) = g a) : ∀ (l : List α) (j : Nat), (l.modify j f).map g = l.map g
  | [], j => by simp
  | a :: l, 0 => by simp [hg]
  | a :: l, j + 1 => by simp [map_mod hg l j]
theorem mod_snoc {α : Type} {f : α → α} : ∀ (l : List α) (a : α), (l ++ [a]).modify l.length f = l ++ [f a]
  | [], a => by simp
  | b :: l, a => by simp [mod_snoc l a]
theorem mem_mod {α : Type} {f : α → α} {b : α} : ∀ {l : List α} {j : Nat}, b ∈ l.modify j f ↔ (∃ i, ∃ h : i < l.length, i ≠ j ∧ l[i] = b) ∨ (∃ h : j < l.length, f l[j] = b) := by
  intro l j
  rw [List.mem_iff_getElem]
  constructor
  · rintro ⟨i, hi, rfl⟩
    have hi' : i < l.length := by simpa using hi
    by_cases h : i = j
    · subst h; right; exact ⟨hi', by simp⟩
    · left; exact ⟨i, hi', h, by rw [List.getElem_modify, if_neg (fun e => h e.symm)]⟩
  · rintro (⟨i, hi, hne, rfl⟩ | ⟨hj, rfl⟩)
    · exact ⟨i, by simpa using hi, by rw [List.getElem_modify, if_neg (fun e => hne e.symm)]⟩
    · exact ⟨j, by simpa using hj, by simp⟩

theorem mPut_mem (h : MWF es clk) : e ∈ mPut es clk x v ↔ (e ∈ es ∧ e.1 ≠ x) ∨ (e.1 = x ∧ e.2.1 = v ∧ e.2.2 = mBorn es clk x) := by
  unfold mPut mBorn
  split
  · rename_i hn
    rw [mIdx_none] at hn
    rw [List.mem_append, List.mem_singleton]
    refine or_congr ⟨fun he => ⟨he, hn e he⟩, fun he => he.1⟩ ?_
    obtain ⟨a, b, c⟩ := e
    simp
  · rename_i j hj
    obtain ⟨hl, hk⟩ := mIdx_some hj
    rw [mem_mod, List.getElem?_eq_getElem hl]
    constructor
    · rintro (⟨i, hi, hne, rfl⟩ | ⟨_, rfl⟩)
      · refine .inl ⟨List.getElem_mem hi, fun hx => hne (idx_at h.nk hi hl (hx.trans hk.symm))⟩
      · exact .inr ⟨hk, rfl, rfl⟩
    · rintro (⟨he, hne⟩ | ⟨h1, h2, h3⟩)
      · obtain ⟨i, hi, rfl⟩ := List.mem_iff_getElem.1 he
        exact .inl ⟨i, hi, fun hij => hne (by subst hij; exact hk), rfl⟩
      · refine .inr ⟨hl, ?_⟩
        obtain ⟨a, b, c⟩ := e
        simp only [Option.map_some, Option.getD_some] at h1 h2 h3
        rw [hk, h1, h2, h3]

theorem MWF.put (h : MWF es clk) : MWF (mPut es clk x v) (mClk es clk x) := by
  unfold mPut mClk
  split
  · rename_i hn
    rw [mIdx_none] at hn
    refine ⟨fun e he => ?_, ?_, ?_⟩
    · rcases List.mem_append.1 he with he | he
      · have := h.lt e he; omega
      · rw [List.mem_singleton.1 he]; exact Nat.lt_succ_self _
    · rw [List.map_append, List.nodup_append]
      refine ⟨h.nb, by simp, fun a ha b hb => ?_⟩
      obtain ⟨e, he, rfl⟩ := List.mem_map.1 ha
      simp only [List.map_cons, List.map_nil, List.mem_singleton] at hb
      have := h.lt e he
      omega
    · rw [List.map_append, List.nodup_append]
      refine ⟨h.nk, by simp, fun a ha b hb => ?_⟩
      obtain ⟨e, he, rfl⟩ := List.mem_map.1 ha
      simp only [List.map_cons, List.map_nil, List.mem_singleton] at hb
      subst hb
      exact hn e he
  · refine ⟨fun e he => ?_, ?_, ?_⟩
    · obtain ⟨i, hi, rfl⟩ := List.mem_iff_getElem.1 he
      have := h.lt (es[i]'(by simpa using hi)) (List.getElem_mem _)
      rw [List.getElem_modify]
      split
      · exact this
      · exact this
    · rw [map_mod (f := fun e : Ent kt vt => (e.1, v, e.2.2)) (g := fun e => e.2.2) fun _ => rfl]; exact h.nb
    · rw [map_mod (f := fun e : Ent kt vt => (e.1, v, e.2.2)) (g := fun e => e.1) fun _ => rfl]; exact h.nk

theorem mGet_put (h : MWF es clk) (hc : Decidable (y = x)) : mGet (mPut es clk x v) y d = if y = x then v else mGet es y d := by
  split
  · rename_i e; subst e
    exact mGet_mem (h.put) (e := (y, v, mBorn es clk y)) ((mPut_mem h).2 (.inr ⟨rfl, rfl, rfl⟩))
  · rename_i hne
    cases hi : mIdx es y with
    | none =>
      rw [mIdx_none] at hi
      rw [mGet_not hi, mGet_not]
      intro e he hk
      rcases (mPut_mem h).1 he with ⟨h1, _⟩ | ⟨h1, _⟩
      · exact hi e h1 hk
      · exact hne (hk.symm.trans h1)
    | some j =>
      obtain ⟨hl, hk⟩ := mIdx_some hi
      rw [← hk] at hne ⊢
      rw [mGet_mem h (List.getElem_mem hl), mGet_mem h.put ((mPut_mem h).2 (.inl ⟨List.getElem_mem hl, hne⟩))]

theorem mPut_key (h : MWF es clk) {z : kt.den} : (∃ e ∈ mPut es clk x v, e.1 = z) ↔ z = x ∨ ∃ e ∈ es, e.1 = z := by
  constructor
  · rintro ⟨e, he, rfl⟩
    rcases (mPut_mem h).1 he with ⟨h1, _⟩ | ⟨h1, _⟩
    · exact .inr ⟨e, h1, rfl⟩
    · exact .inl h1
  · intro hz
    by_cases hx : z = x
    · exact ⟨(x, v, mBorn es clk x), (mPut_mem h).2 (.inr ⟨rfl, rfl, rfl⟩), hx.symm⟩
    · rcases hz with hz | ⟨e, he, rfl⟩
      · exact absurd hz hx
      · exact ⟨e, (mPut_mem h).2 (.inl ⟨he, hx⟩), rfl⟩

theorem findIdx_born_at (h : (es.map (·.2.2)).Nodup) {j : Nat} (hj : j < es.length) : es.findIdx? (fun e => ((e.2.2 : Nat) : Int) == ((es[j].2.2 : Nat) : Int)) = some j := by
  rw [List.findIdx?_eq_some_iff_getElem]
  refine ⟨hj, by simp, fun i hi => ?_⟩
  have := List.pairwise_iff_getElem.1 h i j (by simp; omega) (by simpa using hj) hi
  simp only [List.getElem_map] at this
  simp only [beq_iff_eq, Bool.not_eq_true, beq_eq_false_iff_ne, ne_eq]
  omega

theorem mSet_ent (h : MWF es clk) : mSet (mEnt es clk x) ((mBorn es clk x : Nat) : Int) v = mPut es clk x v := by
  unfold mSet mEnt mBorn mPut
  cases hi : mIdx es x with
  | none =>
    have hx : es.findIdx? (fun e => ((e.2.2 : Nat) : Int) == ((clk : Nat) : Int)) = none := by
      rw [List.findIdx?_eq_none_iff]
      intro e he
      have := h.lt e he
      simp only [beq_eq_false_iff_ne, ne_eq]; omega
    simp only [List.findIdx?_append, hx]
    simp only [Option.none_or, List.findIdx?_cons, beq_self_eq_true, if_true, Option.map_some, Nat.zero_add]
    exact mod_snoc _ _
  | some j =>
    obtain ⟨hl, hk⟩ := mIdx_some hi
    simp only [List.getElem?_eq_getElem hl, Option.map_some, Option.getD_some, findIdx_born_at h.nb hl]

theorem mBorn_any (h : MWF es clk) : (mEnt es clk x).any (fun e => e.2.2 == mBorn es clk x) = true := by
  unfold mEnt mBorn
  cases hi : mIdx es x with
  | none => simp
  | some j =>
    obtain ⟨hl, hk⟩ := mIdx_some hi
    simp only [List.getElem?_eq_getElem hl, Option.map_some, Option.getD_some]
    rw [List.any_eq_true]
    exact ⟨es[j], List.getElem_mem hl, by simp⟩

theorem mGet_ent (h : MWF es clk) : mGet (mEnt es clk x) x vt.dflt = mGet es x vt.dflt := by
  cases hi : mIdx es x with
  | none =>
    have : mEnt es clk x = mPut es clk x vt.dflt := by unfold mEnt mPut; rw [hi]
    rw [this, mGet_not (mIdx_none.1 hi)]
    exact mGet_mem (h.put) (e := (x, vt.dflt, mBorn es clk x)) ((mPut_mem h).2 (.inr ⟨rfl, rfl, rfl⟩))
  | some j => unfold mEnt; rw [hi]

theorem mDel_sub : (mDel es x).Sublist es := by
  unfold mDel
  split
  · exact List.Sublist.refl _
  · exact List.eraseIdx_sublist _ _
theorem mDel_mem (h : MWF es clk) : e ∈ mDel es x ↔ e ∈ es ∧ e.1 ≠ x := by
  unfold mDel
  split
  · rename_i hn
    rw [mIdx_none] at hn
    exact ⟨fun he => ⟨he, hn e he⟩, fun he => he.1⟩
  · rename_i j hj
    obtain ⟨hl, hk⟩ := mIdx_some hj
    rw [List.mem_eraseIdx_iff_getElem]
    constructor
    · rintro ⟨i, hi, hne, rfl⟩
      refine ⟨List.getElem_mem hi, fun hx => hne (idx_at h.nk hi hl (hx.trans hk.symm))⟩
    · rintro ⟨he, hne⟩
      obtain ⟨i, hi, rfl⟩ := List.mem_iff_getElem.1 he
      exact ⟨i, hi, fun hij => hne (by subst hij; exact hk), rfl⟩
theorem MWF.sub {fs : List (Ent kt vt)} (h : MWF es clk) (hs : fs.Sublist es) : MWF fs clk := ⟨fun e he => h.lt e (hs.subset he), (hs.map _).nodup h.nb, (hs.map _).nodup h.nk⟩
theorem MWF.del (h : MWF es clk) : MWF (mDel es x) clk := h.sub mDel_sub

/-- What a range has not seen yet. -/
def mLeft (es : List (Ent kt vt)) (seen : List Nat) : Nat := (es.filter fun e => !seen.contains e.2.2).length
theorem mLeft_lt {seen : List Nat} (he : e ∈ es) (hs : e.2.2 ∉ seen) : mLeft es (seen ++ [e.2.2]) < mLeft es seen := by
  unfold mLeft
  have key : ∀ (l : List (Ent kt vt)), (l.filter fun a => !(seen ++ [e.2.2]).contains a.2.2).length ≤ (l.filter fun a => !seen.contains a.2.2).length ∧
      (e ∈ l → (l.filter fun a => !(seen ++ [e.2.2]).contains a.2.2).length < (l.filter fun a => !seen.contains a.2.2).length) := by
    intro l
    induction l with
    | nil => exact ⟨Nat.le_refl _, fun h => by cases h⟩
    | cons a l ih =>
      simp only [List.filter_cons]
      by_cases h1 : a.2.2 ∈ seen
      · have e1 : (!(seen ++ [e.2.2]).contains a.2.2) = false := by simp [h1]
        have e2 : (!seen.contains a.2.2) = false := by simp [h1]
        rw [e1, e2]
        simp only [Bool.false_eq_true, if_false]
        refine ⟨ih.1, fun h => ?_⟩
        rcases List.mem_cons.1 h with rfl | h
        · exact absurd h1 hs
        · exact ih.2 h
      · have e2 : (!seen.contains a.2.2) = true := by simp [h1]
        rw [e2]
        simp only [if_true]
        by_cases h3 : a.2.2 = e.2.2
        · have e1 : (!(seen ++ [e.2.2]).contains a.2.2) = false := by simp [h3]
          rw [e1]
          simp only [Bool.false_eq_true, if_false, List.length_cons]
          exact ⟨by omega, fun _ => by omega⟩
        · have e1 : (!(seen ++ [e.2.2]).contains a.2.2) = true := by simp [h1, h3]
          rw [e1]
          simp only [if_true, List.length_cons]
          refine ⟨by omega, fun h => ?_⟩
          rcases List.mem_cons.1 h with rfl | h
          · exact absurd rfl h3
          · have := ih.2 h; omega
  exact (key es).2 he
theorem mLeft_sub {fs : List (Ent kt vt)} {seen : List Nat} (hs : fs.Sublist es) : mLeft fs seen ≤ mLeft es seen := (hs.filter _).length_le

/-! ### Steps of a walk once more -/
section
variable {X : Ctx} {s : S} {M : Mem} {ρ : Env} {a : Act} {w w' : World} {QA : Exit → S → Prop} {all l : List Oper} {o : Oper} {P : Program} {md : Bool}
variable {t kid vid : TypeId} {n dd nx : Nat} {L : List (Nat × AV)} {H : List (Nat × HO)} {ty : TypeId} {ps : String} {af : Array Edge} {c1 c2 c3 : List Prop} {om ok ov : Operand}

/-- An operation that computes a value and leaves the world alone, in whatever later world. -/
theorem JL.vq {v : AV} (hg : o.guard = none) (hn : notDef o.op = true) (hd : dstOk X.n o.dst) (hb : v.bd s.nx) (h : ∀ M ρ a w, SAT X M ρ s w → REG X M ρ s a → ∃ z, v.rv M ρ z ∧ ∀ w1, (execOp a.eval o).run X.P w1 = .ok (.value z) w1)
    (k : JL X md all QA l (putS o.dst v s)) : JL X md all QA (o :: l) s := by
  cases md
  · intro M ρ a w0 h1 h2
    obtain ⟨z, hz, hr⟩ := h M ρ a w0 h1 h2
    simp only [wpQuiet, Region.wanted, hg, if_true]
    refine ⟨z, fun w hw => ?_, k M ρ _ w0 (putS_sat h1) (h2.putO hd.spec hb hz)⟩
    unfold Oper.quietAt
    rw [hr w]
    exact ⟨rfl, rfl⟩
  · intro M ρ a w h1 h2
    obtain ⟨z, hz, hr⟩ := h M ρ a w h1 h2
    exact wpListIn_w (wanted_none hg) (wpIn_value hn (hr w) (k M ρ _ w (putS_sat h1) (h2.putO hd.spec hb hz)))

/-- '==' and '!=' on values without addresses, in any region. -/
theorem JL.eqQ (hK : KeyOK X.P kt t) (hag : kt.agg = true) (hgt : X.P.eqGuardType X.P.depth t = false) (hu : opd L om = some (c1, .val kt x)) (hv : opd L ok = some (c2, .val kt y)) (hd : ltB dd X.n = true) (hc : allP (c1 ++ c2)) {tt : TypeId}
    (k : JL X md all QA l ⟨(dd, .val .bool (kt.eqB x y)) :: L, H, nx⟩) : JL X md all QA (⟨some dd, .binOp .eql t om ok tt, ty, ps, af, none⟩ :: l) ⟨L, H, nx⟩ := by
  rw [allP_append] at hc
  refine JL.vq rfl rfl (ltB_lt hd) trivial (v := .val .bool (kt.eqB x y)) (s := ⟨L, H, nx⟩) (fun M ρ a w h1 h2 => ⟨.bool (kt.eqB x y), rv_bool.2 rfl, fun w1 => ?_⟩) k
  obtain ⟨cx, hx, hxe⟩ := opd_val (vt := kt) hu hc.1 h2
  obtain ⟨cy, hy, hye⟩ := opd_val (vt := kt) hv hc.2 h2
  obtain ⟨r, hr, hq⟩ := equal_run hK.ty hK.ok hK.dep hK.flat hx hy w1
  have hrb : r = kt.eqB x y := by rw [Bool.eq_iff_iff, Ty.eqB_iff]; exact hq
  rw [Ty.wrap_agg hag, Ty.wrap_agg hag] at hr
  simp only [execOp, hxe, hye, Ty.wrap_agg hag, Sem.run_bind, run_eqGuard_agg w1 _ _ _ _ _ _ hgt, Result.andThen_ok, binOp, hr, Sem.run_pure, hrb]
theorem JL.neQ (hK : KeyOK X.P kt t) (hag : kt.agg = true) (hgt : X.P.eqGuardType X.P.depth t = false) (hu : opd L om = some (c1, .val kt x)) (hv : opd L ok = some (c2, .val kt y)) (hd : ltB dd X.n = true) (hc : allP (c1 ++ c2)) {tt : TypeId}
    (k : JL X md all QA l ⟨(dd, .val .bool (!kt.eqB x y)) :: L, H, nx⟩) : JL X md all QA (⟨some dd, .binOp .neq t om ok tt, ty, ps, af, none⟩ :: l) ⟨L, H, nx⟩ := by
  rw [allP_append] at hc
  refine JL.vq rfl rfl (ltB_lt hd) trivial (v := .val .bool (!kt.eqB x y)) (s := ⟨L, H, nx⟩) (fun M ρ a w h1 h2 => ⟨.bool (!kt.eqB x y), rv_bool.2 rfl, fun w1 => ?_⟩) k
  obtain ⟨cx, hx, hxe⟩ := opd_val (vt := kt) hu hc.1 h2
  obtain ⟨cy, hy, hye⟩ := opd_val (vt := kt) hv hc.2 h2
  obtain ⟨r, hr, hq⟩ := equal_run hK.ty hK.ok hK.dep hK.flat hx hy w1
  have hrb : r = kt.eqB x y := by rw [Bool.eq_iff_iff, Ty.eqB_iff]; exact hq
  rw [Ty.wrap_agg hag, Ty.wrap_agg hag] at hr
  simp only [execOp, hxe, hye, Ty.wrap_agg hag, Sem.run_bind, run_eqGuard_agg w1 _ _ _ _ _ _ hgt, Result.andThen_ok, binOp, hr, Sem.run_pure, hrb]

/-- A guard that is decided: nothing is carried out. -/
theorem JL.gF {gg : Nat × Bool} {g : Bool} {op : Op} (hg : gOf all L (some gg) = some g) (hgf : g = false) (hd : ltB dd X.n = true) (k : JL X true all QA l ⟨(dd, .undef) :: L, H, nx⟩) :
    JL X true all QA (⟨some dd, op, ty, ps, af, some gg⟩ :: l) ⟨L, H, nx⟩ := by
  subst hgf
  intro M ρ a w h1 h2
  have hw := gOf_sound (s := ⟨L, H, nx⟩) (o := ⟨some dd, op, ty, ps, af, some gg⟩) hg h2
  refine wpListIn_nw hw ?_
  exact k M ρ _ w (putS_sat (d := some dd) (v := .undef) h1) (h2.putO (d := some dd) (dstOk.spec (ltB_lt hd)) trivial (by simp only [AV.rv]))
end
end Ox

namespace Ox
open Go Go.RowKit
variable {X : Ctx} {s : S} {M : Mem} {ρ : Env} {a : Act} {w w' : World} {QA : Exit → S → Prop} {all l : List Oper} {o : Oper} {P : Program} {md : Bool}
variable {kt vt : Ty} {t kid vid : TypeId} {es : List (Ent kt vt)} {clk n d nx : Nat} {x y : kt.den} {L : List (Nat × AV)} {H : List (Nat × HO)}
  {ty : TypeId} {ps : String} {af : Array Edge} {c1 c2 c3 : List Prop} {om ok ov : Operand}

structure EqT (P : Program) (kt : Ty) (t : TypeId) : Prop where
  key : KeyOK P kt t
  ag : kt.agg = true
  gt : P.eqGuardType P.depth t = false

def keyB (P : Program) (kt : Ty) (t : TypeId) : Bool := tyB P kt t && (eqOkB P kt t && (Nat.ble kt.dep 10000 && kt.flatB))
theorem KeyOK.of {P : Program} {kt : Ty} {t : TypeId} (h : keyB P kt t = true) : KeyOK P kt t := by
  simp only [keyB, Bool.and_eq_true] at h
  exact ⟨tyB_sound h.1, h.2.1, Nat.le_of_ble_eq_true h.2.2.1, h.2.2.2⟩
def eqtB (P : Program) (kt : Ty) (t : TypeId) : Bool := keyB P kt t && (kt.agg && !P.eqGuardType P.depth t)
theorem EqT.of {P : Program} {kt : Ty} {t : TypeId} (h : eqtB P kt t = true) : EqT P kt t := by
  simp only [eqtB, Bool.and_eq_true, Bool.not_eq_true'] at h
  exact ⟨.of h.1, h.2.1, h.2.2⟩
theorem MapT.of {P : Program} {kt vt : Ty} {t kid vid : TypeId} (h : P.underlying t = some (.map kid vid)) (hb : (keyB P kt kid && tyB P vt vid) = true) : MapT P kt vt t kid vid := by
  simp only [Bool.and_eq_true] at hb
  exact ⟨h, .of hb.1, tyB_sound hb.2⟩

theorem JL.MLook (hT : MapT X.P kt vt t kid vid) (hu : opd L om = some (c1, .lf (.mp n))) (hl : lk H n = some (.map kt vt es clk)) (hv : opd L ok = some (c2, .val kt x)) (hd : ltB d X.n = true)
    (k : JL X true all QA l ⟨(d, .val vt (mGet es x vt.dflt)) :: L, H, nx⟩) (hc : allP (c1 ++ c2) := by (first | exact trivial | (try dsimp only [allP, inK, idxC, loC, lohiC, fullC, underG, List.append, List.nil_append, List.cons_append, Ty.den, Ty.dflt, Int.toNat_natCast, List.length_cons, List.length_nil] at *); first | omega | ((repeat' (first | exact trivial | assumption | refine And.intro ?_ ?_ | exact fun h => h | (intro hpk; first | exact hpk | simp only [wantB, hpk, Bool.not_false, Bool.not_true]))) <;> omega) | fail)) : JL X true all QA (⟨some d, .lookup t om ok false, ty, ps, af, none⟩ :: l) ⟨L, H, nx⟩ := JL.mLook hT hu hl hv hd hc k
theorem JL.MIns (hT : MapT X.P kt vt t kid vid) (hu : opd L om = some (c1, .lf (.mp n))) (hl : lk H n = some (.map kt vt es clk)) (hv : opd L ok = some (c2, .val kt x)) {y : vt.den} (hy : opd L ov = some (c3, .val vt y))
    (k : JL X true all QA l ⟨L, updH H n (.map kt vt (mPut es clk x y) (mClk es clk x)), nx⟩) (hc : allP (c1 ++ (c2 ++ c3)) := by (first | exact trivial | (try dsimp only [allP, inK, idxC, loC, lohiC, fullC, underG, List.append, List.nil_append, List.cons_append, Ty.den, Ty.dflt, Int.toNat_natCast, List.length_cons, List.length_nil] at *); first | omega | ((repeat' (first | exact trivial | assumption | refine And.intro ?_ ?_ | exact fun h => h | (intro hpk; first | exact hpk | simp only [wantB, hpk, Bool.not_false, Bool.not_true]))) <;> omega) | fail)) : JL X true all QA (⟨none, .insert t om ok ov, ty, ps, af, none⟩ :: l) ⟨L, H, nx⟩ := JL.mIns hT hu hl hv hy hc k
theorem JL.MEnt (hT : MapT X.P kt vt t kid vid) (hu : opd L om = some (c1, .lf (.mp n))) (hl : lk H n = some (.map kt vt es clk)) (hv : opd L ok = some (c2, .val kt x)) (hd : ltB d X.n = true)
    (k : JL X true all QA l ⟨(d, .tup (.acons (.val vt (mGet es x vt.dflt)) (.acons (.val (.int .i64) ((mBorn es clk x : Nat) : Int)) .anil))) :: L, updH H n (.map kt vt (mEnt es clk x) (mClk es clk x)), nx⟩) (hc : allP (c1 ++ c2) := by (first | exact trivial | (try dsimp only [allP, inK, idxC, loC, lohiC, fullC, underG, List.append, List.nil_append, List.cons_append, Ty.den, Ty.dflt, Int.toNat_natCast, List.length_cons, List.length_nil] at *); first | omega | ((repeat' (first | exact trivial | assumption | refine And.intro ?_ ?_ | exact fun h => h | (intro hpk; first | exact hpk | simp only [wantB, hpk, Bool.not_false, Bool.not_true]))) <;> omega) | fail)) :
    JL X true all QA (⟨some d, .mapEntry t om ok, ty, ps, af, none⟩ :: l) ⟨L, H, nx⟩ := JL.mapEnt hT hu hl hv hd hc k
theorem JL.MSto (hu : opd L om = some (c1, .lf (.mp n))) (hl : lk H n = some (.map kt vt es clk)) {z : Nat} (hv : opd L ok = some (c2, .val (.int .i64) (z : Int))) {y : vt.den} (hy : opd L ov = some (c3, .val vt y)) (hz : es.any (fun e => e.2.2 == z) = true)
    (k : JL X true all QA l ⟨L, updH H n (.map kt vt (mSet es z y) clk), nx⟩) (hc : allP (c1 ++ (c2 ++ c3)) := by (first | exact trivial | (try dsimp only [allP, inK, idxC, loC, lohiC, fullC, underG, List.append, List.nil_append, List.cons_append, Ty.den, Ty.dflt, Int.toNat_natCast, List.length_cons, List.length_nil] at *); first | omega | ((repeat' (first | exact trivial | assumption | refine And.intro ?_ ?_ | exact fun h => h | (intro hpk; first | exact hpk | simp only [wantB, hpk, Bool.not_false, Bool.not_true]))) <;> omega) | fail)) : JL X true all QA (⟨none, .entryStore t om ok ov, ty, ps, af, none⟩ :: l) ⟨L, H, nx⟩ := JL.mSto hu hl hv hy hc hz k
/-- The store of 'm[k] += v', behind its entry: as 'm[k] = ..'. -/
theorem JL.MStoE (hw : MWF es clk) (hu : opd L om = some (c1, .lf (.mp n))) (hl : lk H n = some (.map kt vt (mEnt es clk x) (mClk es clk x))) (hv : opd L ok = some (c2, .val (.int .i64) ((mBorn es clk x : Nat) : Int))) {y : vt.den} (hy : opd L ov = some (c3, .val vt y))
    (k : JL X true all QA l ⟨L, updH H n (.map kt vt (mPut es clk x y) (mClk es clk x)), nx⟩) (hc : allP (c1 ++ (c2 ++ c3)) := by (first | exact trivial | (try dsimp only [allP, inK, idxC, loC, lohiC, fullC, underG, List.append, List.nil_append, List.cons_append, Ty.den, Ty.dflt, Int.toNat_natCast, List.length_cons, List.length_nil] at *); first | omega | ((repeat' (first | exact trivial | assumption | refine And.intro ?_ ?_ | exact fun h => h | (intro hpk; first | exact hpk | simp only [wantB, hpk, Bool.not_false, Bool.not_true]))) <;> omega) | fail)) : JL X true all QA (⟨none, .entryStore t om ok ov, ty, ps, af, none⟩ :: l) ⟨L, H, nx⟩ :=
  JL.mSto hu hl hv hy hc (mBorn_any hw) (by rw [mSet_ent hw]; exact k)
theorem JL.MDel (hT : MapT X.P kt vt t kid vid) {ta : TypeId} (hu : opd L om = some (c1, .lf (.mp n))) (hl : lk H n = some (.map kt vt es clk)) (hv : opd L ok = some (c2, .val kt x))
    (k : JL X true all QA l ⟨L, updH H n (.map kt vt (Ox.mDel es x) clk), nx⟩) (hc : allP (c1 ++ c2) := by (first | exact trivial | (try dsimp only [allP, inK, idxC, loC, lohiC, fullC, underG, List.append, List.nil_append, List.cons_append, Ty.den, Ty.dflt, Int.toNat_natCast, List.length_cons, List.length_nil] at *); first | omega | ((repeat' (first | exact trivial | assumption | refine And.intro ?_ ?_ | exact fun h => h | (intro hpk; first | exact hpk | simp only [wantB, hpk, Bool.not_false, Bool.not_true]))) <;> omega) | fail)) : JL X true all QA (⟨none, .call { callee := .builtin .delete, args := #[om, ok], argTypes := #[t, ta] }, ty, ps, af, none⟩ :: l) ⟨L, H, nx⟩ := JL.mDel hT hu hl hv hc k
theorem JL.MRng (hT : MapT X.P kt vt t kid vid) (hu : opd L om = some (c1, .lf (.mp n))) (hl : lk H n = some (.map kt vt es clk)) (hd : ltB d X.n = true)
    (k : JL X true all QA l ⟨(d, .lf (.itr nx)) :: L, (nx, .iter n clk [] clk) :: H, nx + 1⟩) (hc : allP c1 := by (first | exact trivial | (try dsimp only [allP, inK, idxC, loC, lohiC, fullC, underG, List.append, List.nil_append, List.cons_append, Ty.den, Ty.dflt, Int.toNat_natCast, List.length_cons, List.length_nil] at *); first | omega | ((repeat' (first | exact trivial | assumption | refine And.intro ?_ ?_ | exact fun h => h | (intro hpk; first | exact hpk | simp only [wantB, hpk, Bool.not_false, Bool.not_true]))) <;> omega) | fail)) : JL X true all QA (⟨some d, .range t om, ty, ps, af, none⟩ :: l) ⟨L, H, nx⟩ := JL.mRange hT hu hl hd hc k
theorem JL.MEtr (hu : opd L om = some (c1, .lf (.itr n))) {m since last : Nat} {seen : List Nat} (hl : lk H n = some (.iter m since seen last)) (hm : lk H m = some (.map kt vt es clk)) {e : Ent kt vt} {seen' : List Nat} (hs : seen = seen' ++ [e.2.2]) (hlast : last = clk)
    (he : e ∈ es) (hw : MWF es clk) (hd : ltB d X.n = true)
    (k : JL X true all QA l ⟨(d, .tup (.acons (.val kt e.1) (.acons (.val vt e.2.1) .anil))) :: L, H, nx⟩) (hc : allP c1 := by (first | exact trivial | (try dsimp only [allP, inK, idxC, loC, lohiC, fullC, underG, List.append, List.nil_append, List.cons_append, Ty.den, Ty.dflt, Int.toNat_natCast, List.length_cons, List.length_nil] at *); first | omega | ((repeat' (first | exact trivial | assumption | refine And.intro ?_ ?_ | exact fun h => h | (intro hpk; first | exact hpk | simp only [wantB, hpk, Bool.not_false, Bool.not_true]))) <;> omega) | fail)) : JL X true all QA (⟨some d, .entry om, ty, ps, af, none⟩ :: l) ⟨L, H, nx⟩ := JL.mEntry hu hl hm hs hlast he hw.nb hd hc k
theorem JL.MNxt (hu : opd L om = some (c1, .lf (.itr n))) {m since last : Nat} {seen : List Nat} (hl : lk H n = some (.iter m since seen last)) (hm : lk H m = some (.map kt vt es clk)) (hold : ∀ e ∈ es, e.2.2 < since) (hsl : since ≤ last) (hd : ltB d X.n = true)
    (k0 : (∀ e ∈ es, e.2.2 ∈ seen) → JL X true all QA l ⟨(d, .tup (.acons (.val .bool false) .anil)) :: L, H, nx⟩)
    (k1 : ∀ e ∈ es, e.2.2 ∉ seen → JL X true all QA l ⟨(d, .tup (.acons (.val .bool true) (.acons (.val kt e.1) (.acons (.val vt e.2.1) .anil)))) :: L, updH H n (.iter m since (seen ++ [e.2.2]) clk), nx⟩) (hc : allP c1 := by (first | exact trivial | (try dsimp only [allP, inK, idxC, loC, lohiC, fullC, underG, List.append, List.nil_append, List.cons_append, Ty.den, Ty.dflt, Int.toNat_natCast, List.length_cons, List.length_nil] at *); first | omega | ((repeat' (first | exact trivial | assumption | refine And.intro ?_ ?_ | exact fun h => h | (intro hpk; first | exact hpk | simp only [wantB, hpk, Bool.not_false, Bool.not_true]))) <;> omega) | fail)) :
    JL X true all QA (⟨some d, .next om false, ty, ps, af, none⟩ :: l) ⟨L, H, nx⟩ := JL.mNext hu hl hm hold hsl hd hc k0 k1
theorem JL.EqQ (hK : EqT X.P kt t) (hu : opd L om = some (c1, .val kt x)) (hv : opd L ok = some (c2, .val kt y)) (hd : ltB d X.n = true) {tt : TypeId}
    (k : JL X md all QA l ⟨(d, .val .bool (kt.eqB x y)) :: L, H, nx⟩) (hc : allP (c1 ++ c2) := by (first | exact trivial | (try dsimp only [allP, inK, idxC, loC, lohiC, fullC, underG, List.append, List.nil_append, List.cons_append, Ty.den, Ty.dflt, Int.toNat_natCast, List.length_cons, List.length_nil] at *); first | omega | ((repeat' (first | exact trivial | assumption | refine And.intro ?_ ?_ | exact fun h => h | (intro hpk; first | exact hpk | simp only [wantB, hpk, Bool.not_false, Bool.not_true]))) <;> omega) | fail)) : JL X md all QA (⟨some d, .binOp .eql t om ok tt, ty, ps, af, none⟩ :: l) ⟨L, H, nx⟩ := JL.eqQ hK.key hK.ag hK.gt hu hv hd hc k
theorem JL.NeQ (hK : EqT X.P kt t) (hu : opd L om = some (c1, .val kt x)) (hv : opd L ok = some (c2, .val kt y)) (hd : ltB d X.n = true) {tt : TypeId}
    (k : JL X md all QA l ⟨(d, .val .bool (!kt.eqB x y)) :: L, H, nx⟩) (hc : allP (c1 ++ c2) := by (first | exact trivial | (try dsimp only [allP, inK, idxC, loC, lohiC, fullC, underG, List.append, List.nil_append, List.cons_append, Ty.den, Ty.dflt, Int.toNat_natCast, List.length_cons, List.length_nil] at *); first | omega | ((repeat' (first | exact trivial | assumption | refine And.intro ?_ ?_ | exact fun h => h | (intro hpk; first | exact hpk | simp only [wantB, hpk, Bool.not_false, Bool.not_true]))) <;> omega) | fail)) : JL X md all QA (⟨some d, .binOp .neq t om ok tt, ty, ps, af, none⟩ :: l) ⟨L, H, nx⟩ := JL.neQ hK.key hK.ag hK.gt hu hv hd hc k
end Ox

namespace Go.Proofs.Ytbmgijgnbilnoaa
open Go Go.RowKit Ox
def tys : List (Nat × Ty) := [
  (2, (.int .i64)),
  (3, (.int .i64)),
  (4, .bool),
  (5, (.int .u8)),
  (6, (.int .u8)),
  (7, (.cons (.int .i64) (.cons (.int .i64) (.cons .bool (.cons (.int .u8) .nil))))),
  (8, (.cons (.int .i64) (.cons (.int .i64) (.cons .bool (.cons (.int .u8) .nil))))),
  (12, (.int .u64)),
  (21, (.int .i32)),
  (22, (.slice (.int .i64))),
  (23, (.cons (.int .i64) (.cons (.slice (.int .i64)) .nil))),
  (24, (.cons (.int .i64) (.cons (.slice (.int .i64)) .nil))),
  (27, (.int .i64)),
  (45, (.slice (.int .u8))),
  (46, (.int .u32)),
  (54, (.arr 8 (.int .u8))),
  (60, (.ptr (.cons (.cons (.int .i64) (.cons (.slice (.int .i64)) .nil)) (.cons (.slice (.int .i64)) (.cons (.slice (.int .i64)) .nil))))),
  (63, (.cons (.cons (.int .i64) (.cons (.slice (.int .i64)) .nil)) (.cons (.slice (.int .i64)) (.cons (.slice (.int .i64)) .nil)))),
  (64, (.cons (.cons (.int .i64) (.cons (.slice (.int .i64)) .nil)) (.cons (.slice (.int .i64)) (.cons (.slice (.int .i64)) .nil)))),
  (67, (.slice (.cons (.arr 8 (.int .i64)) (.cons .bool .nil)))),
  (72, (.slice (.slice (.int .i64)))),
  (75, (.arr 8 (.int .i64))),
  (76, (.arr 8 (.int .i64))),
  (77, (.cons (.arr 8 (.int .i64)) (.cons .bool .nil))),
  (78, (.cons (.arr 8 (.int .i64)) (.cons .bool .nil))),
  (92, (.int .u64)),
  (93, (.cons (.int .i64) (.cons (.int .i64) .nil))),
  (94, (.cons (.int .i64) (.cons (.int .i64) .nil))),
  (96, (.slice (.cons (.int .i64) (.cons (.int .i64) .nil)))),
  (99, (.cons (.arr 8 (.int .i64)) (.cons (.int .i64) .nil))),
  (100, (.cons (.arr 8 (.int .i64)) (.cons (.int .i64) .nil))),
  (111, (.int .u8)),
  (112, (.int .u8)),
  (114, (.ptr (.int .u8))),
  (115, (.int .i32)),
  (116, (.int .i32))]
def ets : List (Nat × Nat) := [(22, 3), (45, 5), (67, 78), (72, 22), (96, 94)]
def mts : List (Nat × (Nat × Nat)) := [(101, (100, 2))]
theorem tab : tabB Go.Proofs.Try.prog tys ets mts = true := by decide +kernel
theorem xok {X : Ctx} (h1 : X.P = Go.Proofs.Try.prog) (h2 : X.T = tys) (h3 : X.ET = ets) (h4 : X.MT = mts) : XOK X := XOK.of_tab tab h1 h2 h3 h4
end Go.Proofs.Ytbmgijgnbilnoaa

namespace Ox
open Go Go.RowKit
variable {X : Ctx} {s : S} {QA : Exit → S → Prop} {all l : List Oper} {md : Bool} {op : Op} {L : List (Nat × AV)} {H : List (Nat × HO)} {nx d : Nat} {v : AV} {cs : List Prop} {ty : TypeId} {ps : String} {af : Array Edge} {g : Bool} {gg : Nat × Bool}
theorem JC.seqR {id : Nat} {ops : Array Oper} {d : Bool} {y : Code} (h : JC X (.region id ops d) (qThen (JC X y QA) QA) s) : JC X (.seq (.region id ops d) y) QA s := .seq h
theorem JC.seqB {id : Nat} {c y : Code} (h : JC X (.block id c) (qThen (JC X y QA) QA) s) : JC X (.seq (.block id c) y) QA s := .seq h
theorem JC.seqS {y : Code} (h : JC X .skip (qThen (JC X y QA) QA) s) : JC X (.seq .skip y) QA s := .seq h
theorem JC.seqL {n : Nat} {y : Code} (h : JC X (.label n) (qThen (JC X y QA) QA) s) : JC X (.seq (.label n) y) QA s := .seq h
theorem JC.seqC {x : Operand} {n : Nat} {y : Code} (h : JC X (.cond x .skip (.exit n)) (qThen (JC X y QA) QA) s) : JC X (.seq (.cond x .skip (.exit n)) y) QA s := .seq h
theorem JL.G2 (hX : XOK X) (hg : gOf all L (some gg) = some g) (h : evb X.T op ⟨L, H, nx⟩ = some (cs, v)) (hd : ltB d X.n = true) (k : JL X md all QA l ⟨(d, .gd g v) :: L, H, nx⟩) (hc : g = true → allP cs := by (intro hgd; have hge := hgd; simp only [wantB, Bool.and_eq_true, Bool.or_eq_true, Bool.not_not, Bool.not_eq_true', decide_eq_true_eq, decide_eq_false_iff_not, beq_iff_eq, bne_iff_ne, bne_eq_false_iff_eq, ne_eq, beq_eq_false_iff_ne] at hge; (try dsimp only [allP, inK, idxC, loC, lohiC, fullC, underG, List.append, List.nil_append, List.cons_append, Ty.den, Ty.dflt, Int.toNat_natCast, List.length_cons, List.length_nil] at *); first | omega | ((repeat' (first | exact trivial | assumption | refine And.intro ?_ ?_)) <;> omega))) : JL X md all QA (⟨some d, op, ty, ps, af, some gg⟩ :: l) ⟨L, H, nx⟩ := JL.g1 hX hg h hd hc k
mutual
theorem AV.scal_bd {n : Nat} : ∀ {a : AV}, a.scal = true → a.bd n
  | .val .., _ => trivial
  | .undef, _ => trivial
  | .tup a, h => AV.scalL_bd (a := a) (by simpa only [AV.scal] using h)
  | .mix .., h => by simp [AV.scal] at h
  | .lf .., h => by simp [AV.scal] at h
  | .fn .., h => by simp [AV.scal] at h
  | .anil, h => by simp [AV.scal] at h
  | .acons .., h => by simp [AV.scal] at h
  | .gd .., h => by simp [AV.scal] at h
  | .full .., h => by simp [AV.scal] at h
theorem AV.scalL_bd {n : Nat} : ∀ {a : AV}, a.scalL = true → a.bd n
  | .anil, _ => trivial
  | .acons a b, h => by
    simp only [AV.scalL, Bool.and_eq_true] at h
    exact ⟨AV.scal_bd h.1, AV.scalL_bd h.2⟩
  | .val .., h => by simp [AV.scalL] at h
  | .undef, h => by simp [AV.scalL] at h
  | .tup .., h => by simp [AV.scalL] at h
  | .mix .., h => by simp [AV.scalL] at h
  | .lf .., h => by simp [AV.scalL] at h
  | .fn .., h => by simp [AV.scalL] at h
  | .gd .., h => by simp [AV.scalL] at h
  | .full .., h => by simp [AV.scalL] at h
end
/-- A call whose result is a tuple without memory. -/
theorem JL.T1 {f : FuncId} {args r : AV} (h : callA X.T op ⟨L, H, nx⟩ = some (cs, f, args)) (hf : Fn X.P f args (· = .tup r)) (hr : r.scalL = true) (hd : ltB d X.n = true) (k : JL X md all QA l ⟨(d, .tup r) :: L, H, nx⟩) (hc : allP cs := by (first | exact trivial | (try dsimp only [allP, inK, idxC, loC, lohiC, fullC, underG, List.append, List.nil_append, List.cons_append, Ty.den, Ty.dflt, Int.toNat_natCast, List.length_cons, List.length_nil] at *); first | omega | ((repeat' (first | exact trivial | assumption | refine And.intro ?_ ?_ | exact fun h => h | (intro hpk; first | exact hpk | simp only [wantB, hpk, Bool.not_false, Bool.not_true]))) <;> omega) | fail)) :
    JL X md all QA (⟨some d, op, ty, ps, af, none⟩ :: l) ⟨L, H, nx⟩ := JL.S1 h hf hr (AV.scal_bd (a := .tup r) hr) hd k hc
end Ox

namespace Ox
open Go Go.RowKit
variable {X : Ctx} {s : S} {QA : Exit → S → Prop} {all l : List Oper} {md : Bool} {o : Oper}

/-- What is still to be done: code, the end of a block, operations of a region, a place where something is asked, the end of a scope. -/
inductive Fr
  | code (c : Code)
  | blk (id : Nat)
  | ops (md : Bool) (all l : List Oper)
  | fin (P : S → Prop)
  | scp

def qq (X : Ctx) : List Fr → (Exit → S → Prop) → Exit → S → Prop
  | [], QA => QA
  | .code c :: r, QA => qThen (fun s => JC X c (qq X r QA) s) (qq X r QA)
  | .blk id :: r, QA => qBlock id (qq X r QA)
  | .ops md all l :: r, QA => qThen (fun s => JL X md all (qq X r QA) l s) (qq X r QA)
  | .fin P :: r, QA => qThen P (qq X r QA)
  | .scp :: r, QA => qScope (qq X r QA)

def JK (X : Ctx) (st : List Fr) (QA : Exit → S → Prop) (s : S) : Prop := qq X st QA .normal s

def popF : Nat → List Fr → Option (List Fr)
  | _, [] => none
  | id, .blk j :: r => if j = id then some r else popF id r
  | id, _ :: r => popF id r

theorem popF_spec {id : Nat} : ∀ {r r' : List Fr}, popF id r = some r' → JK X r' QA s → qq X r QA (.exit id) s
  | [], _, h, _ => by simp [popF] at h
  | .blk j :: r, r', h, k => by
    simp only [popF] at h
    simp only [qq, qBlock]
    by_cases e : j = id
    · rw [if_pos e] at h; injection h with h; subst h; rw [if_pos e.symm]; exact k
    · rw [if_neg e] at h; rw [if_neg (fun h => e h.symm)]; exact popF_spec h k
  | .code _ :: r, _, h, k => popF_spec (r := r) h k
  | .ops .. :: r, _, h, k => popF_spec (r := r) h k
  | .fin _ :: r, _, h, k => popF_spec (r := r) h k
  | .scp :: r, _, h, k => popF_spec (r := r) h k

theorem qq_ret : ∀ {r : List Fr}, QA .ret s → qq X r QA .ret s
  | [], h => h
  | .blk _ :: r, h => qq_ret (r := r) h
  | .code _ :: r, h => qq_ret (r := r) h
  | .ops .. :: r, h => qq_ret (r := r) h
  | .fin _ :: r, h => qq_ret (r := r) h
  | .scp :: r, h => qq_ret (r := r) h
theorem qq_exit {id : Nat} : ∀ {r : List Fr}, (popF id r).isNone = true → QA (.exit id) s → qq X r QA (.exit id) s
  | [], _, h => h
  | .blk j :: r, hp, h => by
    simp only [popF] at hp
    by_cases e : j = id
    · rw [if_pos e] at hp; simp at hp
    · rw [if_neg e] at hp
      simp only [qq, qBlock]
      rw [if_neg (fun h => e h.symm)]
      exact qq_exit hp h
  | .code _ :: r, hp, h => qq_exit (r := r) hp h
  | .ops .. :: r, hp, h => qq_exit (r := r) hp h
  | .fin _ :: r, hp, h => qq_exit (r := r) hp h
  | .scp :: r, hp, h => qq_exit (r := r) hp h

/-- An operation, but for calls and guards. -/
def stepO (T : List (Nat × Ty)) (ET : List (Nat × Nat)) (n : Nat) (md : Bool) (o : Oper) (s : S) : Option (List Prop × S) :=
  match o, s with
  | ⟨some d, op, _, _, _, none⟩, ⟨L, H, nx⟩ => match ltB d n with
    | true => match evb T op ⟨L, H, nx⟩ with
      | some (cs, v) => some (cs, ⟨(d, v) :: L, H, nx⟩)
      | none => match md with
        | true => match evm T ET op ⟨L, H, nx⟩ with
          | some (cs, v, ⟨L', H', nx'⟩) => some (cs, ⟨(d, v) :: L', H', nx'⟩)
          | none => none
        | false => none
    | false => none
  | ⟨none, op, _, _, _, none⟩, ⟨L, H, nx⟩ => match md with
    | true => match evm T ET op ⟨L, H, nx⟩ with
      | some (cs, _, s') => some (cs, s')
      | none => match evb T op ⟨L, H, nx⟩ with
        | some (cs, _) => some (cs, ⟨L, H, nx⟩)
        | none => none
    | false => match evb T op ⟨L, H, nx⟩ with
      | some (cs, _) => some (cs, ⟨L, H, nx⟩)
      | none => none
  | _, _ => none

theorem stepO_sound {cs : List Prop} {s' : S} (hX : XOK X) (h : stepO X.T X.ET X.n md o s = some (cs, s')) (hc : allP cs) (k : JL X md all QA l s') : JL X md all QA (o :: l) s := by
  obtain ⟨d, op, ty, ps, af, g⟩ := o
  obtain ⟨L, H, nx⟩ := s
  unfold stepO at h
  split at h
  · rename_i heq heq2
    injection heq with e1 e2 _ _ _ e3
    injection heq2 with e4 e5 e6
    subst e1; subst e2; subst e3; subst e4; subst e5; subst e6
    split at h
    · rename_i hd
      split at h
      · rename_i cs' v hv
        simp only [Option.some.injEq, Prod.mk.injEq] at h
        obtain ⟨rfl, rfl⟩ := h
        exact JL.q hX rfl hv (ltB_lt hd) hc k
      · split at h
        · split at h
          · rename_i cs' v L' H' nx' hv
            simp only [Option.some.injEq, Prod.mk.injEq] at h
            obtain ⟨rfl, rfl⟩ := h
            exact JL.m hX rfl hv (ltB_lt hd) hc k
          · cases h
        · cases h
    · cases h
  · rename_i heq heq2
    injection heq with e1 e2 _ _ _ e3
    injection heq2 with e4 e5 e6
    subst e1; subst e2; subst e3; subst e4; subst e5; subst e6
    split at h
    · split at h
      · rename_i cs' v s'' hv
        simp only [Option.some.injEq, Prod.mk.injEq] at h
        obtain ⟨rfl, rfl⟩ := h
        exact JL.m hX rfl hv trivial hc k
      · split at h
        · rename_i cs' v hv
          simp only [Option.some.injEq, Prod.mk.injEq] at h
          obtain ⟨rfl, rfl⟩ := h
          exact JL.q hX rfl hv trivial hc k
        · cases h
    · split at h
      · rename_i cs' v hv
        simp only [Option.some.injEq, Prod.mk.injEq] at h
        obtain ⟨rfl, rfl⟩ := h
        exact JL.q hX rfl hv trivial hc k
      · cases h
  · cases h

/-- One step; 'u': not into an 'if'. -/
def stepC (T : List (Nat × Ty)) (ET : List (Nat × Nat)) (n : Nat) (u : Bool) : List Fr → S → Option (List Prop × List Fr × S)
  | .ops md all (o :: l) :: r, s => match stepO T ET n md o s with
    | some (cs, s') => some (cs, .ops md all l :: r, s')
    | none => none
  | .ops _ _ [] :: r, s => some ([], r, s)
  | .blk _ :: r, s => some ([], r, s)
  | .scp :: r, s => some ([], r, s)
  | .code c :: r, s => match c with
    | .skip => some ([], r, s)
    | .label _ => some ([], r, s)
    | .seq (.region id ops d) (.cond x a b) => match u with
      | true => none
      | false => some ([], .code (.region id ops d) :: .code (.cond x a b) :: r, s)
    | .seq a b => some ([], .code a :: .code b :: r, s)
    | .block id c => some ([], .code c :: .blk id :: r, s)
    | .scope c => some ([], .code c :: .scp :: r, s)
    | .exit id => match popF id r with
      | some r' => some ([], r', s)
      | none => none
    | .region _ ⟨ops⟩ false => some ([], .ops true ops ops :: r, s)
    | _ => none
  | _, _ => none

theorem JK.step {u : Bool} {st st' : List Fr} {cs : List Prop} {s' : S} (hX : XOK X) (h : stepC X.T X.ET X.n u st s = some (cs, st', s')) (k : JK X st' QA s') (hc : allP cs) : JK X st QA s := by
  unfold stepC at h
  split at h
  · split at h
    · rename_i hv
      simp only [Option.some.injEq, Prod.mk.injEq] at h
      obtain ⟨rfl, rfl, rfl⟩ := h
      exact stepO_sound hX hv hc k
    · cases h
  · simp only [Option.some.injEq, Prod.mk.injEq] at h
    obtain ⟨rfl, rfl, rfl⟩ := h
    exact JL.nil k
  · simp only [Option.some.injEq, Prod.mk.injEq] at h
    obtain ⟨rfl, rfl, rfl⟩ := h
    exact k
  · simp only [Option.some.injEq, Prod.mk.injEq] at h
    obtain ⟨rfl, rfl, rfl⟩ := h
    exact k
  · split at h
    · simp only [Option.some.injEq, Prod.mk.injEq] at h
      obtain ⟨rfl, rfl, rfl⟩ := h
      exact JC.skip k
    · simp only [Option.some.injEq, Prod.mk.injEq] at h
      obtain ⟨rfl, rfl, rfl⟩ := h
      exact JC.label k
    · split at h
      · cases h
      · simp only [Option.some.injEq, Prod.mk.injEq] at h
        obtain ⟨rfl, rfl, rfl⟩ := h
        exact JC.seq k
    · simp only [Option.some.injEq, Prod.mk.injEq] at h
      obtain ⟨rfl, rfl, rfl⟩ := h
      exact JC.seq k
    · simp only [Option.some.injEq, Prod.mk.injEq] at h
      obtain ⟨rfl, rfl, rfl⟩ := h
      exact JC.block k
    · simp only [Option.some.injEq, Prod.mk.injEq] at h
      obtain ⟨rfl, rfl, rfl⟩ := h
      exact JC.scope k
    · split at h
      · rename_i hp
        simp only [Option.some.injEq, Prod.mk.injEq] at h
        obtain ⟨rfl, rfl, rfl⟩ := h
        exact JC.exit (popF_spec hp k)
      · cases h
    · simp only [Option.some.injEq, Prod.mk.injEq] at h
      obtain ⟨rfl, rfl, rfl⟩ := h
      exact JC.region k
    · cases h
  · cases h

/-- An operation behind a guard. -/
theorem JK.gd {L : List (Nat × AV)} {H : List (Nat × HO)} {nx d : Nat} {gg : Nat × Bool} {op : Op} {ty : TypeId} {ps : String} {af : Array Edge} {r : List Fr} {g : Bool} {cs : List Prop} {v : AV} (hX : XOK X) (hg : gOf all L (some gg) = some g) (h : evb X.T op ⟨L, H, nx⟩ = some (cs, v)) (hd : ltB d X.n = true)
    (k : JK X (.ops md all l :: r) QA ⟨(d, .gd g v) :: L, H, nx⟩) (hc : g = true → allP cs) : JK X (.ops md all (⟨some d, op, ty, ps, af, some gg⟩ :: l) :: r) QA ⟨L, H, nx⟩ := JL.g (s := ⟨L, H, nx⟩) hX hg h (ltB_lt hd) hc k

theorem JK.cond {x : Operand} {c d : Code} {r : List Fr} {b : Bool} (hb : opB s.L x = some b) (ht : b = true → JK X (.code c :: r) QA s) (hf : b = false → JK X (.code d :: r) QA s) : JK X (.code (.cond x c d) :: r) QA s := JC.cond hb ht hf
theorem JK.draw {id : Nat} {ops : List Oper} {r : List Fr} (hX : XOK X) (k : JK X (.ops false ops ops :: r) QA s) (hB : (Region.lexB .any ops.toArray && ndAll ops) = true := by decide +kernel) : JK X (.code (.region id ⟨ops⟩ true) :: r) QA s := JC.draw hX hB k
theorem JK.ret {r : List Fr} (h : QA .ret s) : JK X (.code .ret :: r) QA s := JC.ret (qq_ret h)
theorem JK.done (h : QA .normal s) : JK X [] QA s := h
theorem JK.fin {P : S → Prop} {r : List Fr} (h : P s) : JK X (.fin P :: r) QA s := h
theorem JK.exitQ {id : Nat} {r : List Fr} (hp : (popF id r).isNone = true) (h : QA (.exit id) s) : JK X (.code (.exit id) :: r) QA s := JC.exit (qq_exit hp h)
theorem JK.start {c : Code} (h : JK X [.code c] QA s) : JC X c QA s := h
theorem JK.toC {c : Code} {r : List Fr} (h : JK X (.code c :: r) QA s) : JC X c (qq X r QA) s := h
theorem JK.toL {r : List Fr} (h : JK X (.ops md all l :: r) QA s) : JL X md all (qq X r QA) l s := h
theorem JK.ofC {c : Code} {r : List Fr} (h : JC X c (qq X r QA) s) : JK X (.code c :: r) QA s := h
theorem JK.ofL {r : List Fr} (h : JL X md all (qq X r QA) l s) : JK X (.ops md all l :: r) QA s := h

theorem JK.loop {c : Code} {r : List Fr} {σ : Type} (st : σ → S) (I : σ → Prop) (μ : σ → Nat) (i0 : σ) (h0 : I i0) (hs : JW X (st i0) s)
    (round : ∀ i, I i → JK X (.code c :: .fin (fun s' => ∃ i', JW X (st i') s' ∧ I i' ∧ μ i' < μ i) :: r) QA (st i)) : JK X (.code (.loop c) :: r) QA s := JC.loop st I μ i0 h0 hs round

theorem qq_fin {P : S → Prop} {r : List Fr} (k : ∀ s, P s → JK X r QA s) : ∀ e s, qq X (.fin P :: r) QA e s → qq X r QA e s := by
  intro e s h
  cases e with
  | normal => exact k s h
  | _ => exact h
theorem JK.cutP {c : Code} {r : List Fr} (P : S → Prop) (h : JK X (.code c :: .fin P :: r) QA s) (k : ∀ s, P s → JK X r QA s) : JK X (.code c :: r) QA s := JC.mono h (qq_fin k)
theorem JK.weak {c : Code} {r : List Fr} {s' : S} (h : JW X s' s) (k : JK X (.code c :: r) QA s') : JK X (.code c :: r) QA s := JC.weak h k
/-- Ways that meet again. -/
theorem JK.cut {x y : Code} {r : List Fr} {σ : Type} (st : σ → S) (P : σ → Prop) (h : JK X (.code x :: .fin (fun s => ∃ q, JW X (st q) s ∧ P q) :: .code y :: r) QA s) (k : ∀ q, P q → JK X (.code y :: r) QA (st q)) : JK X (.code x :: .code y :: r) QA s :=
  JK.cutP _ h fun _ ⟨q, hw, hp⟩ => JK.weak hw (k q hp)
/-- A loop that is left in several places. -/
theorem JK.loopE {c : Code} {id : Nat} {y : Code} {r : List Fr} {σ τ : Type} (st : σ → S) (I : σ → Prop) (μ : σ → Nat) (i0 : σ) (h0 : I i0) (hs : JW X (st i0) s) (E : τ → S) (PE : τ → Prop) (k : ∀ q, PE q → JK X (.code y :: r) QA (E q))
    (round : ∀ i, I i → JK X (.code c :: .fin (fun s' => ∃ i', JW X (st i') s' ∧ I i' ∧ μ i' < μ i) :: .blk id :: .fin (fun s' => ∃ q, JW X (E q) s' ∧ PE q) :: .code y :: r) QA (st i)) : JK X (.code (.loop c) :: .blk id :: .code y :: r) QA s := by
  have h1 : JK X (.code (.loop c) :: .blk id :: .fin (fun s' => ∃ q, JW X (E q) s' ∧ PE q) :: .code y :: r) QA s := JK.loop st I μ i0 h0 hs round
  refine JC.mono h1 ?_
  intro e s' h
  have hk := qq_fin (X := X) (QA := QA) (r := .code y :: r) (P := fun s' => ∃ q, JW X (E q) s' ∧ PE q) fun s ⟨q, hw, hp⟩ => JK.weak hw (k q hp)
  cases e with
  | exit j =>
    simp only [qq, qBlock] at h ⊢
    split at h
    · rename_i e; rw [if_pos e]; exact hk .normal _ h
    · rename_i e; rw [if_neg e]; exact hk (.exit j) _ h
  | normal => exact hk .normal _ h
  | _ => exact h

/-! Regions that draw their order and touch memory. -/
theorem JK.drawTo {id : Nat} {y : Code} {r : List Fr} (hX : XOK X) (c : Code) (st : S) {ops : List Oper} (ho : rgn id c = ops) (n : Nat) (hn : (rgn id c).length = n)
    (h : JF X (rgn id c) (fun s' => JW X st s') [] n [] s) (k : JK X (.code y :: r) QA st) : JK X (.code (.region id ⟨ops⟩ true) :: .code y :: r) QA s := by
  subst ho; subst hn
  exact JC.drawAny hX _ h.any fun s' hs => JK.weak hs k
theorem JK.drawB {id j : Nat} {y : Code} {r : List Fr} (hX : XOK X) (c : Code) (st : S) {ops : List Oper} (ho : rgn id c = ops) (n : Nat) (hn : (rgn id c).length = n)
    (h : JF X (rgn id c) (fun s' => JW X st s') [] n [] s) (k : JK X (.code y :: r) QA st) : JK X (.code (.region id ⟨ops⟩ true) :: .blk j :: .code y :: r) QA s := by
  subst ho; subst hn
  exact JC.drawAny hX _ h.any fun s' hs => JK.weak hs k
theorem JK.drawP {id : Nat} {r : List Fr} (hX : XOK X) (c : Code) {ops : List Oper} (ho : rgn id c = ops) (n : Nat) (hn : (rgn id c).length = n)
    (h : JF X (rgn id c) (fun s' => JK X r QA s') [] n [] s) : JK X (.code (.region id ⟨ops⟩ true) :: r) QA s := by
  subst ho; subst hn
  exact JC.drawAny hX _ h.any fun _ h => h

theorem JK.lenOf {c : Code} {r : List Fr} (d : Nat) {t : Ty} {x : t.den} (h : lk s.L d = some (.val t x)) (k : t.lens x → JK X (.code c :: r) QA s) : JK X (.code c :: r) QA s := JC.lenOf d h k
theorem JK.ghost {c : Code} {r : List Fr} (d : Nat) (eid : TypeId) (e : Ty) (hd : lk s.L d = some (.lf .nils)) (k : JK X (.code c :: r) QA ⟨(d, .lf (.osl s.nx)) :: s.L, (s.nx, .sl eid e []) :: s.H, s.nx + 1⟩) : JK X (.code c :: r) QA s := JC.ghost d eid e hd k
theorem JK.ghostC {c : Code} {r : List Fr} (m i : Nat) (eid : TypeId) (e : Ty) {t : Ty} {v v' : AV} (hm : lk s.H m = some (.cell t v)) (hv : ghA s.nx v i = some v')
    (k : JK X (.code c :: r) QA ⟨s.L, updH ((s.nx, .sl eid e []) :: s.H) m (.cell t v'), s.nx + 1⟩) : JK X (.code c :: r) QA s := JC.ghostC m i eid e hm hv k
theorem JK.frz {c : Code} {r : List Fr} {cs : List Prop} {s' : S} (F K : List Nat) (h : Ox.frz F K s = some (cs, s')) (hc : allP cs) (k : JK X (.code c :: r) QA s') : JK X (.code c :: r) QA s := JC.frz F K h hc k
theorem JK.frzL {r : List Fr} {cs : List Prop} {s' : S} (F K : List Nat) (h : Ox.frz F K s = some (cs, s')) (hc : allP cs) (k : JK X (.ops md all l :: r) QA s') : JK X (.ops md all l :: r) QA s := JL.frz F K h hc k

/-! Ranges over maps. -/
section
variable {L : List (Nat × AV)} {H : List (Nat × HO)} {nx d n : Nat} {rr : List Fr} {om : Operand} {c1 : List Prop} {kt vt : Ty} {es : List (Ent kt vt)} {clk m since last : Nat} {seen seen' : List Nat} {ty : TypeId} {ps : String} {af : Array Edge} {e : Ent kt vt}
theorem JK.etr (hu : opd L om = some (c1, .lf (.itr n))) (hl : lk H n = some (.iter m since seen last)) (hm : lk H m = some (.map kt vt es clk)) (hs : seen = seen' ++ [e.2.2]) (hlast : last = clk)
    (he : e ∈ es) (hw : MWF es clk) (hd : ltB d X.n = true)
    (k : JK X (.ops true all l :: rr) QA ⟨(d, .tup (.acons (.val kt e.1) (.acons (.val vt e.2.1) .anil))) :: L, H, nx⟩) (hc : allP c1 := by (first | exact trivial | (try dsimp only [allP, inK, idxC, loC, lohiC, fullC, underG, List.append, List.nil_append, List.cons_append, Ty.den, Ty.dflt, Int.toNat_natCast, List.length_cons, List.length_nil] at *); first | omega | ((repeat' (first | exact trivial | assumption | refine And.intro ?_ ?_ | exact fun h => h | (intro hpk; first | exact hpk | simp only [wantB, hpk, Bool.not_false, Bool.not_true]))) <;> omega) | fail)) : JK X (.ops true all (⟨some d, .entry om, ty, ps, af, none⟩ :: l) :: rr) QA ⟨L, H, nx⟩ := JL.mEntry hu hl hm hs hlast he hw.nb hd hc k
theorem JK.nxt (hu : opd L om = some (c1, .lf (.itr n))) (hl : lk H n = some (.iter m since seen last)) (hm : lk H m = some (.map kt vt es clk)) (hold : ∀ e ∈ es, e.2.2 < since) (hsl : since ≤ last) (hd : ltB d X.n = true)
    (k0 : (∀ e ∈ es, e.2.2 ∈ seen) → JK X (.ops true all l :: rr) QA ⟨(d, .tup (.acons (.val .bool false) .anil)) :: L, H, nx⟩)
    (k1 : ∀ e ∈ es, e.2.2 ∉ seen → JK X (.ops true all l :: rr) QA ⟨(d, .tup (.acons (.val .bool true) (.acons (.val kt e.1) (.acons (.val vt e.2.1) .anil)))) :: L, updH H n (.iter m since (seen ++ [e.2.2]) clk), nx⟩) (hc : allP c1 := by (first | exact trivial | (try dsimp only [allP, inK, idxC, loC, lohiC, fullC, underG, List.append, List.nil_append, List.cons_append, Ty.den, Ty.dflt, Int.toNat_natCast, List.length_cons, List.length_nil] at *); first | omega | ((repeat' (first | exact trivial | assumption | refine And.intro ?_ ?_ | exact fun h => h | (intro hpk; first | exact hpk | simp only [wantB, hpk, Bool.not_false, Bool.not_true]))) <;> omega) | fail)) :
    JK X (.ops true all (⟨some d, .next om false, ty, ps, af, none⟩ :: l) :: rr) QA ⟨L, H, nx⟩ := JL.mNext hu hl hm hold hsl hd hc k0 k1
end

/-! Calls. -/
section
variable {op : Op} {L : List (Nat × AV)} {H : List (Nat × HO)} {nx d : Nat} {cs : List Prop} {ty : TypeId} {ps : String} {af : Array Edge} {g : Bool} {gg : Nat × Bool} {rr : List Fr} {f : FuncId} {args r : AV}
theorem JK.sc (h : callA X.T op ⟨L, H, nx⟩ = some (cs, f, args)) (hf : Fn X.P f args (· = r)) (hr : r.scal = true) (hd : ltB d X.n = true) (k : JK X (.ops md all l :: rr) QA ⟨(d, r) :: L, H, nx⟩) (hc : allP cs) :
    JK X (.ops md all (⟨some d, op, ty, ps, af, none⟩ :: l) :: rr) QA ⟨L, H, nx⟩ := JL.s1 (L := L) (H := H) (nx := nx) h hf hr (AV.scal_bd hr) hd hc k
theorem JK.scg (hg : gOf all L (some gg) = some g) (h : callA X.T op ⟨L, H, nx⟩ = some (cs, f, args)) (hf : g = true → Fn X.P f args (· = r)) (hr : r.scal = true) (hd : ltB d X.n = true) (k : JK X (.ops md all l :: rr) QA ⟨(d, .gd g r) :: L, H, nx⟩) (hc : g = true → allP cs) :
    JK X (.ops md all (⟨some d, op, ty, ps, af, some gg⟩ :: l) :: rr) QA ⟨L, H, nx⟩ := JL.s1g (L := L) (H := H) (nx := nx) hg h hf hr (AV.scal_bd hr) hd hc k
theorem JK.cl {R : AV → Prop} (h : callA X.T op ⟨L, [], nx⟩ = some (cs, f, args)) (hf : Fn X.P f args R) (hd : ltB d X.n = true) (k : ∀ r, R r → JK X (.ops true all l :: rr) QA ⟨(d, r) :: L, H, nx⟩) (hc : allP cs) :
    JK X (.ops true all (⟨some d, op, ty, ps, af, none⟩ :: l) :: rr) QA ⟨L, H, nx⟩ := JL.c1 (L := L) (H := H) (nx := nx) h hf hd hc k
theorem JK.ce (h : callA X.T op ⟨L, [], nx⟩ = some (cs, f, args)) (hf : Fn X.P f args (· = r)) (hd : ltB d X.n = true) (k : JK X (.ops true all l :: rr) QA ⟨(d, r) :: L, H, nx⟩) (hc : allP cs) :
    JK X (.ops true all (⟨some d, op, ty, ps, af, none⟩ :: l) :: rr) QA ⟨L, H, nx⟩ := JK.cl h hf hd (fun _ e => e ▸ k) hc
theorem JK.gT (hg : gOf all L (some gg) = some g) (hgt : g = true) {dd : Option Nat} (k : JK X (.ops true all (⟨dd, op, ty, ps, af, none⟩ :: l) :: rr) QA ⟨L, H, nx⟩) : JK X (.ops true all (⟨dd, op, ty, ps, af, some gg⟩ :: l) :: rr) QA ⟨L, H, nx⟩ := JL.gT hg hgt k
theorem JK.gF (hg : gOf all L (some gg) = some g) (hgf : g = false) (hd : ltB d X.n = true) (k : JK X (.ops true all l :: rr) QA ⟨(d, .undef) :: L, H, nx⟩) : JK X (.ops true all (⟨some d, op, ty, ps, af, some gg⟩ :: l) :: rr) QA ⟨L, H, nx⟩ := JL.gF (L := L) (H := H) (nx := nx) hg hgf hd k
theorem JK.nilF (k : JK X (.ops true all l :: rr) QA ⟨del L d, H, nx⟩) : JK X (.ops true all (⟨some d, .assign (.const .nilFunc), ty, ps, af, none⟩ :: l) :: rr) QA ⟨L, H, nx⟩ := JL.nilF (L := L) (H := H) (nx := nx) k
end
end Ox

namespace Go.Proofs.Ytbmgijgnbilnoaa
open Go Go.RowKit Ox
variable {E : World} {M0 : Mem} {n : Nat} {rd : Option Nat} {up : Nat → Nat → Value} {dp : Nat} {QA : Exit → S → Prop} {st st' r : List Fr} {s s' : S} {cs : List Prop} {md : Bool} {all l : List Oper} {d : Nat} {op : Op} {ty : TypeId} {ps : String} {af : Array Edge} {g : Bool} {gg : Nat × Bool} {v : AV}
  {f : FuncId} {args : AV} {L : List (Nat × AV)} {H : List (Nat × HO)} {nx : Nat} {kt vt : Ty} {t kid vid : TypeId} {es : List (Ent kt vt)} {clk m : Nat} {x y : kt.den} {c1 c2 c3 : List Prop} {om ok ov : Operand}
theorem zs (h : stepC tys ets n false st s = some (cs, st', s')) (k : JK ⟨Go.Proofs.Try.prog, tys, ets, mts, E, M0, n, rd, up, dp⟩ st' QA s') (hc : allP cs := by (first | exact trivial | (try dsimp only [allP, inK, idxC, loC, lohiC, fullC, underG, List.append, List.nil_append, List.cons_append, Ty.den, Ty.dflt, Int.toNat_natCast, List.length_cons, List.length_nil] at *); first | omega | ((repeat' (first | exact trivial | assumption | refine And.intro ?_ ?_ | exact fun h => h | (intro hpk; first | exact hpk | simp only [wantB, hpk, Bool.not_false, Bool.not_true]))) <;> omega) | fail)) : JK ⟨Go.Proofs.Try.prog, tys, ets, mts, E, M0, n, rd, up, dp⟩ st QA s := JK.step (xok rfl rfl rfl rfl) h k hc
theorem zu (h : stepC tys ets n true st s = some (cs, st', s')) (k : JK ⟨Go.Proofs.Try.prog, tys, ets, mts, E, M0, n, rd, up, dp⟩ st' QA s') (hc : allP cs := by (first | exact trivial | (try dsimp only [allP, inK, idxC, loC, lohiC, fullC, underG, List.append, List.nil_append, List.cons_append, Ty.den, Ty.dflt, Int.toNat_natCast, List.length_cons, List.length_nil] at *); first | omega | ((repeat' (first | exact trivial | assumption | refine And.intro ?_ ?_ | exact fun h => h | (intro hpk; first | exact hpk | simp only [wantB, hpk, Bool.not_false, Bool.not_true]))) <;> omega) | fail)) : JK ⟨Go.Proofs.Try.prog, tys, ets, mts, E, M0, n, rd, up, dp⟩ st QA s := JK.step (xok rfl rfl rfl rfl) h k hc
theorem zg (hg : gOf all L (some gg) = some g) (h : evb tys op ⟨L, H, nx⟩ = some (cs, v)) (hd : ltB d n = true) (k : JK ⟨Go.Proofs.Try.prog, tys, ets, mts, E, M0, n, rd, up, dp⟩ (.ops md all l :: r) QA ⟨(d, .gd g v) :: L, H, nx⟩)
    (hc : g = true → allP cs := by (first | (exact fun _ => trivial) | (exact fun hgd => hgd) | (intro hgd; first | exact trivial | exact hgd | (have hge := hgd; (try simp only [wantB, Bool.not_not, Bool.not_eq_true', decide_eq_true_eq, decide_eq_false_iff_not, beq_iff_eq, bne_iff_ne, bne_eq_false_iff_eq, ne_eq, beq_eq_false_iff_ne] at hge); (try dsimp only [allP, inK, idxC, loC, lohiC, fullC, underG, List.append, List.nil_append, List.cons_append, Ty.den, Ty.dflt, Int.toNat_natCast, List.length_cons, List.length_nil] at *); first | omega | ((repeat' (first | exact trivial | assumption | refine And.intro ?_ ?_ | exact fun h => h | (intro hpk; first | exact hpk | simp only [wantB, hpk, Bool.not_false, Bool.not_true]))) <;> omega) | fail)) | (exact fun hgd => And.intro hgd (fun hpk => Bool.and_eq_true_iff.2 ⟨hgd, by rw [hpk]; rfl⟩)) | (intro hgd; have hge := hgd; simp only [wantB, Bool.and_eq_true, Bool.or_eq_true, Bool.not_not, Bool.not_eq_true', decide_eq_true_eq, decide_eq_false_iff_not, beq_iff_eq, bne_iff_ne, bne_eq_false_iff_eq, ne_eq, beq_eq_false_iff_ne] at hge; (try dsimp only [allP, inK, idxC, loC, lohiC, fullC, underG, List.append, List.nil_append, List.cons_append, Ty.den, Ty.dflt, Int.toNat_natCast, List.length_cons, List.length_nil] at *); first | omega | ((repeat' (first | exact trivial | assumption | refine And.intro ?_ ?_)) <;> omega)))) :
    JK ⟨Go.Proofs.Try.prog, tys, ets, mts, E, M0, n, rd, up, dp⟩ (.ops md all (⟨some d, op, ty, ps, af, some gg⟩ :: l) :: r) QA ⟨L, H, nx⟩ := JK.gd (xok rfl rfl rfl rfl) hg h hd k hc
theorem zd {id : Nat} {ops : List Oper} (k : JK ⟨Go.Proofs.Try.prog, tys, ets, mts, E, M0, n, rd, up, dp⟩ (.ops false ops ops :: r) QA s) (hB : (Region.lexB .any ops.toArray && ndAll ops) = true := by decide +kernel) : JK ⟨Go.Proofs.Try.prog, tys, ets, mts, E, M0, n, rd, up, dp⟩ (.code (.region id ⟨ops⟩ true) :: r) QA s := JK.draw (xok rfl rfl rfl rfl) k hB
theorem zc (h : callA tys op ⟨L, H, nx⟩ = some (cs, f, args)) (hf : Ox.Fn Go.Proofs.Try.prog f args (· = v)) (hr : v.scal = true) (hd : ltB d n = true) (k : JK ⟨Go.Proofs.Try.prog, tys, ets, mts, E, M0, n, rd, up, dp⟩ (.ops md all l :: r) QA ⟨(d, v) :: L, H, nx⟩) (hc : allP cs := by (first | exact trivial | (try dsimp only [allP, inK, idxC, loC, lohiC, fullC, underG, List.append, List.nil_append, List.cons_append, Ty.den, Ty.dflt, Int.toNat_natCast, List.length_cons, List.length_nil] at *); first | omega | ((repeat' (first | exact trivial | assumption | refine And.intro ?_ ?_ | exact fun h => h | (intro hpk; first | exact hpk | simp only [wantB, hpk, Bool.not_false, Bool.not_true]))) <;> omega) | fail)) :
    JK ⟨Go.Proofs.Try.prog, tys, ets, mts, E, M0, n, rd, up, dp⟩ (.ops md all (⟨some d, op, ty, ps, af, none⟩ :: l) :: r) QA ⟨L, H, nx⟩ := JK.sc h hf hr hd k hc
theorem zk (hg : gOf all L (some gg) = some g) (h : callA tys op ⟨L, H, nx⟩ = some (cs, f, args)) (hf : g = true → Ox.Fn Go.Proofs.Try.prog f args (· = v)) (hr : v.scal = true) (hd : ltB d n = true) (k : JK ⟨Go.Proofs.Try.prog, tys, ets, mts, E, M0, n, rd, up, dp⟩ (.ops md all l :: r) QA ⟨(d, .gd g v) :: L, H, nx⟩)
    (hc : g = true → allP cs := by (first | (exact fun _ => trivial) | (exact fun hgd => hgd) | (intro hgd; first | exact trivial | exact hgd | (have hge := hgd; (try simp only [wantB, Bool.not_not, Bool.not_eq_true', decide_eq_true_eq, decide_eq_false_iff_not, beq_iff_eq, bne_iff_ne, bne_eq_false_iff_eq, ne_eq, beq_eq_false_iff_ne] at hge); (try dsimp only [allP, inK, idxC, loC, lohiC, fullC, underG, List.append, List.nil_append, List.cons_append, Ty.den, Ty.dflt, Int.toNat_natCast, List.length_cons, List.length_nil] at *); first | omega | ((repeat' (first | exact trivial | assumption | refine And.intro ?_ ?_ | exact fun h => h | (intro hpk; first | exact hpk | simp only [wantB, hpk, Bool.not_false, Bool.not_true]))) <;> omega) | fail)) | (intro hgd; have hge := hgd; simp only [wantB, Bool.and_eq_true, Bool.or_eq_true, Bool.not_not, Bool.not_eq_true', decide_eq_true_eq, decide_eq_false_iff_not, beq_iff_eq, bne_iff_ne, bne_eq_false_iff_eq, ne_eq, beq_eq_false_iff_ne] at hge; (try dsimp only [allP, inK, idxC, loC, lohiC, fullC, underG, List.append, List.nil_append, List.cons_append, Ty.den, Ty.dflt, Int.toNat_natCast, List.length_cons, List.length_nil] at *); first | omega | ((repeat' (first | exact trivial | assumption | refine And.intro ?_ ?_)) <;> omega)))) : JK ⟨Go.Proofs.Try.prog, tys, ets, mts, E, M0, n, rd, up, dp⟩ (.ops md all (⟨some d, op, ty, ps, af, some gg⟩ :: l) :: r) QA ⟨L, H, nx⟩ := JK.scg hg h hf hr hd k hc
theorem ze (h : callA tys op ⟨L, [], nx⟩ = some (cs, f, args)) (hf : Ox.Fn Go.Proofs.Try.prog f args (· = v)) (hd : ltB d n = true) (k : JK ⟨Go.Proofs.Try.prog, tys, ets, mts, E, M0, n, rd, up, dp⟩ (.ops true all l :: r) QA ⟨(d, v) :: L, H, nx⟩) (hc : allP cs := by (first | exact trivial | (try dsimp only [allP, inK, idxC, loC, lohiC, fullC, underG, List.append, List.nil_append, List.cons_append, Ty.den, Ty.dflt, Int.toNat_natCast, List.length_cons, List.length_nil] at *); first | omega | ((repeat' (first | exact trivial | assumption | refine And.intro ?_ ?_ | exact fun h => h | (intro hpk; first | exact hpk | simp only [wantB, hpk, Bool.not_false, Bool.not_true]))) <;> omega) | fail)) :
    JK ⟨Go.Proofs.Try.prog, tys, ets, mts, E, M0, n, rd, up, dp⟩ (.ops true all (⟨some d, op, ty, ps, af, none⟩ :: l) :: r) QA ⟨L, H, nx⟩ := JK.ce h hf hd k hc
theorem zt (hg : gOf all L (some gg) = some g) (hgt : g = true) {dd : Option Nat} (k : JK ⟨Go.Proofs.Try.prog, tys, ets, mts, E, M0, n, rd, up, dp⟩ (.ops true all (⟨dd, op, ty, ps, af, none⟩ :: l) :: r) QA ⟨L, H, nx⟩) : JK ⟨Go.Proofs.Try.prog, tys, ets, mts, E, M0, n, rd, up, dp⟩ (.ops true all (⟨dd, op, ty, ps, af, some gg⟩ :: l) :: r) QA ⟨L, H, nx⟩ := JK.gT hg hgt k
theorem zfl (hg : gOf all L (some gg) = some g) (hgf : g = false) (hd : ltB d n = true) (k : JK ⟨Go.Proofs.Try.prog, tys, ets, mts, E, M0, n, rd, up, dp⟩ (.ops true all l :: r) QA ⟨(d, .undef) :: L, H, nx⟩) : JK ⟨Go.Proofs.Try.prog, tys, ets, mts, E, M0, n, rd, up, dp⟩ (.ops true all (⟨some d, op, ty, ps, af, some gg⟩ :: l) :: r) QA ⟨L, H, nx⟩ := JK.gF hg hgf hd k
theorem znf (k : JK ⟨Go.Proofs.Try.prog, tys, ets, mts, E, M0, n, rd, up, dp⟩ (.ops true all l :: r) QA ⟨del L d, H, nx⟩) : JK ⟨Go.Proofs.Try.prog, tys, ets, mts, E, M0, n, rd, up, dp⟩ (.ops true all (⟨some d, .assign (.const .nilFunc), ty, ps, af, none⟩ :: l) :: r) QA ⟨L, H, nx⟩ := JK.nilF k
theorem zif {x : Operand} {c d : Code} {b : Bool} (hb : opB s.L x = some b) (ht : b = true → JK ⟨Go.Proofs.Try.prog, tys, ets, mts, E, M0, n, rd, up, dp⟩ (.code c :: r) QA s) (hf : b = false → JK ⟨Go.Proofs.Try.prog, tys, ets, mts, E, M0, n, rd, up, dp⟩ (.code d :: r) QA s) : JK ⟨Go.Proofs.Try.prog, tys, ets, mts, E, M0, n, rd, up, dp⟩ (.code (.cond x c d) :: r) QA s := JK.cond hb ht hf
/-! Maps and comparisons. -/
theorem zml (hT : MapT Go.Proofs.Try.prog kt vt t kid vid) (hu : opd L om = some (c1, .lf (.mp m))) (hl : lk H m = some (.map kt vt es clk)) (hv : opd L ok = some (c2, .val kt x)) (hd : ltB d n = true)
    (k : JK ⟨Go.Proofs.Try.prog, tys, ets, mts, E, M0, n, rd, up, dp⟩ (.ops true all l :: r) QA ⟨(d, .val vt (mGet es x vt.dflt)) :: L, H, nx⟩) (hc : allP (c1 ++ c2) := by (first | exact trivial | (try dsimp only [allP, inK, idxC, loC, lohiC, fullC, underG, List.append, List.nil_append, List.cons_append, Ty.den, Ty.dflt, Int.toNat_natCast, List.length_cons, List.length_nil] at *); first | omega | ((repeat' (first | exact trivial | assumption | refine And.intro ?_ ?_ | exact fun h => h | (intro hpk; first | exact hpk | simp only [wantB, hpk, Bool.not_false, Bool.not_true]))) <;> omega) | fail)) : JK ⟨Go.Proofs.Try.prog, tys, ets, mts, E, M0, n, rd, up, dp⟩ (.ops true all (⟨some d, .lookup t om ok false, ty, ps, af, none⟩ :: l) :: r) QA ⟨L, H, nx⟩ := JL.mLook (X := ⟨Go.Proofs.Try.prog, tys, ets, mts, E, M0, n, rd, up, dp⟩)  hT hu hl hv hd hc k
theorem zmi (hT : MapT Go.Proofs.Try.prog kt vt t kid vid) (hu : opd L om = some (c1, .lf (.mp m))) (hl : lk H m = some (.map kt vt es clk)) (hv : opd L ok = some (c2, .val kt x)) {y : vt.den} (hy : opd L ov = some (c3, .val vt y))
    (k : JK ⟨Go.Proofs.Try.prog, tys, ets, mts, E, M0, n, rd, up, dp⟩ (.ops true all l :: r) QA ⟨L, updH H m (.map kt vt (mPut es clk x y) (mClk es clk x)), nx⟩) (hc : allP (c1 ++ (c2 ++ c3)) := by (first | exact trivial | (try dsimp only [allP, inK, idxC, loC, lohiC, fullC, underG, List.append, List.nil_append, List.cons_append, Ty.den, Ty.dflt, Int.toNat_natCast, List.length_cons, List.length_nil] at *); first | omega | ((repeat' (first | exact trivial | assumption | refine And.intro ?_ ?_ | exact fun h => h | (intro hpk; first | exact hpk | simp only [wantB, hpk, Bool.not_false, Bool.not_true]))) <;> omega) | fail)) : JK ⟨Go.Proofs.Try.prog, tys, ets, mts, E, M0, n, rd, up, dp⟩ (.ops true all (⟨none, .insert t om ok ov, ty, ps, af, none⟩ :: l) :: r) QA ⟨L, H, nx⟩ := JL.mIns (X := ⟨Go.Proofs.Try.prog, tys, ets, mts, E, M0, n, rd, up, dp⟩)  hT hu hl hv hy hc k
theorem zmd (hT : MapT Go.Proofs.Try.prog kt vt t kid vid) {ta : TypeId} (hu : opd L om = some (c1, .lf (.mp m))) (hl : lk H m = some (.map kt vt es clk)) (hv : opd L ok = some (c2, .val kt x))
    (k : JK ⟨Go.Proofs.Try.prog, tys, ets, mts, E, M0, n, rd, up, dp⟩ (.ops true all l :: r) QA ⟨L, updH H m (.map kt vt (Ox.mDel es x) clk), nx⟩) (hc : allP (c1 ++ c2) := by (first | exact trivial | (try dsimp only [allP, inK, idxC, loC, lohiC, fullC, underG, List.append, List.nil_append, List.cons_append, Ty.den, Ty.dflt, Int.toNat_natCast, List.length_cons, List.length_nil] at *); first | omega | ((repeat' (first | exact trivial | assumption | refine And.intro ?_ ?_ | exact fun h => h | (intro hpk; first | exact hpk | simp only [wantB, hpk, Bool.not_false, Bool.not_true]))) <;> omega) | fail)) : JK ⟨Go.Proofs.Try.prog, tys, ets, mts, E, M0, n, rd, up, dp⟩ (.ops true all (⟨none, .call { callee := .builtin .delete, args := #[om, ok], argTypes := #[t, ta] }, ty, ps, af, none⟩ :: l) :: r) QA ⟨L, H, nx⟩ := JL.mDel (X := ⟨Go.Proofs.Try.prog, tys, ets, mts, E, M0, n, rd, up, dp⟩)  hT hu hl hv hc k
theorem zmr (hT : MapT Go.Proofs.Try.prog kt vt t kid vid) (hu : opd L om = some (c1, .lf (.mp m))) (hl : lk H m = some (.map kt vt es clk)) (hd : ltB d n = true)
    (k : JK ⟨Go.Proofs.Try.prog, tys, ets, mts, E, M0, n, rd, up, dp⟩ (.ops true all l :: r) QA ⟨(d, .lf (.itr nx)) :: L, (nx, .iter m clk [] clk) :: H, nx + 1⟩) (hc : allP c1 := by (first | exact trivial | (try dsimp only [allP, inK, idxC, loC, lohiC, fullC, underG, List.append, List.nil_append, List.cons_append, Ty.den, Ty.dflt, Int.toNat_natCast, List.length_cons, List.length_nil] at *); first | omega | ((repeat' (first | exact trivial | assumption | refine And.intro ?_ ?_ | exact fun h => h | (intro hpk; first | exact hpk | simp only [wantB, hpk, Bool.not_false, Bool.not_true]))) <;> omega) | fail)) : JK ⟨Go.Proofs.Try.prog, tys, ets, mts, E, M0, n, rd, up, dp⟩ (.ops true all (⟨some d, .range t om, ty, ps, af, none⟩ :: l) :: r) QA ⟨L, H, nx⟩ := JL.mRange (X := ⟨Go.Proofs.Try.prog, tys, ets, mts, E, M0, n, rd, up, dp⟩)  hT hu hl hd hc k
theorem zmm (hT : MapT Go.Proofs.Try.prog kt vt t kid vid) (hd : ltB d n = true)
    (k : JK ⟨Go.Proofs.Try.prog, tys, ets, mts, E, M0, n, rd, up, dp⟩ (.ops true all l :: r) QA ⟨(d, .lf (.mp nx)) :: L, (nx, .map kt vt [] 0) :: H, nx + 1⟩) : JK ⟨Go.Proofs.Try.prog, tys, ets, mts, E, M0, n, rd, up, dp⟩ (.ops true all (⟨some d, .makeMap t none, ty, ps, af, none⟩ :: l) :: r) QA ⟨L, H, nx⟩ := JL.mMake (X := ⟨Go.Proofs.Try.prog, tys, ets, mts, E, M0, n, rd, up, dp⟩)  hT hd k
theorem zeq (hK : EqT Go.Proofs.Try.prog kt t) (hu : opd L om = some (c1, .val kt x)) (hv : opd L ok = some (c2, .val kt y)) (hd : ltB d n = true) {tt : TypeId}
    (k : JK ⟨Go.Proofs.Try.prog, tys, ets, mts, E, M0, n, rd, up, dp⟩ (.ops md all l :: r) QA ⟨(d, .val .bool (kt.eqB x y)) :: L, H, nx⟩) (hc : allP (c1 ++ c2) := by (first | exact trivial | (try dsimp only [allP, inK, idxC, loC, lohiC, fullC, underG, List.append, List.nil_append, List.cons_append, Ty.den, Ty.dflt, Int.toNat_natCast, List.length_cons, List.length_nil] at *); first | omega | ((repeat' (first | exact trivial | assumption | refine And.intro ?_ ?_ | exact fun h => h | (intro hpk; first | exact hpk | simp only [wantB, hpk, Bool.not_false, Bool.not_true]))) <;> omega) | fail)) : JK ⟨Go.Proofs.Try.prog, tys, ets, mts, E, M0, n, rd, up, dp⟩ (.ops md all (⟨some d, .binOp .eql t om ok tt, ty, ps, af, none⟩ :: l) :: r) QA ⟨L, H, nx⟩ := JL.eqQ (X := ⟨Go.Proofs.Try.prog, tys, ets, mts, E, M0, n, rd, up, dp⟩)  hK.key hK.ag hK.gt hu hv hd hc k
theorem zne (hK : EqT Go.Proofs.Try.prog kt t) (hu : opd L om = some (c1, .val kt x)) (hv : opd L ok = some (c2, .val kt y)) (hd : ltB d n = true) {tt : TypeId}
    (k : JK ⟨Go.Proofs.Try.prog, tys, ets, mts, E, M0, n, rd, up, dp⟩ (.ops md all l :: r) QA ⟨(d, .val .bool (!kt.eqB x y)) :: L, H, nx⟩) (hc : allP (c1 ++ c2) := by (first | exact trivial | (try dsimp only [allP, inK, idxC, loC, lohiC, fullC, underG, List.append, List.nil_append, List.cons_append, Ty.den, Ty.dflt, Int.toNat_natCast, List.length_cons, List.length_nil] at *); first | omega | ((repeat' (first | exact trivial | assumption | refine And.intro ?_ ?_ | exact fun h => h | (intro hpk; first | exact hpk | simp only [wantB, hpk, Bool.not_false, Bool.not_true]))) <;> omega) | fail)) : JK ⟨Go.Proofs.Try.prog, tys, ets, mts, E, M0, n, rd, up, dp⟩ (.ops md all (⟨some d, .binOp .neq t om ok tt, ty, ps, af, none⟩ :: l) :: r) QA ⟨L, H, nx⟩ := JL.neQ (X := ⟨Go.Proofs.Try.prog, tys, ets, mts, E, M0, n, rd, up, dp⟩)  hK.key hK.ag hK.gt hu hv hd hc k
end Go.Proofs.Ytbmgijgnbilnoaa

namespace Go.Proofs.Ytbmgijgnbilnoaa
open Go Go.RowKit Ox
attribute [local irreducible] JC JL JK JW

abbrev vI (n : Int) : AV := .val (.int .i64) n
abbrev vB (b : Bool) : AV := .val .bool b
abbrev vL (xs : List Int) : AV := .val (.slice (.int .i64)) xs
abbrev dayT : Ty := .cons (.int .i64) (.cons (.slice (.int .i64)) .nil)
abbrev vD (r : Int) (xs : List Int) : AV := .val dayT (r, xs, ())

theorem getD_nat (xs : List Int) {i : Nat} (h : i < xs.length) (d : Int) : xs.getD i d = xs[i] := by
  simp [List.getD_eq_getElem?_getD, List.getElem?_eq_getElem h]

theorem fn43 (xs : List Int) (b : Int) : Ox.Fn Go.Proofs.Try.prog 43 (.acons (vL xs) (.acons (vI b) .anil)) (· = vB (decide (b ∈ xs))) := by
  refine Ox.Fn.intro xok Go.Proofs.Try.func43 rfl Go.Proofs.Try.call43 (Nat.le_of_ble_eq_true rfl) (fun E M0 up => ?_)
  refine JK.start ?_
  refine JK.lenOf 0 rfl fun hlen => ?_
  replace hlen : xs.length ≤ 9223372036854775807 := hlen.1
  (repeat (first | refine zs rfl ?_ | refine zg rfl rfl rfl ?_ | refine zd ?_ | refine JK.fin ?_ | refine JK.ret ?_))
  refine JK.loop (fun i : Nat => ⟨[(0, vL xs), (1, vI b), (5, vI (i : Int))], [], 0⟩) (fun i => i ≤ xs.length ∧ b ∉ xs.take i) (fun i => xs.length - i) 0 (by simp) (by (exact JW.Auto rfl)) fun i ⟨hi, hn⟩ => ?_
  (repeat (first | refine zs rfl ?_ | refine zg rfl rfl rfl ?_ | refine zd ?_ | refine JK.fin ?_ | refine JK.ret ?_))
  refine JK.cond rfl (fun hc => ?_) (fun hc => ?_)
  · (simp only [↓bif_or, ↓bif_and, ↓Bool.or_eq_true, ↓Bool.or_eq_false_iff, ↓Bool.and_eq_true, ↓Bool.and_eq_false_iff, ↓Bool.not_eq_true', ↓Bool.not_eq_false', ↓decide_eq_true_eq, ↓decide_eq_false_iff_not, ↓beq_iff_eq, ↓bne_iff_ne, ↓bne_eq_false_iff_eq, ↓ne_eq, ↓beq_eq_false_iff_ne, ↓Bool.not_eq_true] at hc; try simp only [Ty.dflt, Int.toNat_natCast] at hc)
    have hi' : i < xs.length := by omega
    (repeat (first | refine zs rfl ?_ | refine zg rfl rfl rfl ?_ | refine zd ?_ | refine JK.fin ?_ | refine JK.ret ?_))
    refine JK.cond rfl (fun hd => ?_) (fun hd => ?_)
    · (simp only [↓bif_or, ↓bif_and, ↓Bool.or_eq_true, ↓Bool.or_eq_false_iff, ↓Bool.and_eq_true, ↓Bool.and_eq_false_iff, ↓Bool.not_eq_true', ↓Bool.not_eq_false', ↓decide_eq_true_eq, ↓decide_eq_false_iff_not, ↓beq_iff_eq, ↓bne_iff_ne, ↓bne_eq_false_iff_eq, ↓ne_eq, ↓beq_eq_false_iff_ne, ↓Bool.not_eq_true] at hd; try simp only [Ty.dflt, Int.toNat_natCast] at hd)
      (repeat (first | refine zs rfl ?_ | refine zg rfl rfl rfl ?_ | refine zd ?_ | refine JK.fin ?_ | refine JK.ret ?_))
      refine ⟨.inl rfl, _, _, rfl, trivial, ?_⟩
      rw [getD_nat xs hi'] at hd
      simp [← hd]
    · (simp only [↓bif_or, ↓bif_and, ↓Bool.or_eq_true, ↓Bool.or_eq_false_iff, ↓Bool.and_eq_true, ↓Bool.and_eq_false_iff, ↓Bool.not_eq_true', ↓Bool.not_eq_false', ↓decide_eq_true_eq, ↓decide_eq_false_iff_not, ↓beq_iff_eq, ↓bne_iff_ne, ↓bne_eq_false_iff_eq, ↓ne_eq, ↓beq_eq_false_iff_ne, ↓Bool.not_eq_true] at hd; try simp only [Ty.dflt, Int.toNat_natCast] at hd)
      (repeat (first | refine zs rfl ?_ | refine zg rfl rfl rfl ?_ | refine zd ?_ | refine JK.fin ?_ | refine JK.ret ?_))
      rw [getD_nat xs hi'] at hd
      refine ⟨i + 1, by (exact JW.Auto rfl), ⟨by omega, ?_⟩, by omega⟩
      rw [List.take_succ, List.mem_append, List.getElem?_eq_getElem hi']
      rintro (h | h)
      · exact hn h
      · simp at h; exact hd h.symm
  · (simp only [↓bif_or, ↓bif_and, ↓Bool.or_eq_true, ↓Bool.or_eq_false_iff, ↓Bool.and_eq_true, ↓Bool.and_eq_false_iff, ↓Bool.not_eq_true', ↓Bool.not_eq_false', ↓decide_eq_true_eq, ↓decide_eq_false_iff_not, ↓beq_iff_eq, ↓bne_iff_ne, ↓bne_eq_false_iff_eq, ↓ne_eq, ↓beq_eq_false_iff_ne, ↓Bool.not_eq_true] at hc; try simp only [Ty.dflt, Int.toNat_natCast] at hc)
    (repeat (first | refine zs rfl ?_ | refine zg rfl rfl rfl ?_ | refine zd ?_ | refine JK.fin ?_ | refine JK.ret ?_))
    refine ⟨.inl rfl, _, _, rfl, trivial, ?_⟩
    have : i = xs.length := by omega
    subst this
    simp at hn
    simp [hn]

theorem fn27 (xs ys : List Int) : Ox.Fn Go.Proofs.Try.prog 27 (.acons (vL xs) (.acons (vL ys) .anil)) (· = vB (decide (xs = ys))) := by
  refine Ox.Fn.intro xok Go.Proofs.Try.func27 rfl Go.Proofs.Try.call27 (Nat.le_of_ble_eq_true rfl) (fun E M0 up => ?_)
  refine JK.start ?_
  refine JK.lenOf 0 rfl fun hlen => ?_
  replace hlen : xs.length ≤ 9223372036854775807 := hlen.1
  (repeat (first | refine zs rfl ?_ | refine zg rfl rfl rfl ?_ | refine zd ?_ | refine JK.fin ?_ | refine JK.ret ?_))
  refine JK.cond rfl (fun hc => ?_) (fun hc => ?_)
  · (simp only [↓bif_or, ↓bif_and, ↓Bool.or_eq_true, ↓Bool.or_eq_false_iff, ↓Bool.and_eq_true, ↓Bool.and_eq_false_iff, ↓Bool.not_eq_true', ↓Bool.not_eq_false', ↓decide_eq_true_eq, ↓decide_eq_false_iff_not, ↓beq_iff_eq, ↓bne_iff_ne, ↓bne_eq_false_iff_eq, ↓ne_eq, ↓beq_eq_false_iff_ne, ↓Bool.not_eq_true] at hc; try simp only [Ty.dflt, Int.toNat_natCast] at hc)
    (repeat (first | refine zs rfl ?_ | refine zg rfl rfl rfl ?_ | refine zd ?_ | refine JK.fin ?_ | refine JK.ret ?_))
    refine ⟨.inl rfl, _, _, rfl, trivial, ?_⟩
    have : xs ≠ ys := by rintro rfl; simp at hc
    simp [this]
  · (simp only [↓bif_or, ↓bif_and, ↓Bool.or_eq_true, ↓Bool.or_eq_false_iff, ↓Bool.and_eq_true, ↓Bool.and_eq_false_iff, ↓Bool.not_eq_true', ↓Bool.not_eq_false', ↓decide_eq_true_eq, ↓decide_eq_false_iff_not, ↓beq_iff_eq, ↓bne_iff_ne, ↓bne_eq_false_iff_eq, ↓ne_eq, ↓beq_eq_false_iff_ne, ↓Bool.not_eq_true] at hc; try simp only [Ty.dflt, Int.toNat_natCast] at hc)
    have hl : xs.length = ys.length := by omega
    (repeat (first | refine zs rfl ?_ | refine zg rfl rfl rfl ?_ | refine zd ?_ | refine JK.fin ?_ | refine JK.ret ?_))
    refine JK.loop (fun i : Nat => ⟨[(0, vL xs), (1, vL ys), (5, vI (i : Int))], [], 0⟩) (fun i => i ≤ xs.length ∧ xs.take i = ys.take i) (fun i => xs.length - i) 0 (by simp) (by (exact JW.Auto rfl)) fun i ⟨hi, hn⟩ => ?_
    (repeat (first | refine zs rfl ?_ | refine zg rfl rfl rfl ?_ | refine zd ?_ | refine JK.fin ?_ | refine JK.ret ?_))
    refine JK.cond rfl (fun hc => ?_) (fun hc => ?_)
    · (simp only [↓bif_or, ↓bif_and, ↓Bool.or_eq_true, ↓Bool.or_eq_false_iff, ↓Bool.and_eq_true, ↓Bool.and_eq_false_iff, ↓Bool.not_eq_true', ↓Bool.not_eq_false', ↓decide_eq_true_eq, ↓decide_eq_false_iff_not, ↓beq_iff_eq, ↓bne_iff_ne, ↓bne_eq_false_iff_eq, ↓ne_eq, ↓beq_eq_false_iff_ne, ↓Bool.not_eq_true] at hc; try simp only [Ty.dflt, Int.toNat_natCast] at hc)
      have hi' : i < xs.length := by omega
      have hj' : i < ys.length := by omega
      (repeat (first | refine zs rfl ?_ | refine zg rfl rfl rfl ?_ | refine zd ?_ | refine JK.fin ?_ | refine JK.ret ?_))
      refine JK.cond rfl (fun hd => ?_) (fun hd => ?_)
      · (simp only [↓bif_or, ↓bif_and, ↓Bool.or_eq_true, ↓Bool.or_eq_false_iff, ↓Bool.and_eq_true, ↓Bool.and_eq_false_iff, ↓Bool.not_eq_true', ↓Bool.not_eq_false', ↓decide_eq_true_eq, ↓decide_eq_false_iff_not, ↓beq_iff_eq, ↓bne_iff_ne, ↓bne_eq_false_iff_eq, ↓ne_eq, ↓beq_eq_false_iff_ne, ↓Bool.not_eq_true] at hd; try simp only [Ty.dflt, Int.toNat_natCast] at hd)
        (repeat (first | refine zs rfl ?_ | refine zg rfl rfl rfl ?_ | refine zd ?_ | refine JK.fin ?_ | refine JK.ret ?_))
        refine ⟨.inl rfl, _, _, rfl, trivial, ?_⟩
        rw [getD_nat xs hi', getD_nat ys hj'] at hd
        have : xs ≠ ys := by rintro rfl; exact hd rfl
        simp [this]
      · (simp only [↓bif_or, ↓bif_and, ↓Bool.or_eq_true, ↓Bool.or_eq_false_iff, ↓Bool.and_eq_true, ↓Bool.and_eq_false_iff, ↓Bool.not_eq_true', ↓Bool.not_eq_false', ↓decide_eq_true_eq, ↓decide_eq_false_iff_not, ↓beq_iff_eq, ↓bne_iff_ne, ↓bne_eq_false_iff_eq, ↓ne_eq, ↓beq_eq_false_iff_ne, ↓Bool.not_eq_true] at hd; try simp only [Ty.dflt, Int.toNat_natCast] at hd)
        (repeat (first | refine zs rfl ?_ | refine zg rfl rfl rfl ?_ | refine zd ?_ | refine JK.fin ?_ | refine JK.ret ?_))
        rw [getD_nat xs hi', getD_nat ys hj'] at hd
        refine ⟨i + 1, by (exact JW.Auto rfl), ⟨by omega, ?_⟩, by omega⟩
        rw [List.take_succ, List.take_succ, List.getElem?_eq_getElem hi', List.getElem?_eq_getElem hj', hn, hd]
    · (simp only [↓bif_or, ↓bif_and, ↓Bool.or_eq_true, ↓Bool.or_eq_false_iff, ↓Bool.and_eq_true, ↓Bool.and_eq_false_iff, ↓Bool.not_eq_true', ↓Bool.not_eq_false', ↓decide_eq_true_eq, ↓decide_eq_false_iff_not, ↓beq_iff_eq, ↓bne_iff_ne, ↓bne_eq_false_iff_eq, ↓ne_eq, ↓beq_eq_false_iff_ne, ↓Bool.not_eq_true] at hc; try simp only [Ty.dflt, Int.toNat_natCast] at hc)
      (repeat (first | refine zs rfl ?_ | refine zg rfl rfl rfl ?_ | refine zd ?_ | refine JK.fin ?_ | refine JK.ret ?_))
      refine ⟨.inl rfl, _, _, rfl, trivial, ?_⟩
      have : i = xs.length := by omega
      subst this
      rw [List.take_length, hl, List.take_length] at hn
      simp [hn]

theorem fn47 (r : Int) (xs : List Int) (n : Int) : Ox.Fn Go.Proofs.Try.prog 47 (.acons (vD r xs) (.acons (vI n) .anil)) (· = vB (decide (0 ≤ n ∧ n < xs.length))) := by
  refine Ox.Fn.intro xok Go.Proofs.Try.func47 rfl Go.Proofs.Try.call47 (Nat.le_of_ble_eq_true rfl) (fun E M0 up => ?_)
  refine JK.start ?_
  (repeat (first | refine zs rfl ?_ | refine zg rfl rfl rfl ?_ | refine zd ?_ | refine JK.fin ?_ | refine JK.ret ?_))
  refine ⟨.inl rfl, _, _, rfl, trivial, ?_⟩
  by_cases h : 0 ≤ n <;> simp [h]

/-- The nearest place before the i-th whose element is 'x', or -1. -/
def lastB (xs : List Int) (x : Int) : Nat → Int
  | 0 => -1
  | i + 1 => if xs.getD i 0 = x then i else lastB xs x i

theorem fn48 (r : Int) (xs : List Int) (n : Nat) (h : n < xs.length) : Ox.Fn Go.Proofs.Try.prog 48 (.acons (vD r xs) (.acons (vI n) .anil)) (· = vI (lastB xs (xs.getD n 0) n)) := by
  refine Ox.Fn.intro xok Go.Proofs.Try.func48 rfl Go.Proofs.Try.call48 (Nat.le_of_ble_eq_true rfl) (fun E M0 up => ?_)
  refine JK.start ?_
  refine JK.lenOf 0 rfl fun hlen => ?_
  replace hlen : xs.length ≤ 9223372036854775807 := hlen.2.1.1
  (repeat (first | refine zs rfl ?_ | refine zg rfl rfl rfl ?_ | refine zd ?_ | refine JK.fin ?_ | refine JK.ret ?_))
  refine JK.loop (fun k : Nat => ⟨[(1, vI n), (2, .lf (.optr 0 [])), (5, vI ((k : Int) - 1))], [(0, .cell dayT (vD r xs))], 1⟩) (fun k => k ≤ n ∧ lastB xs (xs.getD n 0) n = lastB xs (xs.getD n 0) k) (fun k => k) n (by simp) (by (exact JW.Auto rfl)) fun k ⟨hk, hn⟩ => ?_
  (repeat (first | refine zs rfl ?_ | refine zg rfl rfl rfl ?_ | refine zd ?_ | refine JK.fin ?_ | refine JK.ret ?_))
  refine JK.cond rfl (fun hc => ?_) (fun hc => ?_)
  · (simp only [↓bif_or, ↓bif_and, ↓Bool.or_eq_true, ↓Bool.or_eq_false_iff, ↓Bool.and_eq_true, ↓Bool.and_eq_false_iff, ↓Bool.not_eq_true', ↓Bool.not_eq_false', ↓decide_eq_true_eq, ↓decide_eq_false_iff_not, ↓beq_iff_eq, ↓bne_iff_ne, ↓bne_eq_false_iff_eq, ↓ne_eq, ↓beq_eq_false_iff_ne, ↓Bool.not_eq_true] at hc; try simp only [Ty.dflt, Int.toNat_natCast] at hc)
    obtain ⟨k, rfl⟩ : ∃ j, k = j + 1 := ⟨k - 1, by omega⟩
    (repeat (first | refine zs rfl ?_ | refine zg rfl rfl rfl ?_ | refine zd ?_ | refine JK.fin ?_ | refine JK.ret ?_))
    refine JK.cond rfl (fun hd => ?_) (fun hd => ?_)
    · (simp only [↓bif_or, ↓bif_and, ↓Bool.or_eq_true, ↓Bool.or_eq_false_iff, ↓Bool.and_eq_true, ↓Bool.and_eq_false_iff, ↓Bool.not_eq_true', ↓Bool.not_eq_false', ↓decide_eq_true_eq, ↓decide_eq_false_iff_not, ↓beq_iff_eq, ↓bne_iff_ne, ↓bne_eq_false_iff_eq, ↓ne_eq, ↓beq_eq_false_iff_ne, ↓Bool.not_eq_true] at hd; try simp only [Ty.dflt, Int.toNat_natCast] at hd)
      (repeat (first | refine zs rfl ?_ | refine zg rfl rfl rfl ?_ | refine zd ?_ | refine JK.fin ?_ | refine JK.ret ?_))
      refine ⟨.inl rfl, _, _, rfl, trivial, ?_⟩
      have e : (((k + 1 : Nat) : Int) - 1).toNat = k := by omega
      rw [e] at hd
      rw [hn, lastB, if_pos hd]
      exact congrArg vI (by omega)
    · (simp only [↓bif_or, ↓bif_and, ↓Bool.or_eq_true, ↓Bool.or_eq_false_iff, ↓Bool.and_eq_true, ↓Bool.and_eq_false_iff, ↓Bool.not_eq_true', ↓Bool.not_eq_false', ↓decide_eq_true_eq, ↓decide_eq_false_iff_not, ↓beq_iff_eq, ↓bne_iff_ne, ↓bne_eq_false_iff_eq, ↓ne_eq, ↓beq_eq_false_iff_ne, ↓Bool.not_eq_true] at hd; try simp only [Ty.dflt, Int.toNat_natCast] at hd)
      (repeat (first | refine zs rfl ?_ | refine zg rfl rfl rfl ?_ | refine zd ?_ | refine JK.fin ?_ | refine JK.ret ?_))
      have e : (((k + 1 : Nat) : Int) - 1).toNat = k := by omega
      rw [e] at hd
      refine ⟨k, by (exact JW.Auto rfl), ⟨by omega, ?_⟩, by omega⟩
      rw [hn, lastB, if_neg hd]
  · (simp only [↓bif_or, ↓bif_and, ↓Bool.or_eq_true, ↓Bool.or_eq_false_iff, ↓Bool.and_eq_true, ↓Bool.and_eq_false_iff, ↓Bool.not_eq_true', ↓Bool.not_eq_false', ↓decide_eq_true_eq, ↓decide_eq_false_iff_not, ↓beq_iff_eq, ↓bne_iff_ne, ↓bne_eq_false_iff_eq, ↓ne_eq, ↓beq_eq_false_iff_ne, ↓Bool.not_eq_true] at hc; try simp only [Ty.dflt, Int.toNat_natCast] at hc)
    (repeat (first | refine zs rfl ?_ | refine zg rfl rfl rfl ?_ | refine zd ?_ | refine JK.fin ?_ | refine JK.ret ?_))
    refine ⟨.inl rfl, _, _, rfl, trivial, ?_⟩
    obtain rfl : k = 0 := by omega
    rw [hn]; rfl

/-- The error of a day: 0 is none. -/
def dayErr (r : Int) (xs : List Int) : Int :=
  if r < 1 ∨ r > 4 then 2 else if xs.length < 1 ∨ xs.length > 24 then 6 else if ∀ x ∈ xs, 0 ≤ x ∧ x ≤ 7 then 0 else 3

theorem fn20 (r : Int) (xs : List Int) : Ox.Fn Go.Proofs.Try.prog 20 (.acons (vD r xs) .anil) (· = vI (dayErr r xs)) := by
  refine Ox.Fn.intro xok Go.Proofs.Try.func20 rfl Go.Proofs.Try.call20 (Nat.le_of_ble_eq_true rfl) (fun E M0 up => ?_)
  refine JK.start ?_
  refine JK.lenOf 0 rfl fun hlen => ?_
  replace hlen : xs.length ≤ 9223372036854775807 := hlen.2.1.1
  (repeat (first | refine zs rfl ?_ | refine zg rfl rfl rfl ?_ | refine zd ?_ | refine JK.fin ?_ | refine JK.ret ?_))
  refine JK.cond rfl (fun hc => ?_) (fun hc => ?_)
  · (simp only [↓bif_or, ↓bif_and, ↓Bool.or_eq_true, ↓Bool.or_eq_false_iff, ↓Bool.and_eq_true, ↓Bool.and_eq_false_iff, ↓Bool.not_eq_true', ↓Bool.not_eq_false', ↓decide_eq_true_eq, ↓decide_eq_false_iff_not, ↓beq_iff_eq, ↓bne_iff_ne, ↓bne_eq_false_iff_eq, ↓ne_eq, ↓beq_eq_false_iff_ne, ↓Bool.not_eq_true] at hc; try simp only [Ty.dflt, Int.toNat_natCast] at hc)
    (repeat (first | refine zs rfl ?_ | refine zg rfl rfl rfl ?_ | refine zd ?_ | refine JK.fin ?_ | refine JK.ret ?_))
    refine ⟨.inl rfl, _, _, rfl, trivial, ?_⟩
    rw [dayErr, if_pos hc]
  · (simp only [↓bif_or, ↓bif_and, ↓Bool.or_eq_true, ↓Bool.or_eq_false_iff, ↓Bool.and_eq_true, ↓Bool.and_eq_false_iff, ↓Bool.not_eq_true', ↓Bool.not_eq_false', ↓decide_eq_true_eq, ↓decide_eq_false_iff_not, ↓beq_iff_eq, ↓bne_iff_ne, ↓bne_eq_false_iff_eq, ↓ne_eq, ↓beq_eq_false_iff_ne, ↓Bool.not_eq_true] at hc; try simp only [Ty.dflt, Int.toNat_natCast] at hc)
    have hr : ¬ (r < 1 ∨ r > 4) := by omega
    (repeat (first | refine zs rfl ?_ | refine zg rfl rfl rfl ?_ | refine zd ?_ | refine JK.fin ?_ | refine JK.ret ?_))
    refine JK.cond rfl (fun hc2 => ?_) (fun hc2 => ?_)
    · (simp only [↓bif_or, ↓bif_and, ↓Bool.or_eq_true, ↓Bool.or_eq_false_iff, ↓Bool.and_eq_true, ↓Bool.and_eq_false_iff, ↓Bool.not_eq_true', ↓Bool.not_eq_false', ↓decide_eq_true_eq, ↓decide_eq_false_iff_not, ↓beq_iff_eq, ↓bne_iff_ne, ↓bne_eq_false_iff_eq, ↓ne_eq, ↓beq_eq_false_iff_ne, ↓Bool.not_eq_true] at hc2; try simp only [Ty.dflt, Int.toNat_natCast] at hc2)
      (repeat (first | refine zs rfl ?_ | refine zg rfl rfl rfl ?_ | refine zd ?_ | refine JK.fin ?_ | refine JK.ret ?_))
      refine ⟨.inl rfl, _, _, rfl, trivial, ?_⟩
      rw [dayErr, if_neg hr, if_pos (by omega)]
    · (simp only [↓bif_or, ↓bif_and, ↓Bool.or_eq_true, ↓Bool.or_eq_false_iff, ↓Bool.and_eq_true, ↓Bool.and_eq_false_iff, ↓Bool.not_eq_true', ↓Bool.not_eq_false', ↓decide_eq_true_eq, ↓decide_eq_false_iff_not, ↓beq_iff_eq, ↓bne_iff_ne, ↓bne_eq_false_iff_eq, ↓ne_eq, ↓beq_eq_false_iff_ne, ↓Bool.not_eq_true] at hc2; try simp only [Ty.dflt, Int.toNat_natCast] at hc2)
      have hl : ¬ (xs.length < 1 ∨ xs.length > 24) := by omega
      (repeat (first | refine zs rfl ?_ | refine zg rfl rfl rfl ?_ | refine zd ?_ | refine JK.fin ?_ | refine JK.ret ?_))
      refine JK.loop (fun i : Nat => ⟨[(1, .lf (.optr 0 [])), (3, vI (i : Int))], [(0, .cell dayT (vD r xs))], 1⟩) (fun i => i ≤ xs.length ∧ ∀ x ∈ xs.take i, 0 ≤ x ∧ x ≤ 7) (fun i => xs.length - i) 0 (by simp) (by (exact JW.Auto rfl)) fun i ⟨hi, hn⟩ => ?_
      (repeat (first | refine zs rfl ?_ | refine zg rfl rfl rfl ?_ | refine zd ?_ | refine JK.fin ?_ | refine JK.ret ?_))
      refine JK.cond rfl (fun hd => ?_) (fun hd => ?_)
      · (simp only [↓bif_or, ↓bif_and, ↓Bool.or_eq_true, ↓Bool.or_eq_false_iff, ↓Bool.and_eq_true, ↓Bool.and_eq_false_iff, ↓Bool.not_eq_true', ↓Bool.not_eq_false', ↓decide_eq_true_eq, ↓decide_eq_false_iff_not, ↓beq_iff_eq, ↓bne_iff_ne, ↓bne_eq_false_iff_eq, ↓ne_eq, ↓beq_eq_false_iff_ne, ↓Bool.not_eq_true] at hd; try simp only [Ty.dflt, Int.toNat_natCast] at hd)
        have hi' : i < xs.length := by omega
        (repeat (first | refine zs rfl ?_ | refine zg rfl rfl rfl ?_ | refine zd ?_ | refine JK.fin ?_ | refine JK.ret ?_))
        refine JK.cond rfl (fun he => ?_) (fun he => ?_)
        · (simp only [↓bif_or, ↓bif_and, ↓Bool.or_eq_true, ↓Bool.or_eq_false_iff, ↓Bool.and_eq_true, ↓Bool.and_eq_false_iff, ↓Bool.not_eq_true', ↓Bool.not_eq_false', ↓decide_eq_true_eq, ↓decide_eq_false_iff_not, ↓beq_iff_eq, ↓bne_iff_ne, ↓bne_eq_false_iff_eq, ↓ne_eq, ↓beq_eq_false_iff_ne, ↓Bool.not_eq_true] at he; try simp only [Ty.dflt, Int.toNat_natCast] at he)
          (repeat (first | refine zs rfl ?_ | refine zg rfl rfl rfl ?_ | refine zd ?_ | refine JK.fin ?_ | refine JK.ret ?_))
          refine ⟨.inl rfl, _, _, rfl, trivial, ?_⟩
          rw [getD_nat xs hi'] at he
          rw [dayErr, if_neg hr, if_neg hl, if_neg]
          intro h
          have := h _ (List.getElem_mem hi')
          omega
        · (simp only [↓bif_or, ↓bif_and, ↓Bool.or_eq_true, ↓Bool.or_eq_false_iff, ↓Bool.and_eq_true, ↓Bool.and_eq_false_iff, ↓Bool.not_eq_true', ↓Bool.not_eq_false', ↓decide_eq_true_eq, ↓decide_eq_false_iff_not, ↓beq_iff_eq, ↓bne_iff_ne, ↓bne_eq_false_iff_eq, ↓ne_eq, ↓beq_eq_false_iff_ne, ↓Bool.not_eq_true] at he; try simp only [Ty.dflt, Int.toNat_natCast] at he)
          (repeat (first | refine zs rfl ?_ | refine zg rfl rfl rfl ?_ | refine zd ?_ | refine JK.fin ?_ | refine JK.ret ?_))
          rw [getD_nat xs hi'] at he
          refine ⟨i + 1, by (exact JW.Auto rfl), ⟨by omega, ?_⟩, by omega⟩
          rw [List.take_succ, List.getElem?_eq_getElem hi']
          intro x hx
          rcases List.mem_append.1 hx with h | h
          · exact hn x h
          · simp at h; subst h; omega
      · (simp only [↓bif_or, ↓bif_and, ↓Bool.or_eq_true, ↓Bool.or_eq_false_iff, ↓Bool.and_eq_true, ↓Bool.and_eq_false_iff, ↓Bool.not_eq_true', ↓Bool.not_eq_false', ↓decide_eq_true_eq, ↓decide_eq_false_iff_not, ↓beq_iff_eq, ↓bne_iff_ne, ↓bne_eq_false_iff_eq, ↓ne_eq, ↓beq_eq_false_iff_ne, ↓Bool.not_eq_true] at hd; try simp only [Ty.dflt, Int.toNat_natCast] at hd)
        (repeat (first | refine zs rfl ?_ | refine zg rfl rfl rfl ?_ | refine zd ?_ | refine JK.fin ?_ | refine JK.ret ?_))
        refine ⟨.inl rfl, _, _, rfl, trivial, ?_⟩
        obtain rfl : i = xs.length := by omega
        rw [List.take_length] at hn
        rw [dayErr, if_neg hr, if_neg hl, if_pos hn]
end Go.Proofs.Ytbmgijgnbilnoaa

namespace Go.Proofs.Ytbmgijgnbilnoaa
open Go Go.RowKit Ox
attribute [local irreducible] JC JL JK JW
abbrev pI (n : Int) : AV := .val (.ptr (.int .i64)) (some n)

theorem fn67 (x lo hi : Int) : Ox.Fn Go.Proofs.Try.prog 67 (.acons (vI x) (.acons (pI lo) (.acons (pI hi) .anil))) (· = vB (decide (x < lo ∨ x > hi))) := by
  refine Ox.Fn.intro xok Go.Proofs.Try.func67 rfl Go.Proofs.Try.call67 (Nat.le_of_ble_eq_true rfl) (fun E M0 up => ?_)
  refine JK.start ?_
  (repeat (first | refine zs rfl ?_ | refine zg rfl rfl rfl ?_ | refine zd ?_ | refine JK.fin ?_ | refine JK.ret ?_))
  refine ⟨.inl rfl, _, _, rfl, trivial, ?_⟩
  by_cases h : x < lo <;> simp [h]

/-- The first place whose element is good, or -1. -/
def idxB (p : Int → Bool) : List Int → Nat → Int
  | [], _ => -1
  | x :: r, i => if p x then (i : Int) else idxB p r (i + 1)

theorem fn70 {f : FuncId} {t1 t2 : Ty} {x1 : t1.den} {x2 : t2.den} (xs : List Int) (p : Int → Bool) (h : ∀ x ∈ xs, Ox.Fn Go.Proofs.Try.prog f (.acons (vI x) (.acons (.val t1 x1) (.acons (.val t2 x2) .anil))) (· = vB (p x))) :
    Ox.Fn Go.Proofs.Try.prog 70 (.acons (vL xs) (.acons (.fn f .anil (.acons (.val t1 x1) (.acons (.val t2 x2) .anil))) .anil)) (· = vI (idxB p xs 0)) := by
  refine Ox.Fn.intro xok Go.Proofs.Try.func70 rfl Go.Proofs.Try.call70 (Nat.le_of_ble_eq_true rfl) (fun E M0 up => ?_)
  refine JK.start ?_
  refine JK.lenOf 0 rfl fun hlen => ?_
  replace hlen : xs.length ≤ 9223372036854775807 := hlen.1
  (repeat (first | refine zs rfl ?_ | refine zg rfl rfl rfl ?_ | refine zd ?_ | refine JK.fin ?_ | refine JK.ret ?_))
  refine JK.loop (fun i : Nat => ⟨[(0, vL xs), (1, .fn f .anil (.acons (.val t1 x1) (.acons (.val t2 x2) .anil))), (7, vI xs.length), (8, vI (i : Int))], [], 0⟩) (fun i => i ≤ xs.length ∧ idxB p xs 0 = idxB p (xs.drop i) i) (fun i => xs.length - i) 0 (by simp) (by (exact JW.Auto rfl)) fun i ⟨hi, hn⟩ => ?_
  (repeat (first | refine zs rfl ?_ | refine zg rfl rfl rfl ?_ | refine zd ?_ | refine JK.fin ?_ | refine JK.ret ?_))
  refine JK.cond rfl (fun hc => ?_) (fun hc => ?_)
  · (simp only [↓bif_or, ↓bif_and, ↓Bool.or_eq_true, ↓Bool.or_eq_false_iff, ↓Bool.and_eq_true, ↓Bool.and_eq_false_iff, ↓Bool.not_eq_true', ↓Bool.not_eq_false', ↓decide_eq_true_eq, ↓decide_eq_false_iff_not, ↓beq_iff_eq, ↓bne_iff_ne, ↓bne_eq_false_iff_eq, ↓ne_eq, ↓beq_eq_false_iff_ne, ↓Bool.not_eq_true] at hc; try simp only [Ty.dflt, Int.toNat_natCast] at hc)
    have hi' : i < xs.length := by omega
    have hx := h (xs.getD i 0) (by rw [getD_nat xs hi']; exact List.getElem_mem hi')
    (repeat (first | refine zs rfl ?_ | refine zg rfl rfl rfl ?_ | refine zd ?_ | refine JK.fin ?_ | refine JK.ret ?_ | refine zc rfl (hx) rfl rfl ?_ | refine ze rfl (hx) rfl ?_ | refine zk rfl rfl (fun _ => hx) rfl rfl ?_))
    refine JK.cond rfl (fun hd => ?_) (fun hd => ?_)
    · (repeat (first | refine zs rfl ?_ | refine zg rfl rfl rfl ?_ | refine zd ?_ | refine JK.fin ?_ | refine JK.ret ?_))
      refine ⟨.inl rfl, _, _, rfl, trivial, ?_⟩
      rw [getD_nat xs hi'] at hd
      rw [hn, List.drop_eq_getElem_cons hi', idxB, if_pos hd]
    · (repeat (first | refine zs rfl ?_ | refine zg rfl rfl rfl ?_ | refine zd ?_ | refine JK.fin ?_ | refine JK.ret ?_))
      rw [getD_nat xs hi'] at hd
      refine ⟨i + 1, by (exact JW.Auto rfl), ⟨by omega, ?_⟩, by omega⟩
      rw [hn, List.drop_eq_getElem_cons hi', idxB, if_neg (by rw [hd]; simp)]
  · (simp only [↓bif_or, ↓bif_and, ↓Bool.or_eq_true, ↓Bool.or_eq_false_iff, ↓Bool.and_eq_true, ↓Bool.and_eq_false_iff, ↓Bool.not_eq_true', ↓Bool.not_eq_false', ↓decide_eq_true_eq, ↓decide_eq_false_iff_not, ↓beq_iff_eq, ↓bne_iff_ne, ↓bne_eq_false_iff_eq, ↓ne_eq, ↓beq_eq_false_iff_ne, ↓Bool.not_eq_true] at hc; try simp only [Ty.dflt, Int.toNat_natCast] at hc)
    (repeat (first | refine zs rfl ?_ | refine zg rfl rfl rfl ?_ | refine zd ?_ | refine JK.fin ?_ | refine JK.ret ?_))
    refine ⟨.inl rfl, _, _, rfl, trivial, ?_⟩
    obtain rfl : i = xs.length := by omega
    rw [hn, List.drop_length]; rfl

theorem idxB_nonneg {p : Int → Bool} : ∀ {xs : List Int} {i : Nat}, (0 ≤ idxB p xs i) ↔ xs.any p = true
  | [], i => by simp [idxB]
  | x :: r, i => by
    simp only [idxB, List.any_cons, Bool.or_eq_true]
    by_cases h : p x = true
    · simp [h]
    · rw [if_neg h, idxB_nonneg]; simp [h]

theorem fn66 {f : FuncId} {t1 t2 : Ty} {x1 : t1.den} {x2 : t2.den} (xs : List Int) (p : Int → Bool) (h : ∀ x ∈ xs, Ox.Fn Go.Proofs.Try.prog f (.acons (vI x) (.acons (.val t1 x1) (.acons (.val t2 x2) .anil))) (· = vB (p x))) :
    Ox.Fn Go.Proofs.Try.prog 66 (.acons (vL xs) (.acons (.fn f .anil (.acons (.val t1 x1) (.acons (.val t2 x2) .anil))) .anil)) (· = vB (xs.any p)) := by
  refine Ox.Fn.intro xok Go.Proofs.Try.func66 rfl Go.Proofs.Try.call66 (Nat.le_of_ble_eq_true rfl) (fun E M0 up => ?_)
  refine JK.start ?_
  (repeat (first | refine zs rfl ?_ | refine zg rfl rfl rfl ?_ | refine zd ?_ | refine JK.fin ?_ | refine JK.ret ?_ | refine zc rfl (fn70 xs p h) rfl rfl ?_ | refine ze rfl (fn70 xs p h) rfl ?_ | refine zk rfl rfl (fun _ => fn70 xs p h) rfl rfl ?_))
  refine ⟨.inl rfl, _, _, rfl, trivial, ?_⟩
  refine congrArg vB ?_
  rw [Bool.eq_iff_iff, ← idxB_nonneg (p := p) (i := 0)]
  simp

theorem fn49 (lo hi : Int) (xs : List Int) : Ox.Fn Go.Proofs.Try.prog 49 (.acons (vI lo) (.acons (vI hi) (.acons (vL xs) .anil))) (· = vB (decide (∀ x ∈ xs, lo ≤ x ∧ x ≤ hi))) := by
  refine Ox.Fn.intro xok Go.Proofs.Try.func49 rfl Go.Proofs.Try.call49 (Nat.le_of_ble_eq_true rfl) (fun E M0 up => ?_)
  refine JK.start ?_
  (repeat (first | refine zs rfl ?_ | refine zg rfl rfl rfl ?_ | refine zd ?_ | refine JK.fin ?_ | refine JK.ret ?_ | refine zc rfl (fn66 xs (fun x => decide (x < lo ∨ x > hi)) (fun x _ => fn67 x lo hi)) rfl rfl ?_ | refine ze rfl (fn66 xs (fun x => decide (x < lo ∨ x > hi)) (fun x _ => fn67 x lo hi)) rfl ?_ | refine zk rfl rfl (fun _ => fn66 xs (fun x => decide (x < lo ∨ x > hi)) (fun x _ => fn67 x lo hi)) rfl rfl ?_))
  refine ⟨.inl rfl, _, _, rfl, trivial, ?_⟩
  refine congrArg vB ?_
  rw [Bool.eq_iff_iff]
  simp only [Bool.not_eq_true', List.any_eq_false, decide_eq_true_eq]
  refine ⟨fun h x hx => ?_, fun h x hx => ?_⟩
  · have := h x hx; omega
  · have := h x hx; omega

theorem fn19 (r : Int) (xs : List Int) : Ox.Fn Go.Proofs.Try.prog 19 (.acons (vD r xs) .anil) (· = vI (dayErr r xs)) := by
  refine Ox.Fn.intro xok Go.Proofs.Try.func19 rfl Go.Proofs.Try.call19 (Nat.le_of_ble_eq_true rfl) (fun E M0 up => ?_)
  refine JK.start ?_
  (repeat (first | refine zs rfl ?_ | refine zg rfl rfl rfl ?_ | refine zd ?_ | refine JK.fin ?_ | refine JK.ret ?_ | refine zc rfl (fn49 _ _ _) rfl rfl ?_ | refine ze rfl (fn49 _ _ _) rfl ?_ | refine zk rfl rfl (fun _ => fn49 _ _ _) rfl rfl ?_))
  refine JK.cond rfl (fun hc => ?_) (fun hc => ?_)
  · (simp only [↓bif_or, ↓bif_and, ↓Bool.or_eq_true, ↓Bool.or_eq_false_iff, ↓Bool.and_eq_true, ↓Bool.and_eq_false_iff, ↓Bool.not_eq_true', ↓Bool.not_eq_false', ↓decide_eq_true_eq, ↓decide_eq_false_iff_not, ↓beq_iff_eq, ↓bne_iff_ne, ↓bne_eq_false_iff_eq, ↓ne_eq, ↓beq_eq_false_iff_ne, ↓Bool.not_eq_true] at hc; try simp only [Ty.dflt, Int.toNat_natCast] at hc)
    have hr : r < 1 ∨ r > 4 := by
      by_cases h : r < 1 ∨ r > 4
      · exact h
      · exact absurd (fun x hx => by simp at hx; subst hx; (try dsimp only); omega) hc
    (repeat (first | refine zs rfl ?_ | refine zg rfl rfl rfl ?_ | refine zd ?_ | refine JK.fin ?_ | refine JK.ret ?_))
    refine ⟨.inl rfl, _, _, rfl, trivial, ?_⟩
    rw [dayErr, if_pos hr]
  · (simp only [↓bif_or, ↓bif_and, ↓Bool.or_eq_true, ↓Bool.or_eq_false_iff, ↓Bool.and_eq_true, ↓Bool.and_eq_false_iff, ↓Bool.not_eq_true', ↓Bool.not_eq_false', ↓decide_eq_true_eq, ↓decide_eq_false_iff_not, ↓beq_iff_eq, ↓bne_iff_ne, ↓bne_eq_false_iff_eq, ↓ne_eq, ↓beq_eq_false_iff_ne, ↓Bool.not_eq_true] at hc; try simp only [Ty.dflt, Int.toNat_natCast] at hc)
    have hr : ¬ (r < 1 ∨ r > 4) := by have := hc r (by simp); omega
    (repeat (first | refine zs rfl ?_ | refine zg rfl rfl rfl ?_ | refine zd ?_ | refine JK.fin ?_ | refine JK.ret ?_ | refine zc rfl (fn49 _ _ _) rfl rfl ?_ | refine ze rfl (fn49 _ _ _) rfl ?_ | refine zk rfl rfl (fun _ => fn49 _ _ _) rfl rfl ?_))
    refine JK.cond rfl (fun hc2 => ?_) (fun hc2 => ?_)
    · (simp only [↓bif_or, ↓bif_and, ↓Bool.or_eq_true, ↓Bool.or_eq_false_iff, ↓Bool.and_eq_true, ↓Bool.and_eq_false_iff, ↓Bool.not_eq_true', ↓Bool.not_eq_false', ↓decide_eq_true_eq, ↓decide_eq_false_iff_not, ↓beq_iff_eq, ↓bne_iff_ne, ↓bne_eq_false_iff_eq, ↓ne_eq, ↓beq_eq_false_iff_ne, ↓Bool.not_eq_true] at hc2; try simp only [Ty.dflt, Int.toNat_natCast] at hc2)
      have hl : xs.length < 1 ∨ xs.length > 24 := by
        by_cases h : xs.length < 1 ∨ xs.length > 24
        · exact h
        · exact absurd (fun x hx => by simp at hx; subst hx; (try dsimp only); omega) hc2
      (repeat (first | refine zs rfl ?_ | refine zg rfl rfl rfl ?_ | refine zd ?_ | refine JK.fin ?_ | refine JK.ret ?_))
      refine ⟨.inl rfl, _, _, rfl, trivial, ?_⟩
      rw [dayErr, if_neg hr, if_pos hl]
    · (simp only [↓bif_or, ↓bif_and, ↓Bool.or_eq_true, ↓Bool.or_eq_false_iff, ↓Bool.and_eq_true, ↓Bool.and_eq_false_iff, ↓Bool.not_eq_true', ↓Bool.not_eq_false', ↓decide_eq_true_eq, ↓decide_eq_false_iff_not, ↓beq_iff_eq, ↓bne_iff_ne, ↓bne_eq_false_iff_eq, ↓ne_eq, ↓beq_eq_false_iff_ne, ↓Bool.not_eq_true] at hc2; try simp only [Ty.dflt, Int.toNat_natCast] at hc2)
      have hl : ¬ (xs.length < 1 ∨ xs.length > 24) := by have := hc2 xs.length (by simp); omega
      (repeat (first | refine zs rfl ?_ | refine zg rfl rfl rfl ?_ | refine zd ?_ | refine JK.fin ?_ | refine JK.ret ?_ | refine zc rfl (fn49 _ _ _) rfl rfl ?_ | refine ze rfl (fn49 _ _ _) rfl ?_ | refine zk rfl rfl (fun _ => fn49 _ _ _) rfl rfl ?_))
      refine JK.cond rfl (fun hc3 => ?_) (fun hc3 => ?_)
      · (simp only [↓bif_or, ↓bif_and, ↓Bool.or_eq_true, ↓Bool.or_eq_false_iff, ↓Bool.and_eq_true, ↓Bool.and_eq_false_iff, ↓Bool.not_eq_true', ↓Bool.not_eq_false', ↓decide_eq_true_eq, ↓decide_eq_false_iff_not, ↓beq_iff_eq, ↓bne_iff_ne, ↓bne_eq_false_iff_eq, ↓ne_eq, ↓beq_eq_false_iff_ne, ↓Bool.not_eq_true] at hc3; try simp only [Ty.dflt, Int.toNat_natCast] at hc3)
        (repeat (first | refine zs rfl ?_ | refine zg rfl rfl rfl ?_ | refine zd ?_ | refine JK.fin ?_ | refine JK.ret ?_))
        refine ⟨.inl rfl, _, _, rfl, trivial, ?_⟩
        rw [dayErr, if_neg hr, if_neg hl, if_neg hc3]
      · (simp only [↓bif_or, ↓bif_and, ↓Bool.or_eq_true, ↓Bool.or_eq_false_iff, ↓Bool.and_eq_true, ↓Bool.and_eq_false_iff, ↓Bool.not_eq_true', ↓Bool.not_eq_false', ↓decide_eq_true_eq, ↓decide_eq_false_iff_not, ↓beq_iff_eq, ↓bne_iff_ne, ↓bne_eq_false_iff_eq, ↓ne_eq, ↓beq_eq_false_iff_ne, ↓Bool.not_eq_true] at hc3; try simp only [Ty.dflt, Int.toNat_natCast] at hc3)
        (repeat (first | refine zs rfl ?_ | refine zg rfl rfl rfl ?_ | refine zd ?_ | refine JK.fin ?_ | refine JK.ret ?_))
        refine ⟨.inl rfl, _, _, rfl, trivial, ?_⟩
        rw [dayErr, if_neg hr, if_neg hl, if_pos hc3]

/-- The book before a book, or the error. -/
def beforeS (r : Int) (xs : List Int) (n : Int) : Int × Int :=
  if dayErr r xs ≠ 0 then (0, dayErr r xs) else if 0 ≤ n ∧ n < xs.length then (if lastB xs (xs.getD n.toNat 0) n.toNat < 0 then (0, 5) else (lastB xs (xs.getD n.toNat 0) n.toNat, 0)) else (0, 2)

abbrev vT2 (a b : Int) : AV := .tup (.acons (vI a) (.acons (vI b) .anil))

theorem fn18 (r : Int) (xs : List Int) (n : Int) : Ox.Fn Go.Proofs.Try.prog 18 (.acons (vD r xs) (.acons (vI n) .anil)) (· = vT2 (beforeS r xs n).1 (beforeS r xs n).2) := by
  refine Ox.Fn.intro xok Go.Proofs.Try.func18 rfl Go.Proofs.Try.call18 (Nat.le_of_ble_eq_true rfl) (fun E M0 up => ?_)
  refine JK.start ?_
  (repeat (first | refine zs rfl ?_ | refine zg rfl rfl rfl ?_ | refine zd ?_ | refine JK.fin ?_ | refine JK.ret ?_ | refine zc rfl (fn20 _ _) rfl rfl ?_ | refine ze rfl (fn20 _ _) rfl ?_ | refine zk rfl rfl (fun _ => fn20 _ _) rfl rfl ?_))
  refine JK.cond rfl (fun hc => ?_) (fun hc => ?_)
  · (simp only [↓bif_or, ↓bif_and, ↓Bool.or_eq_true, ↓Bool.or_eq_false_iff, ↓Bool.and_eq_true, ↓Bool.and_eq_false_iff, ↓Bool.not_eq_true', ↓Bool.not_eq_false', ↓decide_eq_true_eq, ↓decide_eq_false_iff_not, ↓beq_iff_eq, ↓bne_iff_ne, ↓bne_eq_false_iff_eq, ↓ne_eq, ↓beq_eq_false_iff_ne, ↓Bool.not_eq_true] at hc; try simp only [Ty.dflt, Int.toNat_natCast] at hc)
    (repeat (first | refine zs rfl ?_ | refine zg rfl rfl rfl ?_ | refine zd ?_ | refine JK.fin ?_ | refine JK.ret ?_ | refine zc rfl (fn20 _ _) rfl rfl ?_ | refine ze rfl (fn20 _ _) rfl ?_ | refine zk rfl rfl (fun _ => fn20 _ _) rfl rfl ?_))
    refine ⟨.inl rfl, _, _, rfl, trivial, ?_⟩
    rw [beforeS, if_pos hc]
  · (simp only [↓bif_or, ↓bif_and, ↓Bool.or_eq_true, ↓Bool.or_eq_false_iff, ↓Bool.and_eq_true, ↓Bool.and_eq_false_iff, ↓Bool.not_eq_true', ↓Bool.not_eq_false', ↓decide_eq_true_eq, ↓decide_eq_false_iff_not, ↓beq_iff_eq, ↓bne_iff_ne, ↓bne_eq_false_iff_eq, ↓ne_eq, ↓beq_eq_false_iff_ne, ↓Bool.not_eq_true] at hc; try simp only [Ty.dflt, Int.toNat_natCast] at hc)
    (repeat (first | refine zs rfl ?_ | refine zg rfl rfl rfl ?_ | refine zd ?_ | refine JK.fin ?_ | refine JK.ret ?_ | refine zc rfl (fn47 _ _ _) rfl rfl ?_ | refine ze rfl (fn47 _ _ _) rfl ?_ | refine zk rfl rfl (fun _ => fn47 _ _ _) rfl rfl ?_))
    refine JK.cond rfl (fun hc2 => ?_) (fun hc2 => ?_)
    · (simp only [↓bif_or, ↓bif_and, ↓Bool.or_eq_true, ↓Bool.or_eq_false_iff, ↓Bool.and_eq_true, ↓Bool.and_eq_false_iff, ↓Bool.not_eq_true', ↓Bool.not_eq_false', ↓decide_eq_true_eq, ↓decide_eq_false_iff_not, ↓beq_iff_eq, ↓bne_iff_ne, ↓bne_eq_false_iff_eq, ↓ne_eq, ↓beq_eq_false_iff_ne, ↓Bool.not_eq_true] at hc2; try simp only [Ty.dflt, Int.toNat_natCast] at hc2)
      (repeat (first | refine zs rfl ?_ | refine zg rfl rfl rfl ?_ | refine zd ?_ | refine JK.fin ?_ | refine JK.ret ?_))
      refine ⟨.inl rfl, _, _, rfl, trivial, ?_⟩
      rw [beforeS, if_neg (by simpa using hc), if_neg hc2]
    · (simp only [↓bif_or, ↓bif_and, ↓Bool.or_eq_true, ↓Bool.or_eq_false_iff, ↓Bool.and_eq_true, ↓Bool.and_eq_false_iff, ↓Bool.not_eq_true', ↓Bool.not_eq_false', ↓decide_eq_true_eq, ↓decide_eq_false_iff_not, ↓beq_iff_eq, ↓bne_iff_ne, ↓bne_eq_false_iff_eq, ↓ne_eq, ↓beq_eq_false_iff_ne, ↓Bool.not_eq_true] at hc2; try simp only [Ty.dflt, Int.toNat_natCast] at hc2)
      obtain ⟨m, rfl⟩ := Int.eq_ofNat_of_zero_le hc2.1
      have hm : m < xs.length := by omega
      (repeat (first | refine zs rfl ?_ | refine zg rfl rfl rfl ?_ | refine zd ?_ | refine JK.fin ?_ | refine JK.ret ?_ | refine zc rfl (fn48 _ _ _ hm) rfl rfl ?_ | refine ze rfl (fn48 _ _ _ hm) rfl ?_ | refine zk rfl rfl (fun _ => fn48 _ _ _ hm) rfl rfl ?_))
      refine JK.cond rfl (fun hc3 => ?_) (fun hc3 => ?_)
      · (simp only [↓bif_or, ↓bif_and, ↓Bool.or_eq_true, ↓Bool.or_eq_false_iff, ↓Bool.and_eq_true, ↓Bool.and_eq_false_iff, ↓Bool.not_eq_true', ↓Bool.not_eq_false', ↓decide_eq_true_eq, ↓decide_eq_false_iff_not, ↓beq_iff_eq, ↓bne_iff_ne, ↓bne_eq_false_iff_eq, ↓ne_eq, ↓beq_eq_false_iff_ne, ↓Bool.not_eq_true] at hc3; try simp only [Ty.dflt, Int.toNat_natCast] at hc3)
        (repeat (first | refine zs rfl ?_ | refine zg rfl rfl rfl ?_ | refine zd ?_ | refine JK.fin ?_ | refine JK.ret ?_))
        refine ⟨.inl rfl, _, _, rfl, trivial, ?_⟩
        rw [beforeS, if_neg (by simpa using hc), if_pos hc2, Int.toNat_natCast, if_pos hc3]
      · (simp only [↓bif_or, ↓bif_and, ↓Bool.or_eq_true, ↓Bool.or_eq_false_iff, ↓Bool.and_eq_true, ↓Bool.and_eq_false_iff, ↓Bool.not_eq_true', ↓Bool.not_eq_false', ↓decide_eq_true_eq, ↓decide_eq_false_iff_not, ↓beq_iff_eq, ↓bne_iff_ne, ↓bne_eq_false_iff_eq, ↓ne_eq, ↓beq_eq_false_iff_ne, ↓Bool.not_eq_true] at hc3; try simp only [Ty.dflt, Int.toNat_natCast] at hc3)
        (repeat (first | refine zs rfl ?_ | refine zg rfl rfl rfl ?_ | refine zd ?_ | refine JK.fin ?_ | refine JK.ret ?_ | refine zc rfl (fn48 _ _ _ hm) rfl rfl ?_ | refine ze rfl (fn48 _ _ _ hm) rfl ?_ | refine zk rfl rfl (fun _ => fn48 _ _ _ hm) rfl rfl ?_))
        refine ⟨.inl rfl, _, _, rfl, trivial, ?_⟩
        rw [beforeS, if_neg (by simpa using hc), if_pos hc2, Int.toNat_natCast, if_neg hc3]
end Go.Proofs.Ytbmgijgnbilnoaa

namespace Go.Proofs.Ytbmgijgnbilnoaa
open Go Go.RowKit Ox
set_option maxHeartbeats 1000000
attribute [local irreducible] JC JL JK JW

abbrev binT : Ty := .cons dayT (.cons (.slice (.int .i64)) (.cons (.slice (.int .i64)) .nil))

/-- The books before the first 'k' books. -/
def lasts (xs : List Int) (k : Nat) : List Int := (List.range k).map fun i => lastB xs (xs.getD i 0) i
/-- The next books, as far as the first 'k' books say. -/
def nexts (xs : List Int) : Nat → List Int
  | 0 => []
  | k + 1 => bif decide (0 ≤ lastB xs (xs.getD k 0) k) then (nexts xs k ++ [-1]).set (lastB xs (xs.getD k 0) k).toNat k else nexts xs k ++ [-1]
/-- One more than the last book before the k-th for each block. -/
def seenB (xs : List Int) (k : Nat) : List Int := (List.range 8).map fun (b : Nat) => lastB xs (b : Int) k + 1

abbrev vBin (r : Int) (xs : List Int) : AV := .val (.ptr binT) (some ((r, xs, ()), lasts xs xs.length, nexts xs xs.length, ()))

theorem lasts_succ (xs : List Int) (k : Nat) : lasts xs (k + 1) = lasts xs k ++ [lastB xs (xs.getD k 0) k] := by simp [lasts, List.range_succ]
theorem lasts_length (xs : List Int) (k : Nat) : (lasts xs k).length = k := by simp [lasts]
theorem nexts_length (xs : List Int) : ∀ k, (nexts xs k).length = k
  | 0 => rfl
  | k + 1 => by rw [nexts]; cases decide (0 ≤ lastB xs (xs.getD k 0) k) <;> simp [nexts_length xs k]
theorem lastB_bd (xs : List Int) (x : Int) : ∀ k, -1 ≤ lastB xs x k ∧ lastB xs x k < k
  | 0 => by simp [lastB]
  | k + 1 => by have := lastB_bd xs x k; rw [lastB]; split <;> omega
theorem seenB_get (xs : List Int) (k : Nat) {b : Int} (h0 : 0 ≤ b) (h7 : b ≤ 7) : (seenB xs k).getD b.toNat 0 = lastB xs b k + 1 := by
  have h : b.toNat < 8 := by omega
  rw [seenB, List.getD_eq_getElem?_getD, List.getElem?_map, List.getElem?_range h]
  simp [Int.toNat_of_nonneg h0]
theorem seenB_succ (xs : List Int) (k : Nat) {b : Int} (h0 : 0 ≤ b) (h7 : b ≤ 7) (hb : xs.getD k 0 = b) : (seenB xs k).set b.toNat (k + 1) = seenB xs (k + 1) := by
  apply List.ext_getElem (by simp [seenB])
  intro i h1 h2
  have h2' : i < 8 := by simpa [seenB] using h2
  rw [List.getElem_set]
  simp only [seenB, List.getElem_map, List.getElem_range, lastB, hb]
  split
  · rename_i e; rw [if_pos (by omega)]
  · rename_i e; rw [if_neg (by omega)]

theorem fn56 (r : Int) (xs : List Int) (hx : ∀ x ∈ xs, 0 ≤ x ∧ x ≤ 7) (hl : xs.length ≤ 24) : Ox.Fn Go.Proofs.Try.prog 56 (.acons (vD r xs) .anil) (· = vBin r xs) := by
  refine Ox.Fn.intro xok Go.Proofs.Try.func56 rfl Go.Proofs.Try.call56 (Nat.le_of_ble_eq_true rfl) (fun E M0 up => ?_)
  refine JK.start ?_
  (repeat (first | refine zs rfl ?_ | refine zg rfl rfl rfl ?_ | refine zd ?_ | refine JK.fin ?_ | refine JK.ret ?_))
  refine JK.ghostC 1 1 3 (.int .i64) rfl rfl ?_
  refine JK.ghostC 1 2 3 (.int .i64) rfl rfl ?_
  refine JK.loop (fun k : Nat => ⟨[(3, .lf (.optr 1 [])), (4, .lf (.optr 2 [])), (12, vL xs), (13, vI xs.length), (14, vI (k : Int))],
    [(1, .cell binT (.mix (vD r xs) (.mix (.lf (.osl 3)) (.mix (.lf (.osl 4)) (.val .nil ()))))), (2, .cell (.arr 8 (.int .i64)) (.val (.arr 8 (.int .i64)) (seenB xs k))), (3, .sl 3 (.int .i64) (lasts xs k)), (4, .sl 3 (.int .i64) (nexts xs k))], 5⟩)
    (fun k => k ≤ xs.length) (fun k => xs.length - k) 0 (by simp) (by (exact JW.Auto rfl)) fun k hk => ?_
  (repeat (first | refine zs rfl ?_ | refine zg rfl rfl rfl ?_ | refine zd ?_ | refine JK.fin ?_ | refine JK.ret ?_))
  refine JK.cond rfl (fun hc => ?_) (fun hc => ?_)
  · (simp only [↓bif_or, ↓bif_and, ↓Bool.or_eq_true, ↓Bool.or_eq_false_iff, ↓Bool.and_eq_true, ↓Bool.and_eq_false_iff, ↓Bool.not_eq_true', ↓Bool.not_eq_false', ↓decide_eq_true_eq, ↓decide_eq_false_iff_not, ↓beq_iff_eq, ↓bne_iff_ne, ↓bne_eq_false_iff_eq, ↓ne_eq, ↓beq_eq_false_iff_ne, ↓Bool.not_eq_true] at hc; try simp only [Ty.dflt, Int.toNat_natCast] at hc)
    have hk' : k < xs.length := by omega
    have hb := hx (xs.getD k 0) (by rw [getD_nat xs hk']; exact List.getElem_mem hk')
    have hlb := lastB_bd xs (xs.getD k 0) k
    have hsb := seenB_get xs k hb.1 hb.2
    have hll := lasts_length xs k
    have hnl := nexts_length xs k
    generalize hlv : lastB xs (xs.getD k 0) k = lv at hlb hsb
    (repeat (first | refine zs rfl ?_ | refine zg rfl rfl rfl ?_ | refine JK.fin ?_ | refine JK.ret ?_))
    refine JK.drawTo (xok rfl rfl rfl rfl) (Go.Proofs.Try.f56.body.getD .skip) ⟨[(3, .lf (.optr 1 [])), (4, .lf (.optr 2 [])), (5, vI k), (6, vI (xs.getD k 0)), (12, vL xs), (13, vI xs.length), (14, vI (k : Int))],
    [(1, .cell binT (.mix (vD r xs) (.mix (.lf (.osl 3)) (.mix (.lf (.osl 4)) (.val .nil ()))))), (2, .cell (.arr 8 (.int .i64)) (.val (.arr 8 (.int .i64)) (seenB xs k))), (3, .sl 3 (.int .i64) (lasts xs k ++ [(seenB xs k).getD (xs.getD k 0).toNat 0 - 1])), (4, .sl 3 (.int .i64) (nexts xs k ++ [-1]))], 5⟩ rfl 24 rfl ?_ ?_
    · (refine JF.First 0 (xok rfl rfl rfl rfl) rfl rfl ?_; refine JF.First 1 (xok rfl rfl rfl rfl) rfl rfl ?_; refine JF.First 2 (xok rfl rfl rfl rfl) rfl rfl ?_; refine JF.First 3 (xok rfl rfl rfl rfl) rfl rfl ?_; refine JF.First 4 (xok rfl rfl rfl rfl) rfl rfl ?_; refine JF.First 6 (xok rfl rfl rfl rfl) rfl rfl ?_; refine JF.First 7 (xok rfl rfl rfl rfl) rfl rfl ?_; refine JF.First 12 (xok rfl rfl rfl rfl) rfl rfl ?_; refine JF.First 13 (xok rfl rfl rfl rfl) rfl rfl ?_; refine JF.First 14 (xok rfl rfl rfl rfl) rfl rfl ?_; refine JF.Float 5 (xok rfl rfl rfl rfl) rfl rfl ?_; refine JF.Float 8 (xok rfl rfl rfl rfl) rfl rfl ?_; refine JF.Float 9 (xok rfl rfl rfl rfl) rfl rfl ?_; refine JF.Float 15 (xok rfl rfl rfl rfl) rfl rfl ?_; refine JF.Branch 10 [16] (xok rfl rfl rfl rfl) ?_ ?_; (focus (repeat (first | exact StF.nil | refine StF.One rfl rfl rfl ?_))); refine BrF.one rfl rfl ?_ (BrF.one rfl rfl ?_ BrF.nil); (· (first | refine JL.Q1 (xok rfl rfl rfl rfl) rfl rfl ?_ | refine JL.G1 (xok rfl rfl rfl rfl) rfl rfl rfl ?_ | refine JL.M1 (xok rfl rfl rfl rfl) rfl rfl ?_ | refine JL.M0 (xok rfl rfl rfl rfl) rfl ?_ | refine JL.Q0 (xok rfl rfl rfl rfl) rfl ?_); refine JL.finN ?_; refine JF.Branch 11 [16] (xok rfl rfl rfl rfl) ?_ ?_; (focus (repeat (first | exact StF.nil | refine StF.One rfl rfl rfl ?_))); refine BrF.one rfl rfl ?_ (BrF.one rfl rfl ?_ BrF.nil); (· (first | refine JL.Q1 (xok rfl rfl rfl rfl) rfl rfl ?_ | refine JL.G1 (xok rfl rfl rfl rfl) rfl rfl rfl ?_ | refine JL.M1 (xok rfl rfl rfl rfl) rfl rfl ?_ | refine JL.M0 (xok rfl rfl rfl rfl) rfl ?_ | refine JL.Q0 (xok rfl rfl rfl rfl) rfl ?_); refine JL.finN ?_; refine JF.Branch 16 [] (xok rfl rfl rfl rfl) ?_ ?_; (focus (repeat (first | exact StF.nil | refine StF.One rfl rfl rfl ?_))); refine BrF.one rfl rfl ?_ BrF.nil; (· (first | refine JL.Q1 (xok rfl rfl rfl rfl) rfl rfl ?_ | refine JL.G1 (xok rfl rfl rfl rfl) rfl rfl rfl ?_ | refine JL.M1 (xok rfl rfl rfl rfl) rfl rfl ?_ | refine JL.M0 (xok rfl rfl rfl rfl) rfl ?_ | refine JL.Q0 (xok rfl rfl rfl rfl) rfl ?_); refine JL.finN ?_; refine JF.Branch 17 [] (xok rfl rfl rfl rfl) ?_ ?_; (focus (repeat (first | exact StF.nil | refine StF.One rfl rfl rfl ?_))); refine BrF.one rfl rfl ?_ BrF.nil; (· (first | refine JL.Q1 (xok rfl rfl rfl rfl) rfl rfl ?_ | refine JL.G1 (xok rfl rfl rfl rfl) rfl rfl rfl ?_ | refine JL.M1 (xok rfl rfl rfl rfl) rfl rfl ?_ | refine JL.M0 (xok rfl rfl rfl rfl) rfl ?_ | refine JL.Q0 (xok rfl rfl rfl rfl) rfl ?_); refine JL.finN ?_; refine JF.Float 18 (xok rfl rfl rfl rfl) rfl rfl ?_; refine JF.Float 19 (xok rfl rfl rfl rfl) rfl rfl ?_; refine JF.Branch 20 [] (xok rfl rfl rfl rfl) ?_ ?_; (focus (repeat (first | exact StF.nil | refine StF.One rfl rfl rfl ?_))); refine BrF.one rfl rfl ?_ BrF.nil; (· (first | refine JL.Q1 (xok rfl rfl rfl rfl) rfl rfl ?_ | refine JL.G1 (xok rfl rfl rfl rfl) rfl rfl rfl ?_ | refine JL.M1 (xok rfl rfl rfl rfl) rfl rfl ?_ | refine JL.M0 (xok rfl rfl rfl rfl) rfl ?_ | refine JL.Q0 (xok rfl rfl rfl rfl) rfl ?_); refine JL.finN ?_; refine JF.Float 21 (xok rfl rfl rfl rfl) rfl rfl ?_; refine JF.Float 22 (xok rfl rfl rfl rfl) rfl rfl ?_; refine JF.Branch 23 [] (xok rfl rfl rfl rfl) ?_ ?_; (focus (repeat (first | exact StF.nil | refine StF.One rfl rfl rfl ?_))); refine BrF.one rfl rfl ?_ BrF.nil; (· (first | refine JL.Q1 (xok rfl rfl rfl rfl) rfl rfl ?_ | refine JL.G1 (xok rfl rfl rfl rfl) rfl rfl rfl ?_ | refine JL.M1 (xok rfl rfl rfl rfl) rfl rfl ?_ | refine JL.M0 (xok rfl rfl rfl rfl) rfl ?_ | refine JL.Q0 (xok rfl rfl rfl rfl) rfl ?_); refine JL.finN ?_; refine JF.Done (xok rfl rfl rfl rfl) ?_ ?_; (focus (repeat (first | exact StF.nil | refine StF.One rfl rfl rfl ?_))); ((exact JW.Auto rfl))))))); (· (first | refine JL.Q1 (xok rfl rfl rfl rfl) rfl rfl ?_ | refine JL.G1 (xok rfl rfl rfl rfl) rfl rfl rfl ?_ | refine JL.M1 (xok rfl rfl rfl rfl) rfl rfl ?_ | refine JL.M0 (xok rfl rfl rfl rfl) rfl ?_ | refine JL.Q0 (xok rfl rfl rfl rfl) rfl ?_); refine JL.finN ?_; refine JF.Branch 11 [] (xok rfl rfl rfl rfl) ?_ ?_; (focus (repeat (first | exact StF.nil | refine StF.One rfl rfl rfl ?_))); refine BrF.one rfl rfl ?_ BrF.nil; (· (first | refine JL.Q1 (xok rfl rfl rfl rfl) rfl rfl ?_ | refine JL.G1 (xok rfl rfl rfl rfl) rfl rfl rfl ?_ | refine JL.M1 (xok rfl rfl rfl rfl) rfl rfl ?_ | refine JL.M0 (xok rfl rfl rfl rfl) rfl ?_ | refine JL.Q0 (xok rfl rfl rfl rfl) rfl ?_); refine JL.finN ?_; refine JF.Branch 17 [] (xok rfl rfl rfl rfl) ?_ ?_; (focus (repeat (first | exact StF.nil | refine StF.One rfl rfl rfl ?_))); refine BrF.one rfl rfl ?_ BrF.nil; (· (first | refine JL.Q1 (xok rfl rfl rfl rfl) rfl rfl ?_ | refine JL.G1 (xok rfl rfl rfl rfl) rfl rfl rfl ?_ | refine JL.M1 (xok rfl rfl rfl rfl) rfl rfl ?_ | refine JL.M0 (xok rfl rfl rfl rfl) rfl ?_ | refine JL.Q0 (xok rfl rfl rfl rfl) rfl ?_); refine JL.finN ?_; refine JF.Float 18 (xok rfl rfl rfl rfl) rfl rfl ?_; refine JF.Float 19 (xok rfl rfl rfl rfl) rfl rfl ?_; refine JF.Branch 20 [] (xok rfl rfl rfl rfl) ?_ ?_; (focus (repeat (first | exact StF.nil | refine StF.One rfl rfl rfl ?_))); refine BrF.one rfl rfl ?_ BrF.nil; (· (first | refine JL.Q1 (xok rfl rfl rfl rfl) rfl rfl ?_ | refine JL.G1 (xok rfl rfl rfl rfl) rfl rfl rfl ?_ | refine JL.M1 (xok rfl rfl rfl rfl) rfl rfl ?_ | refine JL.M0 (xok rfl rfl rfl rfl) rfl ?_ | refine JL.Q0 (xok rfl rfl rfl rfl) rfl ?_); refine JL.finN ?_; refine JF.Float 21 (xok rfl rfl rfl rfl) rfl rfl ?_; refine JF.Float 22 (xok rfl rfl rfl rfl) rfl rfl ?_; refine JF.Branch 23 [] (xok rfl rfl rfl rfl) ?_ ?_; (focus (repeat (first | exact StF.nil | refine StF.One rfl rfl rfl ?_))); refine BrF.one rfl rfl ?_ BrF.nil; (· (first | refine JL.Q1 (xok rfl rfl rfl rfl) rfl rfl ?_ | refine JL.G1 (xok rfl rfl rfl rfl) rfl rfl rfl ?_ | refine JL.M1 (xok rfl rfl rfl rfl) rfl rfl ?_ | refine JL.M0 (xok rfl rfl rfl rfl) rfl ?_ | refine JL.Q0 (xok rfl rfl rfl rfl) rfl ?_); refine JL.finN ?_; refine JF.Done (xok rfl rfl rfl rfl) ?_ ?_; (focus (repeat (first | exact StF.nil | refine StF.One rfl rfl rfl ?_))); ((exact JW.Auto rfl)))))))); (· (first | refine JL.Q1 (xok rfl rfl rfl rfl) rfl rfl ?_ | refine JL.G1 (xok rfl rfl rfl rfl) rfl rfl rfl ?_ | refine JL.M1 (xok rfl rfl rfl rfl) rfl rfl ?_ | refine JL.M0 (xok rfl rfl rfl rfl) rfl ?_ | refine JL.Q0 (xok rfl rfl rfl rfl) rfl ?_); refine JL.finN ?_; refine JF.Branch 10 [] (xok rfl rfl rfl rfl) ?_ ?_; (focus (repeat (first | exact StF.nil | refine StF.One rfl rfl rfl ?_))); refine BrF.one rfl rfl ?_ BrF.nil; (· (first | refine JL.Q1 (xok rfl rfl rfl rfl) rfl rfl ?_ | refine JL.G1 (xok rfl rfl rfl rfl) rfl rfl rfl ?_ | refine JL.M1 (xok rfl rfl rfl rfl) rfl rfl ?_ | refine JL.M0 (xok rfl rfl rfl rfl) rfl ?_ | refine JL.Q0 (xok rfl rfl rfl rfl) rfl ?_); refine JL.finN ?_; refine JF.Branch 11 [] (xok rfl rfl rfl rfl) ?_ ?_; (focus (repeat (first | exact StF.nil | refine StF.One rfl rfl rfl ?_))); refine BrF.one rfl rfl ?_ BrF.nil; (· (first | refine JL.Q1 (xok rfl rfl rfl rfl) rfl rfl ?_ | refine JL.G1 (xok rfl rfl rfl rfl) rfl rfl rfl ?_ | refine JL.M1 (xok rfl rfl rfl rfl) rfl rfl ?_ | refine JL.M0 (xok rfl rfl rfl rfl) rfl ?_ | refine JL.Q0 (xok rfl rfl rfl rfl) rfl ?_); refine JL.finN ?_; refine JF.Branch 17 [] (xok rfl rfl rfl rfl) ?_ ?_; (focus (repeat (first | exact StF.nil | refine StF.One rfl rfl rfl ?_))); refine BrF.one rfl rfl ?_ BrF.nil; (· (first | refine JL.Q1 (xok rfl rfl rfl rfl) rfl rfl ?_ | refine JL.G1 (xok rfl rfl rfl rfl) rfl rfl rfl ?_ | refine JL.M1 (xok rfl rfl rfl rfl) rfl rfl ?_ | refine JL.M0 (xok rfl rfl rfl rfl) rfl ?_ | refine JL.Q0 (xok rfl rfl rfl rfl) rfl ?_); refine JL.finN ?_; refine JF.Float 18 (xok rfl rfl rfl rfl) rfl rfl ?_; refine JF.Float 19 (xok rfl rfl rfl rfl) rfl rfl ?_; refine JF.Branch 20 [] (xok rfl rfl rfl rfl) ?_ ?_; (focus (repeat (first | exact StF.nil | refine StF.One rfl rfl rfl ?_))); refine BrF.one rfl rfl ?_ BrF.nil; (· (first | refine JL.Q1 (xok rfl rfl rfl rfl) rfl rfl ?_ | refine JL.G1 (xok rfl rfl rfl rfl) rfl rfl rfl ?_ | refine JL.M1 (xok rfl rfl rfl rfl) rfl rfl ?_ | refine JL.M0 (xok rfl rfl rfl rfl) rfl ?_ | refine JL.Q0 (xok rfl rfl rfl rfl) rfl ?_); refine JL.finN ?_; refine JF.Float 21 (xok rfl rfl rfl rfl) rfl rfl ?_; refine JF.Float 22 (xok rfl rfl rfl rfl) rfl rfl ?_; refine JF.Branch 23 [] (xok rfl rfl rfl rfl) ?_ ?_; (focus (repeat (first | exact StF.nil | refine StF.One rfl rfl rfl ?_))); refine BrF.one rfl rfl ?_ BrF.nil; (· (first | refine JL.Q1 (xok rfl rfl rfl rfl) rfl rfl ?_ | refine JL.G1 (xok rfl rfl rfl rfl) rfl rfl rfl ?_ | refine JL.M1 (xok rfl rfl rfl rfl) rfl rfl ?_ | refine JL.M0 (xok rfl rfl rfl rfl) rfl ?_ | refine JL.Q0 (xok rfl rfl rfl rfl) rfl ?_); refine JL.finN ?_; refine JF.Done (xok rfl rfl rfl rfl) ?_ ?_; (focus (repeat (first | exact StF.nil | refine StF.One rfl rfl rfl ?_))); ((exact JW.Auto rfl)))))))))
    · rw [hsb, show lv + 1 - 1 = lv by omega, show lasts xs k ++ [lv] = lasts xs (k + 1) by rw [lasts_succ, hlv]]
      (repeat (first | refine zs rfl ?_ | refine zg rfl rfl rfl ?_ | refine zd ?_ | refine JK.fin ?_ | refine JK.ret ?_))
      refine JK.cond rfl (fun hd => ?_) (fun hd => ?_)
      · (simp only [↓bif_or, ↓bif_and, ↓Bool.or_eq_true, ↓Bool.or_eq_false_iff, ↓Bool.and_eq_true, ↓Bool.and_eq_false_iff, ↓Bool.not_eq_true', ↓Bool.not_eq_false', ↓decide_eq_true_eq, ↓decide_eq_false_iff_not, ↓beq_iff_eq, ↓bne_iff_ne, ↓bne_eq_false_iff_eq, ↓ne_eq, ↓beq_eq_false_iff_ne, ↓Bool.not_eq_true] at hd; try simp only [Ty.dflt, Int.toNat_natCast] at hd)
        rw [hsb] at hd
        have hnl1 : (nexts xs k ++ [(-1 : Int)]).length = k + 1 := by simp [hnl]
        (repeat (first | refine zs rfl ?_ | refine zg rfl rfl rfl ?_ | refine JK.fin ?_ | refine JK.ret ?_))
        refine JK.drawTo (xok rfl rfl rfl rfl) (Go.Proofs.Try.f56.body.getD .skip) ⟨[(3, .lf (.optr 1 [])), (4, .lf (.optr 2 [])), (5, vI k), (6, vI (xs.getD k 0)), (12, vL xs), (13, vI xs.length), (14, vI (k : Int))],
          [(1, .cell binT (.mix (vD r xs) (.mix (.lf (.osl 3)) (.mix (.lf (.osl 4)) (.val .nil ()))))), (2, .cell (.arr 8 (.int .i64)) (.val (.arr 8 (.int .i64)) (seenB xs k))), (3, .sl 3 (.int .i64) (lasts xs (k + 1))), (4, .sl 3 (.int .i64) ((nexts xs k ++ [-1]).set ((seenB xs k).getD (xs.getD k 0).toNat 0 - 1).toNat k))], 5⟩ rfl 11 rfl ?_ ?_
        · (refine JF.First 0 (xok rfl rfl rfl rfl) rfl rfl ?_; refine JF.First 1 (xok rfl rfl rfl rfl) rfl rfl ?_; refine JF.First 2 (xok rfl rfl rfl rfl) rfl rfl ?_; refine JF.First 4 (xok rfl rfl rfl rfl) rfl rfl ?_; refine JF.First 5 (xok rfl rfl rfl rfl) rfl rfl ?_; refine JF.First 8 (xok rfl rfl rfl rfl) rfl rfl ?_; refine JF.Float 3 (xok rfl rfl rfl rfl) rfl rfl ?_; refine JF.Float 6 (xok rfl rfl rfl rfl) rfl rfl ?_; refine JF.Float 7 (xok rfl rfl rfl rfl) rfl rfl ?_; refine JF.Float 9 (xok rfl rfl rfl rfl) rfl rfl ?_; refine JF.Branch 10 [] (xok rfl rfl rfl rfl) ?_ ?_; (focus (repeat (first | exact StF.nil | refine StF.One rfl rfl rfl ?_))); refine BrF.one rfl rfl ?_ BrF.nil; (· (first | refine JL.Q1 (xok rfl rfl rfl rfl) rfl rfl ?_ | refine JL.G1 (xok rfl rfl rfl rfl) rfl rfl rfl ?_ | refine JL.M1 (xok rfl rfl rfl rfl) rfl rfl ?_ | refine JL.M0 (xok rfl rfl rfl rfl) rfl ?_ | refine JL.Q0 (xok rfl rfl rfl rfl) rfl ?_); refine JL.finN ?_; refine JF.Done (xok rfl rfl rfl rfl) ?_ ?_; (focus (repeat (first | exact StF.nil | refine StF.One rfl rfl rfl ?_))); ((exact JW.Auto rfl))))
        · rw [hsb, show lv + 1 - 1 = lv by omega, show (nexts xs k ++ [(-1 : Int)]).set lv.toNat (k : Int) = nexts xs (k + 1) by rw [nexts, hlv, decide_eq_true (by omega : 0 ≤ lv)]; rfl]
          (repeat (first | refine zs rfl ?_ | refine zg rfl rfl rfl ?_ | refine zd ?_ | refine JK.fin ?_ | refine JK.ret ?_))
          exact ⟨k + 1, by (refine JW.auto rfl ?_ ?_ ?_ ?_ rfl <;> (repeat' (first | exact trivial | exact rfl | refine And.intro ?_ ?_ | exact Nat.le_of_ble_eq_true rfl | refine HO.bdF ?_ | refine HO.bdP ?_ | (refine congrArg (fun z : Int => some (AV.val (.int .i64) z)) ?_; push_cast; omega) | (refine congrArg (fun z : List Int => some (HO.cell (.arr 8 (.int .i64)) (AV.val (.arr 8 (.int .i64)) z))) ?_; exact seenB_succ xs k hb.1 hb.2 rfl)))), by omega, by omega⟩
      · (simp only [↓bif_or, ↓bif_and, ↓Bool.or_eq_true, ↓Bool.or_eq_false_iff, ↓Bool.and_eq_true, ↓Bool.and_eq_false_iff, ↓Bool.not_eq_true', ↓Bool.not_eq_false', ↓decide_eq_true_eq, ↓decide_eq_false_iff_not, ↓beq_iff_eq, ↓bne_iff_ne, ↓bne_eq_false_iff_eq, ↓ne_eq, ↓beq_eq_false_iff_ne, ↓Bool.not_eq_true] at hd; try simp only [Ty.dflt, Int.toNat_natCast] at hd)
        rw [hsb] at hd
        rw [show nexts xs k ++ [(-1 : Int)] = nexts xs (k + 1) by rw [nexts, hlv, decide_eq_false (by omega : ¬ 0 ≤ lv)]; rfl]
        (repeat (first | refine zs rfl ?_ | refine zg rfl rfl rfl ?_ | refine zd ?_ | refine JK.fin ?_ | refine JK.ret ?_))
        exact ⟨k + 1, by (refine JW.auto rfl ?_ ?_ ?_ ?_ rfl <;> (repeat' (first | exact trivial | exact rfl | refine And.intro ?_ ?_ | exact Nat.le_of_ble_eq_true rfl | refine HO.bdF ?_ | refine HO.bdP ?_ | (refine congrArg (fun z : Int => some (AV.val (.int .i64) z)) ?_; push_cast; omega) | (refine congrArg (fun z : List Int => some (HO.cell (.arr 8 (.int .i64)) (AV.val (.arr 8 (.int .i64)) z))) ?_; exact seenB_succ xs k hb.1 hb.2 rfl)))), by omega, by omega⟩
  · (simp only [↓bif_or, ↓bif_and, ↓Bool.or_eq_true, ↓Bool.or_eq_false_iff, ↓Bool.and_eq_true, ↓Bool.and_eq_false_iff, ↓Bool.not_eq_true', ↓Bool.not_eq_false', ↓decide_eq_true_eq, ↓decide_eq_false_iff_not, ↓beq_iff_eq, ↓bne_iff_ne, ↓bne_eq_false_iff_eq, ↓ne_eq, ↓beq_eq_false_iff_ne, ↓Bool.not_eq_true] at hc; try simp only [Ty.dflt, Int.toNat_natCast] at hc)
    (repeat (first | refine zs rfl ?_ | refine zg rfl rfl rfl ?_ | refine zd ?_ | refine JK.fin ?_ | refine JK.ret ?_))
    obtain rfl : k = xs.length := by omega
    refine ⟨.inl rfl, _, _, rfl, trivial, ?_⟩
    rfl
end Go.Proofs.Ytbmgijgnbilnoaa

namespace Go.Proofs.Ytbmgijgnbilnoaa
open Go Go.RowKit Ox
attribute [local irreducible] JC JL JK JW

abbrev binD := (Int × List Int × Unit) × List Int × List Int × Unit
abbrev mkBin (r : Int) (xs la ne : List Int) : binD := ((r, xs, ()), la, ne, ())
abbrev vB0 (r : Int) (xs la ne : List Int) : AV := .val (.ptr binT) (some (mkBin r xs la ne))
abbrev marT : Ty := .arr 8 (.int .i64)
abbrev vM (m : List Int) : AV := .val marT m
abbrev benT : Ty := .cons marT (.cons .bool .nil)
abbrev vBs (l : List (List Int × Bool × Unit)) : AV := .val (.slice benT) l

theorem take_snoc {α : Type} {xs : List α} {i : Nat} (h : i < xs.length) : xs.take (i + 1) = xs.take i ++ [xs[i]] := by
  rw [List.take_succ, List.getElem?_eq_getElem h]; rfl

theorem fn58 (r : Int) (xs la ne : List Int) : Ox.Fn Go.Proofs.Try.prog 58 (.acons (vB0 r xs la ne) .anil) (· = vI (la.countP (decide <| · < 0) : Nat)) := by
  refine Ox.Fn.intro xok Go.Proofs.Try.func58 rfl Go.Proofs.Try.call58 (Nat.le_of_ble_eq_true rfl) (fun E M0 up => ?_)
  refine JK.start ?_
  refine JK.lenOf 0 rfl fun hlen => ?_
  replace hlen : la.length ≤ 9223372036854775807 := hlen.2.1.1
  (repeat (first | refine zs rfl ?_ | refine zg rfl rfl rfl ?_ | refine zd ?_ | refine JK.fin ?_ | refine JK.ret ?_))
  refine JK.loop (fun i : Nat => ⟨[(3, vI ((la.take i).countP (decide <| · < 0) : Nat)), (9, vL la), (10, vI la.length), (11, vI (i : Int))], [], 0⟩) (fun i => i ≤ la.length) (fun i => la.length - i) 0 (by simp) (by (exact JW.Auto rfl)) fun i hi => ?_
  have hcp := List.countP_le_length (p := (decide <| · < (0 : Int))) (l := la.take i)
  have htl : (la.take i).length ≤ i := List.length_take_le _ _
  (repeat (first | refine zs rfl ?_ | refine zg rfl rfl rfl ?_ | refine zd ?_ | refine JK.fin ?_ | refine JK.ret ?_))
  refine JK.cond rfl (fun hc => ?_) (fun hc => ?_)
  · (simp only [↓bif_or, ↓bif_and, ↓Bool.or_eq_true, ↓Bool.or_eq_false_iff, ↓Bool.and_eq_true, ↓Bool.and_eq_false_iff, ↓Bool.not_eq_true', ↓Bool.not_eq_false', ↓decide_eq_true_eq, ↓decide_eq_false_iff_not, ↓beq_iff_eq, ↓bne_iff_ne, ↓bne_eq_false_iff_eq, ↓ne_eq, ↓beq_eq_false_iff_ne, ↓Bool.not_eq_true] at hc; try simp only [Ty.dflt, Int.toNat_natCast] at hc)
    have hi' : i < la.length := by omega
    have hg := getD_nat la hi' 0
    (repeat (first | refine zs rfl ?_ | refine zg rfl rfl rfl ?_ | refine zd ?_ | refine JK.fin ?_ | refine JK.ret ?_))
    refine JK.cond rfl (fun hd => ?_) (fun hd => ?_)
    · (simp only [↓bif_or, ↓bif_and, ↓Bool.or_eq_true, ↓Bool.or_eq_false_iff, ↓Bool.and_eq_true, ↓Bool.and_eq_false_iff, ↓Bool.not_eq_true', ↓Bool.not_eq_false', ↓decide_eq_true_eq, ↓decide_eq_false_iff_not, ↓beq_iff_eq, ↓bne_iff_ne, ↓bne_eq_false_iff_eq, ↓ne_eq, ↓beq_eq_false_iff_ne, ↓Bool.not_eq_true] at hd; try simp only [Ty.dflt, Int.toNat_natCast] at hd)
      rw [hg] at hd
      (repeat (first | refine zs rfl ?_ | refine zg rfl rfl rfl ?_ | refine zd ?_ | refine JK.fin ?_ | refine JK.ret ?_))
      exact ⟨i + 1, by (refine JW.auto rfl ?_ ?_ ?_ ?_ rfl <;> (repeat' (first | exact trivial | exact rfl | refine And.intro ?_ ?_ | exact Nat.le_of_ble_eq_true rfl | refine HO.bdF ?_ | refine HO.bdP ?_ | (refine congrArg (fun z : Int => some (AV.val (.int .i64) z)) ?_; push_cast; omega) | (refine congrArg (fun z : Int => some (AV.val (.int .i64) z)) ?_; rw [take_snoc hi', List.countP_append]; simp [hd])))), by omega, by omega⟩
    · (simp only [↓bif_or, ↓bif_and, ↓Bool.or_eq_true, ↓Bool.or_eq_false_iff, ↓Bool.and_eq_true, ↓Bool.and_eq_false_iff, ↓Bool.not_eq_true', ↓Bool.not_eq_false', ↓decide_eq_true_eq, ↓decide_eq_false_iff_not, ↓beq_iff_eq, ↓bne_iff_ne, ↓bne_eq_false_iff_eq, ↓ne_eq, ↓beq_eq_false_iff_ne, ↓Bool.not_eq_true] at hd; try simp only [Ty.dflt, Int.toNat_natCast] at hd)
      rw [hg] at hd
      (repeat (first | refine zs rfl ?_ | refine zg rfl rfl rfl ?_ | refine zd ?_ | refine JK.fin ?_ | refine JK.ret ?_))
      exact ⟨i + 1, by (refine JW.auto rfl ?_ ?_ ?_ ?_ rfl <;> (repeat' (first | exact trivial | exact rfl | refine And.intro ?_ ?_ | exact Nat.le_of_ble_eq_true rfl | refine HO.bdF ?_ | refine HO.bdP ?_ | (refine congrArg (fun z : Int => some (AV.val (.int .i64) z)) ?_; push_cast; omega) | (refine congrArg (fun z : Int => some (AV.val (.int .i64) z)) ?_; rw [take_snoc hi', List.countP_append]; simp [hd])))), by omega, by omega⟩
  · (simp only [↓bif_or, ↓bif_and, ↓Bool.or_eq_true, ↓Bool.or_eq_false_iff, ↓Bool.and_eq_true, ↓Bool.and_eq_false_iff, ↓Bool.not_eq_true', ↓Bool.not_eq_false', ↓decide_eq_true_eq, ↓decide_eq_false_iff_not, ↓beq_iff_eq, ↓bne_iff_ne, ↓bne_eq_false_iff_eq, ↓ne_eq, ↓beq_eq_false_iff_ne, ↓Bool.not_eq_true] at hc; try simp only [Ty.dflt, Int.toNat_natCast] at hc)
    (repeat (first | refine zs rfl ?_ | refine zg rfl rfl rfl ?_ | refine zd ?_ | refine JK.fin ?_ | refine JK.ret ?_))
    obtain rfl : i = la.length := by omega
    refine ⟨.inl rfl, _, _, rfl, trivial, ?_⟩
    rw [List.take_length]

theorem fn51 (l : List (List Int × Bool × Unit)) : Ox.Fn Go.Proofs.Try.prog 51 (.acons (vBs l) .anil) (· = vI (l.countP (fun x => !x.2.1) : Nat)) := by
  refine Ox.Fn.intro xok Go.Proofs.Try.func51 rfl Go.Proofs.Try.call51 (Nat.le_of_ble_eq_true rfl) (fun E M0 up => ?_)
  refine JK.start ?_
  refine JK.lenOf 0 rfl fun hlen => ?_
  replace hlen : l.length ≤ 9223372036854775807 := hlen.1
  (repeat (first | refine zs rfl ?_ | refine zg rfl rfl rfl ?_ | refine zd ?_ | refine JK.fin ?_ | refine JK.ret ?_))
  refine JK.loop (fun i : Nat => ⟨[(3, vI ((l.take i).countP (fun x => !x.2.1) : Nat)), (6, vBs l), (7, vI l.length), (8, vI (i : Int))], [], 0⟩) (fun i => i ≤ l.length) (fun i => l.length - i) 0 (by simp) (by (exact JW.Auto rfl)) fun i hi => ?_
  have hcp := List.countP_le_length (p := fun x : List Int × Bool × Unit => !x.2.1) (l := l.take i)
  have htl : (l.take i).length ≤ i := List.length_take_le _ _
  (repeat (first | refine zs rfl ?_ | refine zg rfl rfl rfl ?_ | refine zd ?_ | refine JK.fin ?_ | refine JK.ret ?_))
  refine JK.cond rfl (fun hc => ?_) (fun hc => ?_)
  · (simp only [↓bif_or, ↓bif_and, ↓Bool.or_eq_true, ↓Bool.or_eq_false_iff, ↓Bool.and_eq_true, ↓Bool.and_eq_false_iff, ↓Bool.not_eq_true', ↓Bool.not_eq_false', ↓decide_eq_true_eq, ↓decide_eq_false_iff_not, ↓beq_iff_eq, ↓bne_iff_ne, ↓bne_eq_false_iff_eq, ↓ne_eq, ↓beq_eq_false_iff_ne, ↓Bool.not_eq_true] at hc; try simp only [Ty.dflt, Int.toNat_natCast] at hc)
    have hi' : i < l.length := by omega
    have hg : ∀ d, l.getD i d = l[i] := fun d => by simp [List.getD_eq_getElem?_getD, List.getElem?_eq_getElem hi']
    (repeat (first | refine zs rfl ?_ | refine zg rfl rfl rfl ?_ | refine zd ?_ | refine JK.fin ?_ | refine JK.ret ?_))
    refine JK.cond rfl (fun hd => ?_) (fun hd => ?_)
    · (simp only [↓bif_or, ↓bif_and, ↓Bool.or_eq_true, ↓Bool.or_eq_false_iff, ↓Bool.and_eq_true, ↓Bool.and_eq_false_iff, ↓Bool.not_eq_true', ↓Bool.not_eq_false', ↓decide_eq_true_eq, ↓decide_eq_false_iff_not, ↓beq_iff_eq, ↓bne_iff_ne, ↓bne_eq_false_iff_eq, ↓ne_eq, ↓beq_eq_false_iff_ne, ↓Bool.not_eq_true] at hd; try simp only [Ty.dflt, Int.toNat_natCast] at hd)
      rw [hg] at hd
      (repeat (first | refine zs rfl ?_ | refine zg rfl rfl rfl ?_ | refine zd ?_ | refine JK.fin ?_ | refine JK.ret ?_))
      exact ⟨i + 1, by (refine JW.auto rfl ?_ ?_ ?_ ?_ rfl <;> (repeat' (first | exact trivial | exact rfl | refine And.intro ?_ ?_ | exact Nat.le_of_ble_eq_true rfl | refine HO.bdF ?_ | refine HO.bdP ?_ | (refine congrArg (fun z : Int => some (AV.val (.int .i64) z)) ?_; push_cast; omega) | (refine congrArg (fun z : Int => some (AV.val (.int .i64) z)) ?_; rw [take_snoc hi', List.countP_append]; simp [hd])))), by omega, by omega⟩
    · (simp only [↓bif_or, ↓bif_and, ↓Bool.or_eq_true, ↓Bool.or_eq_false_iff, ↓Bool.and_eq_true, ↓Bool.and_eq_false_iff, ↓Bool.not_eq_true', ↓Bool.not_eq_false', ↓decide_eq_true_eq, ↓decide_eq_false_iff_not, ↓beq_iff_eq, ↓bne_iff_ne, ↓bne_eq_false_iff_eq, ↓ne_eq, ↓beq_eq_false_iff_ne, ↓Bool.not_eq_true] at hd; try simp only [Ty.dflt, Int.toNat_natCast] at hd)
      rw [hg] at hd
      (repeat (first | refine zs rfl ?_ | refine zg rfl rfl rfl ?_ | refine zd ?_ | refine JK.fin ?_ | refine JK.ret ?_))
      exact ⟨i + 1, by (refine JW.auto rfl ?_ ?_ ?_ ?_ rfl <;> (repeat' (first | exact trivial | exact rfl | refine And.intro ?_ ?_ | exact Nat.le_of_ble_eq_true rfl | refine HO.bdF ?_ | refine HO.bdP ?_ | (refine congrArg (fun z : Int => some (AV.val (.int .i64) z)) ?_; push_cast; omega) | (refine congrArg (fun z : Int => some (AV.val (.int .i64) z)) ?_; rw [take_snoc hi', List.countP_append]; simp [hd])))), by omega, by omega⟩
  · (simp only [↓bif_or, ↓bif_and, ↓Bool.or_eq_true, ↓Bool.or_eq_false_iff, ↓Bool.and_eq_true, ↓Bool.and_eq_false_iff, ↓Bool.not_eq_true', ↓Bool.not_eq_false', ↓decide_eq_true_eq, ↓decide_eq_false_iff_not, ↓beq_iff_eq, ↓bne_iff_ne, ↓bne_eq_false_iff_eq, ↓ne_eq, ↓beq_eq_false_iff_ne, ↓Bool.not_eq_true] at hc; try simp only [Ty.dflt, Int.toNat_natCast] at hc)
    (repeat (first | refine zs rfl ?_ | refine zg rfl rfl rfl ?_ | refine zd ?_ | refine JK.fin ?_ | refine JK.ret ?_))
    obtain rfl : i = l.length := by omega
    refine ⟨.inl rfl, _, _, rfl, trivial, ?_⟩
    rw [List.take_length]

theorem sum_snoc (xs : List Int) (x : Int) : (xs ++ [x]).sum = xs.sum + x := by simp
theorem sum_bd {l : List Int} (h : ∀ x ∈ l, 0 ≤ x ∧ x ≤ 1) : 0 ≤ l.sum ∧ l.sum ≤ l.length := by
  induction l with
  | nil => simp
  | cons a l ih =>
    have h1 := ih fun x hx => h x (List.mem_cons_of_mem _ hx)
    have h2 := h a List.mem_cons_self
    simp only [List.sum_cons, List.length_cons]; omega

theorem fn68 (m : List Int) (hm : ∀ x ∈ m, 0 ≤ x ∧ x ≤ 1) : Ox.Fn Go.Proofs.Try.prog 68 (.acons (vM m) .anil) (· = vI m.sum) := by
  refine Ox.Fn.intro xok Go.Proofs.Try.func68 rfl Go.Proofs.Try.call68 (Nat.le_of_ble_eq_true rfl) (fun E M0 up => ?_)
  refine JK.start ?_
  refine JK.lenOf 0 rfl fun hlen => ?_
  replace hlen : m.length = 8 := hlen.1
  (repeat (first | refine zs rfl ?_ | refine zg rfl rfl rfl ?_ | refine zd ?_ | refine JK.fin ?_ | refine JK.ret ?_))
  refine JK.loop (fun i : Nat => ⟨[(3, vI (m.take i).sum), (6, vM m), (7, vI (i : Int))], [], 0⟩) (fun i => i ≤ 8) (fun i => 8 - i) 0 (by simp) (by (exact JW.Auto rfl)) fun i hi => ?_
  have hsb := sum_bd (l := m.take i) fun x hx => hm x (List.mem_of_mem_take hx)
  have htl : (m.take i).length ≤ i := List.length_take_le _ _
  (repeat (first | refine zs rfl ?_ | refine zg rfl rfl rfl ?_ | refine zd ?_ | refine JK.fin ?_ | refine JK.ret ?_))
  refine JK.cond rfl (fun hc => ?_) (fun hc => ?_)
  · (simp only [↓bif_or, ↓bif_and, ↓Bool.or_eq_true, ↓Bool.or_eq_false_iff, ↓Bool.and_eq_true, ↓Bool.and_eq_false_iff, ↓Bool.not_eq_true', ↓Bool.not_eq_false', ↓decide_eq_true_eq, ↓decide_eq_false_iff_not, ↓beq_iff_eq, ↓bne_iff_ne, ↓bne_eq_false_iff_eq, ↓ne_eq, ↓beq_eq_false_iff_ne, ↓Bool.not_eq_true] at hc; try simp only [Ty.dflt, Int.toNat_natCast] at hc)
    have hi' : i < m.length := by omega
    have hg := getD_nat m hi' 0
    have hmi := hm _ (List.getElem_mem hi')
    rw [← hg] at hmi
    (repeat (first | refine zs rfl ?_ | refine zg rfl rfl rfl ?_ | refine zd ?_ | refine JK.fin ?_ | refine JK.ret ?_))
    exact ⟨i + 1, by (refine JW.auto rfl ?_ ?_ ?_ ?_ rfl <;> (repeat' (first | exact trivial | exact rfl | refine And.intro ?_ ?_ | exact Nat.le_of_ble_eq_true rfl | refine HO.bdF ?_ | refine HO.bdP ?_ | (refine congrArg (fun z : Int => some (AV.val (.int .i64) z)) ?_; push_cast; omega) | (refine congrArg (fun z : Int => some (AV.val (.int .i64) z)) ?_; rw [take_snoc hi', sum_snoc, ← hg]; rfl)))), by omega, by omega⟩
  · (simp only [↓bif_or, ↓bif_and, ↓Bool.or_eq_true, ↓Bool.or_eq_false_iff, ↓Bool.and_eq_true, ↓Bool.and_eq_false_iff, ↓Bool.not_eq_true', ↓Bool.not_eq_false', ↓decide_eq_true_eq, ↓decide_eq_false_iff_not, ↓beq_iff_eq, ↓bne_iff_ne, ↓bne_eq_false_iff_eq, ↓ne_eq, ↓beq_eq_false_iff_ne, ↓Bool.not_eq_true] at hc; try simp only [Ty.dflt, Int.toNat_natCast] at hc)
    (repeat (first | refine zs rfl ?_ | refine zg rfl rfl rfl ?_ | refine zd ?_ | refine JK.fin ?_ | refine JK.ret ?_))
    obtain rfl : i = 8 := by omega
    refine ⟨.inl rfl, _, _, rfl, trivial, ?_⟩
    rw [← hlen, List.take_length]

theorem fn61 (r : Int) (xs la ne : List Int) (t : Int) (k : Nat) (hk : k < la.length) : Ox.Fn Go.Proofs.Try.prog 61 (.acons (vB0 r xs la ne) (.acons (vI t) (.acons (vI k) .anil))) (· = vB (decide (la.getD k 0 < t ∧ t < k))) := by
  refine Ox.Fn.intro xok Go.Proofs.Try.func61 rfl Go.Proofs.Try.call61 (Nat.le_of_ble_eq_true rfl) (fun E M0 up => ?_)
  refine JK.start ?_
  (repeat (first | refine zs rfl ?_ | refine zg rfl rfl rfl ?_ | refine zd ?_ | refine JK.fin ?_ | refine JK.ret ?_))
  refine ⟨.inl rfl, _, _, rfl, trivial, ?_⟩
  simp [Ty.dflt]

theorem fn59 {f : FuncId} {t1 t2 : Ty} {x1 : t1.den} {x2 : t2.den} (xs : List Int) (p : Int → Bool) (h : ∀ x ∈ xs, Ox.Fn Go.Proofs.Try.prog f (.acons (vI x) (.acons (.val t1 x1) (.acons (.val t2 x2) .anil))) (· = vB (p x))) :
    Ox.Fn Go.Proofs.Try.prog 59 (.acons (vL xs) (.acons (.fn f .anil (.acons (.val t1 x1) (.acons (.val t2 x2) .anil))) .anil)) (· = vI (idxB p xs 0)) := by
  refine Ox.Fn.intro xok Go.Proofs.Try.func59 rfl Go.Proofs.Try.call59 (Nat.le_of_ble_eq_true rfl) (fun E M0 up => ?_)
  refine JK.start ?_
  (repeat (first | refine zs rfl ?_ | refine zg rfl rfl rfl ?_ | refine zd ?_ | refine JK.fin ?_ | refine JK.ret ?_ | refine zc rfl (fn70 xs p h) rfl rfl ?_ | refine ze rfl (fn70 xs p h) rfl ?_ | refine zk rfl rfl (fun _ => fn70 xs p h) rfl rfl ?_))
  refine ⟨.inl rfl, _, _, rfl, trivial, ?_⟩
  rfl

theorem fn60 (r : Int) (xs la ne : List Int) (t : Int) (k : Nat) (hk : k < la.length) :
    Ox.Fn Go.Proofs.Try.prog 60 (.acons (vI t) (.acons (.val (.ptr (.ptr binT)) (some (some (mkBin r xs la ne)))) (.acons (pI k) .anil))) (· = vB (decide (la.getD k 0 < t ∧ t < k))) := by
  refine Ox.Fn.intro xok Go.Proofs.Try.func60 rfl Go.Proofs.Try.call60 (Nat.le_of_ble_eq_true rfl) (fun E M0 up => ?_)
  refine JK.start ?_
  (repeat (first | refine zs rfl ?_ | refine zg rfl rfl rfl ?_ | refine zd ?_ | refine JK.fin ?_ | refine JK.ret ?_ | refine zc rfl (fn61 r xs la ne t k hk) rfl rfl ?_ | refine ze rfl (fn61 r xs la ne t k hk) rfl ?_ | refine zk rfl rfl (fun _ => fn61 r xs la ne t k hk) rfl rfl ?_))
  refine ⟨.inl rfl, _, _, rfl, trivial, ?_⟩
  rfl

/-- 'open': the bindery of a valid day, or its error, or that of books. -/
def openE (r : Int) (xs : List Int) (bs : List Int) : Int :=
  if dayErr r xs ≠ 0 then dayErr r xs else if ∀ x ∈ bs, 0 ≤ x ∧ x ≤ (xs.length : Int) - 1 then 0 else 2

theorem dayErr_zero {r : Int} {xs : List Int} : dayErr r xs = 0 ↔ (1 ≤ r ∧ r ≤ 4) ∧ (1 ≤ xs.length ∧ xs.length ≤ 24) ∧ ∀ x ∈ xs, 0 ≤ x ∧ x ≤ 7 := by
  unfold dayErr
  by_cases h1 : r < 1 ∨ r > 4
  · rw [if_pos h1]; constructor
    · intro h; omega
    · rintro ⟨h, _⟩; omega
  · rw [if_neg h1]
    by_cases h2 : xs.length < 1 ∨ xs.length > 24
    · rw [if_pos h2]; constructor
      · intro h; omega
      · rintro ⟨_, h, _⟩; omega
    · rw [if_neg h2]
      by_cases h3 : ∀ x ∈ xs, 0 ≤ x ∧ x ≤ 7
      · rw [if_pos h3]; exact ⟨fun _ => ⟨by omega, by omega, h3⟩, fun _ => rfl⟩
      · rw [if_neg h3]; exact ⟨fun h => by omega, fun h => absurd h.2.2 h3⟩

abbrev vDay (r : Int) (xs : List Int) : binD := mkBin r xs (lasts xs xs.length) (nexts xs xs.length)
def openB (r : Int) (xs : List Int) (bs : List Int) : Option binD := if openE r xs bs = 0 then some (vDay r xs) else none

theorem fn46 (r : Int) (xs bs : List Int) : Ox.Fn Go.Proofs.Try.prog 46 (.acons (vD r xs) (.acons (vL bs) .anil)) (· = .tup (.acons (.val (.ptr binT) (openB r xs bs)) (.acons (vI (openE r xs bs)) .anil))) := by
  refine Ox.Fn.intro xok Go.Proofs.Try.func46 rfl Go.Proofs.Try.call46 (Nat.le_of_ble_eq_true rfl) (fun E M0 up => ?_)
  refine JK.start ?_
  refine JK.lenOf 0 rfl fun hlen => ?_
  replace hlen : xs.length ≤ 9223372036854775807 := hlen.2.1.1
  (repeat (first | refine zs rfl ?_ | refine zg rfl rfl rfl ?_ | refine zd ?_ | refine JK.fin ?_ | refine JK.ret ?_ | refine zc rfl (fn19 _ _) rfl rfl ?_ | refine ze rfl (fn19 _ _) rfl ?_ | refine zk rfl rfl (fun _ => fn19 _ _) rfl rfl ?_))
  refine JK.cond rfl (fun hc => ?_) (fun hc => ?_)
  · (simp only [↓bif_or, ↓bif_and, ↓Bool.or_eq_true, ↓Bool.or_eq_false_iff, ↓Bool.and_eq_true, ↓Bool.and_eq_false_iff, ↓Bool.not_eq_true', ↓Bool.not_eq_false', ↓decide_eq_true_eq, ↓decide_eq_false_iff_not, ↓beq_iff_eq, ↓bne_iff_ne, ↓bne_eq_false_iff_eq, ↓ne_eq, ↓beq_eq_false_iff_ne, ↓Bool.not_eq_true] at hc; try simp only [Ty.dflt, Int.toNat_natCast] at hc)
    (repeat (first | refine zs rfl ?_ | refine zg rfl rfl rfl ?_ | refine zd ?_ | refine JK.fin ?_ | refine JK.ret ?_))
    refine ⟨.inl rfl, _, _, rfl, trivial, ?_⟩
    have : openE r xs bs ≠ 0 := by rw [openE, if_pos hc]; exact hc
    rw [openB, if_neg this, openE, if_pos hc]
  · (simp only [↓bif_or, ↓bif_and, ↓Bool.or_eq_true, ↓Bool.or_eq_false_iff, ↓Bool.and_eq_true, ↓Bool.and_eq_false_iff, ↓Bool.not_eq_true', ↓Bool.not_eq_false', ↓decide_eq_true_eq, ↓decide_eq_false_iff_not, ↓beq_iff_eq, ↓bne_iff_ne, ↓bne_eq_false_iff_eq, ↓ne_eq, ↓beq_eq_false_iff_ne, ↓Bool.not_eq_true] at hc; try simp only [Ty.dflt, Int.toNat_natCast] at hc)
    have hv := dayErr_zero.1 (by simpa using hc)
    (repeat (first | refine zs rfl ?_ | refine zg rfl rfl rfl ?_ | refine zd ?_ | refine JK.fin ?_ | refine JK.ret ?_ | refine zc rfl (fn49 _ _ _) rfl rfl ?_ | refine ze rfl (fn49 _ _ _) rfl ?_ | refine zk rfl rfl (fun _ => fn49 _ _ _) rfl rfl ?_))
    refine JK.cond rfl (fun hd => ?_) (fun hd => ?_)
    · (simp only [↓bif_or, ↓bif_and, ↓Bool.or_eq_true, ↓Bool.or_eq_false_iff, ↓Bool.and_eq_true, ↓Bool.and_eq_false_iff, ↓Bool.not_eq_true', ↓Bool.not_eq_false', ↓decide_eq_true_eq, ↓decide_eq_false_iff_not, ↓beq_iff_eq, ↓bne_iff_ne, ↓bne_eq_false_iff_eq, ↓ne_eq, ↓beq_eq_false_iff_ne, ↓Bool.not_eq_true] at hd; try simp only [Ty.dflt, Int.toNat_natCast] at hd)
      (repeat (first | refine zs rfl ?_ | refine zg rfl rfl rfl ?_ | refine zd ?_ | refine JK.fin ?_ | refine JK.ret ?_))
      refine ⟨.inl rfl, _, _, rfl, trivial, ?_⟩
      have : openE r xs bs = 2 := by rw [openE, if_neg (by simpa using hc), if_neg hd]
      rw [openB, if_neg (by omega), this]
    · (simp only [↓bif_or, ↓bif_and, ↓Bool.or_eq_true, ↓Bool.or_eq_false_iff, ↓Bool.and_eq_true, ↓Bool.and_eq_false_iff, ↓Bool.not_eq_true', ↓Bool.not_eq_false', ↓decide_eq_true_eq, ↓decide_eq_false_iff_not, ↓beq_iff_eq, ↓bne_iff_ne, ↓bne_eq_false_iff_eq, ↓ne_eq, ↓beq_eq_false_iff_ne, ↓Bool.not_eq_true] at hd; try simp only [Ty.dflt, Int.toNat_natCast] at hd)
      have : openE r xs bs = 0 := by rw [openE, if_neg (by simpa using hc), if_pos hd]
      (repeat (first | refine zs rfl ?_ | refine zg rfl rfl rfl ?_ | refine zd ?_ | refine JK.fin ?_ | refine JK.ret ?_ | refine zc rfl (fn56 r xs hv.2.2 hv.2.1.2) rfl rfl ?_ | refine ze rfl (fn56 r xs hv.2.2 hv.2.1.2) rfl ?_ | refine zk rfl rfl (fun _ => fn56 r xs hv.2.2 hv.2.1.2) rfl rfl ?_))
      refine ⟨.inl rfl, _, _, rfl, trivial, ?_⟩
      rw [openB, if_pos this, this]
end Go.Proofs.Ytbmgijgnbilnoaa

namespace Go.Proofs.Ytbmgijgnbilnoaa
open Go Go.RowKit Ox
attribute [local irreducible] JC JL JK JW

/-- The blocks on the bench after a book, if the plan is one so far. -/
def stepP (r : Int) (m : List Int) (k b : Int) : Option (List Int) :=
  if m.getD k.toNat 0 = 1 ∨ m.sum < r then (if b = -1 then some (m.set k.toNat 1) else none)
  else if (0 ≤ b ∧ b ≤ 7) ∧ m.getD b.toNat 0 ≠ 0 then some ((m.set b.toNat 0).set k.toNat 1) else none

abbrev ben := List Int × Bool × Unit
def playF (r : Int) : List (Int × Int) → List Int → List ben
  | [], _ => []
  | (k, b) :: rest, m => match stepP r m k b with
    | none => []
    | some m' => (m', decide (m.getD k.toNat 0 = 1), ()) :: playF r rest m'

abbrev zero8 : List Int := List.replicate 8 0
def playS (r : Int) (xs plan : List Int) : List ben := playF r (xs.zip plan) zero8

def bits (m : List Int) : Prop := m.length = 8 ∧ ∀ x ∈ m, 0 ≤ x ∧ x ≤ 1
theorem bits_set {m : List Int} (h : bits m) (i : Nat) {x : Int} (hx : 0 ≤ x ∧ x ≤ 1) : bits (m.set i x) := by
  refine ⟨by simp [h.1], fun y hy => ?_⟩
  rcases List.mem_or_eq_of_mem_set hy with h1 | rfl
  · exact h.2 y h1
  · exact hx

theorem zip_drop {xs plan : List Int} {i : Nat} (h1 : i < xs.length) (h2 : i < plan.length) : (xs.zip plan).drop i = (xs.getD i 0, plan.getD i 0) :: (xs.zip plan).drop (i + 1) := by
  rw [List.drop_eq_getElem_cons (by simp; omega), List.getElem_zip, getD_nat xs h1, getD_nat plan h2]

theorem fn49s (lo hi x : Int) : Ox.Fn Go.Proofs.Try.prog 49 (.acons (vI lo) (.acons (vI hi) (.acons (vL [x]) .anil))) (· = vB (decide (lo ≤ x ∧ x ≤ hi))) := by
  have := fn49 lo hi [x]
  rwa [show decide (∀ y ∈ [x], lo ≤ y ∧ y ≤ hi) = decide (lo ≤ x ∧ x ≤ hi) by simp] at this

set_option maxHeartbeats 1000000 in
theorem fn55 (r : Int) (xs la ne plan : List Int) (hx : ∀ x ∈ xs, 0 ≤ x ∧ x ≤ 7) (hl : xs.length ≤ 1000) (hp : plan.length = xs.length) :
    Ox.Fn Go.Proofs.Try.prog 55 (.acons (vB0 r xs la ne) (.acons (vL plan) .anil)) (· = vBs (playS r xs plan)) := by
  refine Ox.Fn.intro xok Go.Proofs.Try.func55 rfl Go.Proofs.Try.call55 (Nat.le_of_ble_eq_true rfl) (fun E M0 up => ?_)
  refine JK.start ?_
  (repeat (first | refine zs rfl ?_ | refine zg rfl rfl rfl ?_ | refine zd ?_ | refine JK.fin ?_ | refine JK.ret ?_))
  refine JK.ghost 5 78 benT rfl ?_
  refine JK.loop (σ := Nat × List Int × List ben) (fun q => ⟨[(0, vB0 r xs la ne), (1, vL plan), (5, .lf (.osl 1)), (6, .lf (.optr 0 [])), (16, vL xs), (17, vI xs.length), (18, vI (q.1 : Int))], [(0, .cell marT (vM q.2.1)), (1, .sl 78 benT q.2.2)], 2⟩)
    (fun q => q.1 ≤ xs.length ∧ bits q.2.1 ∧ q.2.2.length = q.1 ∧ q.2.2 ++ playF r ((xs.zip plan).drop q.1) q.2.1 = playS r xs plan) (fun q => xs.length - q.1) (0, zero8, [])
    ⟨by simp, ⟨by simp, by simp [zero8]⟩, rfl, rfl⟩ (by (exact JW.Auto rfl)) fun q hq => ?_
  obtain ⟨i, m, out⟩ := q
  obtain ⟨hi, hm, hol, hinv⟩ := hq
  dsimp only at hi hm hol hinv
  have hm8 := hm.1
  (repeat (first | refine zs rfl ?_ | refine zg rfl rfl rfl ?_ | refine zd ?_ | refine JK.fin ?_ | refine JK.ret ?_))
  refine JK.cond rfl (fun hc => ?_) (fun hc => ?_)
  · (simp only [↓bif_or, ↓bif_and, ↓Bool.or_eq_true, ↓Bool.or_eq_false_iff, ↓Bool.and_eq_true, ↓Bool.and_eq_false_iff, ↓Bool.not_eq_true', ↓Bool.not_eq_false', ↓decide_eq_true_eq, ↓decide_eq_false_iff_not, ↓beq_iff_eq, ↓bne_iff_ne, ↓bne_eq_false_iff_eq, ↓ne_eq, ↓beq_eq_false_iff_ne, ↓Bool.not_eq_true] at hc; try simp only [Ty.dflt, Int.toNat_natCast] at hc)
    have hi' : i < xs.length := by omega
    have hb := hx (xs.getD i 0) (by rw [getD_nat xs hi']; exact List.getElem_mem hi')
    rw [zip_drop hi' (by omega), playF] at hinv
    have hkm : m.getD (xs.getD i 0).toNat 0 ∈ m := by rw [getD_nat m (by omega)]; exact List.getElem_mem _
    have hm68 := fn68 m hm.2
    have hsb := sum_bd hm.2
    (repeat (first | refine zs rfl ?_ | refine zg rfl rfl rfl ?_ | refine zd ?_ | refine JK.fin ?_ | refine JK.ret ?_ | refine zc rfl (hm68) rfl rfl ?_ | refine ze rfl (hm68) rfl ?_ | refine zk rfl rfl (fun _ => hm68) rfl rfl ?_))
    refine JK.cond rfl (fun hd => ?_) (fun hd => ?_)
    · (simp only [↓bif_or, ↓bif_and, ↓Bool.or_eq_true, ↓Bool.or_eq_false_iff, ↓Bool.and_eq_true, ↓Bool.and_eq_false_iff, ↓Bool.not_eq_true', ↓Bool.not_eq_false', ↓decide_eq_true_eq, ↓decide_eq_false_iff_not, ↓beq_iff_eq, ↓bne_iff_ne, ↓bne_eq_false_iff_eq, ↓ne_eq, ↓beq_eq_false_iff_ne, ↓Bool.not_eq_true] at hd; try simp only [Ty.dflt, Int.toNat_natCast] at hd)
      (repeat (first | refine zs rfl ?_ | refine zg rfl rfl rfl ?_ | refine zd ?_ | refine JK.fin ?_ | refine JK.ret ?_))
      refine JK.cond rfl (fun he => ?_) (fun he => ?_)
      · (simp only [↓bif_or, ↓bif_and, ↓Bool.or_eq_true, ↓Bool.or_eq_false_iff, ↓Bool.and_eq_true, ↓Bool.and_eq_false_iff, ↓Bool.not_eq_true', ↓Bool.not_eq_false', ↓decide_eq_true_eq, ↓decide_eq_false_iff_not, ↓beq_iff_eq, ↓bne_iff_ne, ↓bne_eq_false_iff_eq, ↓ne_eq, ↓beq_eq_false_iff_ne, ↓Bool.not_eq_true] at he; try simp only [Ty.dflt, Int.toNat_natCast] at he)
        (repeat (first | refine zs rfl ?_ | refine zg rfl rfl rfl ?_ | refine zd ?_ | refine JK.fin ?_ | refine JK.ret ?_))
        refine ⟨.inl rfl, _, _, rfl, trivial, ?_⟩
        rw [stepP, if_pos hd, if_neg he] at hinv
        rw [← hinv, List.append_nil]
      · (simp only [↓bif_or, ↓bif_and, ↓Bool.or_eq_true, ↓Bool.or_eq_false_iff, ↓Bool.and_eq_true, ↓Bool.and_eq_false_iff, ↓Bool.not_eq_true', ↓Bool.not_eq_false', ↓decide_eq_true_eq, ↓decide_eq_false_iff_not, ↓beq_iff_eq, ↓bne_iff_ne, ↓bne_eq_false_iff_eq, ↓ne_eq, ↓beq_eq_false_iff_ne, ↓Bool.not_eq_true] at he; try simp only [Ty.dflt, Int.toNat_natCast] at he)
        rw [stepP, if_pos hd, if_pos (by omega)] at hinv
        (repeat (first | refine zs rfl ?_ | refine zg rfl rfl rfl ?_ | refine zd ?_ | refine JK.fin ?_ | refine JK.ret ?_))
        refine ⟨(i + 1, m.set (xs.getD i 0).toNat 1, out ++ [(m.set (xs.getD i 0).toNat 1, decide (m.getD (xs.getD i 0).toNat 0 = 1), ())]), by (exact JW.Auto rfl), ⟨by omega, bits_set hm _ (by omega), by simp [hol], ?_⟩, by dsimp only; omega⟩
        rw [List.append_assoc]; exact hinv
    · (simp only [↓bif_or, ↓bif_and, ↓Bool.or_eq_true, ↓Bool.or_eq_false_iff, ↓Bool.and_eq_true, ↓Bool.and_eq_false_iff, ↓Bool.not_eq_true', ↓Bool.not_eq_false', ↓decide_eq_true_eq, ↓decide_eq_false_iff_not, ↓beq_iff_eq, ↓bne_iff_ne, ↓bne_eq_false_iff_eq, ↓ne_eq, ↓beq_eq_false_iff_ne, ↓Bool.not_eq_true] at hd; try simp only [Ty.dflt, Int.toNat_natCast] at hd)
      (repeat (first | refine zs rfl ?_ | refine zg rfl rfl rfl ?_ | refine zd ?_ | refine JK.fin ?_ | refine JK.ret ?_ | refine zc rfl (fn49s 0 7 (plan.getD i 0)) rfl rfl ?_ | refine ze rfl (fn49s 0 7 (plan.getD i 0)) rfl ?_ | refine zk rfl rfl (fun _ => fn49s 0 7 (plan.getD i 0)) rfl rfl ?_))
      refine JK.cond rfl (fun he => ?_) (fun he => ?_)
      · (simp only [↓bif_or, ↓bif_and, ↓Bool.or_eq_true, ↓Bool.or_eq_false_iff, ↓Bool.and_eq_true, ↓Bool.and_eq_false_iff, ↓Bool.not_eq_true', ↓Bool.not_eq_false', ↓decide_eq_true_eq, ↓decide_eq_false_iff_not, ↓beq_iff_eq, ↓bne_iff_ne, ↓bne_eq_false_iff_eq, ↓ne_eq, ↓beq_eq_false_iff_ne, ↓Bool.not_eq_true] at he; try simp only [Ty.dflt, Int.toNat_natCast] at he)
        (repeat (first | refine zs rfl ?_ | refine zg rfl rfl rfl ?_ | refine zd ?_ | refine JK.fin ?_ | refine JK.ret ?_))
        refine ⟨.inl rfl, _, _, rfl, trivial, ?_⟩
        rw [stepP, if_neg (by omega), if_neg (by omega)] at hinv
        rw [← hinv, List.append_nil]
      · (simp only [↓bif_or, ↓bif_and, ↓Bool.or_eq_true, ↓Bool.or_eq_false_iff, ↓Bool.and_eq_true, ↓Bool.and_eq_false_iff, ↓Bool.not_eq_true', ↓Bool.not_eq_false', ↓decide_eq_true_eq, ↓decide_eq_false_iff_not, ↓beq_iff_eq, ↓bne_iff_ne, ↓bne_eq_false_iff_eq, ↓ne_eq, ↓beq_eq_false_iff_ne, ↓Bool.not_eq_true] at he; try simp only [Ty.dflt, Int.toNat_natCast] at he)
        rw [stepP, if_neg (by omega), if_pos (by omega)] at hinv
        have hm2 := bits_set hm (plan.getD i 0).toNat (x := 0) (by omega)
        (repeat (first | refine zs rfl ?_ | refine zg rfl rfl rfl ?_ | refine zd ?_ | refine JK.fin ?_ | refine JK.ret ?_))
        refine ⟨(i + 1, (m.set (plan.getD i 0).toNat 0).set (xs.getD i 0).toNat 1, out ++ [((m.set (plan.getD i 0).toNat 0).set (xs.getD i 0).toNat 1, decide (m.getD (xs.getD i 0).toNat 0 = 1), ())]), by (exact JW.Auto rfl), ⟨by omega, bits_set hm2 _ (by omega), by simp [hol], ?_⟩, by dsimp only; omega⟩
        rw [List.append_assoc]; exact hinv
  · (simp only [↓bif_or, ↓bif_and, ↓Bool.or_eq_true, ↓Bool.or_eq_false_iff, ↓Bool.and_eq_true, ↓Bool.and_eq_false_iff, ↓Bool.not_eq_true', ↓Bool.not_eq_false', ↓decide_eq_true_eq, ↓decide_eq_false_iff_not, ↓beq_iff_eq, ↓bne_iff_ne, ↓bne_eq_false_iff_eq, ↓ne_eq, ↓beq_eq_false_iff_ne, ↓Bool.not_eq_true] at hc; try simp only [Ty.dflt, Int.toNat_natCast] at hc)
    (repeat (first | refine zs rfl ?_ | refine zg rfl rfl rfl ?_ | refine zd ?_ | refine JK.fin ?_ | refine JK.ret ?_))
    obtain rfl : i = xs.length := by omega
    refine ⟨.inl rfl, _, _, rfl, trivial, ?_⟩
    rw [List.drop_of_length_le (by simp; omega), playF, List.append_nil] at hinv
    rw [← hinv]
end Go.Proofs.Ytbmgijgnbilnoaa

namespace Go.Proofs.Ytbmgijgnbilnoaa
open Go Go.RowKit Ox
attribute [local irreducible] JC JL JW

/-- The next place from the i-th on whose element is 'b': at most 'n' are looked at. -/
def waitF (xs : List Int) (b : Int) : Nat → Nat → Nat
  | 0, i => i
  | n + 1, i => if xs.getD i 0 = b then i else waitF xs b n (i + 1)
def waitS (xs : List Int) (b : Int) (i : Nat) : Nat := waitF xs b (xs.length - i) i

abbrev ppB (r : Int) (xs la ne : List Int) : AV := .val (.ptr (.ptr binT)) (some (some (mkBin r xs la ne)))

theorem fn75 (r : Int) (xs la ne : List Int) (b : Int) (i : Int) : Ox.Fn Go.Proofs.Try.prog 75 (.acons (vB0 r xs la ne) (.acons (vI b) (.acons (vI i) .anil))) (· = .fn 76 .anil (.acons (pI i) (.acons (ppB r xs la ne) (.acons (pI b) .anil)))) := by
  refine Ox.Fn.intro xok Go.Proofs.Try.func75 rfl Go.Proofs.Try.call75 (Nat.le_of_ble_eq_true rfl) (fun E M0 up => ?_)
  (repeat (first   | refine JL.Q1 (xok rfl rfl rfl rfl) rfl rfl ?_   | refine JL.G1 (xok rfl rfl rfl rfl) rfl rfl rfl ?_   | refine JL.g1 (xok rfl rfl rfl rfl) rfl rfl rfl (fun hgd => And.intro hgd (fun hpk => Bool.and_eq_true_iff.2 ⟨hgd, by rw [hpk]; rfl⟩)) ?_   | refine JL.G2 (xok rfl rfl rfl rfl) rfl rfl rfl ?_   | refine JL.M1 (xok rfl rfl rfl rfl) rfl rfl ?_   | refine JL.M0 (xok rfl rfl rfl rfl) rfl ?_   | refine JL.Q0 (xok rfl rfl rfl rfl) rfl ?_   | refine JL.nilF ?_   | refine JL.nil ?_   | refine JC.scope ?_   | refine QX.tn ?_   | refine JC.seq ?_   | refine JC.region ?_   | refine JC.Draw (xok rfl rfl rfl rfl) ?_   | refine JC.block ?_   | refine JC.skip ?_   | refine JC.label ?_   | refine JC.exit ?_   | refine JC.ret ?_   | refine QX.te ?_ | refine QX.tr ?_ | refine QX.bn ?_ | refine QX.be ?_ | refine QX.bx rfl ?_ | refine QX.br ?_ | refine QX.sn ?_ | refine QX.se ?_ | refine QX.sr ?_ | refine QX.ee ?_ | refine QX.eo rfl ?_ | refine QX.er ?_ | refine QX.en ?_))
  refine ⟨.inl rfl, _, _, rfl, trivial, ?_⟩
  rfl

set_option maxHeartbeats 1000000 in
theorem fn69 (r : Int) (xs la ne : List Int) (b : Int) (i0 : Nat) (hi0 : i0 ≤ xs.length) : Ox.Fn Go.Proofs.Try.prog 69 (.acons (vB0 r xs la ne) (.acons (vI b) (.acons (vI i0) .anil))) (· = vI (waitS xs b i0)) := by
  refine Ox.Fn.intro xok Go.Proofs.Try.func69 rfl Go.Proofs.Try.call69 (Nat.le_of_ble_eq_true rfl) (fun E M0 up => ?_)
  refine JC.lenOf 0 rfl fun hlen => ?_
  replace hlen : xs.length ≤ 9223372036854775807 := hlen.1.2.1.1
  (repeat (first   | refine JL.Q1 (xok rfl rfl rfl rfl) rfl rfl ?_   | refine JL.G1 (xok rfl rfl rfl rfl) rfl rfl rfl ?_   | refine JL.g1 (xok rfl rfl rfl rfl) rfl rfl rfl (fun hgd => And.intro hgd (fun hpk => Bool.and_eq_true_iff.2 ⟨hgd, by rw [hpk]; rfl⟩)) ?_   | refine JL.G2 (xok rfl rfl rfl rfl) rfl rfl rfl ?_   | refine JL.M1 (xok rfl rfl rfl rfl) rfl rfl ?_   | refine JL.M0 (xok rfl rfl rfl rfl) rfl ?_   | refine JL.Q0 (xok rfl rfl rfl rfl) rfl ?_   | refine JL.nilF ?_   | refine JL.nil ?_   | refine JC.scope ?_   | refine QX.tn ?_   | refine JC.seq ?_   | refine JC.region ?_   | refine JC.Draw (xok rfl rfl rfl rfl) ?_   | refine JC.block ?_   | refine JC.skip ?_   | refine JC.label ?_   | refine JC.exit ?_   | refine JC.ret ?_   | refine QX.te ?_ | refine QX.tr ?_ | refine QX.bn ?_ | refine QX.be ?_ | refine QX.bx rfl ?_ | refine QX.br ?_ | refine QX.sn ?_ | refine QX.se ?_ | refine QX.sr ?_ | refine QX.ee ?_ | refine QX.eo rfl ?_ | refine QX.er ?_ | refine QX.en ?_ | refine JL.S1 rfl (fn75 r xs la ne b i0) rfl trivial rfl ?_ | refine JL.T1 rfl (fn75 r xs la ne b i0) rfl rfl ?_ | refine JL.C1 rfl (fn75 r xs la ne b i0) rfl (fun r hr => ?_); subst hr | refine JL.S1g rfl rfl (fun hgd => fn75 r xs la ne b i0) rfl trivial rfl ?_))
  refine JC.rangeF [0, 6] rfl rfl rfl (by (first | exact trivial | (try dsimp only [allP, inK, idxC, loC, lohiC, fullC, underG, List.append, List.nil_append, List.cons_append, Ty.den, Ty.dflt, Int.toNat_natCast, List.length_cons, List.length_nil] at *); first | omega | ((repeat' (first | exact trivial | assumption | refine And.intro ?_ ?_ | exact fun h => h | (intro hpk; first | exact hpk | simp only [wantB, hpk, Bool.not_false, Bool.not_true]))) <;> omega) | fail)) Go.Proofs.Try.func76 rfl Go.Proofs.Try.call76 (Nat.le_of_ble_eq_true rfl) (fun M up => ?_)
  (repeat (first   | refine JL.Q1 (xok rfl rfl rfl rfl) rfl rfl ?_   | refine JL.G1 (xok rfl rfl rfl rfl) rfl rfl rfl ?_   | refine JL.g1 (xok rfl rfl rfl rfl) rfl rfl rfl (fun hgd => And.intro hgd (fun hpk => Bool.and_eq_true_iff.2 ⟨hgd, by rw [hpk]; rfl⟩)) ?_   | refine JL.G2 (xok rfl rfl rfl rfl) rfl rfl rfl ?_   | refine JL.M1 (xok rfl rfl rfl rfl) rfl rfl ?_   | refine JL.M0 (xok rfl rfl rfl rfl) rfl ?_   | refine JL.Q0 (xok rfl rfl rfl rfl) rfl ?_   | refine JL.nilF ?_   | refine JL.nil ?_   | refine JC.scope ?_   | refine QX.tn ?_   | refine JC.seq ?_   | refine JC.region ?_   | refine JC.Draw (xok rfl rfl rfl rfl) ?_   | refine JC.block ?_   | refine JC.skip ?_   | refine JC.label ?_   | refine JC.exit ?_   | refine JC.ret ?_   | refine QX.te ?_ | refine QX.tr ?_ | refine QX.bn ?_ | refine QX.be ?_ | refine QX.bx rfl ?_ | refine QX.br ?_ | refine QX.sn ?_ | refine QX.se ?_ | refine QX.sr ?_ | refine QX.ee ?_ | refine QX.eo rfl ?_ | refine QX.er ?_ | refine QX.en ?_))
  refine JC.loop (fun i : Nat => ⟨[(0, .lf (.yld 1)), (2, ppB r xs la ne), (3, pI b), (5, vI (i : Int))], [(2, .fr 0 [(20, .lf (.yld 1)), (0, vB0 r xs la ne), (6, .lf (.optr 0 []))]), (1, .loop .ready none #[12] (rgA Go.Proofs.Try.f69.body) (rgB Go.Proofs.Try.f69.body) 20 [(0, vB0 r xs la ne), (6, .lf (.optr 0 []))]), (0, .cell (.int .i64) (vI 0))], 3⟩) (fun i => i ≤ xs.length ∧ waitS xs b i0 = waitS xs b i) (fun i => xs.length - i) i0 ⟨hi0, rfl⟩ (by (exact JW.Auto rfl)) fun i ⟨hi, hinv⟩ => ?_
  (repeat (first   | refine JL.Q1 (xok rfl rfl rfl rfl) rfl rfl ?_   | refine JL.G1 (xok rfl rfl rfl rfl) rfl rfl rfl ?_   | refine JL.g1 (xok rfl rfl rfl rfl) rfl rfl rfl (fun hgd => And.intro hgd (fun hpk => Bool.and_eq_true_iff.2 ⟨hgd, by rw [hpk]; rfl⟩)) ?_   | refine JL.G2 (xok rfl rfl rfl rfl) rfl rfl rfl ?_   | refine JL.M1 (xok rfl rfl rfl rfl) rfl rfl ?_   | refine JL.M0 (xok rfl rfl rfl rfl) rfl ?_   | refine JL.Q0 (xok rfl rfl rfl rfl) rfl ?_   | refine JL.nilF ?_   | refine JL.nil ?_   | refine JC.scope ?_   | refine QX.tn ?_   | refine JC.seq ?_   | refine JC.region ?_   | refine JC.Draw (xok rfl rfl rfl rfl) ?_   | refine JC.block ?_   | refine JC.skip ?_   | refine JC.label ?_   | refine JC.exit ?_   | refine JC.ret ?_   | refine QX.te ?_ | refine QX.tr ?_ | refine QX.bn ?_ | refine QX.be ?_ | refine QX.bx rfl ?_ | refine QX.br ?_ | refine QX.sn ?_ | refine QX.se ?_ | refine QX.sr ?_ | refine QX.ee ?_ | refine QX.eo rfl ?_ | refine QX.er ?_ | refine QX.en ?_))
  refine JC.cond rfl (fun hc => ?_) (fun hc => ?_)
  · (simp only [↓bif_or, ↓bif_and, ↓Bool.or_eq_true, ↓Bool.or_eq_false_iff, ↓Bool.and_eq_true, ↓Bool.and_eq_false_iff, ↓Bool.not_eq_true', ↓Bool.not_eq_false', ↓decide_eq_true_eq, ↓decide_eq_false_iff_not, ↓beq_iff_eq, ↓bne_iff_ne, ↓bne_eq_false_iff_eq, ↓ne_eq, ↓beq_eq_false_iff_ne, ↓Bool.not_eq_true] at hc; try simp only [Ty.dflt, Int.toNat_natCast] at hc)
    have hi' : i < xs.length := by omega
    rw [waitS, waitS, show xs.length - i = (xs.length - (i + 1)) + 1 by omega, waitF] at hinv
    by_cases hx : xs.getD i 0 = b
    · rw [if_pos hx] at hinv
      (repeat (first   | refine JL.Q1 (xok rfl rfl rfl rfl) rfl rfl ?_   | refine JL.G1 (xok rfl rfl rfl rfl) rfl rfl rfl ?_   | refine JL.g1 (xok rfl rfl rfl rfl) rfl rfl rfl (fun hgd => And.intro hgd (fun hpk => Bool.and_eq_true_iff.2 ⟨hgd, by rw [hpk]; rfl⟩)) ?_   | refine JL.G2 (xok rfl rfl rfl rfl) rfl rfl rfl ?_   | refine JL.M1 (xok rfl rfl rfl rfl) rfl rfl ?_   | refine JL.M0 (xok rfl rfl rfl rfl) rfl ?_   | refine JL.Q0 (xok rfl rfl rfl rfl) rfl ?_   | refine JL.nilF ?_   | refine JL.nil ?_   | refine JC.scope ?_   | refine QX.tn ?_   | refine JC.seq ?_   | refine JC.region ?_      | refine JC.block ?_   | refine JC.skip ?_   | refine JC.label ?_   | refine JC.exit ?_   | refine JC.ret ?_   | refine QX.te ?_ | refine QX.tr ?_ | refine QX.bn ?_ | refine QX.be ?_ | refine QX.bx rfl ?_ | refine QX.br ?_ | refine QX.sn ?_ | refine QX.se ?_ | refine QX.sr ?_ | refine QX.ee ?_ | refine QX.eo rfl ?_ | refine QX.er ?_ | refine QX.en ?_))
      refine JC.drawF (xok rfl rfl rfl rfl) (Go.Proofs.Try.f76.body.getD .skip) ⟨[(32, vB true)], [(2, .fr 0 [(20, .lf (.yld 1)), (0, vB0 r xs la ne), (6, .lf (.optr 0 []))]), (1, .loop .done (some .ret) #[12] (rgA Go.Proofs.Try.f69.body) (rgB Go.Proofs.Try.f69.body) 20 [(0, vB0 r xs la ne), (6, .lf (.optr 0 []))]), (0, .cell (.int .i64) (vI i))], 3⟩ rfl 16 rfl ?_ ?_
      · (refine JF.First 5 (xok rfl rfl rfl rfl) rfl rfl ?_; refine JF.Float 0 (xok rfl rfl rfl rfl) rfl rfl ?_; refine JF.Float 1 (xok rfl rfl rfl rfl) rfl rfl ?_; refine JF.Float 2 (xok rfl rfl rfl rfl) rfl rfl ?_; refine JF.Float 3 (xok rfl rfl rfl rfl) rfl rfl ?_; refine JF.Float 4 (xok rfl rfl rfl rfl) rfl rfl ?_; refine JF.Float 6 (xok rfl rfl rfl rfl) rfl rfl ?_; refine JF.Float 7 (xok rfl rfl rfl rfl) rfl rfl ?_; refine JF.Float 8 (xok rfl rfl rfl rfl) rfl rfl ?_; refine JF.Float 9 (xok rfl rfl rfl rfl) rfl rfl ?_; refine JF.Float 10 (xok rfl rfl rfl rfl) rfl rfl ?_; refine JF.Branch 11 [12] (xok rfl rfl rfl rfl) ?_ ?_; (focus (repeat (first | exact StF.nil | refine StF.One rfl rfl rfl ?_))); refine BrF.one rfl rfl ?_ (BrF.one rfl rfl ?_ BrF.nil); (· (first | (refine JL.gT rfl (by show (xs.getD i 0 == b) = true; simpa using hx) ?_; first | refine JL.q1 (xok rfl rfl rfl rfl) rfl rfl (by (first | exact trivial | (try dsimp only [allP, inK, idxC, loC, lohiC, fullC, underG, List.append, List.nil_append, List.cons_append, Ty.den, Ty.dflt, Int.toNat_natCast, List.length_cons, List.length_nil] at *); first | omega | ((repeat' (first | exact trivial | assumption | refine And.intro ?_ ?_ | exact fun h => h | (intro hpk; first | exact hpk | simp only [wantB, hpk, Bool.not_false, Bool.not_true]))) <;> omega) | fail)) ?_ | (refine JL.yield [2, 3, 5, 17, 18, 19, 20, 21, 22, 23, 24, 25, 26, 27] rfl rfl rfl rfl (by (first | exact trivial | (try dsimp only [allP, inK, idxC, loC, lohiC, fullC, underG, List.append, List.nil_append, List.cons_append, Ty.den, Ty.dflt, Int.toNat_natCast, List.length_cons, List.length_nil] at *); first | omega | ((repeat' (first | exact trivial | assumption | refine And.intro ?_ ?_ | exact fun h => h | (intro hpk; first | exact hpk | simp only [wantB, hpk, Bool.not_false, Bool.not_true]))) <;> omega) | fail)) rfl rfl rfl (ltB_lt rfl) (fun M0 up bl hup => ?_); (conv => arg 2; whnf); (repeat (first   | refine JL.Q1 (xok rfl rfl rfl rfl) rfl rfl ?_   | refine JL.G1 (xok rfl rfl rfl rfl) rfl rfl rfl ?_   | refine JL.g1 (xok rfl rfl rfl rfl) rfl rfl rfl (fun hgd => And.intro hgd (fun hpk => Bool.and_eq_true_iff.2 ⟨hgd, by rw [hpk]; rfl⟩)) ?_   | refine JL.G2 (xok rfl rfl rfl rfl) rfl rfl rfl ?_   | refine JL.M1 (xok rfl rfl rfl rfl) rfl rfl ?_   | refine JL.M0 (xok rfl rfl rfl rfl) rfl ?_   | refine JL.Q0 (xok rfl rfl rfl rfl) rfl ?_   | refine JL.nilF ?_   | refine JL.nil ?_   | refine JC.scope ?_   | refine QX.tn ?_   | refine JC.seq ?_   | refine JC.region ?_   | refine JC.Draw (xok rfl rfl rfl rfl) ?_   | refine JC.block ?_   | refine JC.skip ?_   | refine JC.label ?_   | refine JC.exit ?_   | refine JC.ret ?_   | refine QX.te ?_ | refine QX.tr ?_ | refine QX.bn ?_ | refine QX.be ?_ | refine QX.bx rfl ?_ | refine QX.br ?_ | refine QX.sn ?_ | refine QX.se ?_ | refine QX.sr ?_ | refine QX.ee ?_ | refine QX.eo rfl ?_ | refine QX.er ?_ | refine QX.en ?_)); refine asgQ.nor rfl rfl rfl rfl ?_; (conv => arg 2; whnf); (repeat (first   | refine JL.Q1 (xok rfl rfl rfl rfl) rfl rfl ?_   | refine JL.G1 (xok rfl rfl rfl rfl) rfl rfl rfl ?_   | refine JL.g1 (xok rfl rfl rfl rfl) rfl rfl rfl (fun hgd => And.intro hgd (fun hpk => Bool.and_eq_true_iff.2 ⟨hgd, by rw [hpk]; rfl⟩)) ?_   | refine JL.G2 (xok rfl rfl rfl rfl) rfl rfl rfl ?_   | refine JL.M1 (xok rfl rfl rfl rfl) rfl rfl ?_   | refine JL.M0 (xok rfl rfl rfl rfl) rfl ?_   | refine JL.Q0 (xok rfl rfl rfl rfl) rfl ?_   | refine JL.nilF ?_   | refine JL.nil ?_   | refine JC.scope ?_   | refine QX.tn ?_   | refine JC.seq ?_   | refine JC.region ?_   | refine JC.Draw (xok rfl rfl rfl rfl) ?_   | refine JC.block ?_   | refine JC.skip ?_   | refine JC.label ?_   | refine JC.exit ?_   | refine JC.ret ?_   | refine QX.te ?_ | refine QX.tr ?_ | refine QX.bn ?_ | refine QX.be ?_ | refine QX.bx rfl ?_ | refine QX.br ?_ | refine QX.sn ?_ | refine QX.se ?_ | refine QX.sr ?_ | refine QX.ee ?_ | refine QX.eo rfl ?_ | refine QX.er ?_ | refine QX.en ?_)); refine bodyQ.of rfl rfl rfl rfl rfl rfl ?_)) | refine JL.pickT rfl (by show (xs.getD i 0 == b) = true; simpa using hx) rfl rfl (by (first | exact trivial | (try dsimp only [allP, inK, idxC, loC, lohiC, fullC, underG, List.append, List.nil_append, List.cons_append, Ty.den, Ty.dflt, Int.toNat_natCast, List.length_cons, List.length_nil] at *); first | omega | ((repeat' (first | exact trivial | assumption | refine And.intro ?_ ?_ | exact fun h => h | (intro hpk; first | exact hpk | simp only [wantB, hpk, Bool.not_false, Bool.not_true]))) <;> omega) | fail)) (by (first | exact trivial | (try dsimp only [allP, inK, idxC, loC, lohiC, fullC, underG, List.append, List.nil_append, List.cons_append, Ty.den, Ty.dflt, Int.toNat_natCast, List.length_cons, List.length_nil] at *); first | omega | ((repeat' (first | exact trivial | assumption | refine And.intro ?_ ?_ | exact fun h => h | (intro hpk; first | exact hpk | simp only [wantB, hpk, Bool.not_false, Bool.not_true]))) <;> omega) | fail)) ?_ | refine JL.q1 (xok rfl rfl rfl rfl) rfl rfl (by (first | exact trivial | (try dsimp only [allP, inK, idxC, loC, lohiC, fullC, underG, List.append, List.nil_append, List.cons_append, Ty.den, Ty.dflt, Int.toNat_natCast, List.length_cons, List.length_nil] at *); first | omega | ((repeat' (first | exact trivial | assumption | refine And.intro ?_ ?_ | exact fun h => h | (intro hpk; first | exact hpk | simp only [wantB, hpk, Bool.not_false, Bool.not_true]))) <;> omega) | fail)) ?_); refine JL.finN ?_; refine JF.Branch 12 [] (xok rfl rfl rfl rfl) ?_ ?_; (focus (repeat (first | exact StF.nil | refine StF.One rfl rfl rfl ?_))); refine BrF.one rfl rfl ?_ BrF.nil; (· (first | (refine JL.gT rfl (by show (xs.getD i 0 == b) = true; simpa using hx) ?_; first | refine JL.q1 (xok rfl rfl rfl rfl) rfl rfl (by (first | exact trivial | (try dsimp only [allP, inK, idxC, loC, lohiC, fullC, underG, List.append, List.nil_append, List.cons_append, Ty.den, Ty.dflt, Int.toNat_natCast, List.length_cons, List.length_nil] at *); first | omega | ((repeat' (first | exact trivial | assumption | refine And.intro ?_ ?_ | exact fun h => h | (intro hpk; first | exact hpk | simp only [wantB, hpk, Bool.not_false, Bool.not_true]))) <;> omega) | fail)) ?_ | (refine JL.yield [2, 3, 5, 17, 18, 19, 20, 21, 22, 23, 24, 25, 26, 27] rfl rfl rfl rfl (by (first | exact trivial | (try dsimp only [allP, inK, idxC, loC, lohiC, fullC, underG, List.append, List.nil_append, List.cons_append, Ty.den, Ty.dflt, Int.toNat_natCast, List.length_cons, List.length_nil] at *); first | omega | ((repeat' (first | exact trivial | assumption | refine And.intro ?_ ?_ | exact fun h => h | (intro hpk; first | exact hpk | simp only [wantB, hpk, Bool.not_false, Bool.not_true]))) <;> omega) | fail)) rfl rfl rfl (ltB_lt rfl) (fun M0 up bl hup => ?_); (conv => arg 2; whnf); (repeat (first   | refine JL.Q1 (xok rfl rfl rfl rfl) rfl rfl ?_   | refine JL.G1 (xok rfl rfl rfl rfl) rfl rfl rfl ?_   | refine JL.g1 (xok rfl rfl rfl rfl) rfl rfl rfl (fun hgd => And.intro hgd (fun hpk => Bool.and_eq_true_iff.2 ⟨hgd, by rw [hpk]; rfl⟩)) ?_   | refine JL.G2 (xok rfl rfl rfl rfl) rfl rfl rfl ?_   | refine JL.M1 (xok rfl rfl rfl rfl) rfl rfl ?_   | refine JL.M0 (xok rfl rfl rfl rfl) rfl ?_   | refine JL.Q0 (xok rfl rfl rfl rfl) rfl ?_   | refine JL.nilF ?_   | refine JL.nil ?_   | refine JC.scope ?_   | refine QX.tn ?_   | refine JC.seq ?_   | refine JC.region ?_   | refine JC.Draw (xok rfl rfl rfl rfl) ?_   | refine JC.block ?_   | refine JC.skip ?_   | refine JC.label ?_   | refine JC.exit ?_   | refine JC.ret ?_   | refine QX.te ?_ | refine QX.tr ?_ | refine QX.bn ?_ | refine QX.be ?_ | refine QX.bx rfl ?_ | refine QX.br ?_ | refine QX.sn ?_ | refine QX.se ?_ | refine QX.sr ?_ | refine QX.ee ?_ | refine QX.eo rfl ?_ | refine QX.er ?_ | refine QX.en ?_)); refine asgQ.nor rfl rfl rfl rfl ?_; (conv => arg 2; whnf); (repeat (first   | refine JL.Q1 (xok rfl rfl rfl rfl) rfl rfl ?_   | refine JL.G1 (xok rfl rfl rfl rfl) rfl rfl rfl ?_   | refine JL.g1 (xok rfl rfl rfl rfl) rfl rfl rfl (fun hgd => And.intro hgd (fun hpk => Bool.and_eq_true_iff.2 ⟨hgd, by rw [hpk]; rfl⟩)) ?_   | refine JL.G2 (xok rfl rfl rfl rfl) rfl rfl rfl ?_   | refine JL.M1 (xok rfl rfl rfl rfl) rfl rfl ?_   | refine JL.M0 (xok rfl rfl rfl rfl) rfl ?_   | refine JL.Q0 (xok rfl rfl rfl rfl) rfl ?_   | refine JL.nilF ?_   | refine JL.nil ?_   | refine JC.scope ?_   | refine QX.tn ?_   | refine JC.seq ?_   | refine JC.region ?_   | refine JC.Draw (xok rfl rfl rfl rfl) ?_   | refine JC.block ?_   | refine JC.skip ?_   | refine JC.label ?_   | refine JC.exit ?_   | refine JC.ret ?_   | refine QX.te ?_ | refine QX.tr ?_ | refine QX.bn ?_ | refine QX.be ?_ | refine QX.bx rfl ?_ | refine QX.br ?_ | refine QX.sn ?_ | refine QX.se ?_ | refine QX.sr ?_ | refine QX.ee ?_ | refine QX.eo rfl ?_ | refine QX.er ?_ | refine QX.en ?_)); refine bodyQ.of rfl rfl rfl rfl rfl rfl ?_)) | refine JL.pickT rfl (by show (xs.getD i 0 == b) = true; simpa using hx) rfl rfl (by (first | exact trivial | (try dsimp only [allP, inK, idxC, loC, lohiC, fullC, underG, List.append, List.nil_append, List.cons_append, Ty.den, Ty.dflt, Int.toNat_natCast, List.length_cons, List.length_nil] at *); first | omega | ((repeat' (first | exact trivial | assumption | refine And.intro ?_ ?_ | exact fun h => h | (intro hpk; first | exact hpk | simp only [wantB, hpk, Bool.not_false, Bool.not_true]))) <;> omega) | fail)) (by (first | exact trivial | (try dsimp only [allP, inK, idxC, loC, lohiC, fullC, underG, List.append, List.nil_append, List.cons_append, Ty.den, Ty.dflt, Int.toNat_natCast, List.length_cons, List.length_nil] at *); first | omega | ((repeat' (first | exact trivial | assumption | refine And.intro ?_ ?_ | exact fun h => h | (intro hpk; first | exact hpk | simp only [wantB, hpk, Bool.not_false, Bool.not_true]))) <;> omega) | fail)) ?_ | refine JL.q1 (xok rfl rfl rfl rfl) rfl rfl (by (first | exact trivial | (try dsimp only [allP, inK, idxC, loC, lohiC, fullC, underG, List.append, List.nil_append, List.cons_append, Ty.den, Ty.dflt, Int.toNat_natCast, List.length_cons, List.length_nil] at *); first | omega | ((repeat' (first | exact trivial | assumption | refine And.intro ?_ ?_ | exact fun h => h | (intro hpk; first | exact hpk | simp only [wantB, hpk, Bool.not_false, Bool.not_true]))) <;> omega) | fail)) ?_); refine JL.finN ?_; refine JF.Branch 13 [] (xok rfl rfl rfl rfl) ?_ ?_; (focus (repeat (first | exact StF.nil | refine StF.One rfl rfl rfl ?_))); refine BrF.one rfl rfl ?_ BrF.nil; (· (first | (refine JL.gT rfl (by show (xs.getD i 0 == b) = true; simpa using hx) ?_; first | refine JL.q1 (xok rfl rfl rfl rfl) rfl rfl (by (first | exact trivial | (try dsimp only [allP, inK, idxC, loC, lohiC, fullC, underG, List.append, List.nil_append, List.cons_append, Ty.den, Ty.dflt, Int.toNat_natCast, List.length_cons, List.length_nil] at *); first | omega | ((repeat' (first | exact trivial | assumption | refine And.intro ?_ ?_ | exact fun h => h | (intro hpk; first | exact hpk | simp only [wantB, hpk, Bool.not_false, Bool.not_true]))) <;> omega) | fail)) ?_ | (refine JL.yield [2, 3, 5, 17, 18, 19, 20, 21, 22, 23, 24, 25, 26, 27] rfl rfl rfl rfl (by (first | exact trivial | (try dsimp only [allP, inK, idxC, loC, lohiC, fullC, underG, List.append, List.nil_append, List.cons_append, Ty.den, Ty.dflt, Int.toNat_natCast, List.length_cons, List.length_nil] at *); first | omega | ((repeat' (first | exact trivial | assumption | refine And.intro ?_ ?_ | exact fun h => h | (intro hpk; first | exact hpk | simp only [wantB, hpk, Bool.not_false, Bool.not_true]))) <;> omega) | fail)) rfl rfl rfl (ltB_lt rfl) (fun M0 up bl hup => ?_); (conv => arg 2; whnf); (repeat (first   | refine JL.Q1 (xok rfl rfl rfl rfl) rfl rfl ?_   | refine JL.G1 (xok rfl rfl rfl rfl) rfl rfl rfl ?_   | refine JL.g1 (xok rfl rfl rfl rfl) rfl rfl rfl (fun hgd => And.intro hgd (fun hpk => Bool.and_eq_true_iff.2 ⟨hgd, by rw [hpk]; rfl⟩)) ?_   | refine JL.G2 (xok rfl rfl rfl rfl) rfl rfl rfl ?_   | refine JL.M1 (xok rfl rfl rfl rfl) rfl rfl ?_   | refine JL.M0 (xok rfl rfl rfl rfl) rfl ?_   | refine JL.Q0 (xok rfl rfl rfl rfl) rfl ?_   | refine JL.nilF ?_   | refine JL.nil ?_   | refine JC.scope ?_   | refine QX.tn ?_   | refine JC.seq ?_   | refine JC.region ?_   | refine JC.Draw (xok rfl rfl rfl rfl) ?_   | refine JC.block ?_   | refine JC.skip ?_   | refine JC.label ?_   | refine JC.exit ?_   | refine JC.ret ?_   | refine QX.te ?_ | refine QX.tr ?_ | refine QX.bn ?_ | refine QX.be ?_ | refine QX.bx rfl ?_ | refine QX.br ?_ | refine QX.sn ?_ | refine QX.se ?_ | refine QX.sr ?_ | refine QX.ee ?_ | refine QX.eo rfl ?_ | refine QX.er ?_ | refine QX.en ?_)); refine asgQ.nor rfl rfl rfl rfl ?_; (conv => arg 2; whnf); (repeat (first   | refine JL.Q1 (xok rfl rfl rfl rfl) rfl rfl ?_   | refine JL.G1 (xok rfl rfl rfl rfl) rfl rfl rfl ?_   | refine JL.g1 (xok rfl rfl rfl rfl) rfl rfl rfl (fun hgd => And.intro hgd (fun hpk => Bool.and_eq_true_iff.2 ⟨hgd, by rw [hpk]; rfl⟩)) ?_   | refine JL.G2 (xok rfl rfl rfl rfl) rfl rfl rfl ?_   | refine JL.M1 (xok rfl rfl rfl rfl) rfl rfl ?_   | refine JL.M0 (xok rfl rfl rfl rfl) rfl ?_   | refine JL.Q0 (xok rfl rfl rfl rfl) rfl ?_   | refine JL.nilF ?_   | refine JL.nil ?_   | refine JC.scope ?_   | refine QX.tn ?_   | refine JC.seq ?_   | refine JC.region ?_   | refine JC.Draw (xok rfl rfl rfl rfl) ?_   | refine JC.block ?_   | refine JC.skip ?_   | refine JC.label ?_   | refine JC.exit ?_   | refine JC.ret ?_   | refine QX.te ?_ | refine QX.tr ?_ | refine QX.bn ?_ | refine QX.be ?_ | refine QX.bx rfl ?_ | refine QX.br ?_ | refine QX.sn ?_ | refine QX.se ?_ | refine QX.sr ?_ | refine QX.ee ?_ | refine QX.eo rfl ?_ | refine QX.er ?_ | refine QX.en ?_)); refine bodyQ.of rfl rfl rfl rfl rfl rfl ?_)) | refine JL.pickT rfl (by show (xs.getD i 0 == b) = true; simpa using hx) rfl rfl (by (first | exact trivial | (try dsimp only [allP, inK, idxC, loC, lohiC, fullC, underG, List.append, List.nil_append, List.cons_append, Ty.den, Ty.dflt, Int.toNat_natCast, List.length_cons, List.length_nil] at *); first | omega | ((repeat' (first | exact trivial | assumption | refine And.intro ?_ ?_ | exact fun h => h | (intro hpk; first | exact hpk | simp only [wantB, hpk, Bool.not_false, Bool.not_true]))) <;> omega) | fail)) (by (first | exact trivial | (try dsimp only [allP, inK, idxC, loC, lohiC, fullC, underG, List.append, List.nil_append, List.cons_append, Ty.den, Ty.dflt, Int.toNat_natCast, List.length_cons, List.length_nil] at *); first | omega | ((repeat' (first | exact trivial | assumption | refine And.intro ?_ ?_ | exact fun h => h | (intro hpk; first | exact hpk | simp only [wantB, hpk, Bool.not_false, Bool.not_true]))) <;> omega) | fail)) ?_ | refine JL.q1 (xok rfl rfl rfl rfl) rfl rfl (by (first | exact trivial | (try dsimp only [allP, inK, idxC, loC, lohiC, fullC, underG, List.append, List.nil_append, List.cons_append, Ty.den, Ty.dflt, Int.toNat_natCast, List.length_cons, List.length_nil] at *); first | omega | ((repeat' (first | exact trivial | assumption | refine And.intro ?_ ?_ | exact fun h => h | (intro hpk; first | exact hpk | simp only [wantB, hpk, Bool.not_false, Bool.not_true]))) <;> omega) | fail)) ?_); refine JL.finN ?_; refine JF.Branch 14 [] (xok rfl rfl rfl rfl) ?_ ?_; (focus (repeat (first | exact StF.nil | refine StF.One rfl rfl rfl ?_))); refine BrF.one rfl rfl ?_ BrF.nil; (· (first | (refine JL.gT rfl (by show (xs.getD i 0 == b) = true; simpa using hx) ?_; first | refine JL.q1 (xok rfl rfl rfl rfl) rfl rfl (by (first | exact trivial | (try dsimp only [allP, inK, idxC, loC, lohiC, fullC, underG, List.append, List.nil_append, List.cons_append, Ty.den, Ty.dflt, Int.toNat_natCast, List.length_cons, List.length_nil] at *); first | omega | ((repeat' (first | exact trivial | assumption | refine And.intro ?_ ?_ | exact fun h => h | (intro hpk; first | exact hpk | simp only [wantB, hpk, Bool.not_false, Bool.not_true]))) <;> omega) | fail)) ?_ | (refine JL.yield [2, 3, 5, 17, 18, 19, 20, 21, 22, 23, 24, 25, 26, 27] rfl rfl rfl rfl (by (first | exact trivial | (try dsimp only [allP, inK, idxC, loC, lohiC, fullC, underG, List.append, List.nil_append, List.cons_append, Ty.den, Ty.dflt, Int.toNat_natCast, List.length_cons, List.length_nil] at *); first | omega | ((repeat' (first | exact trivial | assumption | refine And.intro ?_ ?_ | exact fun h => h | (intro hpk; first | exact hpk | simp only [wantB, hpk, Bool.not_false, Bool.not_true]))) <;> omega) | fail)) rfl rfl rfl (ltB_lt rfl) (fun M0 up bl hup => ?_); (conv => arg 2; whnf); (repeat (first   | refine JL.Q1 (xok rfl rfl rfl rfl) rfl rfl ?_   | refine JL.G1 (xok rfl rfl rfl rfl) rfl rfl rfl ?_   | refine JL.g1 (xok rfl rfl rfl rfl) rfl rfl rfl (fun hgd => And.intro hgd (fun hpk => Bool.and_eq_true_iff.2 ⟨hgd, by rw [hpk]; rfl⟩)) ?_   | refine JL.G2 (xok rfl rfl rfl rfl) rfl rfl rfl ?_   | refine JL.M1 (xok rfl rfl rfl rfl) rfl rfl ?_   | refine JL.M0 (xok rfl rfl rfl rfl) rfl ?_   | refine JL.Q0 (xok rfl rfl rfl rfl) rfl ?_   | refine JL.nilF ?_   | refine JL.nil ?_   | refine JC.scope ?_   | refine QX.tn ?_   | refine JC.seq ?_   | refine JC.region ?_   | refine JC.Draw (xok rfl rfl rfl rfl) ?_   | refine JC.block ?_   | refine JC.skip ?_   | refine JC.label ?_   | refine JC.exit ?_   | refine JC.ret ?_   | refine QX.te ?_ | refine QX.tr ?_ | refine QX.bn ?_ | refine QX.be ?_ | refine QX.bx rfl ?_ | refine QX.br ?_ | refine QX.sn ?_ | refine QX.se ?_ | refine QX.sr ?_ | refine QX.ee ?_ | refine QX.eo rfl ?_ | refine QX.er ?_ | refine QX.en ?_)); refine asgQ.nor rfl rfl rfl rfl ?_; (conv => arg 2; whnf); (repeat (first   | refine JL.Q1 (xok rfl rfl rfl rfl) rfl rfl ?_   | refine JL.G1 (xok rfl rfl rfl rfl) rfl rfl rfl ?_   | refine JL.g1 (xok rfl rfl rfl rfl) rfl rfl rfl (fun hgd => And.intro hgd (fun hpk => Bool.and_eq_true_iff.2 ⟨hgd, by rw [hpk]; rfl⟩)) ?_   | refine JL.G2 (xok rfl rfl rfl rfl) rfl rfl rfl ?_   | refine JL.M1 (xok rfl rfl rfl rfl) rfl rfl ?_   | refine JL.M0 (xok rfl rfl rfl rfl) rfl ?_   | refine JL.Q0 (xok rfl rfl rfl rfl) rfl ?_   | refine JL.nilF ?_   | refine JL.nil ?_   | refine JC.scope ?_   | refine QX.tn ?_   | refine JC.seq ?_   | refine JC.region ?_   | refine JC.Draw (xok rfl rfl rfl rfl) ?_   | refine JC.block ?_   | refine JC.skip ?_   | refine JC.label ?_   | refine JC.exit ?_   | refine JC.ret ?_   | refine QX.te ?_ | refine QX.tr ?_ | refine QX.bn ?_ | refine QX.be ?_ | refine QX.bx rfl ?_ | refine QX.br ?_ | refine QX.sn ?_ | refine QX.se ?_ | refine QX.sr ?_ | refine QX.ee ?_ | refine QX.eo rfl ?_ | refine QX.er ?_ | refine QX.en ?_)); refine bodyQ.of rfl rfl rfl rfl rfl rfl ?_)) | refine JL.pickT rfl (by show (xs.getD i 0 == b) = true; simpa using hx) rfl rfl (by (first | exact trivial | (try dsimp only [allP, inK, idxC, loC, lohiC, fullC, underG, List.append, List.nil_append, List.cons_append, Ty.den, Ty.dflt, Int.toNat_natCast, List.length_cons, List.length_nil] at *); first | omega | ((repeat' (first | exact trivial | assumption | refine And.intro ?_ ?_ | exact fun h => h | (intro hpk; first | exact hpk | simp only [wantB, hpk, Bool.not_false, Bool.not_true]))) <;> omega) | fail)) (by (first | exact trivial | (try dsimp only [allP, inK, idxC, loC, lohiC, fullC, underG, List.append, List.nil_append, List.cons_append, Ty.den, Ty.dflt, Int.toNat_natCast, List.length_cons, List.length_nil] at *); first | omega | ((repeat' (first | exact trivial | assumption | refine And.intro ?_ ?_ | exact fun h => h | (intro hpk; first | exact hpk | simp only [wantB, hpk, Bool.not_false, Bool.not_true]))) <;> omega) | fail)) ?_ | refine JL.q1 (xok rfl rfl rfl rfl) rfl rfl (by (first | exact trivial | (try dsimp only [allP, inK, idxC, loC, lohiC, fullC, underG, List.append, List.nil_append, List.cons_append, Ty.den, Ty.dflt, Int.toNat_natCast, List.length_cons, List.length_nil] at *); first | omega | ((repeat' (first | exact trivial | assumption | refine And.intro ?_ ?_ | exact fun h => h | (intro hpk; first | exact hpk | simp only [wantB, hpk, Bool.not_false, Bool.not_true]))) <;> omega) | fail)) ?_); refine JL.finN ?_; refine JF.Branch 15 [] (xok rfl rfl rfl rfl) ?_ ?_; (focus (repeat (first | exact StF.nil | refine StF.One rfl rfl rfl ?_))); refine BrF.one rfl rfl ?_ BrF.nil; (· (first | (refine JL.gT rfl (by show (xs.getD i 0 == b) = true; simpa using hx) ?_; first | refine JL.q1 (xok rfl rfl rfl rfl) rfl rfl (by (first | exact trivial | (try dsimp only [allP, inK, idxC, loC, lohiC, fullC, underG, List.append, List.nil_append, List.cons_append, Ty.den, Ty.dflt, Int.toNat_natCast, List.length_cons, List.length_nil] at *); first | omega | ((repeat' (first | exact trivial | assumption | refine And.intro ?_ ?_ | exact fun h => h | (intro hpk; first | exact hpk | simp only [wantB, hpk, Bool.not_false, Bool.not_true]))) <;> omega) | fail)) ?_ | (refine JL.yield [2, 3, 5, 17, 18, 19, 20, 21, 22, 23, 24, 25, 26, 27] rfl rfl rfl rfl (by (first | exact trivial | (try dsimp only [allP, inK, idxC, loC, lohiC, fullC, underG, List.append, List.nil_append, List.cons_append, Ty.den, Ty.dflt, Int.toNat_natCast, List.length_cons, List.length_nil] at *); first | omega | ((repeat' (first | exact trivial | assumption | refine And.intro ?_ ?_ | exact fun h => h | (intro hpk; first | exact hpk | simp only [wantB, hpk, Bool.not_false, Bool.not_true]))) <;> omega) | fail)) rfl rfl rfl (ltB_lt rfl) (fun M0 up bl hup => ?_); (conv => arg 2; whnf); (repeat (first   | refine JL.Q1 (xok rfl rfl rfl rfl) rfl rfl ?_   | refine JL.G1 (xok rfl rfl rfl rfl) rfl rfl rfl ?_   | refine JL.g1 (xok rfl rfl rfl rfl) rfl rfl rfl (fun hgd => And.intro hgd (fun hpk => Bool.and_eq_true_iff.2 ⟨hgd, by rw [hpk]; rfl⟩)) ?_   | refine JL.G2 (xok rfl rfl rfl rfl) rfl rfl rfl ?_   | refine JL.M1 (xok rfl rfl rfl rfl) rfl rfl ?_   | refine JL.M0 (xok rfl rfl rfl rfl) rfl ?_   | refine JL.Q0 (xok rfl rfl rfl rfl) rfl ?_   | refine JL.nilF ?_   | refine JL.nil ?_   | refine JC.scope ?_   | refine QX.tn ?_   | refine JC.seq ?_   | refine JC.region ?_   | refine JC.Draw (xok rfl rfl rfl rfl) ?_   | refine JC.block ?_   | refine JC.skip ?_   | refine JC.label ?_   | refine JC.exit ?_   | refine JC.ret ?_   | refine QX.te ?_ | refine QX.tr ?_ | refine QX.bn ?_ | refine QX.be ?_ | refine QX.bx rfl ?_ | refine QX.br ?_ | refine QX.sn ?_ | refine QX.se ?_ | refine QX.sr ?_ | refine QX.ee ?_ | refine QX.eo rfl ?_ | refine QX.er ?_ | refine QX.en ?_)); refine asgQ.nor rfl rfl rfl rfl ?_; (conv => arg 2; whnf); (repeat (first   | refine JL.Q1 (xok rfl rfl rfl rfl) rfl rfl ?_   | refine JL.G1 (xok rfl rfl rfl rfl) rfl rfl rfl ?_   | refine JL.g1 (xok rfl rfl rfl rfl) rfl rfl rfl (fun hgd => And.intro hgd (fun hpk => Bool.and_eq_true_iff.2 ⟨hgd, by rw [hpk]; rfl⟩)) ?_   | refine JL.G2 (xok rfl rfl rfl rfl) rfl rfl rfl ?_   | refine JL.M1 (xok rfl rfl rfl rfl) rfl rfl ?_   | refine JL.M0 (xok rfl rfl rfl rfl) rfl ?_   | refine JL.Q0 (xok rfl rfl rfl rfl) rfl ?_   | refine JL.nilF ?_   | refine JL.nil ?_   | refine JC.scope ?_   | refine QX.tn ?_   | refine JC.seq ?_   | refine JC.region ?_   | refine JC.Draw (xok rfl rfl rfl rfl) ?_   | refine JC.block ?_   | refine JC.skip ?_   | refine JC.label ?_   | refine JC.exit ?_   | refine JC.ret ?_   | refine QX.te ?_ | refine QX.tr ?_ | refine QX.bn ?_ | refine QX.be ?_ | refine QX.bx rfl ?_ | refine QX.br ?_ | refine QX.sn ?_ | refine QX.se ?_ | refine QX.sr ?_ | refine QX.ee ?_ | refine QX.eo rfl ?_ | refine QX.er ?_ | refine QX.en ?_)); refine bodyQ.of rfl rfl rfl rfl rfl rfl ?_)) | refine JL.pickT rfl (by show (xs.getD i 0 == b) = true; simpa using hx) rfl rfl (by (first | exact trivial | (try dsimp only [allP, inK, idxC, loC, lohiC, fullC, underG, List.append, List.nil_append, List.cons_append, Ty.den, Ty.dflt, Int.toNat_natCast, List.length_cons, List.length_nil] at *); first | omega | ((repeat' (first | exact trivial | assumption | refine And.intro ?_ ?_ | exact fun h => h | (intro hpk; first | exact hpk | simp only [wantB, hpk, Bool.not_false, Bool.not_true]))) <;> omega) | fail)) (by (first | exact trivial | (try dsimp only [allP, inK, idxC, loC, lohiC, fullC, underG, List.append, List.nil_append, List.cons_append, Ty.den, Ty.dflt, Int.toNat_natCast, List.length_cons, List.length_nil] at *); first | omega | ((repeat' (first | exact trivial | assumption | refine And.intro ?_ ?_ | exact fun h => h | (intro hpk; first | exact hpk | simp only [wantB, hpk, Bool.not_false, Bool.not_true]))) <;> omega) | fail)) ?_ | refine JL.q1 (xok rfl rfl rfl rfl) rfl rfl (by (first | exact trivial | (try dsimp only [allP, inK, idxC, loC, lohiC, fullC, underG, List.append, List.nil_append, List.cons_append, Ty.den, Ty.dflt, Int.toNat_natCast, List.length_cons, List.length_nil] at *); first | omega | ((repeat' (first | exact trivial | assumption | refine And.intro ?_ ?_ | exact fun h => h | (intro hpk; first | exact hpk | simp only [wantB, hpk, Bool.not_false, Bool.not_true]))) <;> omega) | fail)) ?_); refine JL.finN ?_; refine JF.Done (xok rfl rfl rfl rfl) ?_ ?_; (focus (repeat (first | exact StF.nil | refine StF.One rfl rfl rfl ?_))); ((exact JW.Auto rfl))))))); (· (first | (refine JL.gT rfl (by show (xs.getD i 0 == b) = true; simpa using hx) ?_; first | refine JL.q1 (xok rfl rfl rfl rfl) rfl rfl (by (first | exact trivial | (try dsimp only [allP, inK, idxC, loC, lohiC, fullC, underG, List.append, List.nil_append, List.cons_append, Ty.den, Ty.dflt, Int.toNat_natCast, List.length_cons, List.length_nil] at *); first | omega | ((repeat' (first | exact trivial | assumption | refine And.intro ?_ ?_ | exact fun h => h | (intro hpk; first | exact hpk | simp only [wantB, hpk, Bool.not_false, Bool.not_true]))) <;> omega) | fail)) ?_ | (refine JL.yield [2, 3, 5, 17, 18, 19, 20, 21, 22, 23, 24, 25, 26, 27] rfl rfl rfl rfl (by (first | exact trivial | (try dsimp only [allP, inK, idxC, loC, lohiC, fullC, underG, List.append, List.nil_append, List.cons_append, Ty.den, Ty.dflt, Int.toNat_natCast, List.length_cons, List.length_nil] at *); first | omega | ((repeat' (first | exact trivial | assumption | refine And.intro ?_ ?_ | exact fun h => h | (intro hpk; first | exact hpk | simp only [wantB, hpk, Bool.not_false, Bool.not_true]))) <;> omega) | fail)) rfl rfl rfl (ltB_lt rfl) (fun M0 up bl hup => ?_); (conv => arg 2; whnf); (repeat (first   | refine JL.Q1 (xok rfl rfl rfl rfl) rfl rfl ?_   | refine JL.G1 (xok rfl rfl rfl rfl) rfl rfl rfl ?_   | refine JL.g1 (xok rfl rfl rfl rfl) rfl rfl rfl (fun hgd => And.intro hgd (fun hpk => Bool.and_eq_true_iff.2 ⟨hgd, by rw [hpk]; rfl⟩)) ?_   | refine JL.G2 (xok rfl rfl rfl rfl) rfl rfl rfl ?_   | refine JL.M1 (xok rfl rfl rfl rfl) rfl rfl ?_   | refine JL.M0 (xok rfl rfl rfl rfl) rfl ?_   | refine JL.Q0 (xok rfl rfl rfl rfl) rfl ?_   | refine JL.nilF ?_   | refine JL.nil ?_   | refine JC.scope ?_   | refine QX.tn ?_   | refine JC.seq ?_   | refine JC.region ?_   | refine JC.Draw (xok rfl rfl rfl rfl) ?_   | refine JC.block ?_   | refine JC.skip ?_   | refine JC.label ?_   | refine JC.exit ?_   | refine JC.ret ?_   | refine QX.te ?_ | refine QX.tr ?_ | refine QX.bn ?_ | refine QX.be ?_ | refine QX.bx rfl ?_ | refine QX.br ?_ | refine QX.sn ?_ | refine QX.se ?_ | refine QX.sr ?_ | refine QX.ee ?_ | refine QX.eo rfl ?_ | refine QX.er ?_ | refine QX.en ?_)); refine asgQ.nor rfl rfl rfl rfl ?_; (conv => arg 2; whnf); (repeat (first   | refine JL.Q1 (xok rfl rfl rfl rfl) rfl rfl ?_   | refine JL.G1 (xok rfl rfl rfl rfl) rfl rfl rfl ?_   | refine JL.g1 (xok rfl rfl rfl rfl) rfl rfl rfl (fun hgd => And.intro hgd (fun hpk => Bool.and_eq_true_iff.2 ⟨hgd, by rw [hpk]; rfl⟩)) ?_   | refine JL.G2 (xok rfl rfl rfl rfl) rfl rfl rfl ?_   | refine JL.M1 (xok rfl rfl rfl rfl) rfl rfl ?_   | refine JL.M0 (xok rfl rfl rfl rfl) rfl ?_   | refine JL.Q0 (xok rfl rfl rfl rfl) rfl ?_   | refine JL.nilF ?_   | refine JL.nil ?_   | refine JC.scope ?_   | refine QX.tn ?_   | refine JC.seq ?_   | refine JC.region ?_   | refine JC.Draw (xok rfl rfl rfl rfl) ?_   | refine JC.block ?_   | refine JC.skip ?_   | refine JC.label ?_   | refine JC.exit ?_   | refine JC.ret ?_   | refine QX.te ?_ | refine QX.tr ?_ | refine QX.bn ?_ | refine QX.be ?_ | refine QX.bx rfl ?_ | refine QX.br ?_ | refine QX.sn ?_ | refine QX.se ?_ | refine QX.sr ?_ | refine QX.ee ?_ | refine QX.eo rfl ?_ | refine QX.er ?_ | refine QX.en ?_)); refine bodyQ.of rfl rfl rfl rfl rfl rfl ?_)) | refine JL.pickT rfl (by show (xs.getD i 0 == b) = true; simpa using hx) rfl rfl (by (first | exact trivial | (try dsimp only [allP, inK, idxC, loC, lohiC, fullC, underG, List.append, List.nil_append, List.cons_append, Ty.den, Ty.dflt, Int.toNat_natCast, List.length_cons, List.length_nil] at *); first | omega | ((repeat' (first | exact trivial | assumption | refine And.intro ?_ ?_ | exact fun h => h | (intro hpk; first | exact hpk | simp only [wantB, hpk, Bool.not_false, Bool.not_true]))) <;> omega) | fail)) (by (first | exact trivial | (try dsimp only [allP, inK, idxC, loC, lohiC, fullC, underG, List.append, List.nil_append, List.cons_append, Ty.den, Ty.dflt, Int.toNat_natCast, List.length_cons, List.length_nil] at *); first | omega | ((repeat' (first | exact trivial | assumption | refine And.intro ?_ ?_ | exact fun h => h | (intro hpk; first | exact hpk | simp only [wantB, hpk, Bool.not_false, Bool.not_true]))) <;> omega) | fail)) ?_ | refine JL.q1 (xok rfl rfl rfl rfl) rfl rfl (by (first | exact trivial | (try dsimp only [allP, inK, idxC, loC, lohiC, fullC, underG, List.append, List.nil_append, List.cons_append, Ty.den, Ty.dflt, Int.toNat_natCast, List.length_cons, List.length_nil] at *); first | omega | ((repeat' (first | exact trivial | assumption | refine And.intro ?_ ?_ | exact fun h => h | (intro hpk; first | exact hpk | simp only [wantB, hpk, Bool.not_false, Bool.not_true]))) <;> omega) | fail)) ?_); refine JL.finN ?_; refine JF.Branch 11 [] (xok rfl rfl rfl rfl) ?_ ?_; (focus (repeat (first | exact StF.nil | refine StF.One rfl rfl rfl ?_))); refine BrF.one rfl rfl ?_ BrF.nil; (· (first | (refine JL.gT rfl (by show (xs.getD i 0 == b) = true; simpa using hx) ?_; first | refine JL.q1 (xok rfl rfl rfl rfl) rfl rfl (by (first | exact trivial | (try dsimp only [allP, inK, idxC, loC, lohiC, fullC, underG, List.append, List.nil_append, List.cons_append, Ty.den, Ty.dflt, Int.toNat_natCast, List.length_cons, List.length_nil] at *); first | omega | ((repeat' (first | exact trivial | assumption | refine And.intro ?_ ?_ | exact fun h => h | (intro hpk; first | exact hpk | simp only [wantB, hpk, Bool.not_false, Bool.not_true]))) <;> omega) | fail)) ?_ | (refine JL.yield [2, 3, 5, 17, 18, 19, 20, 21, 22, 23, 24, 25, 26, 27] rfl rfl rfl rfl (by (first | exact trivial | (try dsimp only [allP, inK, idxC, loC, lohiC, fullC, underG, List.append, List.nil_append, List.cons_append, Ty.den, Ty.dflt, Int.toNat_natCast, List.length_cons, List.length_nil] at *); first | omega | ((repeat' (first | exact trivial | assumption | refine And.intro ?_ ?_ | exact fun h => h | (intro hpk; first | exact hpk | simp only [wantB, hpk, Bool.not_false, Bool.not_true]))) <;> omega) | fail)) rfl rfl rfl (ltB_lt rfl) (fun M0 up bl hup => ?_); (conv => arg 2; whnf); (repeat (first   | refine JL.Q1 (xok rfl rfl rfl rfl) rfl rfl ?_   | refine JL.G1 (xok rfl rfl rfl rfl) rfl rfl rfl ?_   | refine JL.g1 (xok rfl rfl rfl rfl) rfl rfl rfl (fun hgd => And.intro hgd (fun hpk => Bool.and_eq_true_iff.2 ⟨hgd, by rw [hpk]; rfl⟩)) ?_   | refine JL.G2 (xok rfl rfl rfl rfl) rfl rfl rfl ?_   | refine JL.M1 (xok rfl rfl rfl rfl) rfl rfl ?_   | refine JL.M0 (xok rfl rfl rfl rfl) rfl ?_   | refine JL.Q0 (xok rfl rfl rfl rfl) rfl ?_   | refine JL.nilF ?_   | refine JL.nil ?_   | refine JC.scope ?_   | refine QX.tn ?_   | refine JC.seq ?_   | refine JC.region ?_   | refine JC.Draw (xok rfl rfl rfl rfl) ?_   | refine JC.block ?_   | refine JC.skip ?_   | refine JC.label ?_   | refine JC.exit ?_   | refine JC.ret ?_   | refine QX.te ?_ | refine QX.tr ?_ | refine QX.bn ?_ | refine QX.be ?_ | refine QX.bx rfl ?_ | refine QX.br ?_ | refine QX.sn ?_ | refine QX.se ?_ | refine QX.sr ?_ | refine QX.ee ?_ | refine QX.eo rfl ?_ | refine QX.er ?_ | refine QX.en ?_)); refine asgQ.nor rfl rfl rfl rfl ?_; (conv => arg 2; whnf); (repeat (first   | refine JL.Q1 (xok rfl rfl rfl rfl) rfl rfl ?_   | refine JL.G1 (xok rfl rfl rfl rfl) rfl rfl rfl ?_   | refine JL.g1 (xok rfl rfl rfl rfl) rfl rfl rfl (fun hgd => And.intro hgd (fun hpk => Bool.and_eq_true_iff.2 ⟨hgd, by rw [hpk]; rfl⟩)) ?_   | refine JL.G2 (xok rfl rfl rfl rfl) rfl rfl rfl ?_   | refine JL.M1 (xok rfl rfl rfl rfl) rfl rfl ?_   | refine JL.M0 (xok rfl rfl rfl rfl) rfl ?_   | refine JL.Q0 (xok rfl rfl rfl rfl) rfl ?_   | refine JL.nilF ?_   | refine JL.nil ?_   | refine JC.scope ?_   | refine QX.tn ?_   | refine JC.seq ?_   | refine JC.region ?_   | refine JC.Draw (xok rfl rfl rfl rfl) ?_   | refine JC.block ?_   | refine JC.skip ?_   | refine JC.label ?_   | refine JC.exit ?_   | refine JC.ret ?_   | refine QX.te ?_ | refine QX.tr ?_ | refine QX.bn ?_ | refine QX.be ?_ | refine QX.bx rfl ?_ | refine QX.br ?_ | refine QX.sn ?_ | refine QX.se ?_ | refine QX.sr ?_ | refine QX.ee ?_ | refine QX.eo rfl ?_ | refine QX.er ?_ | refine QX.en ?_)); refine bodyQ.of rfl rfl rfl rfl rfl rfl ?_)) | refine JL.pickT rfl (by show (xs.getD i 0 == b) = true; simpa using hx) rfl rfl (by (first | exact trivial | (try dsimp only [allP, inK, idxC, loC, lohiC, fullC, underG, List.append, List.nil_append, List.cons_append, Ty.den, Ty.dflt, Int.toNat_natCast, List.length_cons, List.length_nil] at *); first | omega | ((repeat' (first | exact trivial | assumption | refine And.intro ?_ ?_ | exact fun h => h | (intro hpk; first | exact hpk | simp only [wantB, hpk, Bool.not_false, Bool.not_true]))) <;> omega) | fail)) (by (first | exact trivial | (try dsimp only [allP, inK, idxC, loC, lohiC, fullC, underG, List.append, List.nil_append, List.cons_append, Ty.den, Ty.dflt, Int.toNat_natCast, List.length_cons, List.length_nil] at *); first | omega | ((repeat' (first | exact trivial | assumption | refine And.intro ?_ ?_ | exact fun h => h | (intro hpk; first | exact hpk | simp only [wantB, hpk, Bool.not_false, Bool.not_true]))) <;> omega) | fail)) ?_ | refine JL.q1 (xok rfl rfl rfl rfl) rfl rfl (by (first | exact trivial | (try dsimp only [allP, inK, idxC, loC, lohiC, fullC, underG, List.append, List.nil_append, List.cons_append, Ty.den, Ty.dflt, Int.toNat_natCast, List.length_cons, List.length_nil] at *); first | omega | ((repeat' (first | exact trivial | assumption | refine And.intro ?_ ?_ | exact fun h => h | (intro hpk; first | exact hpk | simp only [wantB, hpk, Bool.not_false, Bool.not_true]))) <;> omega) | fail)) ?_); refine JL.finN ?_; refine JF.Branch 13 [] (xok rfl rfl rfl rfl) ?_ ?_; (focus (repeat (first | exact StF.nil | refine StF.One rfl rfl rfl ?_))); refine BrF.one rfl rfl ?_ BrF.nil; (· (first | (refine JL.gT rfl (by show (xs.getD i 0 == b) = true; simpa using hx) ?_; first | refine JL.q1 (xok rfl rfl rfl rfl) rfl rfl (by (first | exact trivial | (try dsimp only [allP, inK, idxC, loC, lohiC, fullC, underG, List.append, List.nil_append, List.cons_append, Ty.den, Ty.dflt, Int.toNat_natCast, List.length_cons, List.length_nil] at *); first | omega | ((repeat' (first | exact trivial | assumption | refine And.intro ?_ ?_ | exact fun h => h | (intro hpk; first | exact hpk | simp only [wantB, hpk, Bool.not_false, Bool.not_true]))) <;> omega) | fail)) ?_ | (refine JL.yield [2, 3, 5, 17, 18, 19, 20, 21, 22, 23, 24, 25, 26, 27] rfl rfl rfl rfl (by (first | exact trivial | (try dsimp only [allP, inK, idxC, loC, lohiC, fullC, underG, List.append, List.nil_append, List.cons_append, Ty.den, Ty.dflt, Int.toNat_natCast, List.length_cons, List.length_nil] at *); first | omega | ((repeat' (first | exact trivial | assumption | refine And.intro ?_ ?_ | exact fun h => h | (intro hpk; first | exact hpk | simp only [wantB, hpk, Bool.not_false, Bool.not_true]))) <;> omega) | fail)) rfl rfl rfl (ltB_lt rfl) (fun M0 up bl hup => ?_); (conv => arg 2; whnf); (repeat (first   | refine JL.Q1 (xok rfl rfl rfl rfl) rfl rfl ?_   | refine JL.G1 (xok rfl rfl rfl rfl) rfl rfl rfl ?_   | refine JL.g1 (xok rfl rfl rfl rfl) rfl rfl rfl (fun hgd => And.intro hgd (fun hpk => Bool.and_eq_true_iff.2 ⟨hgd, by rw [hpk]; rfl⟩)) ?_   | refine JL.G2 (xok rfl rfl rfl rfl) rfl rfl rfl ?_   | refine JL.M1 (xok rfl rfl rfl rfl) rfl rfl ?_   | refine JL.M0 (xok rfl rfl rfl rfl) rfl ?_   | refine JL.Q0 (xok rfl rfl rfl rfl) rfl ?_   | refine JL.nilF ?_   | refine JL.nil ?_   | refine JC.scope ?_   | refine QX.tn ?_   | refine JC.seq ?_   | refine JC.region ?_   | refine JC.Draw (xok rfl rfl rfl rfl) ?_   | refine JC.block ?_   | refine JC.skip ?_   | refine JC.label ?_   | refine JC.exit ?_   | refine JC.ret ?_   | refine QX.te ?_ | refine QX.tr ?_ | refine QX.bn ?_ | refine QX.be ?_ | refine QX.bx rfl ?_ | refine QX.br ?_ | refine QX.sn ?_ | refine QX.se ?_ | refine QX.sr ?_ | refine QX.ee ?_ | refine QX.eo rfl ?_ | refine QX.er ?_ | refine QX.en ?_)); refine asgQ.nor rfl rfl rfl rfl ?_; (conv => arg 2; whnf); (repeat (first   | refine JL.Q1 (xok rfl rfl rfl rfl) rfl rfl ?_   | refine JL.G1 (xok rfl rfl rfl rfl) rfl rfl rfl ?_   | refine JL.g1 (xok rfl rfl rfl rfl) rfl rfl rfl (fun hgd => And.intro hgd (fun hpk => Bool.and_eq_true_iff.2 ⟨hgd, by rw [hpk]; rfl⟩)) ?_   | refine JL.G2 (xok rfl rfl rfl rfl) rfl rfl rfl ?_   | refine JL.M1 (xok rfl rfl rfl rfl) rfl rfl ?_   | refine JL.M0 (xok rfl rfl rfl rfl) rfl ?_   | refine JL.Q0 (xok rfl rfl rfl rfl) rfl ?_   | refine JL.nilF ?_   | refine JL.nil ?_   | refine JC.scope ?_   | refine QX.tn ?_   | refine JC.seq ?_   | refine JC.region ?_   | refine JC.Draw (xok rfl rfl rfl rfl) ?_   | refine JC.block ?_   | refine JC.skip ?_   | refine JC.label ?_   | refine JC.exit ?_   | refine JC.ret ?_   | refine QX.te ?_ | refine QX.tr ?_ | refine QX.bn ?_ | refine QX.be ?_ | refine QX.bx rfl ?_ | refine QX.br ?_ | refine QX.sn ?_ | refine QX.se ?_ | refine QX.sr ?_ | refine QX.ee ?_ | refine QX.eo rfl ?_ | refine QX.er ?_ | refine QX.en ?_)); refine bodyQ.of rfl rfl rfl rfl rfl rfl ?_)) | refine JL.pickT rfl (by show (xs.getD i 0 == b) = true; simpa using hx) rfl rfl (by (first | exact trivial | (try dsimp only [allP, inK, idxC, loC, lohiC, fullC, underG, List.append, List.nil_append, List.cons_append, Ty.den, Ty.dflt, Int.toNat_natCast, List.length_cons, List.length_nil] at *); first | omega | ((repeat' (first | exact trivial | assumption | refine And.intro ?_ ?_ | exact fun h => h | (intro hpk; first | exact hpk | simp only [wantB, hpk, Bool.not_false, Bool.not_true]))) <;> omega) | fail)) (by (first | exact trivial | (try dsimp only [allP, inK, idxC, loC, lohiC, fullC, underG, List.append, List.nil_append, List.cons_append, Ty.den, Ty.dflt, Int.toNat_natCast, List.length_cons, List.length_nil] at *); first | omega | ((repeat' (first | exact trivial | assumption | refine And.intro ?_ ?_ | exact fun h => h | (intro hpk; first | exact hpk | simp only [wantB, hpk, Bool.not_false, Bool.not_true]))) <;> omega) | fail)) ?_ | refine JL.q1 (xok rfl rfl rfl rfl) rfl rfl (by (first | exact trivial | (try dsimp only [allP, inK, idxC, loC, lohiC, fullC, underG, List.append, List.nil_append, List.cons_append, Ty.den, Ty.dflt, Int.toNat_natCast, List.length_cons, List.length_nil] at *); first | omega | ((repeat' (first | exact trivial | assumption | refine And.intro ?_ ?_ | exact fun h => h | (intro hpk; first | exact hpk | simp only [wantB, hpk, Bool.not_false, Bool.not_true]))) <;> omega) | fail)) ?_); refine JL.finN ?_; refine JF.Branch 14 [] (xok rfl rfl rfl rfl) ?_ ?_; (focus (repeat (first | exact StF.nil | refine StF.One rfl rfl rfl ?_))); refine BrF.one rfl rfl ?_ BrF.nil; (· (first | (refine JL.gT rfl (by show (xs.getD i 0 == b) = true; simpa using hx) ?_; first | refine JL.q1 (xok rfl rfl rfl rfl) rfl rfl (by (first | exact trivial | (try dsimp only [allP, inK, idxC, loC, lohiC, fullC, underG, List.append, List.nil_append, List.cons_append, Ty.den, Ty.dflt, Int.toNat_natCast, List.length_cons, List.length_nil] at *); first | omega | ((repeat' (first | exact trivial | assumption | refine And.intro ?_ ?_ | exact fun h => h | (intro hpk; first | exact hpk | simp only [wantB, hpk, Bool.not_false, Bool.not_true]))) <;> omega) | fail)) ?_ | (refine JL.yield [2, 3, 5, 17, 18, 19, 20, 21, 22, 23, 24, 25, 26, 27] rfl rfl rfl rfl (by (first | exact trivial | (try dsimp only [allP, inK, idxC, loC, lohiC, fullC, underG, List.append, List.nil_append, List.cons_append, Ty.den, Ty.dflt, Int.toNat_natCast, List.length_cons, List.length_nil] at *); first | omega | ((repeat' (first | exact trivial | assumption | refine And.intro ?_ ?_ | exact fun h => h | (intro hpk; first | exact hpk | simp only [wantB, hpk, Bool.not_false, Bool.not_true]))) <;> omega) | fail)) rfl rfl rfl (ltB_lt rfl) (fun M0 up bl hup => ?_); (conv => arg 2; whnf); (repeat (first   | refine JL.Q1 (xok rfl rfl rfl rfl) rfl rfl ?_   | refine JL.G1 (xok rfl rfl rfl rfl) rfl rfl rfl ?_   | refine JL.g1 (xok rfl rfl rfl rfl) rfl rfl rfl (fun hgd => And.intro hgd (fun hpk => Bool.and_eq_true_iff.2 ⟨hgd, by rw [hpk]; rfl⟩)) ?_   | refine JL.G2 (xok rfl rfl rfl rfl) rfl rfl rfl ?_   | refine JL.M1 (xok rfl rfl rfl rfl) rfl rfl ?_   | refine JL.M0 (xok rfl rfl rfl rfl) rfl ?_   | refine JL.Q0 (xok rfl rfl rfl rfl) rfl ?_   | refine JL.nilF ?_   | refine JL.nil ?_   | refine JC.scope ?_   | refine QX.tn ?_   | refine JC.seq ?_   | refine JC.region ?_   | refine JC.Draw (xok rfl rfl rfl rfl) ?_   | refine JC.block ?_   | refine JC.skip ?_   | refine JC.label ?_   | refine JC.exit ?_   | refine JC.ret ?_   | refine QX.te ?_ | refine QX.tr ?_ | refine QX.bn ?_ | refine QX.be ?_ | refine QX.bx rfl ?_ | refine QX.br ?_ | refine QX.sn ?_ | refine QX.se ?_ | refine QX.sr ?_ | refine QX.ee ?_ | refine QX.eo rfl ?_ | refine QX.er ?_ | refine QX.en ?_)); refine asgQ.nor rfl rfl rfl rfl ?_; (conv => arg 2; whnf); (repeat (first   | refine JL.Q1 (xok rfl rfl rfl rfl) rfl rfl ?_   | refine JL.G1 (xok rfl rfl rfl rfl) rfl rfl rfl ?_   | refine JL.g1 (xok rfl rfl rfl rfl) rfl rfl rfl (fun hgd => And.intro hgd (fun hpk => Bool.and_eq_true_iff.2 ⟨hgd, by rw [hpk]; rfl⟩)) ?_   | refine JL.G2 (xok rfl rfl rfl rfl) rfl rfl rfl ?_   | refine JL.M1 (xok rfl rfl rfl rfl) rfl rfl ?_   | refine JL.M0 (xok rfl rfl rfl rfl) rfl ?_   | refine JL.Q0 (xok rfl rfl rfl rfl) rfl ?_   | refine JL.nilF ?_   | refine JL.nil ?_   | refine JC.scope ?_   | refine QX.tn ?_   | refine JC.seq ?_   | refine JC.region ?_   | refine JC.Draw (xok rfl rfl rfl rfl) ?_   | refine JC.block ?_   | refine JC.skip ?_   | refine JC.label ?_   | refine JC.exit ?_   | refine JC.ret ?_   | refine QX.te ?_ | refine QX.tr ?_ | refine QX.bn ?_ | refine QX.be ?_ | refine QX.bx rfl ?_ | refine QX.br ?_ | refine QX.sn ?_ | refine QX.se ?_ | refine QX.sr ?_ | refine QX.ee ?_ | refine QX.eo rfl ?_ | refine QX.er ?_ | refine QX.en ?_)); refine bodyQ.of rfl rfl rfl rfl rfl rfl ?_)) | refine JL.pickT rfl (by show (xs.getD i 0 == b) = true; simpa using hx) rfl rfl (by (first | exact trivial | (try dsimp only [allP, inK, idxC, loC, lohiC, fullC, underG, List.append, List.nil_append, List.cons_append, Ty.den, Ty.dflt, Int.toNat_natCast, List.length_cons, List.length_nil] at *); first | omega | ((repeat' (first | exact trivial | assumption | refine And.intro ?_ ?_ | exact fun h => h | (intro hpk; first | exact hpk | simp only [wantB, hpk, Bool.not_false, Bool.not_true]))) <;> omega) | fail)) (by (first | exact trivial | (try dsimp only [allP, inK, idxC, loC, lohiC, fullC, underG, List.append, List.nil_append, List.cons_append, Ty.den, Ty.dflt, Int.toNat_natCast, List.length_cons, List.length_nil] at *); first | omega | ((repeat' (first | exact trivial | assumption | refine And.intro ?_ ?_ | exact fun h => h | (intro hpk; first | exact hpk | simp only [wantB, hpk, Bool.not_false, Bool.not_true]))) <;> omega) | fail)) ?_ | refine JL.q1 (xok rfl rfl rfl rfl) rfl rfl (by (first | exact trivial | (try dsimp only [allP, inK, idxC, loC, lohiC, fullC, underG, List.append, List.nil_append, List.cons_append, Ty.den, Ty.dflt, Int.toNat_natCast, List.length_cons, List.length_nil] at *); first | omega | ((repeat' (first | exact trivial | assumption | refine And.intro ?_ ?_ | exact fun h => h | (intro hpk; first | exact hpk | simp only [wantB, hpk, Bool.not_false, Bool.not_true]))) <;> omega) | fail)) ?_); refine JL.finN ?_; refine JF.Branch 15 [] (xok rfl rfl rfl rfl) ?_ ?_; (focus (repeat (first | exact StF.nil | refine StF.One rfl rfl rfl ?_))); refine BrF.one rfl rfl ?_ BrF.nil; (· (first | (refine JL.gT rfl (by show (xs.getD i 0 == b) = true; simpa using hx) ?_; first | refine JL.q1 (xok rfl rfl rfl rfl) rfl rfl (by (first | exact trivial | (try dsimp only [allP, inK, idxC, loC, lohiC, fullC, underG, List.append, List.nil_append, List.cons_append, Ty.den, Ty.dflt, Int.toNat_natCast, List.length_cons, List.length_nil] at *); first | omega | ((repeat' (first | exact trivial | assumption | refine And.intro ?_ ?_ | exact fun h => h | (intro hpk; first | exact hpk | simp only [wantB, hpk, Bool.not_false, Bool.not_true]))) <;> omega) | fail)) ?_ | (refine JL.yield [2, 3, 5, 17, 18, 19, 20, 21, 22, 23, 24, 25, 26, 27] rfl rfl rfl rfl (by (first | exact trivial | (try dsimp only [allP, inK, idxC, loC, lohiC, fullC, underG, List.append, List.nil_append, List.cons_append, Ty.den, Ty.dflt, Int.toNat_natCast, List.length_cons, List.length_nil] at *); first | omega | ((repeat' (first | exact trivial | assumption | refine And.intro ?_ ?_ | exact fun h => h | (intro hpk; first | exact hpk | simp only [wantB, hpk, Bool.not_false, Bool.not_true]))) <;> omega) | fail)) rfl rfl rfl (ltB_lt rfl) (fun M0 up bl hup => ?_); (conv => arg 2; whnf); (repeat (first   | refine JL.Q1 (xok rfl rfl rfl rfl) rfl rfl ?_   | refine JL.G1 (xok rfl rfl rfl rfl) rfl rfl rfl ?_   | refine JL.g1 (xok rfl rfl rfl rfl) rfl rfl rfl (fun hgd => And.intro hgd (fun hpk => Bool.and_eq_true_iff.2 ⟨hgd, by rw [hpk]; rfl⟩)) ?_   | refine JL.G2 (xok rfl rfl rfl rfl) rfl rfl rfl ?_   | refine JL.M1 (xok rfl rfl rfl rfl) rfl rfl ?_   | refine JL.M0 (xok rfl rfl rfl rfl) rfl ?_   | refine JL.Q0 (xok rfl rfl rfl rfl) rfl ?_   | refine JL.nilF ?_   | refine JL.nil ?_   | refine JC.scope ?_   | refine QX.tn ?_   | refine JC.seq ?_   | refine JC.region ?_   | refine JC.Draw (xok rfl rfl rfl rfl) ?_   | refine JC.block ?_   | refine JC.skip ?_   | refine JC.label ?_   | refine JC.exit ?_   | refine JC.ret ?_   | refine QX.te ?_ | refine QX.tr ?_ | refine QX.bn ?_ | refine QX.be ?_ | refine QX.bx rfl ?_ | refine QX.br ?_ | refine QX.sn ?_ | refine QX.se ?_ | refine QX.sr ?_ | refine QX.ee ?_ | refine QX.eo rfl ?_ | refine QX.er ?_ | refine QX.en ?_)); refine asgQ.nor rfl rfl rfl rfl ?_; (conv => arg 2; whnf); (repeat (first   | refine JL.Q1 (xok rfl rfl rfl rfl) rfl rfl ?_   | refine JL.G1 (xok rfl rfl rfl rfl) rfl rfl rfl ?_   | refine JL.g1 (xok rfl rfl rfl rfl) rfl rfl rfl (fun hgd => And.intro hgd (fun hpk => Bool.and_eq_true_iff.2 ⟨hgd, by rw [hpk]; rfl⟩)) ?_   | refine JL.G2 (xok rfl rfl rfl rfl) rfl rfl rfl ?_   | refine JL.M1 (xok rfl rfl rfl rfl) rfl rfl ?_   | refine JL.M0 (xok rfl rfl rfl rfl) rfl ?_   | refine JL.Q0 (xok rfl rfl rfl rfl) rfl ?_   | refine JL.nilF ?_   | refine JL.nil ?_   | refine JC.scope ?_   | refine QX.tn ?_   | refine JC.seq ?_   | refine JC.region ?_   | refine JC.Draw (xok rfl rfl rfl rfl) ?_   | refine JC.block ?_   | refine JC.skip ?_   | refine JC.label ?_   | refine JC.exit ?_   | refine JC.ret ?_   | refine QX.te ?_ | refine QX.tr ?_ | refine QX.bn ?_ | refine QX.be ?_ | refine QX.bx rfl ?_ | refine QX.br ?_ | refine QX.sn ?_ | refine QX.se ?_ | refine QX.sr ?_ | refine QX.ee ?_ | refine QX.eo rfl ?_ | refine QX.er ?_ | refine QX.en ?_)); refine bodyQ.of rfl rfl rfl rfl rfl rfl ?_)) | refine JL.pickT rfl (by show (xs.getD i 0 == b) = true; simpa using hx) rfl rfl (by (first | exact trivial | (try dsimp only [allP, inK, idxC, loC, lohiC, fullC, underG, List.append, List.nil_append, List.cons_append, Ty.den, Ty.dflt, Int.toNat_natCast, List.length_cons, List.length_nil] at *); first | omega | ((repeat' (first | exact trivial | assumption | refine And.intro ?_ ?_ | exact fun h => h | (intro hpk; first | exact hpk | simp only [wantB, hpk, Bool.not_false, Bool.not_true]))) <;> omega) | fail)) (by (first | exact trivial | (try dsimp only [allP, inK, idxC, loC, lohiC, fullC, underG, List.append, List.nil_append, List.cons_append, Ty.den, Ty.dflt, Int.toNat_natCast, List.length_cons, List.length_nil] at *); first | omega | ((repeat' (first | exact trivial | assumption | refine And.intro ?_ ?_ | exact fun h => h | (intro hpk; first | exact hpk | simp only [wantB, hpk, Bool.not_false, Bool.not_true]))) <;> omega) | fail)) ?_ | refine JL.q1 (xok rfl rfl rfl rfl) rfl rfl (by (first | exact trivial | (try dsimp only [allP, inK, idxC, loC, lohiC, fullC, underG, List.append, List.nil_append, List.cons_append, Ty.den, Ty.dflt, Int.toNat_natCast, List.length_cons, List.length_nil] at *); first | omega | ((repeat' (first | exact trivial | assumption | refine And.intro ?_ ?_ | exact fun h => h | (intro hpk; first | exact hpk | simp only [wantB, hpk, Bool.not_false, Bool.not_true]))) <;> omega) | fail)) ?_); refine JL.finN ?_; refine JF.Done (xok rfl rfl rfl rfl) ?_ ?_; (focus (repeat (first | exact StF.nil | refine StF.One rfl rfl rfl ?_))); ((exact JW.Auto rfl))))))))
      · refine JC.cond rfl (fun _ => ?_) (fun h => by cases h)
        (repeat (first   | refine JL.Q1 (xok rfl rfl rfl rfl) rfl rfl ?_   | refine JL.G1 (xok rfl rfl rfl rfl) rfl rfl rfl ?_   | refine JL.g1 (xok rfl rfl rfl rfl) rfl rfl rfl (fun hgd => And.intro hgd (fun hpk => Bool.and_eq_true_iff.2 ⟨hgd, by rw [hpk]; rfl⟩)) ?_   | refine JL.G2 (xok rfl rfl rfl rfl) rfl rfl rfl ?_   | refine JL.M1 (xok rfl rfl rfl rfl) rfl rfl ?_   | refine JL.M0 (xok rfl rfl rfl rfl) rfl ?_   | refine JL.Q0 (xok rfl rfl rfl rfl) rfl ?_   | refine JL.nilF ?_   | refine JL.nil ?_   | refine JC.scope ?_   | refine QX.tn ?_   | refine JC.seq ?_   | refine JC.region ?_   | refine JC.Draw (xok rfl rfl rfl rfl) ?_   | refine JC.block ?_   | refine JC.skip ?_   | refine JC.label ?_   | refine JC.exit ?_   | refine JC.ret ?_   | refine QX.te ?_ | refine QX.tr ?_ | refine QX.bn ?_ | refine QX.be ?_ | refine QX.bx rfl ?_ | refine QX.br ?_ | refine QX.sn ?_ | refine QX.se ?_ | refine QX.sr ?_ | refine QX.ee ?_ | refine QX.eo rfl ?_ | refine QX.er ?_ | refine QX.en ?_))
        refine rngQ.of (.inl rfl) rfl rfl rfl rfl rfl rfl rfl ?_
        refine endJ.r ?_
        (repeat (first   | refine JL.Q1 (xok rfl rfl rfl rfl) rfl rfl ?_   | refine JL.G1 (xok rfl rfl rfl rfl) rfl rfl rfl ?_   | refine JL.g1 (xok rfl rfl rfl rfl) rfl rfl rfl (fun hgd => And.intro hgd (fun hpk => Bool.and_eq_true_iff.2 ⟨hgd, by rw [hpk]; rfl⟩)) ?_   | refine JL.G2 (xok rfl rfl rfl rfl) rfl rfl rfl ?_   | refine JL.M1 (xok rfl rfl rfl rfl) rfl rfl ?_   | refine JL.M0 (xok rfl rfl rfl rfl) rfl ?_   | refine JL.Q0 (xok rfl rfl rfl rfl) rfl ?_   | refine JL.nilF ?_   | refine JL.nil ?_   | refine JC.scope ?_   | refine QX.tn ?_   | refine JC.seq ?_   | refine JC.region ?_   | refine JC.Draw (xok rfl rfl rfl rfl) ?_   | refine JC.block ?_   | refine JC.skip ?_   | refine JC.label ?_   | refine JC.exit ?_   | refine JC.ret ?_   | refine QX.te ?_ | refine QX.tr ?_ | refine QX.bn ?_ | refine QX.be ?_ | refine QX.bx rfl ?_ | refine QX.br ?_ | refine QX.sn ?_ | refine QX.se ?_ | refine QX.sr ?_ | refine QX.ee ?_ | refine QX.eo rfl ?_ | refine QX.er ?_ | refine QX.en ?_))
        refine ⟨.inl rfl, _, _, rfl, trivial, ?_⟩
        rw [waitS, hinv]
    · rw [if_neg hx] at hinv
      (repeat (first   | refine JL.Q1 (xok rfl rfl rfl rfl) rfl rfl ?_   | refine JL.G1 (xok rfl rfl rfl rfl) rfl rfl rfl ?_   | refine JL.g1 (xok rfl rfl rfl rfl) rfl rfl rfl (fun hgd => And.intro hgd (fun hpk => Bool.and_eq_true_iff.2 ⟨hgd, by rw [hpk]; rfl⟩)) ?_   | refine JL.G2 (xok rfl rfl rfl rfl) rfl rfl rfl ?_   | refine JL.M1 (xok rfl rfl rfl rfl) rfl rfl ?_   | refine JL.M0 (xok rfl rfl rfl rfl) rfl ?_   | refine JL.Q0 (xok rfl rfl rfl rfl) rfl ?_   | refine JL.nilF ?_   | refine JL.nil ?_   | refine JC.scope ?_   | refine QX.tn ?_   | refine JC.seq ?_   | refine JC.region ?_      | refine JC.block ?_   | refine JC.skip ?_   | refine JC.label ?_   | refine JC.exit ?_   | refine JC.ret ?_   | refine QX.te ?_ | refine QX.tr ?_ | refine QX.bn ?_ | refine QX.be ?_ | refine QX.bx rfl ?_ | refine QX.br ?_ | refine QX.sn ?_ | refine QX.se ?_ | refine QX.sr ?_ | refine QX.ee ?_ | refine QX.eo rfl ?_ | refine QX.er ?_ | refine QX.en ?_))
      refine JC.drawF (xok rfl rfl rfl rfl) (Go.Proofs.Try.f76.body.getD .skip) ⟨[(0, .lf (.yld 1)), (2, ppB r xs la ne), (3, pI b), (5, vI (i : Int)), (32, vB false)], [(2, .fr 0 [(20, .lf (.yld 1)), (0, vB0 r xs la ne), (6, .lf (.optr 0 []))]), (1, .loop .ready none #[12] (rgA Go.Proofs.Try.f69.body) (rgB Go.Proofs.Try.f69.body) 20 [(0, vB0 r xs la ne), (6, .lf (.optr 0 []))]), (0, .cell (.int .i64) (vI 0))], 3⟩ rfl 16 rfl ?_ ?_
      · (refine JF.First 5 (xok rfl rfl rfl rfl) rfl rfl ?_; refine JF.Float 0 (xok rfl rfl rfl rfl) rfl rfl ?_; refine JF.Float 1 (xok rfl rfl rfl rfl) rfl rfl ?_; refine JF.Float 2 (xok rfl rfl rfl rfl) rfl rfl ?_; refine JF.Float 3 (xok rfl rfl rfl rfl) rfl rfl ?_; refine JF.Float 4 (xok rfl rfl rfl rfl) rfl rfl ?_; refine JF.Float 6 (xok rfl rfl rfl rfl) rfl rfl ?_; refine JF.Float 7 (xok rfl rfl rfl rfl) rfl rfl ?_; refine JF.Float 8 (xok rfl rfl rfl rfl) rfl rfl ?_; refine JF.Float 9 (xok rfl rfl rfl rfl) rfl rfl ?_; refine JF.Float 10 (xok rfl rfl rfl rfl) rfl rfl ?_; refine JF.Branch 11 [12] (xok rfl rfl rfl rfl) ?_ ?_; (focus (repeat (first | exact StF.nil | refine StF.One rfl rfl rfl ?_))); refine BrF.one rfl rfl ?_ (BrF.one rfl rfl ?_ BrF.nil); (· (first | refine JL.gf1 rfl (by show (xs.getD i 0 == b) = false; simpa using hx) rfl ?_ | refine JL.pickF rfl (by show (xs.getD i 0 == b) = false; simpa using hx) rfl rfl (by (first | exact trivial | (try dsimp only [allP, inK, idxC, loC, lohiC, fullC, underG, List.append, List.nil_append, List.cons_append, Ty.den, Ty.dflt, Int.toNat_natCast, List.length_cons, List.length_nil] at *); first | omega | ((repeat' (first | exact trivial | assumption | refine And.intro ?_ ?_ | exact fun h => h | (intro hpk; first | exact hpk | simp only [wantB, hpk, Bool.not_false, Bool.not_true]))) <;> omega) | fail)) (by (first | exact trivial | (try dsimp only [allP, inK, idxC, loC, lohiC, fullC, underG, List.append, List.nil_append, List.cons_append, Ty.den, Ty.dflt, Int.toNat_natCast, List.length_cons, List.length_nil] at *); first | omega | ((repeat' (first | exact trivial | assumption | refine And.intro ?_ ?_ | exact fun h => h | (intro hpk; first | exact hpk | simp only [wantB, hpk, Bool.not_false, Bool.not_true]))) <;> omega) | fail)) ?_ | refine JL.q1 (xok rfl rfl rfl rfl) rfl rfl (by (first | exact trivial | (try dsimp only [allP, inK, idxC, loC, lohiC, fullC, underG, List.append, List.nil_append, List.cons_append, Ty.den, Ty.dflt, Int.toNat_natCast, List.length_cons, List.length_nil] at *); first | omega | ((repeat' (first | exact trivial | assumption | refine And.intro ?_ ?_ | exact fun h => h | (intro hpk; first | exact hpk | simp only [wantB, hpk, Bool.not_false, Bool.not_true]))) <;> omega) | fail)) ?_); refine JL.finN ?_; refine JF.Branch 12 [] (xok rfl rfl rfl rfl) ?_ ?_; (focus (repeat (first | exact StF.nil | refine StF.One rfl rfl rfl ?_))); refine BrF.one rfl rfl ?_ BrF.nil; (· (first | refine JL.gf1 rfl (by show (xs.getD i 0 == b) = false; simpa using hx) rfl ?_ | refine JL.pickF rfl (by show (xs.getD i 0 == b) = false; simpa using hx) rfl rfl (by (first | exact trivial | (try dsimp only [allP, inK, idxC, loC, lohiC, fullC, underG, List.append, List.nil_append, List.cons_append, Ty.den, Ty.dflt, Int.toNat_natCast, List.length_cons, List.length_nil] at *); first | omega | ((repeat' (first | exact trivial | assumption | refine And.intro ?_ ?_ | exact fun h => h | (intro hpk; first | exact hpk | simp only [wantB, hpk, Bool.not_false, Bool.not_true]))) <;> omega) | fail)) (by (first | exact trivial | (try dsimp only [allP, inK, idxC, loC, lohiC, fullC, underG, List.append, List.nil_append, List.cons_append, Ty.den, Ty.dflt, Int.toNat_natCast, List.length_cons, List.length_nil] at *); first | omega | ((repeat' (first | exact trivial | assumption | refine And.intro ?_ ?_ | exact fun h => h | (intro hpk; first | exact hpk | simp only [wantB, hpk, Bool.not_false, Bool.not_true]))) <;> omega) | fail)) ?_ | refine JL.q1 (xok rfl rfl rfl rfl) rfl rfl (by (first | exact trivial | (try dsimp only [allP, inK, idxC, loC, lohiC, fullC, underG, List.append, List.nil_append, List.cons_append, Ty.den, Ty.dflt, Int.toNat_natCast, List.length_cons, List.length_nil] at *); first | omega | ((repeat' (first | exact trivial | assumption | refine And.intro ?_ ?_ | exact fun h => h | (intro hpk; first | exact hpk | simp only [wantB, hpk, Bool.not_false, Bool.not_true]))) <;> omega) | fail)) ?_); refine JL.finN ?_; refine JF.Branch 13 [] (xok rfl rfl rfl rfl) ?_ ?_; (focus (repeat (first | exact StF.nil | refine StF.One rfl rfl rfl ?_))); refine BrF.one rfl rfl ?_ BrF.nil; (· (first | refine JL.gf1 rfl (by show (xs.getD i 0 == b) = false; simpa using hx) rfl ?_ | refine JL.pickF rfl (by show (xs.getD i 0 == b) = false; simpa using hx) rfl rfl (by (first | exact trivial | (try dsimp only [allP, inK, idxC, loC, lohiC, fullC, underG, List.append, List.nil_append, List.cons_append, Ty.den, Ty.dflt, Int.toNat_natCast, List.length_cons, List.length_nil] at *); first | omega | ((repeat' (first | exact trivial | assumption | refine And.intro ?_ ?_ | exact fun h => h | (intro hpk; first | exact hpk | simp only [wantB, hpk, Bool.not_false, Bool.not_true]))) <;> omega) | fail)) (by (first | exact trivial | (try dsimp only [allP, inK, idxC, loC, lohiC, fullC, underG, List.append, List.nil_append, List.cons_append, Ty.den, Ty.dflt, Int.toNat_natCast, List.length_cons, List.length_nil] at *); first | omega | ((repeat' (first | exact trivial | assumption | refine And.intro ?_ ?_ | exact fun h => h | (intro hpk; first | exact hpk | simp only [wantB, hpk, Bool.not_false, Bool.not_true]))) <;> omega) | fail)) ?_ | refine JL.q1 (xok rfl rfl rfl rfl) rfl rfl (by (first | exact trivial | (try dsimp only [allP, inK, idxC, loC, lohiC, fullC, underG, List.append, List.nil_append, List.cons_append, Ty.den, Ty.dflt, Int.toNat_natCast, List.length_cons, List.length_nil] at *); first | omega | ((repeat' (first | exact trivial | assumption | refine And.intro ?_ ?_ | exact fun h => h | (intro hpk; first | exact hpk | simp only [wantB, hpk, Bool.not_false, Bool.not_true]))) <;> omega) | fail)) ?_); refine JL.finN ?_; refine JF.Branch 14 [] (xok rfl rfl rfl rfl) ?_ ?_; (focus (repeat (first | exact StF.nil | refine StF.One rfl rfl rfl ?_))); refine BrF.one rfl rfl ?_ BrF.nil; (· (first | refine JL.gf1 rfl (by show (xs.getD i 0 == b) = false; simpa using hx) rfl ?_ | refine JL.pickF rfl (by show (xs.getD i 0 == b) = false; simpa using hx) rfl rfl (by (first | exact trivial | (try dsimp only [allP, inK, idxC, loC, lohiC, fullC, underG, List.append, List.nil_append, List.cons_append, Ty.den, Ty.dflt, Int.toNat_natCast, List.length_cons, List.length_nil] at *); first | omega | ((repeat' (first | exact trivial | assumption | refine And.intro ?_ ?_ | exact fun h => h | (intro hpk; first | exact hpk | simp only [wantB, hpk, Bool.not_false, Bool.not_true]))) <;> omega) | fail)) (by (first | exact trivial | (try dsimp only [allP, inK, idxC, loC, lohiC, fullC, underG, List.append, List.nil_append, List.cons_append, Ty.den, Ty.dflt, Int.toNat_natCast, List.length_cons, List.length_nil] at *); first | omega | ((repeat' (first | exact trivial | assumption | refine And.intro ?_ ?_ | exact fun h => h | (intro hpk; first | exact hpk | simp only [wantB, hpk, Bool.not_false, Bool.not_true]))) <;> omega) | fail)) ?_ | refine JL.q1 (xok rfl rfl rfl rfl) rfl rfl (by (first | exact trivial | (try dsimp only [allP, inK, idxC, loC, lohiC, fullC, underG, List.append, List.nil_append, List.cons_append, Ty.den, Ty.dflt, Int.toNat_natCast, List.length_cons, List.length_nil] at *); first | omega | ((repeat' (first | exact trivial | assumption | refine And.intro ?_ ?_ | exact fun h => h | (intro hpk; first | exact hpk | simp only [wantB, hpk, Bool.not_false, Bool.not_true]))) <;> omega) | fail)) ?_); refine JL.finN ?_; refine JF.Branch 15 [] (xok rfl rfl rfl rfl) ?_ ?_; (focus (repeat (first | exact StF.nil | refine StF.One rfl rfl rfl ?_))); refine BrF.one rfl rfl ?_ BrF.nil; (· (first | refine JL.gf1 rfl (by show (xs.getD i 0 == b) = false; simpa using hx) rfl ?_ | refine JL.pickF rfl (by show (xs.getD i 0 == b) = false; simpa using hx) rfl rfl (by (first | exact trivial | (try dsimp only [allP, inK, idxC, loC, lohiC, fullC, underG, List.append, List.nil_append, List.cons_append, Ty.den, Ty.dflt, Int.toNat_natCast, List.length_cons, List.length_nil] at *); first | omega | ((repeat' (first | exact trivial | assumption | refine And.intro ?_ ?_ | exact fun h => h | (intro hpk; first | exact hpk | simp only [wantB, hpk, Bool.not_false, Bool.not_true]))) <;> omega) | fail)) (by (first | exact trivial | (try dsimp only [allP, inK, idxC, loC, lohiC, fullC, underG, List.append, List.nil_append, List.cons_append, Ty.den, Ty.dflt, Int.toNat_natCast, List.length_cons, List.length_nil] at *); first | omega | ((repeat' (first | exact trivial | assumption | refine And.intro ?_ ?_ | exact fun h => h | (intro hpk; first | exact hpk | simp only [wantB, hpk, Bool.not_false, Bool.not_true]))) <;> omega) | fail)) ?_ | refine JL.q1 (xok rfl rfl rfl rfl) rfl rfl (by (first | exact trivial | (try dsimp only [allP, inK, idxC, loC, lohiC, fullC, underG, List.append, List.nil_append, List.cons_append, Ty.den, Ty.dflt, Int.toNat_natCast, List.length_cons, List.length_nil] at *); first | omega | ((repeat' (first | exact trivial | assumption | refine And.intro ?_ ?_ | exact fun h => h | (intro hpk; first | exact hpk | simp only [wantB, hpk, Bool.not_false, Bool.not_true]))) <;> omega) | fail)) ?_); refine JL.finN ?_; refine JF.Done (xok rfl rfl rfl rfl) ?_ ?_; (focus (repeat (first | exact StF.nil | refine StF.One rfl rfl rfl ?_))); ((exact JW.Auto rfl))))))); (· (first | refine JL.gf1 rfl (by show (xs.getD i 0 == b) = false; simpa using hx) rfl ?_ | refine JL.pickF rfl (by show (xs.getD i 0 == b) = false; simpa using hx) rfl rfl (by (first | exact trivial | (try dsimp only [allP, inK, idxC, loC, lohiC, fullC, underG, List.append, List.nil_append, List.cons_append, Ty.den, Ty.dflt, Int.toNat_natCast, List.length_cons, List.length_nil] at *); first | omega | ((repeat' (first | exact trivial | assumption | refine And.intro ?_ ?_ | exact fun h => h | (intro hpk; first | exact hpk | simp only [wantB, hpk, Bool.not_false, Bool.not_true]))) <;> omega) | fail)) (by (first | exact trivial | (try dsimp only [allP, inK, idxC, loC, lohiC, fullC, underG, List.append, List.nil_append, List.cons_append, Ty.den, Ty.dflt, Int.toNat_natCast, List.length_cons, List.length_nil] at *); first | omega | ((repeat' (first | exact trivial | assumption | refine And.intro ?_ ?_ | exact fun h => h | (intro hpk; first | exact hpk | simp only [wantB, hpk, Bool.not_false, Bool.not_true]))) <;> omega) | fail)) ?_ | refine JL.q1 (xok rfl rfl rfl rfl) rfl rfl (by (first | exact trivial | (try dsimp only [allP, inK, idxC, loC, lohiC, fullC, underG, List.append, List.nil_append, List.cons_append, Ty.den, Ty.dflt, Int.toNat_natCast, List.length_cons, List.length_nil] at *); first | omega | ((repeat' (first | exact trivial | assumption | refine And.intro ?_ ?_ | exact fun h => h | (intro hpk; first | exact hpk | simp only [wantB, hpk, Bool.not_false, Bool.not_true]))) <;> omega) | fail)) ?_); refine JL.finN ?_; refine JF.Branch 11 [] (xok rfl rfl rfl rfl) ?_ ?_; (focus (repeat (first | exact StF.nil | refine StF.One rfl rfl rfl ?_))); refine BrF.one rfl rfl ?_ BrF.nil; (· (first | refine JL.gf1 rfl (by show (xs.getD i 0 == b) = false; simpa using hx) rfl ?_ | refine JL.pickF rfl (by show (xs.getD i 0 == b) = false; simpa using hx) rfl rfl (by (first | exact trivial | (try dsimp only [allP, inK, idxC, loC, lohiC, fullC, underG, List.append, List.nil_append, List.cons_append, Ty.den, Ty.dflt, Int.toNat_natCast, List.length_cons, List.length_nil] at *); first | omega | ((repeat' (first | exact trivial | assumption | refine And.intro ?_ ?_ | exact fun h => h | (intro hpk; first | exact hpk | simp only [wantB, hpk, Bool.not_false, Bool.not_true]))) <;> omega) | fail)) (by (first | exact trivial | (try dsimp only [allP, inK, idxC, loC, lohiC, fullC, underG, List.append, List.nil_append, List.cons_append, Ty.den, Ty.dflt, Int.toNat_natCast, List.length_cons, List.length_nil] at *); first | omega | ((repeat' (first | exact trivial | assumption | refine And.intro ?_ ?_ | exact fun h => h | (intro hpk; first | exact hpk | simp only [wantB, hpk, Bool.not_false, Bool.not_true]))) <;> omega) | fail)) ?_ | refine JL.q1 (xok rfl rfl rfl rfl) rfl rfl (by (first | exact trivial | (try dsimp only [allP, inK, idxC, loC, lohiC, fullC, underG, List.append, List.nil_append, List.cons_append, Ty.den, Ty.dflt, Int.toNat_natCast, List.length_cons, List.length_nil] at *); first | omega | ((repeat' (first | exact trivial | assumption | refine And.intro ?_ ?_ | exact fun h => h | (intro hpk; first | exact hpk | simp only [wantB, hpk, Bool.not_false, Bool.not_true]))) <;> omega) | fail)) ?_); refine JL.finN ?_; refine JF.Branch 13 [] (xok rfl rfl rfl rfl) ?_ ?_; (focus (repeat (first | exact StF.nil | refine StF.One rfl rfl rfl ?_))); refine BrF.one rfl rfl ?_ BrF.nil; (· (first | refine JL.gf1 rfl (by show (xs.getD i 0 == b) = false; simpa using hx) rfl ?_ | refine JL.pickF rfl (by show (xs.getD i 0 == b) = false; simpa using hx) rfl rfl (by (first | exact trivial | (try dsimp only [allP, inK, idxC, loC, lohiC, fullC, underG, List.append, List.nil_append, List.cons_append, Ty.den, Ty.dflt, Int.toNat_natCast, List.length_cons, List.length_nil] at *); first | omega | ((repeat' (first | exact trivial | assumption | refine And.intro ?_ ?_ | exact fun h => h | (intro hpk; first | exact hpk | simp only [wantB, hpk, Bool.not_false, Bool.not_true]))) <;> omega) | fail)) (by (first | exact trivial | (try dsimp only [allP, inK, idxC, loC, lohiC, fullC, underG, List.append, List.nil_append, List.cons_append, Ty.den, Ty.dflt, Int.toNat_natCast, List.length_cons, List.length_nil] at *); first | omega | ((repeat' (first | exact trivial | assumption | refine And.intro ?_ ?_ | exact fun h => h | (intro hpk; first | exact hpk | simp only [wantB, hpk, Bool.not_false, Bool.not_true]))) <;> omega) | fail)) ?_ | refine JL.q1 (xok rfl rfl rfl rfl) rfl rfl (by (first | exact trivial | (try dsimp only [allP, inK, idxC, loC, lohiC, fullC, underG, List.append, List.nil_append, List.cons_append, Ty.den, Ty.dflt, Int.toNat_natCast, List.length_cons, List.length_nil] at *); first | omega | ((repeat' (first | exact trivial | assumption | refine And.intro ?_ ?_ | exact fun h => h | (intro hpk; first | exact hpk | simp only [wantB, hpk, Bool.not_false, Bool.not_true]))) <;> omega) | fail)) ?_); refine JL.finN ?_; refine JF.Branch 14 [] (xok rfl rfl rfl rfl) ?_ ?_; (focus (repeat (first | exact StF.nil | refine StF.One rfl rfl rfl ?_))); refine BrF.one rfl rfl ?_ BrF.nil; (· (first | refine JL.gf1 rfl (by show (xs.getD i 0 == b) = false; simpa using hx) rfl ?_ | refine JL.pickF rfl (by show (xs.getD i 0 == b) = false; simpa using hx) rfl rfl (by (first | exact trivial | (try dsimp only [allP, inK, idxC, loC, lohiC, fullC, underG, List.append, List.nil_append, List.cons_append, Ty.den, Ty.dflt, Int.toNat_natCast, List.length_cons, List.length_nil] at *); first | omega | ((repeat' (first | exact trivial | assumption | refine And.intro ?_ ?_ | exact fun h => h | (intro hpk; first | exact hpk | simp only [wantB, hpk, Bool.not_false, Bool.not_true]))) <;> omega) | fail)) (by (first | exact trivial | (try dsimp only [allP, inK, idxC, loC, lohiC, fullC, underG, List.append, List.nil_append, List.cons_append, Ty.den, Ty.dflt, Int.toNat_natCast, List.length_cons, List.length_nil] at *); first | omega | ((repeat' (first | exact trivial | assumption | refine And.intro ?_ ?_ | exact fun h => h | (intro hpk; first | exact hpk | simp only [wantB, hpk, Bool.not_false, Bool.not_true]))) <;> omega) | fail)) ?_ | refine JL.q1 (xok rfl rfl rfl rfl) rfl rfl (by (first | exact trivial | (try dsimp only [allP, inK, idxC, loC, lohiC, fullC, underG, List.append, List.nil_append, List.cons_append, Ty.den, Ty.dflt, Int.toNat_natCast, List.length_cons, List.length_nil] at *); first | omega | ((repeat' (first | exact trivial | assumption | refine And.intro ?_ ?_ | exact fun h => h | (intro hpk; first | exact hpk | simp only [wantB, hpk, Bool.not_false, Bool.not_true]))) <;> omega) | fail)) ?_); refine JL.finN ?_; refine JF.Branch 15 [] (xok rfl rfl rfl rfl) ?_ ?_; (focus (repeat (first | exact StF.nil | refine StF.One rfl rfl rfl ?_))); refine BrF.one rfl rfl ?_ BrF.nil; (· (first | refine JL.gf1 rfl (by show (xs.getD i 0 == b) = false; simpa using hx) rfl ?_ | refine JL.pickF rfl (by show (xs.getD i 0 == b) = false; simpa using hx) rfl rfl (by (first | exact trivial | (try dsimp only [allP, inK, idxC, loC, lohiC, fullC, underG, List.append, List.nil_append, List.cons_append, Ty.den, Ty.dflt, Int.toNat_natCast, List.length_cons, List.length_nil] at *); first | omega | ((repeat' (first | exact trivial | assumption | refine And.intro ?_ ?_ | exact fun h => h | (intro hpk; first | exact hpk | simp only [wantB, hpk, Bool.not_false, Bool.not_true]))) <;> omega) | fail)) (by (first | exact trivial | (try dsimp only [allP, inK, idxC, loC, lohiC, fullC, underG, List.append, List.nil_append, List.cons_append, Ty.den, Ty.dflt, Int.toNat_natCast, List.length_cons, List.length_nil] at *); first | omega | ((repeat' (first | exact trivial | assumption | refine And.intro ?_ ?_ | exact fun h => h | (intro hpk; first | exact hpk | simp only [wantB, hpk, Bool.not_false, Bool.not_true]))) <;> omega) | fail)) ?_ | refine JL.q1 (xok rfl rfl rfl rfl) rfl rfl (by (first | exact trivial | (try dsimp only [allP, inK, idxC, loC, lohiC, fullC, underG, List.append, List.nil_append, List.cons_append, Ty.den, Ty.dflt, Int.toNat_natCast, List.length_cons, List.length_nil] at *); first | omega | ((repeat' (first | exact trivial | assumption | refine And.intro ?_ ?_ | exact fun h => h | (intro hpk; first | exact hpk | simp only [wantB, hpk, Bool.not_false, Bool.not_true]))) <;> omega) | fail)) ?_); refine JL.finN ?_; refine JF.Done (xok rfl rfl rfl rfl) ?_ ?_; (focus (repeat (first | exact StF.nil | refine StF.One rfl rfl rfl ?_))); ((exact JW.Auto rfl))))))))
      · refine JC.cond rfl (fun h => by cases h) (fun _ => ?_)
        (repeat (first   | refine JL.Q1 (xok rfl rfl rfl rfl) rfl rfl ?_   | refine JL.G1 (xok rfl rfl rfl rfl) rfl rfl rfl ?_   | refine JL.g1 (xok rfl rfl rfl rfl) rfl rfl rfl (fun hgd => And.intro hgd (fun hpk => Bool.and_eq_true_iff.2 ⟨hgd, by rw [hpk]; rfl⟩)) ?_   | refine JL.G2 (xok rfl rfl rfl rfl) rfl rfl rfl ?_   | refine JL.M1 (xok rfl rfl rfl rfl) rfl rfl ?_   | refine JL.M0 (xok rfl rfl rfl rfl) rfl ?_   | refine JL.Q0 (xok rfl rfl rfl rfl) rfl ?_   | refine JL.nilF ?_   | refine JL.nil ?_   | refine JC.scope ?_   | refine QX.tn ?_   | refine JC.seq ?_   | refine JC.region ?_   | refine JC.Draw (xok rfl rfl rfl rfl) ?_   | refine JC.block ?_   | refine JC.skip ?_   | refine JC.label ?_   | refine JC.exit ?_   | refine JC.ret ?_   | refine QX.te ?_ | refine QX.tr ?_ | refine QX.bn ?_ | refine QX.be ?_ | refine QX.bx rfl ?_ | refine QX.br ?_ | refine QX.sn ?_ | refine QX.se ?_ | refine QX.sr ?_ | refine QX.ee ?_ | refine QX.eo rfl ?_ | refine QX.er ?_ | refine QX.en ?_))
        exact ⟨i + 1, by (exact JW.Auto rfl), ⟨by omega, by rw [waitS, waitS]; exact hinv⟩, by omega⟩
  · (simp only [↓bif_or, ↓bif_and, ↓Bool.or_eq_true, ↓Bool.or_eq_false_iff, ↓Bool.and_eq_true, ↓Bool.and_eq_false_iff, ↓Bool.not_eq_true', ↓Bool.not_eq_false', ↓decide_eq_true_eq, ↓decide_eq_false_iff_not, ↓beq_iff_eq, ↓bne_iff_ne, ↓bne_eq_false_iff_eq, ↓ne_eq, ↓beq_eq_false_iff_ne, ↓Bool.not_eq_true] at hc; try simp only [Ty.dflt, Int.toNat_natCast] at hc)
    (repeat (first   | refine JL.Q1 (xok rfl rfl rfl rfl) rfl rfl ?_   | refine JL.G1 (xok rfl rfl rfl rfl) rfl rfl rfl ?_   | refine JL.g1 (xok rfl rfl rfl rfl) rfl rfl rfl (fun hgd => And.intro hgd (fun hpk => Bool.and_eq_true_iff.2 ⟨hgd, by rw [hpk]; rfl⟩)) ?_   | refine JL.G2 (xok rfl rfl rfl rfl) rfl rfl rfl ?_   | refine JL.M1 (xok rfl rfl rfl rfl) rfl rfl ?_   | refine JL.M0 (xok rfl rfl rfl rfl) rfl ?_   | refine JL.Q0 (xok rfl rfl rfl rfl) rfl ?_   | refine JL.nilF ?_   | refine JL.nil ?_   | refine JC.scope ?_   | refine QX.tn ?_   | refine JC.seq ?_   | refine JC.region ?_   | refine JC.Draw (xok rfl rfl rfl rfl) ?_   | refine JC.block ?_   | refine JC.skip ?_   | refine JC.label ?_   | refine JC.exit ?_   | refine JC.ret ?_   | refine QX.te ?_ | refine QX.tr ?_ | refine QX.bn ?_ | refine QX.be ?_ | refine QX.bx rfl ?_ | refine QX.br ?_ | refine QX.sn ?_ | refine QX.se ?_ | refine QX.sr ?_ | refine QX.ee ?_ | refine QX.eo rfl ?_ | refine QX.er ?_ | refine QX.en ?_))
    refine rngQ.of (.inr rfl) rfl rfl rfl rfl rfl rfl rfl ?_
    refine endJ.n ?_
    (repeat (first   | refine JL.Q1 (xok rfl rfl rfl rfl) rfl rfl ?_   | refine JL.G1 (xok rfl rfl rfl rfl) rfl rfl rfl ?_   | refine JL.g1 (xok rfl rfl rfl rfl) rfl rfl rfl (fun hgd => And.intro hgd (fun hpk => Bool.and_eq_true_iff.2 ⟨hgd, by rw [hpk]; rfl⟩)) ?_   | refine JL.G2 (xok rfl rfl rfl rfl) rfl rfl rfl ?_   | refine JL.M1 (xok rfl rfl rfl rfl) rfl rfl ?_   | refine JL.M0 (xok rfl rfl rfl rfl) rfl ?_   | refine JL.Q0 (xok rfl rfl rfl rfl) rfl ?_   | refine JL.nilF ?_   | refine JL.nil ?_   | refine JC.scope ?_   | refine QX.tn ?_   | refine JC.seq ?_   | refine JC.region ?_   | refine JC.Draw (xok rfl rfl rfl rfl) ?_   | refine JC.block ?_   | refine JC.skip ?_   | refine JC.label ?_   | refine JC.exit ?_   | refine JC.ret ?_   | refine QX.te ?_ | refine QX.tr ?_ | refine QX.bn ?_ | refine QX.be ?_ | refine QX.bx rfl ?_ | refine QX.br ?_ | refine QX.sn ?_ | refine QX.se ?_ | refine QX.sr ?_ | refine QX.ee ?_ | refine QX.eo rfl ?_ | refine QX.er ?_ | refine QX.en ?_))
    refine ⟨.inl rfl, _, _, rfl, trivial, ?_⟩
    obtain rfl : i = xs.length := by omega
    rw [hinv, waitS, Nat.sub_self]; rfl
end Go.Proofs.Ytbmgijgnbilnoaa

namespace Go.Proofs.Ytbmgijgnbilnoaa
open Go Go.RowKit Ox
attribute [local irreducible] JC JL JK JW

/-- The block that is needed last, from the k-th on: at most 'n' are looked at. -/
def farF (xs m : List Int) (i : Nat) : Nat → Nat → Int → Int → Int
  | 0, _, _, back => back
  | n + 1, k, far, back =>
    if m.getD k 0 = 0 then farF xs m i n (k + 1) far back
    else if (waitS xs k i : Int) > far then (if (waitS xs k i : Int) = xs.length then (k : Int) else farF xs m i n (k + 1) (waitS xs k i) k)
    else (if (waitS xs k i : Int) = xs.length then back else farF xs m i n (k + 1) far back)

def planF (r : Int) (xs : List Int) : Nat → Nat → List Int → List Int
  | 0, _, _ => []
  | n + 1, i, m =>
    if m.getD (xs.getD i 0).toNat 0 = 0 ∧ m.sum = r then farF xs m i 8 0 (-1) (-1) :: planF r xs n (i + 1) ((m.set (farF xs m i 8 0 (-1) (-1)).toNat 0).set (xs.getD i 0).toNat 1)
    else -1 :: planF r xs n (i + 1) (m.set (xs.getD i 0).toNat 1)
def planS (r : Int) (xs : List Int) : List Int := planF r xs xs.length 0 zero8

theorem waitF_bd (xs : List Int) (b : Int) : ∀ n i, i ≤ waitF xs b n i ∧ waitF xs b n i ≤ i + n
  | 0, i => by simp [waitF]
  | n + 1, i => by
    have := waitF_bd xs b n (i + 1)
    rw [waitF]; split <;> omega
theorem waitS_bd (xs : List Int) (b : Int) {i : Nat} (h : i ≤ xs.length) : i ≤ waitS xs b i ∧ waitS xs b i ≤ xs.length := by
  have := waitF_bd xs b (xs.length - i) i
  rw [waitS]; omega

theorem farF_bd (xs m : List Int) (i : Nat) : ∀ n k far back, k + n = 8 → ((0 ≤ back ∧ back ≤ 7) ∨ (far = -1 ∧ ∃ j, k ≤ j ∧ j < 8 ∧ m.getD j 0 ≠ 0)) → 0 ≤ farF xs m i n k far back ∧ farF xs m i n k far back ≤ 7
  | 0, k, far, back, hk, h => by
    rcases h with h | ⟨_, j, h1, h2, _⟩
    · exact h
    · omega
  | n + 1, k, far, back, hk, h => by
    rw [farF]
    by_cases h0 : m.getD k 0 = 0
    · rw [if_pos h0]
      refine farF_bd xs m i n (k + 1) far back (by omega) (h.imp id fun ⟨h1, j, h2, h3, h4⟩ => ⟨h1, j, ?_, h3, h4⟩)
      rcases Nat.lt_or_ge k j with h5 | h5
      · exact h5
      · exact absurd h0 (by rwa [show k = j by omega])
    · rw [if_neg h0]
      by_cases h1 : (waitS xs k i : Int) > far
      · rw [if_pos h1]
        split
        · omega
        · exact farF_bd xs m i n (k + 1) _ _ (by omega) (.inl (by omega))
      · rw [if_neg h1]
        rcases h with h | ⟨h2, _⟩
        · split
          · exact h
          · exact farF_bd xs m i n (k + 1) _ _ (by omega) (.inl h)
        · omega

theorem sum_zero : ∀ {m : List Int}, (∀ j, j < m.length → m.getD j 0 = 0) → m.sum = 0
  | [], _ => rfl
  | x :: r, h => by
    have h0 := h 0 (by simp)
    have h1 := sum_zero (m := r) fun j hj => by have := h (j + 1) (by simp; omega); simpa using this
    simp at h0
    simp [h0, h1]

theorem some_bit {m : List Int} (h8 : m.length = 8) (hs : 1 ≤ m.sum) : ∃ j, 0 ≤ j ∧ j < 8 ∧ m.getD j 0 ≠ 0 := by
  by_cases h : ∃ j, 0 ≤ j ∧ j < 8 ∧ m.getD j 0 ≠ 0
  · exact h
  · have := sum_zero (m := m) fun j hj => by
      by_cases e : m.getD j 0 = 0
      · exact e
      · exact absurd ⟨j, Nat.zero_le _, by omega, e⟩ h
    omega

set_option maxHeartbeats 1000000 in
theorem fn54 (r : Int) (xs la ne : List Int) (hr : 1 ≤ r) (hx : ∀ x ∈ xs, 0 ≤ x ∧ x ≤ 7) (hl : xs.length ≤ 1000) :
    Ox.Fn Go.Proofs.Try.prog 54 (.acons (vB0 r xs la ne) .anil) (· = vL (planS r xs)) := by
  refine Ox.Fn.intro xok Go.Proofs.Try.func54 rfl Go.Proofs.Try.call54 (Nat.le_of_ble_eq_true rfl) (fun E M0 up => ?_)
  refine JK.start ?_
  (repeat (first | refine zs rfl ?_ | refine zg rfl rfl rfl ?_ | refine zd ?_ | refine JK.fin ?_ | refine JK.ret ?_))
  refine JK.ghost 3 3 (.int .i64) rfl ?_
  refine JK.loop (σ := Nat × List Int × List Int) (fun q => ⟨[(0, vB0 r xs la ne), (3, .lf (.osl 1)), (4, .lf (.optr 0 [])), (16, vL xs), (17, vI xs.length), (18, vI (q.1 : Int))], [(0, .cell marT (vM q.2.1)), (1, .sl 3 (.int .i64) q.2.2)], 2⟩)
    (fun q => q.1 ≤ xs.length ∧ bits q.2.1 ∧ q.2.2.length = q.1 ∧ q.2.2 ++ planF r xs (xs.length - q.1) q.1 q.2.1 = planS r xs) (fun q => xs.length - q.1) (0, zero8, [])
    ⟨by simp, ⟨by simp, by simp [zero8]⟩, rfl, rfl⟩ (by (exact JW.Auto rfl)) fun q hq => ?_
  obtain ⟨i, m, out⟩ := q
  obtain ⟨hi, hm, hol, hinv⟩ := hq
  dsimp only at hi hm hol hinv
  have hm8 := hm.1
  (repeat (first | refine zs rfl ?_ | refine zg rfl rfl rfl ?_ | refine zd ?_ | refine JK.fin ?_ | refine JK.ret ?_))
  refine JK.cond rfl (fun hc => ?_) (fun hc => ?_)
  · (simp only [↓bif_or, ↓bif_and, ↓Bool.or_eq_true, ↓Bool.or_eq_false_iff, ↓Bool.and_eq_true, ↓Bool.and_eq_false_iff, ↓Bool.not_eq_true', ↓Bool.not_eq_false', ↓decide_eq_true_eq, ↓decide_eq_false_iff_not, ↓beq_iff_eq, ↓bne_iff_ne, ↓bne_eq_false_iff_eq, ↓ne_eq, ↓beq_eq_false_iff_ne, ↓Bool.not_eq_true] at hc; try simp only [Ty.dflt, Int.toNat_natCast] at hc)
    have hi' : i < xs.length := by omega
    have hb := hx (xs.getD i 0) (by rw [getD_nat xs hi']; exact List.getElem_mem hi')
    rw [show xs.length - i = (xs.length - (i + 1)) + 1 by omega, planF] at hinv
    have hm68 := fn68 m hm.2
    have hsb := sum_bd hm.2
    (repeat (first | refine zs rfl ?_ | refine zg rfl rfl rfl ?_ | refine zd ?_ | refine JK.fin ?_ | refine JK.ret ?_ | refine zc rfl (hm68) rfl rfl ?_ | refine ze rfl (hm68) rfl ?_ | refine zk rfl rfl (fun _ => hm68) rfl rfl ?_))
    refine JK.cond rfl (fun hd => ?_) (fun hd => ?_)
    · (simp only [↓bif_or, ↓bif_and, ↓Bool.or_eq_true, ↓Bool.or_eq_false_iff, ↓Bool.and_eq_true, ↓Bool.and_eq_false_iff, ↓Bool.not_eq_true', ↓Bool.not_eq_false', ↓decide_eq_true_eq, ↓decide_eq_false_iff_not, ↓beq_iff_eq, ↓bne_iff_ne, ↓bne_eq_false_iff_eq, ↓ne_eq, ↓beq_eq_false_iff_ne, ↓Bool.not_eq_true] at hd; try simp only [Ty.dflt, Int.toNat_natCast] at hd)
      rw [if_pos hd] at hinv
      have hfb := farF_bd xs m i 8 0 (-1) (-1) rfl (.inr ⟨rfl, some_bit hm8 (by omega)⟩)
      generalize hfv : farF xs m i 8 0 (-1) (-1) = fv at hinv hfb
      (repeat (first | refine zs rfl ?_ | refine zg rfl rfl rfl ?_ | refine zd ?_ | refine JK.fin ?_ | refine JK.ret ?_))
      refine JK.loopE (σ := Nat × Int × Int) (τ := Unit) (fun p => ⟨[(0, vB0 r xs la ne), (3, .lf (.osl 1)), (4, .lf (.optr 0 [])), (5, vI (i : Int)), (6, vI (xs.getD i 0)), (7, vI p.2.2), (8, vI p.2.1), (16, vL xs), (17, vI xs.length), (18, vI (i : Int)), (37, vI (p.1 : Int))], [(0, .cell marT (vM m)), (1, .sl 3 (.int .i64) out)], 2⟩)
        (fun p => p.1 ≤ 8 ∧ farF xs m i (8 - p.1) p.1 p.2.1 p.2.2 = fv) (fun p => 8 - p.1) (0, -1, -1) ⟨by simp, hfv⟩ (by (exact JW.Auto rfl))
        (fun _ => ⟨[(0, vB0 r xs la ne), (3, .lf (.osl 1)), (4, .lf (.optr 0 [])), (5, vI (i : Int)), (6, vI (xs.getD i 0)), (7, vI fv), (16, vL xs), (17, vI xs.length), (18, vI (i : Int))], [(0, .cell marT (vM m)), (1, .sl 3 (.int .i64) out)], 2⟩) (fun _ => True) (fun _ _ => ?_) (fun p hp => ?_)
      · (repeat (first | refine zs rfl ?_ | refine zg rfl rfl rfl ?_ | refine zd ?_ | refine JK.fin ?_ | refine JK.ret ?_))
        have hm2 := bits_set hm fv.toNat (x := 0) (by omega)
        (repeat (first | refine zs rfl ?_ | refine zg rfl rfl rfl ?_ | refine zd ?_ | refine JK.fin ?_ | refine JK.ret ?_))
        refine ⟨(i + 1, (m.set fv.toNat 0).set (xs.getD i 0).toNat 1, out ++ [fv]), by (exact JW.Auto rfl), ⟨by omega, bits_set hm2 _ (by omega), by simp [hol], ?_⟩, by dsimp only; omega⟩
        rw [List.append_assoc]; exact hinv
      · obtain ⟨k, far, back⟩ := p
        obtain ⟨hk8, hpv⟩ := hp
        dsimp only at hk8 hpv
        (repeat (first | refine zs rfl ?_ | refine zg rfl rfl rfl ?_ | refine zd ?_ | refine JK.fin ?_ | refine JK.ret ?_))
        refine JK.cond rfl (fun hg => ?_) (fun hg => ?_)
        · (simp only [↓bif_or, ↓bif_and, ↓Bool.or_eq_true, ↓Bool.or_eq_false_iff, ↓Bool.and_eq_true, ↓Bool.and_eq_false_iff, ↓Bool.not_eq_true', ↓Bool.not_eq_false', ↓decide_eq_true_eq, ↓decide_eq_false_iff_not, ↓beq_iff_eq, ↓bne_iff_ne, ↓bne_eq_false_iff_eq, ↓ne_eq, ↓beq_eq_false_iff_ne, ↓Bool.not_eq_true] at hg; try simp only [Ty.dflt, Int.toNat_natCast] at hg)
          rw [show 8 - k = (8 - (k + 1)) + 1 by omega, farF] at hpv
          (repeat (first | refine zs rfl ?_ | refine zg rfl rfl rfl ?_ | refine zd ?_ | refine JK.fin ?_ | refine JK.ret ?_))
          refine JK.cond rfl (fun hz => ?_) (fun hz => ?_)
          · (simp only [↓bif_or, ↓bif_and, ↓Bool.or_eq_true, ↓Bool.or_eq_false_iff, ↓Bool.and_eq_true, ↓Bool.and_eq_false_iff, ↓Bool.not_eq_true', ↓Bool.not_eq_false', ↓decide_eq_true_eq, ↓decide_eq_false_iff_not, ↓beq_iff_eq, ↓bne_iff_ne, ↓bne_eq_false_iff_eq, ↓ne_eq, ↓beq_eq_false_iff_ne, ↓Bool.not_eq_true] at hz; try simp only [Ty.dflt, Int.toNat_natCast] at hz)
            rw [if_pos hz] at hpv
            (repeat (first | refine zs rfl ?_ | refine zg rfl rfl rfl ?_ | refine zd ?_ | refine JK.fin ?_ | refine JK.ret ?_))
            exact ⟨(k + 1, far, back), by (exact JW.Auto rfl), ⟨by dsimp only; omega, hpv⟩, by dsimp only; omega⟩
          · (simp only [↓bif_or, ↓bif_and, ↓Bool.or_eq_true, ↓Bool.or_eq_false_iff, ↓Bool.and_eq_true, ↓Bool.and_eq_false_iff, ↓Bool.not_eq_true', ↓Bool.not_eq_false', ↓decide_eq_true_eq, ↓decide_eq_false_iff_not, ↓beq_iff_eq, ↓bne_iff_ne, ↓bne_eq_false_iff_eq, ↓ne_eq, ↓beq_eq_false_iff_ne, ↓Bool.not_eq_true] at hz; try simp only [Ty.dflt, Int.toNat_natCast] at hz)
            rw [if_neg hz] at hpv
            have hwb := waitS_bd xs k (i := i) (by omega)
            (repeat (first | refine zs rfl ?_ | refine zg rfl rfl rfl ?_ | refine zd ?_ | refine JK.fin ?_ | refine JK.ret ?_ | refine zc rfl (fn69 r xs la ne k i (by omega)) rfl rfl ?_ | refine ze rfl (fn69 r xs la ne k i (by omega)) rfl ?_ | refine zk rfl rfl (fun _ => fn69 r xs la ne k i (by omega)) rfl rfl ?_))
            refine JK.cond rfl (fun hf => ?_) (fun hf => ?_)
            · (simp only [↓bif_or, ↓bif_and, ↓Bool.or_eq_true, ↓Bool.or_eq_false_iff, ↓Bool.and_eq_true, ↓Bool.and_eq_false_iff, ↓Bool.not_eq_true', ↓Bool.not_eq_false', ↓decide_eq_true_eq, ↓decide_eq_false_iff_not, ↓beq_iff_eq, ↓bne_iff_ne, ↓bne_eq_false_iff_eq, ↓ne_eq, ↓beq_eq_false_iff_ne, ↓Bool.not_eq_true] at hf; try simp only [Ty.dflt, Int.toNat_natCast] at hf)
              rw [if_pos hf] at hpv
              (repeat (first | refine zs rfl ?_ | refine zg rfl rfl rfl ?_ | refine zd ?_ | refine JK.fin ?_ | refine JK.ret ?_))
              refine JK.cond rfl (fun he => ?_) (fun he => ?_)
              · (simp only [↓bif_or, ↓bif_and, ↓Bool.or_eq_true, ↓Bool.or_eq_false_iff, ↓Bool.and_eq_true, ↓Bool.and_eq_false_iff, ↓Bool.not_eq_true', ↓Bool.not_eq_false', ↓decide_eq_true_eq, ↓decide_eq_false_iff_not, ↓beq_iff_eq, ↓bne_iff_ne, ↓bne_eq_false_iff_eq, ↓ne_eq, ↓beq_eq_false_iff_ne, ↓Bool.not_eq_true] at he; try simp only [Ty.dflt, Int.toNat_natCast] at he)
                rw [if_pos he] at hpv
                (repeat (first | refine zs rfl ?_ | refine zg rfl rfl rfl ?_ | refine zd ?_ | refine JK.fin ?_ | refine JK.ret ?_))
                exact ⟨(), by (exact JW.Auto rfl), trivial⟩
              · (simp only [↓bif_or, ↓bif_and, ↓Bool.or_eq_true, ↓Bool.or_eq_false_iff, ↓Bool.and_eq_true, ↓Bool.and_eq_false_iff, ↓Bool.not_eq_true', ↓Bool.not_eq_false', ↓decide_eq_true_eq, ↓decide_eq_false_iff_not, ↓beq_iff_eq, ↓bne_iff_ne, ↓bne_eq_false_iff_eq, ↓ne_eq, ↓beq_eq_false_iff_ne, ↓Bool.not_eq_true] at he; try simp only [Ty.dflt, Int.toNat_natCast] at he)
                rw [if_neg he] at hpv
                (repeat (first | refine zs rfl ?_ | refine zg rfl rfl rfl ?_ | refine zd ?_ | refine JK.fin ?_ | refine JK.ret ?_))
                exact ⟨(k + 1, waitS xs k i, k), by (exact JW.Auto rfl), ⟨by dsimp only; omega, hpv⟩, by dsimp only; omega⟩
            · (simp only [↓bif_or, ↓bif_and, ↓Bool.or_eq_true, ↓Bool.or_eq_false_iff, ↓Bool.and_eq_true, ↓Bool.and_eq_false_iff, ↓Bool.not_eq_true', ↓Bool.not_eq_false', ↓decide_eq_true_eq, ↓decide_eq_false_iff_not, ↓beq_iff_eq, ↓bne_iff_ne, ↓bne_eq_false_iff_eq, ↓ne_eq, ↓beq_eq_false_iff_ne, ↓Bool.not_eq_true] at hf; try simp only [Ty.dflt, Int.toNat_natCast] at hf)
              rw [if_neg hf] at hpv
              (repeat (first | refine zs rfl ?_ | refine zg rfl rfl rfl ?_ | refine zd ?_ | refine JK.fin ?_ | refine JK.ret ?_))
              refine JK.cond rfl (fun he => ?_) (fun he => ?_)
              · (simp only [↓bif_or, ↓bif_and, ↓Bool.or_eq_true, ↓Bool.or_eq_false_iff, ↓Bool.and_eq_true, ↓Bool.and_eq_false_iff, ↓Bool.not_eq_true', ↓Bool.not_eq_false', ↓decide_eq_true_eq, ↓decide_eq_false_iff_not, ↓beq_iff_eq, ↓bne_iff_ne, ↓bne_eq_false_iff_eq, ↓ne_eq, ↓beq_eq_false_iff_ne, ↓Bool.not_eq_true] at he; try simp only [Ty.dflt, Int.toNat_natCast] at he)
                rw [if_pos he] at hpv
                (repeat (first | refine zs rfl ?_ | refine zg rfl rfl rfl ?_ | refine zd ?_ | refine JK.fin ?_ | refine JK.ret ?_))
                exact ⟨(), by (exact JW.Auto rfl), trivial⟩
              · (simp only [↓bif_or, ↓bif_and, ↓Bool.or_eq_true, ↓Bool.or_eq_false_iff, ↓Bool.and_eq_true, ↓Bool.and_eq_false_iff, ↓Bool.not_eq_true', ↓Bool.not_eq_false', ↓decide_eq_true_eq, ↓decide_eq_false_iff_not, ↓beq_iff_eq, ↓bne_iff_ne, ↓bne_eq_false_iff_eq, ↓ne_eq, ↓beq_eq_false_iff_ne, ↓Bool.not_eq_true] at he; try simp only [Ty.dflt, Int.toNat_natCast] at he)
                rw [if_neg he] at hpv
                (repeat (first | refine zs rfl ?_ | refine zg rfl rfl rfl ?_ | refine zd ?_ | refine JK.fin ?_ | refine JK.ret ?_))
                exact ⟨(k + 1, far, back), by (exact JW.Auto rfl), ⟨by dsimp only; omega, hpv⟩, by dsimp only; omega⟩
        · (simp only [↓bif_or, ↓bif_and, ↓Bool.or_eq_true, ↓Bool.or_eq_false_iff, ↓Bool.and_eq_true, ↓Bool.and_eq_false_iff, ↓Bool.not_eq_true', ↓Bool.not_eq_false', ↓decide_eq_true_eq, ↓decide_eq_false_iff_not, ↓beq_iff_eq, ↓bne_iff_ne, ↓bne_eq_false_iff_eq, ↓ne_eq, ↓beq_eq_false_iff_ne, ↓Bool.not_eq_true] at hg; try simp only [Ty.dflt, Int.toNat_natCast] at hg)
          obtain rfl : k = 8 := by omega
          rw [show 8 - 8 = 0 by rfl, farF] at hpv
          (repeat (first | refine zs rfl ?_ | refine zg rfl rfl rfl ?_ | refine zd ?_ | refine JK.fin ?_ | refine JK.ret ?_))
          exact ⟨(), by (exact JW.Auto rfl), trivial⟩
    · (simp only [↓bif_or, ↓bif_and, ↓Bool.or_eq_true, ↓Bool.or_eq_false_iff, ↓Bool.and_eq_true, ↓Bool.and_eq_false_iff, ↓Bool.not_eq_true', ↓Bool.not_eq_false', ↓decide_eq_true_eq, ↓decide_eq_false_iff_not, ↓beq_iff_eq, ↓bne_iff_ne, ↓bne_eq_false_iff_eq, ↓ne_eq, ↓beq_eq_false_iff_ne, ↓Bool.not_eq_true] at hd; try simp only [Ty.dflt, Int.toNat_natCast] at hd)
      rw [if_neg (by omega)] at hinv
      (repeat (first | refine zs rfl ?_ | refine zg rfl rfl rfl ?_ | refine zd ?_ | refine JK.fin ?_ | refine JK.ret ?_))
      refine ⟨(i + 1, m.set (xs.getD i 0).toNat 1, out ++ [-1]), by (exact JW.Auto rfl), ⟨by omega, bits_set hm _ (by omega), by simp [hol], ?_⟩, by dsimp only; omega⟩
      rw [List.append_assoc]; exact hinv
  · (simp only [↓bif_or, ↓bif_and, ↓Bool.or_eq_true, ↓Bool.or_eq_false_iff, ↓Bool.and_eq_true, ↓Bool.and_eq_false_iff, ↓Bool.not_eq_true', ↓Bool.not_eq_false', ↓decide_eq_true_eq, ↓decide_eq_false_iff_not, ↓beq_iff_eq, ↓bne_iff_ne, ↓bne_eq_false_iff_eq, ↓ne_eq, ↓beq_eq_false_iff_ne, ↓Bool.not_eq_true] at hc; try simp only [Ty.dflt, Int.toNat_natCast] at hc)
    (repeat (first | refine zs rfl ?_ | refine zg rfl rfl rfl ?_ | refine zd ?_ | refine JK.fin ?_ | refine JK.ret ?_))
    obtain rfl : i = xs.length := by omega
    refine ⟨.inl rfl, _, _, rfl, trivial, ?_⟩
    rw [Nat.sub_self, planF, List.append_nil] at hinv
    rw [← hinv]
end Go.Proofs.Ytbmgijgnbilnoaa

namespace Go.Proofs.Ytbmgijgnbilnoaa
open Go Go.RowKit Ox

abbrev plT : Ty := .cons marT (.cons (.int .i64) .nil)
abbrev plD := List Int × Int × Unit
abbrev plE := Ent plT (.int .i64)

/-- The places to which one more book leads. -/
def stepC (r : Int) (ne : List Int) (book : Int) (i : Nat) (k : Int) (p : plD) : List plD :=
  if p.1.getD k.toNat 0 ≠ 1 ∧ (i : Int) = book then []
  else if p.1.set k.toNat 0 ≠ zero8 ∧ (p.1.set k.toNat 0).sum > r - 1 then []
  else (p.1.set k.toNat 0, (if p.1.getD k.toNat 0 = 1 then p.2.1 + 1 else p.2.1), ()) ::
    (if ne.getD i 0 ≥ 0 then [((p.1.set k.toNat 0).set k.toNat 1, (if p.1.getD k.toNat 0 = 1 then p.2.1 + 1 else p.2.1), ())] else [])
/-- All ways up to the i-th book, but those that keep too few. -/
def waysC (r : Int) (xs ne : List Int) (book most : Int) : Nat → List plD
  | 0 => [(zero8, 0, ())]
  | i + 1 => ((waysC r xs ne book most i).flatMap (stepC r ne book i (xs.getD i 0))).filter fun p => !decide (p.2.1 + (xs.length : Int) - 1 - i < most)
def mostS (r : Int) (xs : List Int) : Int := (xs.length : Int) - ((playS r xs (planS r xs)).countP (fun x => !x.2.1) : Nat)
def countS (r : Int) (xs ne : List Int) (book : Int) : Int := ((waysC r xs ne book (mostS r xs) xs.length).count (zero8, mostS r xs, ()) : Nat)

theorem stepC_len (r : Int) (ne : List Int) (book : Int) (i : Nat) (k : Int) (p : plD) : (stepC r ne book i k p).length ≤ 2 := by
  unfold stepC
  split
  · simp
  · split
    · simp
    · have h1 : ∀ (c : Prop) [Decidable c] (a : plD), (if c then [a] else []).length ≤ 1 := by intro c _ a; split <;> simp
      exact Nat.succ_le_succ (h1 _ _)
theorem flat_len {α β : Type} {f : α → List β} (hf : ∀ a, (f a).length ≤ 2) : ∀ l : List α, (l.flatMap f).length ≤ 2 * l.length
  | [] => by simp
  | a :: l => by have := flat_len hf l; have := hf a; simp only [List.flatMap_cons, List.length_append, List.length_cons]; omega
theorem waysC_len (r : Int) (xs ne : List Int) (book most : Int) : ∀ i, (waysC r xs ne book most i).length ≤ 2 ^ i
  | 0 => by simp [waysC]
  | i + 1 => by
    have h1 := waysC_len r xs ne book most i
    have h2 := flat_len (stepC_len r ne book i (xs.getD i 0)) (waysC r xs ne book most i)
    have h3 := List.length_filter_le (fun p : plD => !decide (p.2.1 + (xs.length : Int) - 1 - i < most)) ((waysC r xs ne book most i).flatMap (stepC r ne book i (xs.getD i 0)))
    rw [waysC, Nat.pow_succ]; omega

/-- A map that says how often each place comes. -/
structure CM (es : List plE) (clk : Nat) (i : Nat) (c : plD → Nat) : Prop where
  wf : MWF es clk
  nn : ∀ e ∈ es, 0 ≤ (show Int from e.2.1)
  ok : ∀ e ∈ es, bits (show List Int from e.1.1) ∧ 0 ≤ (show Int from e.1.2.1) ∧ (show Int from e.1.2.1) ≤ i
  eq : ∀ p : plD, (show Int from mGet es p (0 : Int)) = (c p : Int)

theorem CM.congr {es : List plE} {clk i : Nat} {c c' : plD → Nat} (h : CM es clk i c) (hc : ∀ p, c p = c' p) : CM es clk i c' := ⟨h.wf, h.nn, h.ok, fun p => by rw [← hc p]; exact h.eq p⟩
theorem CM.nil (clk i : Nat) : CM [] clk i fun _ => 0 := ⟨.nil, (fun _ h => by cases h), (fun _ h => by cases h), fun _ => rfl⟩
theorem CM.add {es : List plE} {clk i : Nat} {c : plD → Nat} (h : CM es clk i c) (q : plD) (n : Nat) (hq : bits q.1 ∧ 0 ≤ q.2.1 ∧ q.2.1 ≤ i) {v : Int} (hv : v = (c q : Int) + n) :
    CM (mPut es clk q v) (mClk es clk q) i fun p => if p = q then c p + n else c p := by
  refine ⟨h.wf.put, fun e he => ?_, fun e he => ?_, fun p => ?_⟩
  · rcases (mPut_mem h.wf).1 he with ⟨h1, _⟩ | ⟨_, h1, _⟩
    · exact h.nn e h1
    · show (0 : Int) ≤ e.2.1
      rw [h1]; show (0 : Int) ≤ v; omega
  · rcases (mPut_mem h.wf).1 he with ⟨h1, _⟩ | ⟨h1, _, _⟩
    · exact h.ok e h1
    · show bits e.1.1 ∧ (0 : Int) ≤ e.1.2.1 ∧ (e.1.2.1 : Int) ≤ i
      rw [h1]; exact hq
  · show (mGet (mPut es clk q v) p (0 : Int) : Int) = _
    rw [mGet_put h.wf (inferInstanceAs (Decidable ((p : plD) = q)))]
    by_cases e : p = q
    · rw [if_pos e, if_pos e, e]; exact hv
    · rw [if_neg e, if_neg e]; exact h.eq p

/-- The places of some entries, each as often as it comes. -/
def bag (es : List plE) : List plD := es.flatMap fun e => List.replicate (show Int from e.2.1).toNat (e.1 : plD)
theorem bag_snoc (es : List plE) (e : plE) : bag (es ++ [e]) = bag es ++ List.replicate (show Int from e.2.1).toNat (e.1 : plD) := by simp [bag]
theorem count_rep (n : Nat) (a p : plD) : (List.replicate n a).count p = if p = a then n else 0 := by
  rw [List.count_replicate]
  by_cases e : p = a
  · subst e; simp
  · rw [if_neg e, if_neg]; simpa using fun h => e h.symm
theorem count_bag {clk : Nat} : ∀ {es : List plE}, MWF es clk → (∀ e ∈ es, 0 ≤ (show Int from e.2.1)) → ∀ p : plD, ((bag es).count p : Int) = mGet es p (0 : Int)
  | [], _, _, p => rfl
  | e :: es, hw, hn, p => by
    have hw' : MWF es clk := hw.sub (List.sublist_cons_self e es)
    have ih := count_bag hw' (fun a ha => hn a (List.mem_cons_of_mem _ ha)) p
    have hk : ∀ a ∈ es, a.1 ≠ e.1 := fun a ha h => (List.nodup_cons.1 hw.nk).1 (List.mem_map.2 ⟨a, ha, h⟩)
    have e1 : bag (e :: es) = List.replicate (show Int from e.2.1).toNat (e.1 : plD) ++ bag es := rfl
    rw [e1, List.count_append, count_rep]
    have hne := hn e List.mem_cons_self
    by_cases h : p = e.1
    · rw [if_pos h]
      have h0 : ((bag es).count p : Int) = 0 := by rw [ih, mGet_not (fun a ha hx => hk a ha (hx.trans h))]
      have h2 : mGet (e :: es) p (0 : Int) = e.2.1 := by rw [h]; exact mGet_mem hw List.mem_cons_self
      rw [h2]
      have : ((show Int from e.2.1).toNat : Int) = e.2.1 := Int.toNat_of_nonneg hne
      omega
    · rw [if_neg h, Nat.zero_add, ih]
      cases hi : mIdx es p with
      | none =>
        rw [mIdx_none] at hi
        rw [mGet_not hi, mGet_not]
        intro a ha
        rcases List.mem_cons.1 ha with rfl | ha
        · exact fun h' => h h'.symm
        · exact hi a ha
      | some j =>
        obtain ⟨hl, hk2⟩ := mIdx_some hi
        rw [← hk2, mGet_mem hw' (List.getElem_mem hl), mGet_mem hw (List.mem_cons_of_mem _ (List.getElem_mem hl))]

theorem bag_perm {es : List plE} {clk i : Nat} {L : List plD} (h : CM es clk i fun p => L.count p) : (bag es).Perm L := by
  rw [List.perm_iff_count]
  intro p
  have := count_bag h.wf h.nn p
  rw [show mGet es p (0 : Int) = ((L.count p : Nat) : Int) from h.eq p] at this
  omega
theorem perm_flat {α β : Type} {f : α → List β} {l l' : List α} (h : l.Perm l') : (l.flatMap f).Perm (l'.flatMap f) := by
  induction h with
  | nil => exact .refl _
  | cons a _ ih => simp only [List.flatMap_cons]; exact ih.append_left _
  | swap a b l => simp only [List.flatMap_cons, ← List.append_assoc]; exact List.perm_append_comm.append_right _
  | trans _ _ h1 h2 => exact h1.trans h2
theorem count_repFlat (n : Nat) (a : plD) (f : plD → List plD) (q : plD) : ((List.replicate n a).flatMap f).count q = n * (f a).count q := by
  induction n with
  | zero => simp
  | succ n ih => rw [List.replicate_succ, List.flatMap_cons, List.count_append, ih, Nat.succ_mul, Nat.add_comm]

/-- How far a range over a map has come: 'done' is what it has seen. -/
structure Far (es done : List plE) : Prop where
  rest : ∃ rest, (done ++ rest).Perm es
theorem Far.nil (es : List plE) : Far es [] := ⟨es, .refl _⟩
theorem Far.sub {es done : List plE} (h : Far es done) : ∀ e ∈ done, e ∈ es := by
  obtain ⟨rest, h⟩ := h.rest
  exact fun e he => h.mem_iff.1 (List.mem_append_left _ he)
theorem Far.snoc {es done : List plE} {clk : Nat} (hw : MWF es clk) (h : Far es done) {e : plE} (he : e ∈ es) (hs : e.2.2 ∉ done.map (·.2.2)) : Far es (done ++ [e]) := by
  obtain ⟨rest, h⟩ := h.rest
  have : e ∈ rest := (List.mem_append.1 (h.mem_iff.2 he)).resolve_left fun hd => hs (List.mem_map_of_mem hd)
  obtain ⟨s, t, rfl⟩ := List.append_of_mem this
  refine ⟨s ++ t, .trans ?_ h⟩
  rw [List.append_assoc]
  refine List.Perm.append_left _ ?_
  rw [List.singleton_append]
  exact List.perm_middle.symm
theorem Far.all {es done : List plE} {clk : Nat} (hw : MWF es clk) (h : Far es done) (ha : ∀ e ∈ es, e.2.2 ∈ done.map (·.2.2)) : done.Perm es := by
  obtain ⟨rest, h⟩ := h.rest
  cases rest with
  | nil => simpa using h
  | cons x r =>
    have hx : x ∈ es := h.mem_iff.1 (List.mem_append_right _ List.mem_cons_self)
    obtain ⟨y, hy, hxy⟩ := List.mem_map.1 (ha x hx)
    have hn : ((done ++ x :: r).map (·.2.2)).Nodup := (h.map _).nodup_iff.2 hw.nb
    rw [List.map_append, List.nodup_append] at hn
    exact absurd hxy (hn.2.2 _ (List.mem_map_of_mem hy) _ (by simp))
theorem Far.len {es done : List plE} (h : Far es done) : (bag done).length ≤ (bag es).length := by
  obtain ⟨rest, h⟩ := h.rest
  have := (perm_flat (f := fun e : plE => List.replicate (show Int from e.2.1).toNat (e.1 : plD)) h).length_eq
  rw [List.flatMap_append, List.length_append] at this
  unfold bag; omega
end Go.Proofs.Ytbmgijgnbilnoaa
