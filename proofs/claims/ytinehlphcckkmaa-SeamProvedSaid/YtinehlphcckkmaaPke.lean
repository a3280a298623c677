/- Texts of the proof, part 5 of 6.
  What the table of rows says: plain.
  The best order and the number of best orders: plain.
  best, Best, Count: the program.
  Best, Count: the program.
  A range over all orders.
  Kind: the program.
  The law's best.
  The engine, part RF: in a drawn region, an operation whose guard is known to be true and that looks at no world comes first.
  Works.
  Plain laws of orders: begun elsewhere, shifted, turned round.
  Plain laws of groups.
  Plain laws of orders: a part less, one more, a longer one; parts side by side.
  Plain laws of wastes, of parts side by side.
  The law SeamEither.
  The law SeamProved. -/
import Derived.Test.YtinehlphcckkmaaPkd
set_option linter.all false
set_option maxHeartbeats 2000000
namespace Go.Proofs.Ytinehlphcckkmaa
open Go Go.RowKit Ox Ox.Sh Ox.Se
section
variable (P : Int) (l : List Pt)
def wR : List Nat → Int
  | [] => 0
  | [_] => 0
  | m :: i :: r => wR (i :: r) + gp P l i m
def pthA : Nat → Nat → Nat → List (List Nat)
  | 0, _, _ => []
  | f + 1, q, m => if q = 1 ∧ m = 0 then [[0]] else if m ≠ 0 ∧ q.testBit m = true then (bitsL (q ^^^ 2 ^ m)).flatMap fun i => (pthA f (q ^^^ 2 ^ m) i).map (m :: ·) else []
def pth (q m : Nat) : List (List Nat) := pthA 256 q m
end
theorem pthA_fuel : ∀ (f q m : Nat), q < f → pthA f q m = pthA (f + 1) q m
  | 0, q, m, h => by omega
  | f + 1, q, m, h => by
    rw [pthA, pthA]
    split
    · rfl
    · split
      · rename_i c
        have hlt := xor_lt c.2
        have : ∀ i, pthA f (q ^^^ 2 ^ m) i = pthA (f + 1) (q ^^^ 2 ^ m) i := fun i => pthA_fuel f _ i (by omega)
        simp only [this]
      · rfl
theorem pth_eq {q : Nat} (m : Nat) (h : q < 256) : pth q m = if q = 1 ∧ m = 0 then [[0]] else if m ≠ 0 ∧ q.testBit m = true then (bitsL (q ^^^ 2 ^ m)).flatMap fun i => (pth (q ^^^ 2 ^ m) i).map (m :: ·) else [] := by
  unfold pth
  rw [pthA_fuel 256 q m h, pthA]
theorem pth_head {q m : Nat} (h : q < 256) {s : List Nat} (hs : s ∈ pth q m) : ∃ r, s = m :: r := by
  rw [pth_eq m h] at hs
  split at hs
  · rename_i c
    rw [List.mem_singleton] at hs
    exact ⟨[], by rw [hs, c.2]⟩
  · split at hs
    · obtain ⟨i, _, hs⟩ := List.mem_flatMap.1 hs
      obtain ⟨r, _, rfl⟩ := List.mem_map.1 hs
      exact ⟨r, rfl⟩
    · cases hs
theorem mask_ext {a b : Nat} (h : ∀ i, a.testBit i = true ↔ b.testBit i = true) : a = b := Nat.eq_of_testBit_eq fun i => Bool.eq_iff_iff.2 (h i)
theorem one_bit {x : Nat} : (1 : Nat).testBit x = true ↔ x = 0 := by
  have h1 := Nat.testBit_two_pow (n := 0) (m := x)
  rw [Nat.pow_zero] at h1
  rw [h1, decide_eq_true_iff]
  exact ⟨fun h => h.symm, fun h => h.symm⟩
theorem xor_mem {q m x : Nat} (h : q.testBit m = true) : (q ^^^ 2 ^ m).testBit x = true ↔ q.testBit x = true ∧ x ≠ m := by
  rw [Nat.testBit_xor, Nat.testBit_two_pow]
  by_cases e : m = x
  · subst e; rw [h]; simp
  · rw [decide_eq_false e, Bool.xor_false]
    exact ⟨fun h => ⟨h, fun h' => e h'.symm⟩, fun h => h.1⟩
theorem pth_mem : ∀ {q m : Nat}, q < 256 → ∀ {s : List Nat}, s ∈ pth q m ↔ (∃ r, s = m :: r) ∧ s.getLast? = some 0 ∧ s.Nodup ∧ ∀ x, x ∈ s ↔ q.testBit x = true := by
  intro q m hq s
  induction s generalizing q m with
  | nil =>
    constructor
    · intro h
      obtain ⟨r, hr⟩ := pth_head hq h
      cases hr
    · rintro ⟨⟨r, hr⟩, _⟩; cases hr
  | cons a r ih =>
    rw [pth_eq m hq]
    by_cases c0 : q = 1 ∧ m = 0
    · rw [if_pos c0]
      obtain ⟨rfl, rfl⟩ := c0
      rw [List.mem_singleton]
      constructor
      · intro h
        rw [h]
        refine ⟨⟨[], rfl⟩, rfl, by simp, fun x => ?_⟩
        rw [List.mem_singleton, one_bit]
      · rintro ⟨⟨r', hr⟩, h2, h3, h4⟩
        obtain ⟨rfl, rfl⟩ := List.cons.inj hr
        cases r with
        | nil => rfl
        | cons b r =>
          have := one_bit.1 ((h4 b).1 (by simp))
          subst this
          exact absurd List.mem_cons_self (List.nodup_cons.1 h3).1
    · rw [if_neg c0]
      by_cases c1 : m ≠ 0 ∧ q.testBit m = true
      · rw [if_pos c1]
        have hlt := xor_lt c1.2
        constructor
        · intro h
          obtain ⟨i, hi, h⟩ := List.mem_flatMap.1 h
          obtain ⟨r', hr', e⟩ := List.mem_map.1 h
          obtain ⟨rfl, rfl⟩ := List.cons.inj e
          obtain ⟨⟨r2, e2⟩, h2, h3, h4⟩ := (ih (q := q ^^^ 2 ^ m) (m := i) (by omega)).1 hr'
          refine ⟨⟨_, rfl⟩, ?_, List.nodup_cons.2 ⟨fun hm => ?_, h3⟩, fun x => ?_⟩
          · rw [e2] at h2 ⊢
            rw [List.getLast?_cons_cons]; exact h2
          · have := (h4 m).1 hm
            rw [xor_bit c1.2] at this; cases this
          · rw [List.mem_cons, h4, xor_mem c1.2]
            constructor
            · rintro (rfl | h)
              · exact c1.2
              · exact h.1
            · intro h
              by_cases e : x = m
              · exact .inl e
              · exact .inr ⟨h, e⟩
        · rintro ⟨⟨r', hr⟩, h2, h3, h4⟩
          obtain ⟨rfl, rfl⟩ := List.cons.inj hr
          cases r with
          | nil =>
            have : a = 0 := by simpa using h2
            exact absurd this c1.1
          | cons i r =>
            obtain ⟨n1, n2⟩ := List.nodup_cons.1 h3
            have h4' : ∀ x, x ∈ i :: r ↔ (q ^^^ 2 ^ a).testBit x = true := fun x => by
              rw [xor_mem c1.2, ← h4, List.mem_cons (a := x) (b := a)]
              constructor
              · intro h; exact ⟨.inr h, fun e => n1 (e ▸ h)⟩
              · rintro ⟨h | h, hne⟩
                · exact absurd h hne
                · exact h
            have hi := (h4' i).1 List.mem_cons_self
            refine List.mem_flatMap.2 ⟨i, mem_bits.2 ⟨bit_lt (N := 8) (by omega) hi, hi⟩, List.mem_map.2 ⟨i :: r, (ih (by omega)).2 ⟨⟨r, rfl⟩, ?_, n2, h4'⟩, rfl⟩⟩
            rw [List.getLast?_cons_cons] at h2; exact h2
      · rw [if_neg c1]
        constructor
        · intro h; cases h
        · rintro ⟨⟨r', hr⟩, h2, h3, h4⟩
          obtain ⟨rfl, rfl⟩ := List.cons.inj hr
          have hb := (h4 a).1 List.mem_cons_self
          have ha : a = 0 := Classical.byContradiction fun e => c1 ⟨e, hb⟩
          subst ha
          exfalso
          cases r with
          | nil =>
            refine c0 ⟨mask_ext fun i => ?_, rfl⟩
            rw [← h4, List.mem_singleton, one_bit]
          | cons b r =>
            rw [List.getLast?_cons_cons] at h2
            exact (List.nodup_cons.1 h3).1 (List.mem_of_getLast? h2)
theorem pth_nd : ∀ (q m : Nat), q < 256 → (pth q m).Nodup := by
  intro q
  induction q using Nat.strongRecOn with
  | _ q ih =>
    intro m hq
    rw [pth_eq m hq]
    split
    · simp
    · split
      · rename_i c
        have hlt := xor_lt c.2
        show List.Pairwise (· ≠ ·) _
        rw [List.pairwise_flatMap]
        refine ⟨fun i hi => ?_, ?_⟩
        · rw [List.pairwise_map]
          exact (ih _ hlt i (by omega)).imp fun h e => h (List.cons.inj e).2
        · refine (bits_nd _).imp fun {i j} hij x hx y hy e => hij ?_
          obtain ⟨a, ha, rfl⟩ := List.mem_map.1 hx
          obtain ⟨b, hb, rfl⟩ := List.mem_map.1 hy
          have := (List.cons.inj e).2
          subst this
          obtain ⟨r1, e1⟩ := pth_head (by omega) ha
          obtain ⟨r2, e2⟩ := pth_head (by omega) hb
          rw [e1] at e2
          exact (List.cons.inj e2).1
      · exact List.nodup_nil
structure Ok (P : Int) (l : List Pt) (most : Int) (e : Option WD) (F : List (List Nat)) : Prop where
  a : ∀ w, e = some w → ∃ s ∈ F, wR P l s = w.1
  b : ∀ s ∈ F, wR P l s ≤ most → ∃ w, e = some w ∧ w.1 ≤ wR P l s
  c : ∀ w, e = some w → w.1 ≤ most → w.2.1 = ((F.countP fun s => decide (wR P l s = w.1) : Nat) : Int)
def ciE (most : Int) (g : Nat → Int) (e : Nat → Option WD) (x : Int) (i : Nat) : Int := match e i with
  | none => 0
  | some v => if v.1 ≤ most ∧ v.1 + g i = x then v.2.1 else 0
structure Fo (most : Int) (g : Nat → Int) (e : Nat → Option WD) (is : List Nat) (x c : Int) : Prop where
  ex : ∃ i ∈ is, ∃ v, e i = some v ∧ v.1 ≤ most ∧ v.1 + g i = x
  mn : ∀ i ∈ is, ∀ v, e i = some v → v.1 ≤ most → x ≤ v.1 + g i
  ct : c = sm (ciE most g e x) is
theorem sm_cast {α : Type} (f : Nat → Nat) : ∀ is : List Nat, ((is.map f).sum : Int) = sm (fun i => (f i : Int)) is
  | [] => rfl
  | i :: is => by rw [List.map_cons, List.sum_cons, sm_cons, ← sm_cast (α := α) f is]; push_cast; rfl
theorem sm_congr {f g : Nat → Int} : ∀ {is : List Nat}, (∀ i ∈ is, f i = g i) → sm f is = sm g is
  | [], _ => rfl
  | i :: is, h => by rw [sm_cons, sm_cons, h i List.mem_cons_self, sm_congr fun j hj => h j (List.mem_cons_of_mem _ hj)]
theorem Fo.count {P : Int} {l : List Pt} {most : Int} {g : Nat → Int} {e : Nat → Option WD} {is : List Nat} {x c : Int} {F : Nat → List (List Nat)} (h : Fo most g e is x c) (hg : ∀ i, 0 ≤ g i) (hF : ∀ i ∈ is, Ok P l most (e i) (F i)) (hx : x ≤ most) :
    c = sm (fun i => (((F i).countP fun s => decide (wR P l s + g i = x) : Nat) : Int)) is := by
  rw [h.ct]
  refine sm_congr fun i hi => ?_
  have hk := hF i hi
  have hz : (∀ v, e i = some v → v.1 ≤ most → v.1 + g i ≠ x) → (F i).countP (fun s => decide (wR P l s + g i = x)) = 0 := fun hno => by
    rw [List.countP_eq_zero]
    intro s hs hd
    have hd' := of_decide_eq_true hd
    have := hg i
    obtain ⟨v, hv, hle⟩ := hk.b s hs (by omega)
    have := h.mn i hi v hv (by omega)
    exact hno v hv (by omega) (by omega)
  unfold ciE
  cases hv : e i with
  | none => rw [hz (fun v h => by rw [hv] at h; cases h)]; rfl
  | some v =>
    dsimp only
    split
    · rename_i c
      rw [hk.c v hv c.1]
      congr 2
      funext s
      exact decide_eq_decide.2 ⟨fun h => by omega, fun h => by omega⟩
    · rename_i c
      rw [hz (fun u hu h1 h2 => by rw [hv] at hu; have := Option.some.inj hu; subst this; exact c ⟨h1, h2⟩)]; rfl
section
variable {P : Int} {l : List Pt} {most : Int}
theorem ci_zero {g : Nat → Int} {e : Nat → Option WD} {x y : Int} {is : List Nat} (hm : ∀ i ∈ is, ∀ v, e i = some v → v.1 ≤ most → x ≤ v.1 + g i) (h : y < x) : sm (ciE most g e y) is = 0 := by
  have : sm (ciE most g e y) is = sm (fun _ => (0 : Int)) is := sm_congr fun i hi => by
    unfold ciE
    split
    · rfl
    · rename_i v hv
      rw [if_neg]
      rintro ⟨h1, h2⟩
      have := hm i hi v hv h1
      omega
  rw [this]
  clear this hm
  induction is with
  | nil => rfl
  | cons i is ih => rw [sm_cons, ih]; omega
theorem Fo.snoc {g : Nat → Int} {e : Nat → Option WD} {is : List Nat} {x c : Int} {i : Nat} (h : Fo most g e is x c) :
    (∀ v, e i = some v → v.1 ≤ most → x < v.1 + g i) → Fo most g e (is ++ [i]) x c := fun hi => by
  refine ⟨?_, fun j hj v hv hv2 => ?_, ?_⟩
  · obtain ⟨j, hj, r⟩ := h.ex
    exact ⟨j, List.mem_append_left _ hj, r⟩
  · rcases List.mem_append.1 hj with hj | hj
    · exact h.mn j hj v hv hv2
    · rw [List.mem_singleton.1 hj] at hv ⊢
      have := hi v hv hv2
      omega
  · rw [sm_app, ← h.ct, sm_cons]
    have : ciE most g e x i = 0 := by
      unfold ciE
      split
      · rfl
      · rename_i v hv
        rw [if_neg]
        rintro ⟨h1, h2⟩
        have := hi v hv h1
        omega
    rw [this]
    have : sm (ciE most g e x) [] = 0 := rfl
    omega
theorem Fo.same {g : Nat → Int} {e : Nat → Option WD} {is : List Nat} {x c : Int} {i : Nat} {v : WD} (h : Fo most g e is x c) (hv : e i = some v) (h1 : v.1 ≤ most) (h2 : v.1 + g i = x) : Fo most g e (is ++ [i]) x (c + v.2.1) := by
  refine ⟨⟨i, by simp, v, hv, h1, h2⟩, fun j hj u hu hu2 => ?_, ?_⟩
  · rcases List.mem_append.1 hj with hj | hj
    · exact h.mn j hj u hu hu2
    · rw [List.mem_singleton.1 hj, hv] at hu
      have := Option.some.inj hu
      subst this
      rw [List.mem_singleton.1 hj]; omega
  · rw [sm_app, ← h.ct, sm_cons]
    have : ciE most g e x i = v.2.1 := by unfold ciE; rw [hv]; exact if_pos ⟨h1, h2⟩
    rw [this]
    have : sm (ciE most g e x) [] = 0 := rfl
    omega
theorem Fo.less {g : Nat → Int} {e : Nat → Option WD} {is : List Nat} {i : Nat} {v : WD} (hm : ∀ j ∈ is, ∀ u, e j = some u → u.1 ≤ most → v.1 + g i < u.1 + g j) (hv : e i = some v) (h1 : v.1 ≤ most) : Fo most g e (is ++ [i]) (v.1 + g i) v.2.1 := by
  refine ⟨⟨i, by simp, v, hv, h1, rfl⟩, fun j hj u hu hu2 => ?_, ?_⟩
  · rcases List.mem_append.1 hj with hj | hj
    · have := hm j hj u hu hu2; omega
    · rw [List.mem_singleton.1 hj, hv] at hu
      have := Option.some.inj hu
      subst this
      rw [List.mem_singleton.1 hj]; omega
  · rw [sm_app, sm_cons]
    have e1 : ciE most g e (v.1 + g i) i = v.2.1 := by unfold ciE; rw [hv]; exact if_pos ⟨h1, rfl⟩
    have e2 := ci_zero (most := most) (g := g) (e := e) (x := v.1 + g i + 1) (y := v.1 + g i) (is := is) (fun j hj u hu hu2 => by have := hm j hj u hu hu2; omega) (by omega)
    rw [e1, e2]
    have : sm (ciE most g e (v.1 + g i)) [] = 0 := rfl
    omega
theorem foldC_fo {e : Nat → Option WD} {m : Nat} : ∀ (js is : List Nat) (cur : Option WD),
    (match cur with | none => ∀ i ∈ is, ∀ v, e i = some v → ¬ v.1 ≤ most | some w => Fo most (fun i => gp P l i m) e is w.1 w.2.1 ∧ ∃ i v, e i = some v ∧ v.1 ≤ most ∧ v.1 + gp P l i m = w.1 ∧ w.2.2.1 = (i : Int) ∧ i ∈ is) →
    (match js.foldl (cst P l most e m) cur with | none => ∀ i ∈ is ++ js, ∀ v, e i = some v → ¬ v.1 ≤ most | some w => Fo most (fun i => gp P l i m) e (is ++ js) w.1 w.2.1 ∧ ∃ i v, e i = some v ∧ v.1 ≤ most ∧ v.1 + gp P l i m = w.1 ∧ w.2.2.1 = (i : Int) ∧ i ∈ is ++ js)
  | [], is, cur, h => by rw [List.append_nil]; exact h
  | j :: js, is, cur, h => by
    have e1 : is ++ j :: js = (is ++ [j]) ++ js := by simp
    rw [List.foldl_cons, e1]
    refine foldC_fo js (is ++ [j]) _ ?_
    unfold cst
    cases hv : e j with
    | none =>
      dsimp only
      cases cur with
      | none =>
        dsimp only at h ⊢
        intro i hi v hv2
        rcases List.mem_append.1 hi with hi | hi
        · exact h i hi v hv2
        · rw [List.mem_singleton.1 hi, hv] at hv2; cases hv2
      | some w =>
        dsimp only at h ⊢
        obtain ⟨h1, i, v, h2, h3, h4, h5, h6⟩ := h
        exact ⟨h1.snoc fun v h _ => by (rw [hv] at h; cases h), i, v, h2, h3, h4, h5, List.mem_append_left _ h6⟩
    | some v =>
      dsimp only
      by_cases hp : v.1 > most
      · rw [if_pos hp]
        cases cur with
        | none =>
          dsimp only at h ⊢
          intro i hi u hu
          rcases List.mem_append.1 hi with hi | hi
          · exact h i hi u hu
          · rw [List.mem_singleton.1 hi, hv] at hu
            have := Option.some.inj hu
            subst this; omega
        | some w =>
          dsimp only at h ⊢
          obtain ⟨h1, i, u, h2, h3, h4, h5, h6⟩ := h
          refine ⟨h1.snoc fun u hu hu2 => ?_, i, u, h2, h3, h4, h5, List.mem_append_left _ h6⟩
          rw [hv] at hu
          have := Option.some.inj hu
          subst this; omega
      · rw [if_neg hp]
        have hp' : v.1 ≤ most := by omega
        cases cur with
        | none =>
          dsimp only at h ⊢
          refine ⟨?_, j, v, hv, hp', rfl, rfl, by simp⟩
          exact Fo.less (g := fun i => gp P l i m) (fun i hi u hu hu2 => absurd hu2 (h i hi u hu)) hv hp'
        | some w =>
          dsimp only at h
          obtain ⟨h1, i, u, h2, h3, h4, h5, h6⟩ := h
          dsimp only
          show Fo most _ e _ (if w.1 = v.1 + gp P l j m then (v.1 + gp P l j m, v.2.1 + w.2.1, w.2.2.1, ()) else if w.1 < v.1 + gp P l j m then w else (v.1 + gp P l j m, v.2.1, (j : Int), ()) : WD).1 (if w.1 = v.1 + gp P l j m then (v.1 + gp P l j m, v.2.1 + w.2.1, w.2.2.1, ()) else if w.1 < v.1 + gp P l j m then w else (v.1 + gp P l j m, v.2.1, (j : Int), ()) : WD).2.1 ∧ ∃ i u, e i = some u ∧ u.1 ≤ most ∧ u.1 + gp P l i m = (if w.1 = v.1 + gp P l j m then (v.1 + gp P l j m, v.2.1 + w.2.1, w.2.2.1, ()) else if w.1 < v.1 + gp P l j m then w else (v.1 + gp P l j m, v.2.1, (j : Int), ()) : WD).1 ∧ (if w.1 = v.1 + gp P l j m then (v.1 + gp P l j m, v.2.1 + w.2.1, w.2.2.1, ()) else if w.1 < v.1 + gp P l j m then w else (v.1 + gp P l j m, v.2.1, (j : Int), ()) : WD).2.2.1 = (i : Int) ∧ i ∈ is ++ [j]
          by_cases c1 : w.1 = v.1 + gp P l j m
          · rw [if_pos c1]
            dsimp only
            refine ⟨?_, i, u, h2, h3, by omega, h5, List.mem_append_left _ h6⟩
            have := h1.same (g := fun i => gp P l i m) hv hp' c1.symm
            rw [Int.add_comm v.2.1, ← c1]
            exact this
          · rw [if_neg c1]
            by_cases c2 : w.1 < v.1 + gp P l j m
            · rw [if_pos c2]
              refine ⟨h1.snoc fun u hu hu2 => ?_, i, u, h2, h3, h4, h5, List.mem_append_left _ h6⟩
              rw [hv] at hu
              have := Option.some.inj hu
              subst this; exact c2
            · rw [if_neg c2]
              dsimp only
              refine ⟨?_, j, v, hv, hp', rfl, rfl, by simp⟩
              exact Fo.less (g := fun i => gp P l i m) (fun i hi u hu hu2 => by have := h1.mn i hi u hu hu2; omega) hv hp'
theorem foldC_ok {e : Nat → Option WD} {m : Nat} {is : List Nat} : match foldC P l most e m is with
    | none => ∀ i ∈ is, ∀ v, e i = some v → ¬ v.1 ≤ most
    | some w => Fo most (fun i => gp P l i m) e is w.1 w.2.1 ∧ ∃ i v, e i = some v ∧ v.1 ≤ most ∧ v.1 + gp P l i m = w.1 ∧ w.2.2.1 = (i : Int) ∧ i ∈ is := by
  have := foldC_fo (P := P) (l := l) (most := most) (e := e) (m := m) is [] none (fun i hi => by cases hi)
  rw [List.nil_append] at this
  exact this
theorem wR_cons {q i m : Nat} (h : q < 256) {s : List Nat} (hs : s ∈ pth q i) : wR P l (m :: s) = wR P l s + gp P l i m := by
  obtain ⟨r, rfl⟩ := pth_head h hs
  rfl
theorem ent_ok (hP : 1 ≤ P) : ∀ (q m : Nat), q < 256 → Ok P l most (ent P l most q m) (pth q m) := by
  intro q
  induction q using Nat.strongRecOn with
  | _ q ih =>
    intro m hq
    rw [ent_eq m hq, pth_eq m hq]
    by_cases c0 : q = 1 ∧ m = 0
    · rw [if_pos c0, if_pos c0]
      refine ⟨fun w hw => ?_, fun s hs _ => ?_, fun w hw _ => ?_⟩
      · rw [← Option.some.inj hw]
        exact ⟨[0], by simp, rfl⟩
      · rw [List.mem_singleton] at hs
        rw [hs]
        exact ⟨st0, rfl, Int.le_refl _⟩
      · rw [← Option.some.inj hw]
        rfl
    · rw [if_neg c0, if_neg c0]
      by_cases c1 : m ≠ 0 ∧ q.testBit m = true
      · rw [if_pos c1, if_pos c1]
        have hlt := xor_lt c1.2
        have hp : q ^^^ 2 ^ m < 256 := by omega
        have hF : ∀ i ∈ bitsL (q ^^^ 2 ^ m), Ok P l most (ent P l most (q ^^^ 2 ^ m) i) (pth (q ^^^ 2 ^ m) i) := fun i _ => ih _ hlt i hp
        have hg : ∀ i, 0 ≤ gp P l i m := fun i => (gp_bd (l := l) hP i m).1
        have hfo := foldC_ok (P := P) (l := l) (most := most) (e := ent P l most (q ^^^ 2 ^ m)) (m := m) (is := bitsL (q ^^^ 2 ^ m))
        refine ⟨fun w hw => ?_, fun s hs hle => ?_, fun w hw hle => ?_⟩
        · rw [hw] at hfo
          obtain ⟨_, i, v, h2, h3, h4, h5, h6⟩ := hfo
          obtain ⟨s, hs, e⟩ := (hF i h6).a v h2
          refine ⟨m :: s, List.mem_flatMap.2 ⟨i, h6, List.mem_map.2 ⟨s, hs, rfl⟩⟩, ?_⟩
          rw [wR_cons hp hs, e, h4]
        · obtain ⟨i, hi, hs⟩ := List.mem_flatMap.1 hs
          obtain ⟨r, hr, rfl⟩ := List.mem_map.1 hs
          rw [wR_cons hp hr] at hle ⊢
          have := hg i
          obtain ⟨v, hv, hle2⟩ := (hF i hi).b r hr (by omega)
          cases hw : foldC P l most (ent P l most (q ^^^ 2 ^ m)) m (bitsL (q ^^^ 2 ^ m)) with
          | none =>
            rw [hw] at hfo
            exact absurd (show v.1 ≤ most by omega) (hfo i hi v hv)
          | some w =>
            rw [hw] at hfo
            have := hfo.1.mn i hi v hv (by omega)
            exact ⟨w, rfl, by omega⟩
        · rw [hw] at hfo
          rw [hfo.1.count hg hF hle, List.countP_flatMap, sm_cast (α := Nat)]
          refine sm_congr fun i hi => ?_
          show ((_ : Nat) : Int) = ((List.countP _ (List.map _ _) : Nat) : Int)
          rw [List.countP_map]
          congr 1
          refine List.countP_congr fun s hs => ?_
          show decide _ = true ↔ decide (wR P l (m :: s) = w.1) = true
          rw [wR_cons hp hs]
      · rw [if_neg c1, if_neg c1]
        refine ⟨fun w hw => (by cases hw), fun s hs _ => (by cases hs), fun w hw _ => (by cases hw)⟩
theorem ent_bef {q m : Nat} (hq : q < 256) {w : WD} (hw : ent P l most q m = some w) (h : ¬ (q = 1 ∧ m = 0)) : m ≠ 0 ∧ q.testBit m = true ∧ ∃ i v, ent P l most (q ^^^ 2 ^ m) i = some v ∧ v.1 ≤ most ∧ v.1 + gp P l i m = w.1 ∧ w.2.2.1 = (i : Int) ∧ (q ^^^ 2 ^ m).testBit i = true := by
  rw [ent_eq m hq, if_neg h] at hw
  split at hw
  · rename_i c
    have hfo := foldC_ok (P := P) (l := l) (most := most) (e := ent P l most (q ^^^ 2 ^ m)) (m := m) (is := bitsL (q ^^^ 2 ^ m))
    rw [hw] at hfo
    obtain ⟨_, i, v, h2, h3, h4, h5, h6⟩ := hfo
    exact ⟨c.1, c.2, i, v, h2, h3, h4, h5, (mem_bits.1 h6).2⟩
  · cases hw
def ctF (P : Int) (l : List Pt) (T : Nat → Option WD) (x : Int) (i : Nat) : Int := match T i with
  | none => 0
  | some v => if v.1 + gp P l i 0 = x then v.2.1 else 0
def CF (P : Int) (l : List Pt) (T : Nat → Option WD) (k : Nat) (c : Int × Int × Int) : Prop :=
  (c.1 < 0 ∧ ∀ i, i < k → T i = none) ∨ (0 ≤ c.1 ∧ (c.1 < k ∧ ∃ v, T c.1.toNat = some v ∧ v.1 + gp P l c.1.toNat 0 = c.2.1) ∧
    ((∀ i, i < k → ∀ v, T i = some v → c.2.1 ≤ v.1 + gp P l i 0) ∧ c.2.2 = sm (ctF P l T c.2.1) (List.range k)))
theorem clK_fo {T : Nat → Option WD} : ∀ k : Nat, CF P l T k (clK P l T k)
  | 0 => .inl ⟨(by show (-1 : Int) < 0; decide), fun i h => by omega⟩
  | k + 1 => by
    have ih := clK_fo (T := T) k
    unfold CF at ih
    have hz : ∀ y : Int, (∀ i, i < k → ∀ v, T i = some v → y < v.1 + gp P l i 0) → sm (ctF P l T y) (List.range k) = 0 := fun y hy => by
      have e : sm (ctF P l T y) (List.range k) = sm (fun _ => (0 : Int)) (List.range k) := sm_congr fun i hi => by
        unfold ctF
        cases hT : T i with
        | none => rfl
        | some v =>
          have := hy i (List.mem_range.1 hi) v hT
          show (if v.1 + gp P l i 0 = y then v.2.1 else 0) = 0
          rw [if_neg (by omega)]
      rw [e]
      clear e hy ih
      induction (List.range k) with
      | nil => rfl
      | cons i is ih => rw [sm_cons, ih]; omega
    rw [clK]
    cases hT : T k with
    | none =>
      dsimp only
      rcases ih with ⟨h1, h2⟩ | ⟨h1, ⟨h2, h3⟩, h4, h5⟩
      · refine .inl ⟨h1, fun i hi => ?_⟩
        rcases Nat.lt_or_ge i k with c | c
        · exact h2 i c
        · rw [show i = k by omega, hT]
      · refine .inr ⟨h1, ⟨by push_cast; omega, h3⟩, fun i hi v hv => ?_, ?_⟩
        · rcases Nat.lt_or_ge i k with c | c
          · exact h4 i c v hv
          · rw [show i = k by omega, hT] at hv; cases hv
        · rw [sm_range, show ctF P l T _ k = 0 by unfold ctF; rw [hT]]
          omega
    | some w =>
      dsimp only
      by_cases c1 : (clK P l T k).1 < 0 ∨ w.1 + gp P l k 0 < (clK P l T k).2.1
      · rw [if_pos c1]
        have hlt : ∀ i, i < k → ∀ v, T i = some v → w.1 + gp P l k 0 < v.1 + gp P l i 0 := fun i hi v hv => by
          rcases ih with ⟨h1, h2⟩ | ⟨h1, ⟨h2, h3⟩, h4, h5⟩
          · rw [h2 i hi] at hv; cases hv
          · have := h4 i hi v hv
            omega
        refine .inr ⟨by omega, ⟨by push_cast; omega, w, by rw [Int.toNat_natCast]; exact hT, by rw [Int.toNat_natCast]⟩, fun i hi v hv => ?_, ?_⟩
        · show w.1 + gp P l k 0 ≤ v.1 + gp P l i 0
          rcases Nat.lt_or_ge i k with c | c
          · have := hlt i c v hv; omega
          · rw [show i = k by omega, hT] at hv
            have := Option.some.inj hv
            subst this
            rw [show i = k by omega]; omega
        · rw [sm_range, hz _ hlt, show ctF P l T (w.1 + gp P l k 0) k = w.2.1 by unfold ctF; rw [hT]; exact if_pos rfl]
          dsimp only; omega
      · rw [if_neg c1]
        rcases ih with ⟨h1, h2⟩ | ⟨h1, ⟨h2, h3⟩, h4, h5⟩
        · exact absurd (Or.inl h1) c1
        · by_cases c2 : w.1 + gp P l k 0 = (clK P l T k).2.1
          · rw [if_pos c2]
            refine .inr ⟨h1, ⟨by push_cast; omega, h3⟩, fun i hi v hv => ?_, ?_⟩
            · show (clK P l T k).2.1 ≤ v.1 + gp P l i 0
              rcases Nat.lt_or_ge i k with c | c
              · exact h4 i c v hv
              · rw [show i = k by omega, hT] at hv
                have := Option.some.inj hv
                subst this
                rw [show i = k by omega]; omega
            · rw [sm_range, ← h5, show ctF P l T (clK P l T k).2.1 k = w.2.1 by unfold ctF; rw [hT]; exact if_pos c2]
          · rw [if_neg c2]
            refine .inr ⟨h1, ⟨by push_cast; omega, h3⟩, fun i hi v hv => ?_, ?_⟩
            · rcases Nat.lt_or_ge i k with c | c
              · exact h4 i c v hv
              · rw [show i = k by omega, hT] at hv
                have := Option.some.inj hv
                subst this
                rw [show i = k by omega]; omega
            · rw [sm_range, ← h5, show ctF P l T (clK P l T k).2.1 k = 0 by unfold ctF; rw [hT]; exact if_neg c2]; omega
end
end Go.Proofs.Ytinehlphcckkmaa

namespace Go.Proofs.Ytinehlphcckkmaa
open Go Go.RowKit Ox Ox.Sh Ox.Se
def lastN : Nat → List Nat → Nat
  | h, [] => h
  | _, y :: t => lastN y t
theorem nd_rev {α : Type} {s : List α} : s.reverse.Nodup ↔ s.Nodup := (List.reverse_perm s).nodup_iff
theorem rev_inj {α : Type} {a b : List α} (e : a.reverse = b.reverse) : a = b := by
  have := congrArg List.reverse e
  rwa [List.reverse_reverse, List.reverse_reverse] at this
section
variable {P : Int} {l : List Pt} {most : Int}
theorem wst_last : ∀ (z : List Nat) (h m : Nat), wst P l h (z ++ [m]) = wst P l h z + gp P l (lastN h z) m
  | [], h, m => by simp [wst, lastN]
  | y :: t, h, m => by
    rw [List.cons_append, wst, wst, lastN, wst_last t y m]; omega
theorem wR_rev : ∀ (z : List Nat) (h : Nat) (r : List Nat), wR P l (z.reverse ++ h :: r) = wR P l (h :: r) + wst P l h z ∧ ∃ r', z.reverse ++ h :: r = lastN h z :: r'
  | [], h, r => ⟨by simp [wst], r, rfl⟩
  | y :: t, h, r => by
    have e : (y :: t).reverse ++ h :: r = t.reverse ++ y :: h :: r := by simp
    rw [e]
    obtain ⟨h1, r', h2⟩ := wR_rev t y (h :: r)
    refine ⟨?_, r', h2⟩
    rw [h1, wst]
    show wR P l (h :: r) + gp P l h y + wst P l y t = _
    omega
theorem full_bit {N x : Nat} : (2 ^ N - 1).testBit x = true ↔ x < N := by rw [Nat.testBit_two_pow_sub_one, decide_eq_true_iff]
theorem rows_iff {N : Nat} (h1 : 1 ≤ N) (h8 : N ≤ 8) {s : List Nat} : (∃ i, i < N ∧ s ∈ pth (2 ^ N - 1) i) ↔ s.reverse ∈ allO N := by
  have hq : 2 ^ N - 1 < 256 := by
    have : 2 ^ N ≤ 256 := Nat.pow_le_pow_right (n := 2) (by omega) h8
    have := Nat.one_le_two_pow (n := N)
    omega
  rw [mem_allO h1]
  constructor
  · rintro ⟨i, hi, hs⟩
    obtain ⟨⟨r, e⟩, h2, h3, h4⟩ := (pth_mem hq).1 hs
    have h5 : s.reverse.head? = some 0 := by rw [List.head?_reverse]; exact h2
    obtain ⟨z, hz⟩ : ∃ z, s.reverse = 0 :: z := by
      cases hr : s.reverse with
      | nil => rw [hr] at h5; cases h5
      | cons a z => rw [hr] at h5; exact ⟨z, by rw [Option.some.inj h5]⟩
    refine ⟨z, hz, ?_⟩
    rw [← hz]
    refine (List.perm_ext_iff_of_nodup (nd_rev.2 h3) List.nodup_range).2 fun x => ?_
    rw [List.mem_reverse, h4, full_bit, List.mem_range]
  · rintro ⟨z, hz, hp⟩
    have hs : s = (0 :: z).reverse := by rw [← hz, List.reverse_reverse]
    obtain ⟨_, r', e⟩ := wR_rev (P := 1) (l := []) z 0 []
    have hm : ∀ x, x ∈ s ↔ x < N := fun x => by rw [hs, List.mem_reverse, hp.mem_iff, List.mem_range]
    have e2 : s = lastN 0 z :: r' := by rw [hs, List.reverse_cons]; exact e
    refine ⟨lastN 0 z, (hm _).1 (by rw [e2]; exact List.mem_cons_self), (pth_mem hq).2 ⟨⟨r', e2⟩, ?_, ?_, fun x => by rw [hm, full_bit]⟩⟩
    · rw [hs, List.getLast?_reverse]; rfl
    · rw [hs]; exact nd_rev.2 (hp.nodup_iff.2 List.nodup_range)
def xmW (P : Int) (l : List Pt) : Int := P * leR P l - sm (lO l) (List.range l.length)
theorem rd_wR (hP : 1 ≤ P) {i : Nat} {s : List Nat} (h1 : 1 ≤ l.length) (h8 : l.length ≤ 8) (hs : s ∈ pth (2 ^ l.length - 1) i) (hi : i < l.length) : wR P l s + gp P l i 0 = P * rdL P l s.reverse - sm (lO l) (List.range l.length) := by
  have hq : 2 ^ l.length - 1 < 256 := by
    have : 2 ^ l.length ≤ 256 := Nat.pow_le_pow_right (n := 2) (by omega) h8
    have := Nat.one_le_two_pow (n := l.length)
    omega
  obtain ⟨z, hz, hp⟩ := (mem_allO h1).1 ((rows_iff h1 h8).1 ⟨i, hi, hs⟩)
  have he : s = z.reverse ++ [0] := by rw [← List.reverse_reverse s, hz, List.reverse_cons]
  obtain ⟨e1, r', e2⟩ := wR_rev (P := P) (l := l) z 0 []
  obtain ⟨r, e3⟩ := pth_head hq hs
  have hl : lastN 0 z = i := by
    rw [← he, e3] at e2
    exact (List.cons.inj e2).1.symm
  rw [hz]
  show _ = P * rd P l 0 z - _
  rw [← tot_rd hP hp]
  unfold tot
  rw [sm_perm hp, wst_last, hl, he, e1]
  have : wR P l [0] = 0 := rfl
  omega
theorem xm_le (hP : 1 ≤ P) (h1 : 1 ≤ l.length) : xmW P l ≤ msT P l := by
  have hne : l ≠ [] := fun e => by rw [e] at h1; simp at h1
  have h := leR_top hP hne (pk_full (l := l) hP)
  have h2 : P * leR P l ≤ P * (pkV P l + 1) := Int.mul_le_mul_of_nonneg_left h (by omega)
  rw [Int.mul_comm P (pkV P l + 1)] at h2
  unfold xmW msT msK
  omega
theorem best_iff (hP : 1 ≤ P) (h1 : 1 ≤ l.length) (h8 : l.length ≤ 8) {i : Nat} {s : List Nat} (hi : i < l.length) (hs : s ∈ pth (2 ^ l.length - 1) i) : rdL P l s.reverse = leR P l ↔ wR P l s + gp P l i 0 = xmW P l := by
  rw [rd_wR hP h1 h8 hs hi]
  unfold xmW
  constructor
  · intro h; rw [h]
  · intro h
    exact Int.eq_of_mul_eq_mul_left (a := P) (by omega) (by omega)
theorem xm_min (hP : 1 ≤ P) (h1 : 1 ≤ l.length) (h8 : l.length ≤ 8) {i : Nat} {s : List Nat} (hi : i < l.length) (hs : s ∈ pth (2 ^ l.length - 1) i) : xmW P l ≤ wR P l s + gp P l i 0 := by
  rw [rd_wR hP h1 h8 hs hi]
  have := leR_all (P := P) ((rows_iff h1 h8).1 ⟨i, hi, hs⟩)
  have := Int.mul_le_mul_of_nonneg_left this (show 0 ≤ P by omega)
  unfold xmW; omega
theorem cnt_fo (hP : 1 ≤ P) (h1 : 1 ≤ l.length) (h8 : l.length ≤ 8) : Fo (msT P l) (fun i => gp P l i 0) (ent P l (msT P l) (2 ^ l.length - 1)) (List.range l.length) (xmW P l) (cntT P l).2.2 ∧
    0 ≤ (cntT P l).1 ∧ (cntT P l).1 < l.length ∧ ∃ v, ent P l (msT P l) (2 ^ l.length - 1) (cntT P l).1.toNat = some v ∧ v.1 ≤ msT P l ∧ v.1 + gp P l (cntT P l).1.toNat 0 = xmW P l := by
  have hq : 2 ^ l.length - 1 < 256 := by
    have : 2 ^ l.length ≤ 256 := Nat.pow_le_pow_right (n := 2) (by omega) h8
    have := Nat.one_le_two_pow (n := l.length)
    omega
  have hne : l ≠ [] := fun e => by rw [e] at h1; simp at h1
  have hg : ∀ i, 0 ≤ gp P l i 0 := fun i => (gp_bd (l := l) hP i 0).1
  have hxm := xm_le hP h1
  obtain ⟨o, ho, hoe⟩ := leR_mem (P := P) hne
  obtain ⟨i, hi, hs⟩ := (rows_iff h1 h8 (s := o.reverse)).2 (by rw [List.reverse_reverse]; exact ho)
  have hb := (best_iff hP h1 h8 hi hs).1 (by rw [List.reverse_reverse]; exact hoe)
  have hgi := hg i
  obtain ⟨w, hw, hwl⟩ := (ent_ok (l := l) (most := msT P l) hP (2 ^ l.length - 1) i hq).b _ hs (by omega)
  have hT : ∀ k, mLp P l (msT P l) (2 ^ (l.length - 1)) (2 ^ l.length - 1) k = prn (msT P l) (ent P l (msT P l) (2 ^ l.length - 1) k) := fun k => tab_all h1 h8 k
  have hTi : mLp P l (msT P l) (2 ^ (l.length - 1)) (2 ^ l.length - 1) i = some w := by
    rw [hT, hw]
    show (if w.1 > msT P l then none else some w) = some w
    rw [if_neg (by omega)]
  have hcf := clK_fo (P := P) (l := l) (T := mLp P l (msT P l) (2 ^ (l.length - 1)) (2 ^ l.length - 1)) l.length
  change CF P l _ _ (cntT P l) at hcf
  rcases hcf with ⟨_, h⟩ | ⟨c1, ⟨c2, v, hv, hve⟩, c3, c4⟩
  · rw [h i hi] at hTi; cases hTi
  · rw [hT] at hv
    obtain ⟨hv1, hv2⟩ := prn_some hv
    have hx : (cntT P l).2.1 = xmW P l := by
      have a := c3 i hi w hTi
      obtain ⟨s2, hs2, he2⟩ := (ent_ok (most := msT P l) hP (2 ^ l.length - 1) _ hq).a v hv1
      have b := xm_min hP h1 h8 (by omega) hs2
      omega
    rw [hx] at hve c3 c4
    refine ⟨⟨⟨(cntT P l).1.toNat, List.mem_range.2 (by omega), v, hv1, hv2, hve⟩, fun j hj u hu hu2 => ?_, ?_⟩, c1, c2, v, hv1, hv2, hve⟩
    · refine c3 j (List.mem_range.1 hj) u ?_
      rw [hT, hu]
      show (if u.1 > msT P l then none else some u) = some u
      rw [if_neg (by omega)]
    · rw [c4]
      refine sm_congr fun j hj => ?_
      unfold ctF ciE
      rw [hT]
      cases hu : ent P l (msT P l) (2 ^ l.length - 1) j with
      | none => rfl
      | some u =>
        show (match (if u.1 > msT P l then none else some u) with | none => (0 : Int) | some v => if v.1 + gp P l j 0 = xmW P l then v.2.1 else 0) = if u.1 ≤ msT P l ∧ u.1 + gp P l j 0 = xmW P l then u.2.1 else 0
        by_cases c : u.1 > msT P l
        · rw [if_pos c, if_neg (fun h => by omega)]
        · rw [if_neg c]
          dsimp only
          by_cases d : u.1 + gp P l j 0 = xmW P l
          · rw [if_pos d, if_pos ⟨by omega, d⟩]
          · rw [if_neg d, if_neg (fun h => d h.2)]
theorem cnt_bests (hP : 1 ≤ P) (h1 : 1 ≤ l.length) (h8 : l.length ≤ 8) : (cntT P l).2.2 = ((bestsL P l).length : Int) := by
  have hq : 2 ^ l.length - 1 < 256 := by
    have : 2 ^ l.length ≤ 256 := Nat.pow_le_pow_right (n := 2) (by omega) h8
    have := Nat.one_le_two_pow (n := l.length)
    omega
  have hg : ∀ i, 0 ≤ gp P l i 0 := fun i => (gp_bd (l := l) hP i 0).1
  rw [(cnt_fo hP h1 h8).1.count hg (fun i _ => ent_ok hP _ i hq) (xm_le hP h1)]
  have hperm : (((List.range l.length).flatMap (pth (2 ^ l.length - 1))).map List.reverse).Perm (inO (l.length - 1)) := by
    refine (List.perm_ext_iff_of_nodup ?_ (inO_nodup _)).2 fun o => ?_
    · show List.Pairwise (· ≠ ·) _
      rw [List.pairwise_map, List.pairwise_flatMap]
      refine ⟨fun i hi => (pth_nd _ i hq).imp fun h e => h (rev_inj e), ?_⟩
      refine List.nodup_range.imp fun {i j} hij x hx y hy e => hij ?_
      have e2 : x = y := rev_inj e
      subst e2
      obtain ⟨r1, e1⟩ := pth_head hq hx
      obtain ⟨r2, e2⟩ := pth_head hq hy
      rw [e1] at e2
      exact (List.cons.inj e2).1
    · rw [inO_allO h1, List.mem_map]
      constructor
      · rintro ⟨s, hs, rfl⟩
        obtain ⟨i, hi, hs⟩ := List.mem_flatMap.1 hs
        exact (rows_iff h1 h8).1 ⟨i, List.mem_range.1 hi, hs⟩
      · intro ho
        obtain ⟨i, hi, hs⟩ := (rows_iff h1 h8 (s := o.reverse)).2 (by rw [List.reverse_reverse]; exact ho)
        exact ⟨o.reverse, List.mem_flatMap.2 ⟨i, List.mem_range.2 hi, hs⟩, List.reverse_reverse o⟩
  unfold bestsL
  rw [← List.countP_eq_length_filter, ← hperm.countP_eq, List.countP_map, List.countP_flatMap, sm_cast (α := Nat)]
  refine sm_congr fun i hi => ?_
  congr 1
  refine List.countP_congr fun s hs => ?_
  rw [decide_eq_true_iff]
  show _ ↔ decide (rdL P l s.reverse = leR P l) = true
  rw [decide_eq_true_iff, best_iff hP h1 h8 (List.mem_range.1 hi) hs]
def bkA (P : Int) (l : List Pt) (most : Int) : Nat → Nat → Nat → List Nat
  | 0, _, m => [m]
  | f + 1, q, m => if q = 1 ∧ m = 0 then [0] else match ent P l most q m with
    | some w => m :: bkA P l most f (q ^^^ 2 ^ m) w.2.2.1.toNat
    | none => [m]
def bk (P : Int) (l : List Pt) (most : Int) (q m : Nat) : List Nat := bkA P l most 256 q m
theorem bkA_fuel : ∀ (f q m : Nat), q < f → q < 256 → bkA P l most f q m = bkA P l most (f + 1) q m
  | 0, q, m, h, _ => by omega
  | f + 1, q, m, h, h2 => by
    rw [bkA, bkA]
    split
    · rfl
    · rename_i c
      cases hw : ent P l most q m with
      | none => rfl
      | some w =>
        dsimp only
        have hb := ent_bef h2 hw c
        have hlt := xor_lt hb.2.1
        rw [bkA_fuel f _ _ (by omega) (by omega)]
theorem bk_one : bk P l most 1 0 = [0] := rfl
theorem bk_eq {q m : Nat} (hq : q < 256) (h : ¬ (q = 1 ∧ m = 0)) {w : WD} (hw : ent P l most q m = some w) : bk P l most q m = m :: bk P l most (q ^^^ 2 ^ m) w.2.2.1.toNat := by
  unfold bk
  rw [bkA_fuel 256 q m hq hq, bkA, if_neg h, hw]
theorem bk_ok : ∀ (q m : Nat), q < 256 → ∀ w, ent P l most q m = some w → w.1 ≤ most → bk P l most q m ∈ pth q m ∧ wR P l (bk P l most q m) = w.1 := by
  intro q
  induction q using Nat.strongRecOn with
  | _ q ih =>
    intro m hq w hw hle
    by_cases c : q = 1 ∧ m = 0
    · obtain ⟨rfl, rfl⟩ := c
      rw [bk_one]
      have : ent P l most 1 0 = some st0 := rfl
      rw [hw] at this
      rw [Option.some.inj this]
      exact ⟨by decide, rfl⟩
    · obtain ⟨b1, b2, i, v, b3, b4, b5, b6, b7⟩ := ent_bef hq hw c
      have hlt := xor_lt b2
      have hi : w.2.2.1.toNat = i := by rw [b6, Int.toNat_natCast]
      obtain ⟨p1, p2⟩ := ih _ hlt i (by omega) v b3 b4
      rw [bk_eq hq c hw, hi]
      refine ⟨?_, ?_⟩
      · rw [pth_eq m hq, if_neg c, if_pos ⟨b1, b2⟩]
        exact List.mem_flatMap.2 ⟨i, mem_bits.2 ⟨bit_lt (N := 8) (by omega) b7, b7⟩, List.mem_map.2 ⟨_, p1, rfl⟩⟩
      · rw [wR_cons (by omega) p1, p2, b5]
end
def bestO (P : Int) (l : List Pt) : List Nat := (bk P l (msT P l) (2 ^ l.length - 1) (cntT P l).1.toNat).reverse
theorem best_in {P : Int} {l : List Pt} (hP : 1 ≤ P) (h1 : 1 ≤ l.length) (h8 : l.length ≤ 8) : bestO P l ∈ bestsL P l := by
  have hq : 2 ^ l.length - 1 < 256 := by
    have : 2 ^ l.length ≤ 256 := Nat.pow_le_pow_right (n := 2) (by omega) h8
    have := Nat.one_le_two_pow (n := l.length)
    omega
  obtain ⟨_, c1, c2, v, hv, hv2, hve⟩ := cnt_fo hP h1 h8
  obtain ⟨p1, p2⟩ := bk_ok (2 ^ l.length - 1) (cntT P l).1.toNat hq v hv hv2
  have hi : (cntT P l).1.toNat < l.length := by omega
  refine (mem_bests h1).2 ⟨(rows_iff h1 h8).1 ⟨_, hi, p1⟩, (best_iff hP h1 h8 hi p1).2 ?_⟩
  rw [p2]; exact hve
end Go.Proofs.Ytinehlphcckkmaa

namespace Go.Proofs.Ytinehlphcckkmaa
open Go Go.RowKit Ox Ox.Sh Ox.Se
attribute [local irreducible] JC JL JK JW
attribute [local irreducible] ovA stA pkV
theorem and_bit {q m : Nat} (h : q.testBit m = true) : q &&& 2 ^ m = 2 ^ m := by
  refine Nat.eq_of_testBit_eq fun i => ?_
  rw [Nat.testBit_and, Nat.testBit_two_pow]
  by_cases e : m = i
  · subst e; rw [h]; simp
  · rw [decide_eq_false e]; simp
theorem getD_set {α : Type} (l : List α) (i k : Nat) (a d : α) (hi : i < l.length) : (l.set i a).getD k d = if k = i then a else l.getD k d := by
  rw [List.getD_eq_getElem?_getD, List.getD_eq_getElem?_getD, List.getElem?_set]
  by_cases e : i = k
  · subst e; rw [if_pos rfl, if_pos hi, if_pos rfl]; rfl
  · rw [if_neg e, if_neg (fun h => e h.symm)]
structure RV (X : List Int) (i : Nat) (Y : List Int) : Prop where
  len : Y.length = X.length
  at_ : ∀ k, k < X.length → Y.getD k 0 = if k < i ∨ X.length - 1 - k < i then X.getD (X.length - 1 - k) 0 else X.getD k 0
theorem RV.start (X : List Int) : RV X 0 X := ⟨rfl, fun k _ => by rw [if_neg (by omega)]⟩
theorem RV.step {X Y : List Int} {i j : Nat} (h : RV X i Y) (hij : i < j) (hj : i + j + 1 = X.length) : RV X (i + 1) ((Y.set i (Y.getD j 0)).set j (Y.getD i 0)) := by
  refine ⟨by rw [List.length_set, List.length_set, h.len], fun k hk => ?_⟩
  have hl := h.len
  rw [getD_set _ j k _ _ (by rw [List.length_set]; omega), getD_set _ i k _ _ (by omega)]
  have hi2 := h.at_ i (by omega)
  have hj2 := h.at_ j (by omega)
  rw [if_neg (by omega)] at hi2 hj2
  by_cases e1 : k = j
  · subst e1
    rw [if_pos rfl, if_pos (by omega), hi2, show X.length - 1 - k = i by omega]
  · rw [if_neg e1]
    by_cases e2 : k = i
    · subst e2
      rw [if_pos rfl, if_pos (by omega), hj2, show X.length - 1 - k = j by omega]
    · rw [if_neg e2, h.at_ k hk]
      by_cases c : k < i ∨ X.length - 1 - k < i
      · rw [if_pos c, if_pos (by omega)]
      · rw [if_neg c, if_neg (by omega)]
theorem RV.done {X Y : List Int} {i : Nat} (h : RV X i Y) (hi : X.length ≤ 2 * i + 1) : Y = X.reverse := by
  refine List.ext_getElem (by rw [List.length_reverse, h.len]) fun k h1 h2 => ?_
  have hk : k < X.length := by rw [← h.len]; exact h1
  have := h.at_ k hk
  rw [getD_nat Y h1] at this
  rw [this, List.getElem_reverse]
  by_cases c : k < i ∨ X.length - 1 - k < i
  · rw [if_pos c, getD_nat X (by omega)]
  · rw [if_neg c, getD_nat X hk]
    congr 1; omega
set_option maxHeartbeats 8000000 in
theorem fn74 (P : Int) (l : List Pt) (hz : seE P l = 0) : Ox.Fn Try.prog 74 (.acons (vH P l) .anil) (· = vL (iL (bestO P l))) := by
  obtain ⟨hP, h1, h8, hl⟩ := se_ok.1 hz
  have h0 := Nat.one_le_two_pow (n := l.length)
  have h256 : 2 ^ l.length ≤ 256 := Nat.pow_le_pow_right (n := 2) (by omega) h8
  refine Ox.Fn.intro xok Try.func74 rfl Try.call74 (Nat.le_of_ble_eq_true rfl) (fun E M0 up => ?_)
  refine JK.start ?_
  (repeat (first | refine zs rfl ?_ | refine zg rfl rfl rfl ?_ | refine zd ?_ | refine JK.fin ?_ | refine JK.ret ?_ | refine zml mpW rfl rfl rfl rfl ?_ | refine zmo mpW rfl rfl rfl rfl ?_ | refine zmi mpW rfl rfl rfl rfl ?_ | refine zmu mpW rfl rfl rfl rfl ?_ | refine zmd mpW rfl rfl rfl ?_ | refine zmr mpW rfl rfl rfl ?_ | refine zmm mpW rfl ?_ | refine zeq eqK rfl rfl rfl ?_ | refine zne eqK rfl rfl rfl ?_ | refine zeqg eqK rfl rfl rfl rfl ?_ | refine zneg eqK rfl rfl rfl rfl ?_))
  refine JK.inl [8, 0] rfl rfl trivial Try.func93 rfl Try.call93 (Nat.le_of_ble_eq_true rfl) rfl fun M1 up1 => ?_
  refine code_to (fn := Try.f93) rfl ?_
  show JK _ _ _ ⟨[(0, vH P l)], [(0, .fr 0 [(8, vH P l), (0, vH P l)])], 1⟩
  refine rows_in (rg := 8) hz fun es clk htg => ?_
  (repeat (first | refine zs rfl ?_ | refine zg rfl rfl rfl ?_ | refine zd ?_ | refine JK.fin ?_ | refine JK.ret ?_ | refine zml mpW rfl rfl rfl rfl ?_ | refine zmo mpW rfl rfl rfl rfl ?_ | refine zmi mpW rfl rfl rfl rfl ?_ | refine zmu mpW rfl rfl rfl rfl ?_ | refine zmd mpW rfl rfl rfl ?_ | refine zmr mpW rfl rfl rfl ?_ | refine zmm mpW rfl ?_ | refine zeq eqK rfl rfl rfl ?_ | refine zne eqK rfl rfl rfl ?_ | refine zeqg eqK rfl rfl rfl rfl ?_ | refine zneg eqK rfl rfl rfl rfl ?_))
  refine JK.inl [3, 0] rfl rfl trivial Try.func94 rfl Try.call94 (Nat.le_of_ble_eq_true rfl) rfl fun M2 up2 => ?_
  refine code_to (fn := Try.f94) rfl ?_
  show JK _ _ _ ⟨[(0, vH P l), (1, .lf (.mp 1))], [(2, .fr 0 [(3, .lf (.mp 1)), (0, vH P l)]), (1, .map kyT wyT es clk)], 3⟩
  refine closed_in (rg := 3) hz (tab_bd hP h1 h8) htg ?_
  have c77 := fn77 P l h8
  have c95 := fn95
  obtain ⟨_, e1, e2, v, hv, hv2, hve⟩ := cnt_fo hP.1 h1 h8
  change JK _ _ _ ⟨(13, .tup (.acons (vI (cntT P l).1) (.acons (vI (cntT P l).2.2) .anil))) :: _, _, _⟩
  have hbO : bestO P l = (bk P l (msT P l) (2 ^ l.length - 1) (cntT P l).1.toNat).reverse := rfl
  obtain ⟨m0, hm0⟩ : ∃ m : Nat, (cntT P l).1 = (m : Int) := ⟨(cntT P l).1.toNat, by omega⟩
  rw [hm0, Int.toNat_natCast] at hbO hv hve
  rw [hm0] at e1 e2 ⊢
  generalize (cntT P l).2.2 = c3
  have hT : ∀ q m, q % 2 = 1 → q < 2 ^ l.length → ∀ w, ent P l (msT P l) q m = some w → w.1 ≤ msT P l → mLp P l (msT P l) (2 ^ (l.length - 1)) q m = some w := fun q m ho hq w hw hle => by
    rw [tab_end h8 h1 m ho hq, hw]
    show (if w.1 > msT P l then none else some w) = some w
    rw [if_neg (by omega)]
  have hbl8 : (bk P l (msT P l) (2 ^ l.length - 1) m0).length ≤ 8 := by
    obtain ⟨_, _, h3, h4⟩ := (pth_mem (by omega)).1 (bk_ok (2 ^ l.length - 1) m0 (by omega) v hv hv2).1
    exact Nat.le_trans (nodup_len h3 fun x hx => full_bit.1 ((h4 x).1 hx)) h8
  have hA2 : 2 ^ l.length - 1 < 2 ^ l.length := by omega
  have hAo := all_odd h1
  generalize 2 ^ l.length - 1 = A at c77 hbO hv hA2 hAo hbl8
  (repeat (first | refine zs rfl ?_ | refine zg rfl rfl rfl ?_ | refine zd ?_ | refine JK.fin ?_ | refine JK.ret ?_ | refine zml mpW rfl rfl rfl rfl ?_ | refine zmo mpW rfl rfl rfl rfl ?_ | refine zmi mpW rfl rfl rfl rfl ?_ | refine zmu mpW rfl rfl rfl rfl ?_ | refine zmd mpW rfl rfl rfl ?_ | refine zmr mpW rfl rfl rfl ?_ | refine zmm mpW rfl ?_ | refine zeq eqK rfl rfl rfl ?_ | refine zne eqK rfl rfl rfl ?_ | refine zeqg eqK rfl rfl rfl rfl ?_ | refine zneg eqK rfl rfl rfl rfl ?_ | refine zc rfl (c77) rfl rfl ?_ | refine ze rfl (c77) rfl ?_ | refine zk rfl rfl (fun _ => c77) rfl rfl ?_))
  refine JK.ghost 7 3 (.int .i64) rfl ?_
  refine JK.loop (σ := Nat × Nat × List Nat) (fun q => ⟨[(0, vH P l), (3, .lf (.mp 1)), (6, .lf (.optr 2 [])), (7, .lf (.osl 3))], [(1, .map kyT wyT es clk), (2, .cell kyT (.val kyT (ky q.1 q.2.1))), (3, .sl 3 (.int .i64) (iL q.2.2))], 4⟩)
    (fun q => q.1 % 2 = 1 ∧ q.1 < 2 ^ l.length ∧ (∃ w, ent P l (msT P l) q.1 q.2.1 = some w ∧ w.1 ≤ msT P l) ∧ q.2.2 ++ bk P l (msT P l) q.1 q.2.1 = bk P l (msT P l) A m0) (fun q => q.1) (A, m0, []) ⟨hAo, hA2, ⟨v, hv, hv2⟩, rfl⟩ (by dsimp only; (exact JW.Auto (by conv => lhs; reduce))) fun q hq => ?_
  obtain ⟨q, m, O⟩ := q
  obtain ⟨q1, q2, ⟨w, hw, hwl⟩, q4⟩ := hq
  dsimp only at q1 q2 hw q4 ⊢
  have hil : (iL O).length = O.length := iL_len O
  have hO8 : O.length ≤ 8 := by
    have := congrArg List.length q4
    rw [List.length_append] at this
    omega
  have hT1 := hT q m q1 q2 w hw hwl
  obtain ⟨hh, hg⟩ := htg.some hT1
  (repeat (first | refine zs rfl ?_ | refine zg rfl rfl rfl ?_ | refine JK.fin ?_ | refine JK.ret ?_ | refine zml mpW rfl rfl rfl rfl ?_ | refine zmo mpW rfl rfl rfl rfl ?_ | refine zmi mpW rfl rfl rfl rfl ?_ | refine zmu mpW rfl rfl rfl rfl ?_ | refine zmd mpW rfl rfl rfl ?_ | refine zmr mpW rfl rfl rfl ?_ | refine zmm mpW rfl ?_ | refine zeq eqK rfl rfl rfl ?_ | refine zne eqK rfl rfl rfl ?_ | refine zeqg eqK rfl rfl rfl rfl ?_ | refine zneg eqK rfl rfl rfl rfl ?_))
  refine JK.drawTo xk (Try.f74.body.getD .skip) ⟨[(0, vH P l), (3, .lf (.mp 1)), (6, .lf (.optr 2 [])), (7, .lf (.osl 3)), (22, vB (!Ty.eqB kyT (ky q m) (1, 0, ())))], [(1, .map kyT wyT es clk), (2, .cell kyT (.val kyT (ky q m))), (3, .sl 3 (.int .i64) (iL O))], 4⟩ rfl 3 rfl ?_ ?_
  · (refine JF.Float 0 xk rfl rfl ?_; refine JF.Branch 1 [] xk ?_ ?_; (focus (repeat (first | exact StF.nil | refine StF.One rfl rfl rfl ?_))); refine (BrF.one rfl rfl ?_ BrF.nil); (· (first | refine JL.Q1 xk rfl rfl ?_ | refine JL.G1 xk rfl rfl rfl ?_ | refine JL.M1 xk rfl rfl ?_ | refine JL.M0 xk rfl ?_ | refine JL.Q0 xk rfl ?_ | refine JL.MLook mpW rfl rfl rfl rfl ?_ | refine JL.MIns mpW rfl rfl rfl rfl ?_ | refine JL.MEnt mpW rfl rfl rfl rfl ?_ | refine JL.MDel mpW rfl rfl rfl ?_ | refine JL.MRng mpW rfl rfl rfl ?_ | refine JL.mMake mpW rfl ?_ | refine JL.MStoE (by assumption) rfl rfl rfl rfl ?_ | refine JL.EqQ eqK rfl rfl rfl ?_ | refine JL.NeQ eqK rfl rfl rfl ?_ | refine JL.S1 rfl (c95) rfl trivial rfl ?_ | refine JL.T1 rfl (c95) rfl rfl ?_ | refine JL.C1 rfl (c95) rfl (fun r hr => ?_); subst hr | refine JL.S1g rfl rfl (fun hgd => c95) rfl trivial rfl ?_); refine JL.finN ?_; refine JF.Branch 2 [] xk ?_ ?_; (focus (repeat (first | exact StF.nil | refine StF.One rfl rfl rfl ?_))); refine (BrF.one rfl rfl ?_ BrF.nil); (· (first | refine JL.Q1 xk rfl rfl ?_ | refine JL.G1 xk rfl rfl rfl ?_ | refine JL.M1 xk rfl rfl ?_ | refine JL.M0 xk rfl ?_ | refine JL.Q0 xk rfl ?_ | refine JL.MLook mpW rfl rfl rfl rfl ?_ | refine JL.MIns mpW rfl rfl rfl rfl ?_ | refine JL.MEnt mpW rfl rfl rfl rfl ?_ | refine JL.MDel mpW rfl rfl rfl ?_ | refine JL.MRng mpW rfl rfl rfl ?_ | refine JL.mMake mpW rfl ?_ | refine JL.MStoE (by assumption) rfl rfl rfl rfl ?_ | refine JL.EqQ eqK rfl rfl rfl ?_ | refine JL.NeQ eqK rfl rfl rfl ?_ | refine JL.S1 rfl (c95) rfl trivial rfl ?_ | refine JL.T1 rfl (c95) rfl rfl ?_ | refine JL.C1 rfl (c95) rfl (fun r hr => ?_); subst hr | refine JL.S1g rfl rfl (fun hgd => c95) rfl trivial rfl ?_); refine JL.finN ?_; refine JF.Done xk StF.nil ?_; ((exact JW.Auto (by conv => lhs; reduce))))))
  refine JK.cond rfl (fun hc => ?_) (fun hc => ?_)
  · have hne : ¬ (q = 1 ∧ m = 0) := fun h => by
      obtain ⟨rfl, rfl⟩ := h
      cases hc
    obtain ⟨b1, b2, i, u, b3, b4, b5, b6, b7⟩ := ent_bef (by omega) hw hne
    have hm8 : m < 8 := bit_lt (N := 8) (by omega) b2
    have hww : (2 : Int) ^ m = ((2 ^ m : Nat) : Int) := by push_cast; rfl
    have hwp : 2 ^ m < 256 := Nat.pow_lt_pow_right (a := 2) (by omega) hm8
    have hwb : 0 ≤ (2 : Int) ^ ((m : Int)).toNat ∧ (2 : Int) ^ ((m : Int)).toNat ≤ 65536 := by rw [Int.toNat_natCast, hww]; exact ⟨Int.natCast_nonneg _, Int.ofNat_le.2 (show 2 ^ m ≤ 65536 by omega)⟩
    have hxe : (((q : Int).toNat ^^^ ((q : Int).toNat &&& ((1 : Int) * 2 ^ ((m : Int)).toNat).toNat) : Nat) : Int) = ((q ^^^ 2 ^ m : Nat) : Int) := by
      rw [Int.toNat_natCast, Int.toNat_natCast, Int.one_mul, hww, Int.toNat_natCast, and_bit b2]
    have hlt := xor_lt b2
    have hcell : (((((q : Int).toNat ^^^ ((q : Int).toNat &&& ((1 : Int) * 2 ^ ((m : Int)).toNat).toNat) : Nat) : Int), (mGet (kt := kyT) (vt := wyT) es (ky q m) wyT.dflt).2.2.1, ()) : KD) = ky (q ^^^ 2 ^ m) i := by
      rw [hxe, hg, b6]
    have hI : (q ^^^ 2 ^ m) % 2 = 1 ∧ q ^^^ 2 ^ m < 2 ^ l.length ∧ (∃ w, ent P l (msT P l) (q ^^^ 2 ^ m) i = some w ∧ w.1 ≤ msT P l) ∧ (O ++ [m]) ++ bk P l (msT P l) (q ^^^ 2 ^ m) i = bk P l (msT P l) A m0 := by
      refine ⟨(xor_odd b1).2 q1, by omega, ⟨u, b3, b4⟩, ?_⟩
      rw [bk_eq (by omega) hne hw, b6, Int.toNat_natCast] at q4
      rw [← q4]
      simp
    (repeat (first | refine zs rfl ?_ | refine zg rfl rfl rfl ?_ | refine JK.fin ?_ | refine JK.ret ?_ | refine zml mpW rfl rfl rfl rfl ?_ | refine zmo mpW rfl rfl rfl rfl ?_ | refine zmi mpW rfl rfl rfl rfl ?_ | refine zmu mpW rfl rfl rfl rfl ?_ | refine zmd mpW rfl rfl rfl ?_ | refine zmr mpW rfl rfl rfl ?_ | refine zmm mpW rfl ?_ | refine zeq eqK rfl rfl rfl ?_ | refine zne eqK rfl rfl rfl ?_ | refine zeqg eqK rfl rfl rfl rfl ?_ | refine zneg eqK rfl rfl rfl rfl ?_))
    refine JK.drawP xk (Try.f74.body.getD .skip) rfl 12 rfl ?_
    (refine JF.First 0 xk rfl rfl ?_; refine JF.First 2 xk rfl rfl ?_; refine JF.First 6 xk rfl rfl ?_; refine JF.Float 1 xk rfl rfl ?_; refine JF.Float 3 xk rfl rfl ?_; refine JF.Float 4 xk rfl rfl ?_; refine JF.Float 5 xk rfl rfl ?_; refine JF.Float 7 xk rfl rfl ?_; refine JF.Branch 8 [] xk ?_ ?_; (focus (repeat (first | exact StF.nil | refine StF.One rfl rfl rfl ?_))); refine (BrF.one rfl rfl ?_ BrF.nil); (· (first | refine JL.Q1 xk rfl rfl ?_ | refine JL.G1 xk rfl rfl rfl ?_ | refine JL.M1 xk rfl rfl ?_ | refine JL.M0 xk rfl ?_ | refine JL.Q0 xk rfl ?_ | refine JL.MLook mpW rfl rfl rfl rfl ?_ | refine JL.MIns mpW rfl rfl rfl rfl ?_ | refine JL.MEnt mpW rfl rfl rfl rfl ?_ | refine JL.MDel mpW rfl rfl rfl ?_ | refine JL.MRng mpW rfl rfl rfl ?_ | refine JL.mMake mpW rfl ?_ | refine JL.MStoE (by assumption) rfl rfl rfl rfl ?_ | refine JL.EqQ eqK rfl rfl rfl ?_ | refine JL.NeQ eqK rfl rfl rfl ?_); refine JL.finN ?_; refine JF.First 9 xk rfl rfl ?_; refine JF.Branch 10 [] xk ?_ ?_; (focus (repeat (first | exact StF.nil | refine StF.One rfl rfl rfl ?_))); refine (BrF.one rfl rfl ?_ BrF.nil); (· (first | refine JL.Q1 xk rfl rfl ?_ | refine JL.G1 xk rfl rfl rfl ?_ | refine JL.M1 xk rfl rfl ?_ | refine JL.M0 xk rfl ?_ | refine JL.Q0 xk rfl ?_ | refine JL.MLook mpW rfl rfl rfl rfl ?_ | refine JL.MIns mpW rfl rfl rfl rfl ?_ | refine JL.MEnt mpW rfl rfl rfl rfl ?_ | refine JL.MDel mpW rfl rfl rfl ?_ | refine JL.MRng mpW rfl rfl rfl ?_ | refine JL.mMake mpW rfl ?_ | refine JL.MStoE (by assumption) rfl rfl rfl rfl ?_ | refine JL.EqQ eqK rfl rfl rfl ?_ | refine JL.NeQ eqK rfl rfl rfl ?_); refine JL.finN ?_; refine JF.Branch 11 [] xk ?_ ?_; (focus (repeat (first | exact StF.nil | refine StF.One rfl rfl rfl ?_))); refine (BrF.one rfl rfl ?_ BrF.nil); (· (first | refine JL.Q1 xk rfl rfl ?_ | refine JL.G1 xk rfl rfl rfl ?_ | refine JL.M1 xk rfl rfl ?_ | refine JL.M0 xk rfl ?_ | refine JL.Q0 xk rfl ?_ | refine JL.MLook mpW rfl rfl rfl rfl ?_ | refine JL.MIns mpW rfl rfl rfl rfl ?_ | refine JL.MEnt mpW rfl rfl rfl rfl ?_ | refine JL.MDel mpW rfl rfl rfl ?_ | refine JL.MRng mpW rfl rfl rfl ?_ | refine JL.mMake mpW rfl ?_ | refine JL.MStoE (by assumption) rfl rfl rfl rfl ?_ | refine JL.EqQ eqK rfl rfl rfl ?_ | refine JL.NeQ eqK rfl rfl rfl ?_); refine JL.finN ?_; refine JF.Done xk StF.nil ?_; (((repeat (first | refine zs rfl ?_ | refine zg rfl rfl rfl ?_ | refine zd ?_ | refine JK.fin ?_ | refine JK.ret ?_ | refine zml mpW rfl rfl rfl rfl ?_ | refine zmo mpW rfl rfl rfl rfl ?_ | refine zmi mpW rfl rfl rfl rfl ?_ | refine zmu mpW rfl rfl rfl rfl ?_ | refine zmd mpW rfl rfl rfl ?_ | refine zmr mpW rfl rfl rfl ?_ | refine zmm mpW rfl ?_ | refine zeq eqK rfl rfl rfl ?_ | refine zne eqK rfl rfl rfl ?_ | refine zeqg eqK rfl rfl rfl rfl ?_ | refine zneg eqK rfl rfl rfl rfl ?_)); refine ⟨(q ^^^ 2 ^ m, i, O ++ [m]), ?_, hI, hlt⟩; dsimp only; rw [iL_snoc]; (refine JW.auto (by conv => lhs; reduce) ?_ ?_ ?_ ?_ rfl <;> (repeat' (first | exact trivial | exact rfl | refine And.intro ?_ ?_ | exact Nat.le_of_ble_eq_true rfl | refine HO.bdF ?_ | refine HO.bdP ?_ | (refine congrArg (fun z : Int => some (AV.val (.int .i64) z)) ?_; push_cast; omega) | exact congrArg (fun z : KD => some (HO.cell kyT (.val kyT z))) hcell)))))))))
  · have heq : q = 1 ∧ m = 0 := by
      have h2 : Ty.eqB kyT (ky q m) (1, 0, ()) = true := by
        cases h : Ty.eqB kyT (ky q m) (1, 0, ())
        · rw [h] at hc; cases hc
        · rfl
      exact ky_eq.1 (Ty.eqB_iff.1 h2)
    obtain ⟨rfl, rfl⟩ := heq
    rw [bk_one] at q4
    have hq4 : iL O ++ [0] = iL (bk P l (msT P l) A m0) := by rw [← q4]; simp
    (repeat (first | refine zs rfl ?_ | refine zg rfl rfl rfl ?_ | refine zd ?_ | refine JK.fin ?_ | refine JK.ret ?_ | refine zml mpW rfl rfl rfl rfl ?_ | refine zmo mpW rfl rfl rfl rfl ?_ | refine zmi mpW rfl rfl rfl rfl ?_ | refine zmu mpW rfl rfl rfl rfl ?_ | refine zmd mpW rfl rfl rfl ?_ | refine zmr mpW rfl rfl rfl ?_ | refine zmm mpW rfl ?_ | refine zeq eqK rfl rfl rfl ?_ | refine zne eqK rfl rfl rfl ?_ | refine zeqg eqK rfl rfl rfl rfl ?_ | refine zneg eqK rfl rfl rfl rfl ?_))
    rw [hq4]
    have hX8 : (iL (bk P l (msT P l) A m0)).length ≤ 8 := by rw [iL_len]; exact hbl8
    have hX1 : 1 ≤ (iL (bk P l (msT P l) A m0)).length := by rw [← hq4]; simp
    have hfinal : (iL (bk P l (msT P l) A m0)).reverse = iL (bestO P l) := by rw [hbO]; exact List.map_reverse.symm
    generalize iL (bk P l (msT P l) A m0) = X at hX8 hX1 hfinal ⊢
    refine JK.weakO (s' := ⟨[(7, .lf (.osl 0)), (42, .lf (.osl 0))], [(0, .sl 3 (.int .i64) X)], 1⟩) (by (exact JW.Auto (by conv => lhs; reduce))) ?_
    refine JK.inl [7] rfl rfl trivial Try.func96 rfl Try.call96 (Nat.le_of_ble_eq_true rfl) rfl fun M3 up3 => ?_
    (repeat (first | refine zs rfl ?_ | refine zg rfl rfl rfl ?_ | refine zd ?_ | refine JK.fin ?_ | refine JK.ret ?_ | refine zml mpW rfl rfl rfl rfl ?_ | refine zmo mpW rfl rfl rfl rfl ?_ | refine zmi mpW rfl rfl rfl rfl ?_ | refine zmu mpW rfl rfl rfl rfl ?_ | refine zmd mpW rfl rfl rfl ?_ | refine zmr mpW rfl rfl rfl ?_ | refine zmm mpW rfl ?_ | refine zeq eqK rfl rfl rfl ?_ | refine zne eqK rfl rfl rfl ?_ | refine zeqg eqK rfl rfl rfl rfl ?_ | refine zneg eqK rfl rfl rfl rfl ?_))
    refine JK.loop (σ := Nat × Nat × List Int) (fun q => ⟨[(0, .lf (.osl 0)), (2, vI (q.1 : Int)), (3, vI (q.2.1 : Int))], [(1, .fr 0 [(7, .lf (.osl 0))]), (0, .sl 3 (.int .i64) q.2.2)], 2⟩)
      (fun q => RV X q.1 q.2.2 ∧ (q.1 ≤ q.2.1 + 1) ∧ q.1 + q.2.1 + 1 = X.length) (fun q => q.2.1) (0, X.length - 1, X) ⟨RV.start X, by omega, by dsimp only; omega⟩ ?_ fun q hq => ?_
    · dsimp only
      rw [show ((X.length - 1 : Nat) : Int) = (X.length : Int) - 1 by omega]
      (exact JW.Auto (by conv => lhs; reduce))
    obtain ⟨i, j, Y⟩ := q
    obtain ⟨r1, r2, r3⟩ := hq
    dsimp only at r1 r2 r3 ⊢
    have hYl := r1.len
    (repeat (first | refine zs rfl ?_ | refine zg rfl rfl rfl ?_ | refine zd ?_ | refine JK.fin ?_ | refine JK.ret ?_ | refine zml mpW rfl rfl rfl rfl ?_ | refine zmo mpW rfl rfl rfl rfl ?_ | refine zmi mpW rfl rfl rfl rfl ?_ | refine zmu mpW rfl rfl rfl rfl ?_ | refine zmd mpW rfl rfl rfl ?_ | refine zmr mpW rfl rfl rfl ?_ | refine zmm mpW rfl ?_ | refine zeq eqK rfl rfl rfl ?_ | refine zne eqK rfl rfl rfl ?_ | refine zeqg eqK rfl rfl rfl rfl ?_ | refine zneg eqK rfl rfl rfl rfl ?_))
    refine JK.cond rfl (fun hd => ?_) (fun hd => ?_)
    · (simp only [↓cdL] at hd; try simp only [Ty.dflt, Int.toNat_natCast] at hd)
      have hs := r1.step (j := j) (by omega) r3
      have hst1 : (Y.set i (Y.getD j 0)).length = Y.length := List.length_set
      have hst2 : (Y.set j (Y.getD i 0)).length = Y.length := List.length_set
      have hcm : (Y.set j (Y.getD i 0)).set i (Y.getD j 0) = (Y.set i (Y.getD j 0)).set j (Y.getD i 0) := List.set_comm _ _ (by omega)
      (repeat (first | refine zs rfl ?_ | refine zg rfl rfl rfl ?_ | refine JK.fin ?_ | refine JK.ret ?_ | refine zml mpW rfl rfl rfl rfl ?_ | refine zmo mpW rfl rfl rfl rfl ?_ | refine zmi mpW rfl rfl rfl rfl ?_ | refine zmu mpW rfl rfl rfl rfl ?_ | refine zmd mpW rfl rfl rfl ?_ | refine zmr mpW rfl rfl rfl ?_ | refine zmm mpW rfl ?_ | refine zeq eqK rfl rfl rfl ?_ | refine zne eqK rfl rfl rfl ?_ | refine zeqg eqK rfl rfl rfl rfl ?_ | refine zneg eqK rfl rfl rfl rfl ?_))
      refine JK.drawB xk (Try.f96.body.getD .skip) ⟨[(0, .lf (.osl 0)), (2, vI (i : Int)), (3, vI (j : Int))], [(1, .fr 0 [(7, .lf (.osl 0))]), (0, .sl 3 (.int .i64) ((Y.set ((i : Int)).toNat (Y.getD ((j : Int)).toNat 0)).set ((j : Int)).toNat (Y.getD ((i : Int)).toNat 0)))], 2⟩ rfl 16 rfl ?_ ?_
      · (refine JF.First 0 xk rfl rfl ?_; refine JF.First 1 xk rfl rfl ?_; refine JF.First 2 xk rfl rfl ?_; refine JF.First 3 xk rfl rfl ?_; refine JF.First 4 xk rfl rfl ?_; refine JF.First 5 xk rfl rfl ?_; refine JF.First 6 xk rfl rfl ?_; refine JF.First 8 xk rfl rfl ?_; refine JF.First 9 xk rfl rfl ?_; refine JF.First 10 xk rfl rfl ?_; refine JF.Float 7 xk rfl rfl ?_; refine JF.Float 11 xk rfl rfl ?_; refine JF.Float 12 xk rfl rfl ?_; refine JF.Branch 13 [] xk ?_ ?_; (focus (repeat (first | exact StF.nil | refine StF.One rfl rfl rfl ?_))); refine (BrF.one rfl rfl ?_ BrF.nil); (· (first | refine JL.Q1 xk rfl rfl ?_ | refine JL.G1 xk rfl rfl rfl ?_ | refine JL.M1 xk rfl rfl ?_ | refine JL.M0 xk rfl ?_ | refine JL.Q0 xk rfl ?_ | refine JL.MLook mpW rfl rfl rfl rfl ?_ | refine JL.MIns mpW rfl rfl rfl rfl ?_ | refine JL.MEnt mpW rfl rfl rfl rfl ?_ | refine JL.MDel mpW rfl rfl rfl ?_ | refine JL.MRng mpW rfl rfl rfl ?_ | refine JL.mMake mpW rfl ?_ | refine JL.MStoE (by assumption) rfl rfl rfl rfl ?_ | refine JL.EqQ eqK rfl rfl rfl ?_ | refine JL.NeQ eqK rfl rfl rfl ?_); refine JL.finN ?_; refine JF.First 14 xk rfl rfl ?_; refine JF.Branch 15 [] xk StF.nil (BrF.one rfl rfl ?_ BrF.nil); (· (first | refine JL.Q1 xk rfl rfl ?_ | refine JL.G1 xk rfl rfl rfl ?_ | refine JL.M1 xk rfl rfl ?_ | refine JL.M0 xk rfl ?_ | refine JL.Q0 xk rfl ?_ | refine JL.MLook mpW rfl rfl rfl rfl ?_ | refine JL.MIns mpW rfl rfl rfl rfl ?_ | refine JL.MEnt mpW rfl rfl rfl rfl ?_ | refine JL.MDel mpW rfl rfl rfl ?_ | refine JL.MRng mpW rfl rfl rfl ?_ | refine JL.mMake mpW rfl ?_ | refine JL.MStoE (by assumption) rfl rfl rfl rfl ?_ | refine JL.EqQ eqK rfl rfl rfl ?_ | refine JL.NeQ eqK rfl rfl rfl ?_); refine JL.finN ?_; refine JF.Done xk StF.nil ?_; (((refine JW.auto (by conv => lhs; reduce) ?_ ?_ ?_ ?_ rfl <;> (repeat' (first | exact trivial | exact rfl | refine And.intro ?_ ?_ | exact Nat.le_of_ble_eq_true rfl | refine HO.bdF ?_ | refine HO.bdP ?_ | (refine congrArg (fun z : Int => some (AV.val (.int .i64) z)) ?_; push_cast; omega) | exact congrArg (fun z : List Int => some (HO.sl 3 (.int .i64) z)) hcm))))))))
      · (repeat (first | refine zs rfl ?_ | refine zg rfl rfl rfl ?_ | refine zd ?_ | refine JK.fin ?_ | refine JK.ret ?_ | refine zml mpW rfl rfl rfl rfl ?_ | refine zmo mpW rfl rfl rfl rfl ?_ | refine zmi mpW rfl rfl rfl rfl ?_ | refine zmu mpW rfl rfl rfl rfl ?_ | refine zmd mpW rfl rfl rfl ?_ | refine zmr mpW rfl rfl rfl ?_ | refine zmm mpW rfl ?_ | refine zeq eqK rfl rfl rfl ?_ | refine zne eqK rfl rfl rfl ?_ | refine zeqg eqK rfl rfl rfl rfl ?_ | refine zneg eqK rfl rfl rfl rfl ?_))
        refine ⟨(i + 1, j - 1, (Y.set i (Y.getD j 0)).set j (Y.getD i 0)), ?_, ⟨hs, by dsimp only; omega, by dsimp only; omega⟩, by dsimp only; omega⟩
        dsimp only
        rw [show ((j - 1 : Nat) : Int) = (j : Int) - 1 by omega]
        (exact JW.Auto (by conv => lhs; reduce))
    · (simp only [↓cdL] at hd; try simp only [Ty.dflt, Int.toNat_natCast] at hd)
      have hY := r1.done (by omega)
      rw [hY, hfinal]
      (repeat (first | refine zs rfl ?_ | refine zg rfl rfl rfl ?_ | refine zd ?_ | refine JK.fin ?_ | refine JK.ret ?_ | refine zml mpW rfl rfl rfl rfl ?_ | refine zmo mpW rfl rfl rfl rfl ?_ | refine zmi mpW rfl rfl rfl rfl ?_ | refine zmu mpW rfl rfl rfl rfl ?_ | refine zmd mpW rfl rfl rfl ?_ | refine zmr mpW rfl rfl rfl ?_ | refine zmm mpW rfl ?_ | refine zeq eqK rfl rfl rfl ?_ | refine zne eqK rfl rfl rfl ?_ | refine zeqg eqK rfl rfl rfl rfl ?_ | refine zneg eqK rfl rfl rfl rfl ?_))
      refine JK.done (inlQ.nor rfl rfl rfl rfl ?_)
      (repeat (first | refine zs rfl ?_ | refine zg rfl rfl rfl ?_ | refine zd ?_ | refine JK.fin ?_ | refine JK.ret ?_ | refine zml mpW rfl rfl rfl rfl ?_ | refine zmo mpW rfl rfl rfl rfl ?_ | refine zmi mpW rfl rfl rfl rfl ?_ | refine zmu mpW rfl rfl rfl rfl ?_ | refine zmd mpW rfl rfl rfl ?_ | refine zmr mpW rfl rfl rfl ?_ | refine zmm mpW rfl ?_ | refine zeq eqK rfl rfl rfl ?_ | refine zne eqK rfl rfl rfl ?_ | refine zeqg eqK rfl rfl rfl rfl ?_ | refine zneg eqK rfl rfl rfl rfl ?_))
      refine ⟨.inl rfl, _, _, rfl, trivial, ?_⟩
      rfl
end Go.Proofs.Ytinehlphcckkmaa

namespace Go.Proofs.Ytinehlphcckkmaa
open Go Go.RowKit Ox Ox.Sh Ox.Se
attribute [local irreducible] JC JL JK JW
attribute [local irreducible] ovA stA pkV
theorem fn48 (P : Int) (l : List Pt) : Ox.Fn Try.prog 48 (.acons (vS P l) .anil) (· = vT2 (countI P l) (seE P l)) := by
  refine Ox.Fn.intro xok Try.func48 rfl Try.call48 (Nat.le_of_ble_eq_true rfl) (fun E M0 up => ?_)
  refine JK.start ?_
  have c61 := fn61 P l
  unfold vOp at c61
  by_cases hz : seE P l = 0
  · obtain ⟨hP, h1, h8, hl⟩ := se_ok.1 hz
    rw [if_pos hz, hz] at c61
    have c84 := fn84 P l hz
    rw [cnt_bests hP.1 h1 h8] at c84
    have e1 : countI P l = ((bestsL P l).length : Int) := by unfold countI; rw [if_pos hz]
    rw [e1, hz]
    generalize (bestsL P l).length = n at c84
    (repeat (first | refine zs rfl ?_ | refine zg rfl rfl rfl ?_ | refine zd ?_ | refine JK.fin ?_ | refine JK.ret ?_ | refine zc rfl (c61) rfl rfl ?_ | refine ze rfl (c61) rfl ?_ | refine zk rfl rfl (fun _ => c61) rfl rfl ?_ | refine zc rfl (c84) rfl rfl ?_ | refine ze rfl (c84) rfl ?_ | refine zk rfl rfl (fun _ => c84) rfl rfl ?_))
    refine JK.cond rfl (fun h => absurd h (by decide)) (fun _ => ?_)
    (repeat (first | refine zs rfl ?_ | refine zg rfl rfl rfl ?_ | refine zd ?_ | refine JK.fin ?_ | refine JK.ret ?_ | refine zc rfl (c84) rfl rfl ?_ | refine ze rfl (c84) rfl ?_ | refine zk rfl rfl (fun _ => c84) rfl rfl ?_))
    refine ⟨.inl rfl, _, _, rfl, trivial, ?_⟩
    rfl
  · have e1 : countI P l = 0 := by unfold countI; rw [if_neg hz]
    rw [e1]
    rw [if_neg hz] at c61
    generalize seE P l = z at hz c61 ⊢
    (repeat (first | refine zs rfl ?_ | refine zg rfl rfl rfl ?_ | refine zd ?_ | refine JK.fin ?_ | refine JK.ret ?_ | refine zc rfl (c61) rfl rfl ?_ | refine ze rfl (c61) rfl ?_ | refine zk rfl rfl (fun _ => c61) rfl rfl ?_))
    refine JK.cond rfl (fun _ => ?_) (fun h => ?_)
    · (repeat (first | refine zs rfl ?_ | refine zg rfl rfl rfl ?_ | refine zd ?_ | refine JK.fin ?_ | refine JK.ret ?_))
      refine ⟨.inl rfl, _, _, rfl, trivial, ?_⟩
      rfl
    · (simp only [↓cdL] at h; try simp only [Ty.dflt, Int.toNat_natCast] at h)
      omega
def bstI (P : Int) (l : List Pt) : List Int := if seE P l = 0 then iL (bestO P l) else []
def lstI (P : Int) (l : List Pt) : Int := if seE P l = 0 then leR P l else 0
abbrev vB3 (a : List Int) (b c : Int) : AV := .tup (.acons (vL a) (.acons (vI b) (.acons (vI c) .anil)))
theorem best_has {P : Int} {l : List Pt} (hP : 1 ≤ P) (h1 : 1 ≤ l.length) (h8 : l.length ≤ 8) : (bestO P l).length = l.length ∧ (∀ n ∈ bestO P l, n < l.length) ∧ bestO P l ≠ [] ∧ rdL P l (bestO P l) = leR P l := by
  obtain ⟨h2, h3⟩ := (mem_bests h1).1 (best_in hP h1 h8)
  have := allO_has h1 h2
  exact ⟨this.1, this.2.1, this.2.2.1, h3⟩
theorem fn36 (P : Int) (l : List Pt) : Ox.Fn Try.prog 36 (.acons (vS P l) .anil) (· = vB3 (bstI P l) (lstI P l) (seE P l)) := by
  refine Ox.Fn.intro xok Try.func36 rfl Try.call36 (Nat.le_of_ble_eq_true rfl) (fun E M0 up => ?_)
  refine JK.start ?_
  have c61 := fn61 P l
  unfold vOp at c61
  by_cases hz : seE P l = 0
  · obtain ⟨hP, h1, h8, hl⟩ := se_ok.1 hz
    rw [if_pos hz, hz] at c61
    have c74 := fn74 P l hz
    obtain ⟨b1, b2, b3, b4⟩ := best_has hP.1 h1 h8
    have c71 := fn71 P l (bestO P l) hz b2 (by omega)
    rw [← rdL_eq b3, b4] at c71
    have e1 : bstI P l = iL (bestO P l) := by unfold bstI; rw [if_pos hz]
    have e2 : lstI P l = leR P l := by unfold lstI; rw [if_pos hz]
    rw [e1, e2, hz]
    have hil : (iL (bestO P l)).length = l.length := by rw [iL_len]; exact b1
    generalize iL (bestO P l) = B at c74 c71 hil ⊢
    (repeat (first | refine zs rfl ?_ | refine zg rfl rfl rfl ?_ | refine zd ?_ | refine JK.fin ?_ | refine JK.ret ?_ | refine zc rfl (c61) rfl rfl ?_ | refine ze rfl (c61) rfl ?_ | refine zk rfl rfl (fun _ => c61) rfl rfl ?_ | refine zc rfl (c74) rfl rfl ?_ | refine ze rfl (c74) rfl ?_ | refine zk rfl rfl (fun _ => c74) rfl rfl ?_))
    refine JK.cond rfl (fun h => absurd h (by decide)) (fun _ => ?_)
    have hrep : (List.replicate ((B.length : Int)).toNat (Ty.dflt (.int .i64))).length = B.length := by simp
    (repeat (first | refine zs rfl ?_ | refine zg rfl rfl rfl ?_ | refine JK.fin ?_ | refine JK.ret ?_ | refine zc rfl (c74) rfl rfl ?_ | refine ze rfl (c74) rfl ?_ | refine zk rfl rfl (fun _ => c74) rfl rfl ?_))
    (refine JK.fzL [0] [25,26,27] rfl ?_)
    (repeat (first | refine zs rfl ?_ | refine zg rfl rfl rfl ?_ | refine zd ?_ | refine JK.fin ?_ | refine JK.ret ?_ | refine zc rfl (c71) rfl rfl ?_ | refine ze rfl (c71) rfl ?_ | refine zk rfl rfl (fun _ => c71) rfl rfl ?_))
    refine ⟨.inl rfl, _, _, rfl, trivial, ?_⟩
    rfl
  · have e1 : bstI P l = [] := by unfold bstI; rw [if_neg hz]
    have e2 : lstI P l = 0 := by unfold lstI; rw [if_neg hz]
    rw [e1, e2]
    rw [if_neg hz] at c61
    generalize seE P l = z at hz c61 ⊢
    (repeat (first | refine zs rfl ?_ | refine zg rfl rfl rfl ?_ | refine zd ?_ | refine JK.fin ?_ | refine JK.ret ?_ | refine zc rfl (c61) rfl rfl ?_ | refine ze rfl (c61) rfl ?_ | refine zk rfl rfl (fun _ => c61) rfl rfl ?_))
    refine JK.cond rfl (fun _ => ?_) (fun h => ?_)
    · (repeat (first | refine zs rfl ?_ | refine zg rfl rfl rfl ?_ | refine zd ?_ | refine JK.fin ?_ | refine JK.ret ?_))
      refine ⟨.inl rfl, _, _, rfl, trivial, ?_⟩
      rfl
    · (simp only [↓cdL] at h; try simp only [Ty.dflt, Int.toNat_natCast] at h)
      omega
end Go.Proofs.Ytinehlphcckkmaa

namespace Go.Proofs.Ytinehlphcckkmaa
open Go Go.RowKit Ox Ox.Sh Ox.Se
attribute [local irreducible] JC JL JK JW
attribute [local irreducible] ovA stA pkV
theorem fn82 (P : Int) (l : List Pt) : Ox.Fn Try.prog 82 (.acons (vH P l) .anil) (· = .fn 102 .anil (.acons (ppH P l) .anil)) := by
  refine Ox.Fn.intro xok Try.func82 rfl Try.call82 (Nat.le_of_ble_eq_true rfl) (fun E M0 up => ?_)
  refine JK.start ?_
  (repeat (first | refine znf ?_ | refine zs rfl ?_ | refine JK.ret ?_))
  refine ⟨.inl rfl, _, _, rfl, trivial, ?_⟩
  rfl
variable {E : World} {Mx M0 : Mem} {nX : Nat} {rdX : Option Nat} {up : Nat → Nat → Value} {dp lab : Nat} {r : List Fr} {QA : Exit → S → Prop}
theorem free_succ (row : List Nat) (k : Nat) : Sh.freeL (k + 1) row = Sh.freeL k row ++ if k ∈ row then [] else [k] := by
  unfold Sh.freeL
  rw [List.range_succ, List.filter_append]
  congr 1
  by_cases h : k ∈ row <;> simp [h]
def partD (N f : Nat) (row : List Nat) (j : Nat) : List (List Nat) := (Sh.freeL j row).flatMap fun n => dfsL N f (row ++ [n])
theorem partD_succ (N f : Nat) (row : List Nat) (j : Nat) : partD N f row (j + 1) = partD N f row j ++ if j ∈ row then [] else dfsL N f (row ++ [j]) := by
  unfold partD
  rw [free_succ, List.flatMap_append]
  by_cases h : j ∈ row
  · rw [if_pos h, if_pos h]; rfl
  · rw [if_neg h, if_neg h]; simp
theorem partD_all (N f : Nat) (row : List Nat) : partD N f row N = dfsL N (f + 1) row := rfl
theorem partD_split (N f : Nat) (row : List Nat) {j : Nat} (hj : j ≤ N) : ∃ post, dfsL N (f + 1) row = partD N f row j ++ post := by
  have key : ∀ M, j ≤ M → ∃ rest, Sh.freeL M row = Sh.freeL j row ++ rest := by
    intro M
    induction M with
    | zero => intro h; exact ⟨[], by rw [show j = 0 by omega]; simp⟩
    | succ M ih =>
      intro h
      rcases Nat.lt_or_ge M j with e | e
      · exact ⟨[], by rw [show j = M + 1 by omega]; simp⟩
      · obtain ⟨rest, hr⟩ := ih e
        exact ⟨_, by rw [free_succ, hr, List.append_assoc]⟩
  obtain ⟨rest, hr⟩ := key N hj
  exact ⟨rest.flatMap fun n => dfsL N f (row ++ [n]), by rw [dfsL, hr, List.flatMap_append]; rfl⟩
theorem ext_fo (i m : Nat) (hdp : dp ≠ 0) (P : Int) (l : List Pt) (h8 : l.length ≤ 8) (all : List (List Nat)) (K : List (List Nat) → List (Nat × HO)) (hb : ∀ pre, bdH 100 (K pre)) (hlab : lab < 100) (hk : ∀ pre, hasY i m lab (K pre))
    (hY : ∀ pre z post, all = pre ++ z :: post → YO ⟨Try.prog, tys, ets, mts, E, Mx, nX, rdX, up, dp⟩ 49 lab (.acons (vL (iL z)) .anil) (K pre) 100 true (K (pre ++ [z])) 100) :
    ∀ (f : Nat) (row : List Nat) (pre post : List (List Nat)), row.length + f = l.length → all = pre ++ dfsL l.length f row ++ post →
      FO ⟨Try.prog, tys, ets, mts, E, Mx, nX, rdX, up, dp⟩ 103 (.acons (vH P l) (.acons (vL (iL row)) (.acons (.lf (.yld lab)) .anil))) (K pre) 100
        (fun z H nx => nx = 100 ∧ z = vB true ∧ H = K (pre ++ dfsL l.length f row)) := by
  intro f
  induction f with
  | zero =>
    intro row pre post hlen hall
    have hil : (iL row).length = row.length := by rw [List.length_map]
    refine FO.intro (fn := Try.f103) Try.func103 rfl (Nat.le_of_ble_eq_true rfl) hdp fun M1 => JK.start ?_
    (repeat (first | refine zs rfl ?_ | refine zg rfl rfl rfl ?_ | refine zd ?_ | refine JK.fin ?_ | refine JK.ret ?_))
    refine JK.cond rfl (fun hc => ?_) (fun hc => ?_)
    · (simp only [↓cdL] at hc; try simp only [Ty.dflt, Int.toNat_natCast] at hc)
      have y := hY pre row post (by rw [hall]; simp [dfsL])
      (repeat (first | refine zs rfl ?_ | refine zg rfl rfl rfl ?_ | refine zd ?_ | refine JK.fin ?_ | refine JK.ret ?_))
      refine JK.yieldO (X := ⟨Try.prog, tys, ets, mts, E, Mx, nX, rdX, up, dp⟩) [0] y rfl rfl rfl rfl trivial ?_
      (repeat (first | refine zs rfl ?_ | refine zg rfl rfl rfl ?_ | refine zd ?_ | refine JK.fin ?_ | refine JK.ret ?_))
      refine foQ.ret _ (JW.refl _) rfl ⟨rfl, rfl, ?_⟩
      show K _ = K _; rw [dfsL]
    · (simp only [↓cdL] at hc; try simp only [Ty.dflt, Int.toNat_natCast] at hc)
      exact absurd (by omega) hc
  | succ f ih =>
    intro row pre post hlen hall
    have hil : (iL row).length = row.length := by rw [List.length_map]
    refine FO.intro (fn := Try.f103) Try.func103 rfl (Nat.le_of_ble_eq_true rfl) hdp fun M1 => JK.start ?_
    (repeat (first | refine zs rfl ?_ | refine zg rfl rfl rfl ?_ | refine zd ?_ | refine JK.fin ?_ | refine JK.ret ?_))
    refine JK.cond rfl (fun hc => ?_) (fun hc => ?_)
    · (simp only [↓cdL] at hc; try simp only [Ty.dflt, Int.toNat_natCast] at hc)
      exact absurd hc (by omega)
    · (simp only [↓cdL] at hc; try simp only [Ty.dflt, Int.toNat_natCast] at hc)
      (repeat (first | refine zs rfl ?_ | refine zg rfl rfl rfl ?_ | refine zd ?_ | refine JK.fin ?_ | refine JK.ret ?_))
      refine JK.loop (fun j : Nat => ⟨[(0, vH P l), (1, vL (iL row)), (2, .lf (.yld lab)), (25, vI l.length), (26, vI (j : Int))], K (pre ++ partD l.length f row j), 100⟩) (fun j => j ≤ l.length) (fun j => l.length - j) 0 (Nat.zero_le _) ?_ fun j hj => ?_
      · rw [show pre ++ partD l.length f row ((0 : Nat)) = pre by simp [partD, Sh.freeL]]
        exact JW.same ⟨rfl, rfl, rfl, rfl, rfl, trivial⟩
      have hpt := partD_succ l.length f row j
      have hpa := partD_all l.length f row
      (repeat (first | refine zs rfl ?_ | refine zg rfl rfl rfl ?_ | refine zd ?_ | refine JK.fin ?_ | refine JK.ret ?_))
      refine JK.cond rfl (fun hd => ?_) (fun hd => ?_)
      · (simp only [↓cdL] at hd; try simp only [Ty.dflt, Int.toNat_natCast] at hd)
        have hj' : j < l.length := by omega
        obtain ⟨post1, hp1⟩ := partD_split l.length f row (j := j + 1) hj'
        have c1 := fn107 (iL row) (j : Int)
        have hmi : decide ((j : Int) ∈ iL row) = decide (j ∈ row) := decide_eq_decide.2 mem_iL
        rw [hmi] at c1
        have hlt : (List.take (iL row).length (iL row)).length ≤ 8 := by rw [List.length_take]; omega
        by_cases hm : j ∈ row
        · rw [decide_eq_true hm] at c1
          rw [if_pos hm, List.append_nil] at hpt
          (repeat (first | refine zfl rfl rfl rfl ?_ | refine zs rfl ?_ | refine zc rfl (c1) rfl rfl ?_))
          refine JK.pickF rfl rfl rfl rfl trivial trivial ?_
          (repeat (first | refine zs rfl ?_ | refine zg rfl rfl rfl ?_ | refine zd ?_ | refine JK.fin ?_ | refine JK.ret ?_))
          refine JK.cond rfl (fun h => by cases h) (fun _ => ?_)
          (repeat (first | refine zs rfl ?_ | refine zg rfl rfl rfl ?_ | refine zd ?_ | refine JK.fin ?_ | refine JK.ret ?_))
          refine ⟨j + 1, ?_, by omega, by omega⟩
          rw [hpt]
          exact JW.same ⟨rfl, rfl, rfl, rfl, rfl, trivial⟩
        · rw [decide_eq_false hm] at c1
          rw [if_neg hm] at hpt
          rw [hpt] at hp1
          rw [hp1] at hall
          generalize partD l.length f row j = pj at hpt hp1 hall ⊢
          have q := ih (row ++ [j]) (pre ++ pj) (post1 ++ post) (by simp; omega) (by rw [hall]; simp)
          rw [iL_snoc] at q
          (repeat (first | refine zt rfl rfl ?_ | refine zs rfl ?_ | refine zc rfl (c1) rfl rfl ?_))
          have e1 : List.take (((iL row).length : Int)).toNat (iL row) ++ [(j : Int)] = iL row ++ [(j : Int)] := by rw [Int.toNat_natCast, List.take_length]
          refine JK.frzR 101 43 (eid := 3) (e := .int .i64) (xs := iL row ++ [(j : Int)]) (congrArg (fun z => some (HO.sl 3 (.int .i64) z)) e1) rfl (L' := [(0, vH P l), (1, vL (iL row)), (2, .lf (.yld lab)), (25, vI l.length), (26, vI (j : Int)), (33, vB true), (34, vH P l), (44, .lf (.yld lab))]) ⟨rfl, rfl, rfl, rfl, rfl, rfl, rfl, rfl, trivial⟩ (H' := K (pre ++ pj)) (nx' := 100) (((subH.refl _).cons (hb _) (Nat.le_of_ble_eq_true rfl)).cons (hb _) (Nat.le_of_ble_eq_true rfl)) (bdH_none (hb _) (Nat.le_of_ble_eq_true rfl)) ⟨trivial, trivial, hlab, trivial, trivial, trivial, trivial, hlab, trivial⟩ (hb _) ?_
          refine JK.callO [0, 1, 2, 25, 26, 33] i m lab rfl rfl Try.call103 rfl (hk _) (by simp [stayL, stayB, svL, lk]) q trivial ?_
          rintro z H' nx' ⟨rfl, rfl, rfl⟩
          refine ⟨hk _, ?_⟩
          (repeat (first | refine zt rfl rfl ?_ | refine zs rfl ?_))
          refine JK.cond rfl (fun he => by cases he) (fun _ => ?_)
          (repeat (first | refine zs rfl ?_ | refine zg rfl rfl rfl ?_ | refine zd ?_ | refine JK.fin ?_ | refine JK.ret ?_))
          refine ⟨j + 1, ?_, by omega, by omega⟩
          rw [hpt, ← List.append_assoc]
          exact JW.same ⟨rfl, rfl, rfl, rfl, rfl, trivial⟩
      · (simp only [↓cdL] at hd; try simp only [Ty.dflt, Int.toNat_natCast] at hd)
        have hj2 : j = l.length := by omega
        rw [hj2] at hpt ⊢
        (repeat (first | refine zs rfl ?_ | refine zg rfl rfl rfl ?_ | refine zd ?_ | refine JK.fin ?_ | refine JK.ret ?_))
        refine foQ.ret _ (JW.refl _) rfl ⟨rfl, rfl, ?_⟩
        show K _ = K _
        rw [hpa]
theorem or_it (i m : Nat) (hdp : dp ≠ 0) (P : Int) (l : List Pt) (h1 : 1 ≤ l.length) (h8 : l.length ≤ 8) (K : List (List Nat) → List (Nat × HO)) (hb : ∀ pre, bdH 100 (K pre)) (hlab : lab < 100) (hk : ∀ pre, hasY i m lab (K pre))
    (hY : ∀ pre z post, allO l.length = pre ++ z :: post → YO ⟨Try.prog, tys, ets, mts, E, Mx, nX, rdX, up, dp⟩ 49 lab (.acons (vL (iL z)) .anil) (K pre) 100 true (K (pre ++ [z])) 100)
    (k : ∀ L, QA .normal ⟨L, K (allO l.length), 100⟩) :
    JK ⟨Try.prog, tys, ets, mts, E, M0, 7, none, up, dp⟩ [.code (Try.f102.body.getD .skip)] QA ⟨[(0, .lf (.yld lab)), (1, ppH P l)], K [], 100⟩ := by
  have q := ext_fo (Mx := Mx) (nX := nX) (rdX := rdX) i m hdp P l h8 (allO l.length) K hb hlab hk hY (l.length - 1) [0] [] [] (by simp; omega) (by simp [allO])
  rw [List.nil_append] at q
  change FO _ 103 (.acons (vH P l) (.acons (vL [0]) (.acons (.lf (.yld lab)) .anil))) (K []) 100 (fun z H nx => nx = 100 ∧ z = vB true ∧ H = K (allO l.length)) at q
  (repeat (first | refine zs rfl ?_ | refine zg rfl rfl rfl ?_ | refine zd ?_ | refine JK.fin ?_ | refine JK.ret ?_))
  refine JK.frzR 100 4 (eid := 3) (e := .int .i64) (xs := [0]) rfl rfl (L' := [(0, .lf (.yld lab)), (3, vH P l), (5, .lf (.yld lab))]) ⟨rfl, rfl, rfl, trivial⟩ (H' := K []) (nx' := 100) ((subH.refl _).cons (hb _) (Nat.le_of_ble_eq_true rfl)) (bdH_none (hb _) (Nat.le_of_ble_eq_true rfl)) ⟨hlab, trivial, hlab, trivial⟩ (hb _) ?_
  refine JK.callO [0] i m lab rfl rfl Try.call103 rfl (hk _) (by simp [stayL, stayB, svL, lk]) q trivial ?_
  rintro z H' nx' ⟨rfl, rfl, rfl⟩
  refine ⟨hk _, ?_⟩
  (repeat (first | refine zs rfl ?_ | refine zg rfl rfl rfl ?_ | refine zd ?_ | refine JK.fin ?_ | refine JK.ret ?_))
  exact JK.done (k _)
end Go.Proofs.Ytinehlphcckkmaa

namespace Go.Proofs.Ytinehlphcckkmaa
open Go Go.RowKit Ox Ox.Sh Ox.Se
attribute [local irreducible] JC JL JK JW
attribute [local irreducible] ovA stA pkV
theorem idxB_nat {o : List Nat} {a : Nat} : ∀ {k : Nat}, a ∈ o → idxB (fun x => decide ((a : Int) = x)) (iL o) k = ((k + o.idxOf a : Nat) : Int) := by
  induction o with
  | nil => intro k h; cases h
  | cons x r ih =>
    intro k h
    show (if decide ((a : Int) = (x : Int)) = true then ((k : Nat) : Int) else idxB _ (iL r) (k + 1)) = _
    by_cases e : a = x
    · subst e
      rw [if_pos (by simp), List.idxOf_cons_self, Nat.add_zero]
    · rw [if_neg (by simp; omega), ih ((List.mem_cons.1 h).resolve_left e)]
      have e2 : (x == a) = false := beq_eq_false_iff_ne.2 (fun h => e h.symm)
      rw [List.idxOf_cons, e2, cond_false]
      congr 1; omega
theorem fol_idx {o : List Nat} {a b : Nat} (hn : o.Nodup) (ha : a ∈ o) : folB o a b = decide (nx1 o (o.idxOf a) = b) := by
  have hil := List.idxOf_lt_length_of_mem ha
  have hg : o.getD (o.idxOf a) 0 = a := by rw [getD_nat o hil]; exact List.getElem_idxOf hil
  unfold folB
  rw [Bool.eq_iff_iff, List.any_eq_true, decide_eq_true_iff]
  constructor
  · rintro ⟨i, hi, h⟩
    rw [Bool.and_eq_true, decide_eq_true_iff, decide_eq_true_iff] at h
    have hi' := List.mem_range.1 hi
    have : i = o.idxOf a := by
      rw [getD_nat o hi'] at h
      rw [getD_nat o hil] at hg
      have h2 : o[i] = o[o.idxOf a] := h.1.trans hg.symm
      exact (List.getElem_inj hn).1 h2
    rw [← this]; exact h.2
  · intro h
    refine ⟨o.idxOf a, List.mem_range.2 hil, ?_⟩
    rw [decide_eq_true hg, decide_eq_true h]; rfl
theorem dfs_nd (N : Nat) : ∀ (f : Nat) (row : List Nat), (dfsL N f row).Nodup
  | 0, row => by simp [dfsL]
  | f + 1, row => by
    show List.Pairwise (· ≠ ·) _
    rw [dfsL, List.pairwise_flatMap]
    refine ⟨fun n _ => dfs_nd N f _, ?_⟩
    have hn : (Sh.freeL N row).Nodup := List.nodup_range.filter _
    refine hn.imp fun {x y} hxy p hp q hq e => hxy ?_
    obtain ⟨z1, e1, _⟩ := mem_dfsL.1 hp
    obtain ⟨z2, e2, _⟩ := mem_dfsL.1 hq
    rw [e1, e2, List.append_assoc, List.append_assoc] at e
    exact (List.cons.inj (List.append_cancel_left e)).1
theorem allO_nd (N : Nat) : (allO N).Nodup := dfs_nd N _ _
def bsA (P : Int) (l : List Pt) (L : List (List Nat)) : List (List Nat) := L.filter fun o => decide (rdL P l o = leR P l)
theorem bsA_mem {P : Int} {l : List Pt} (h1 : 1 ≤ l.length) {o : List Nat} : o ∈ bsA P l (allO l.length) ↔ o ∈ bestsL P l := by
  unfold bsA
  rw [List.mem_filter, mem_bests h1, decide_eq_true_iff]
theorem kind_cnt {P : Int} {l : List Pt} (h1 : 1 ≤ l.length) (a b : Nat) : kindV P l a b = if ((((bsA P l (allO l.length)).filter (folB · a b)).length : Nat) : Int) = 0 then 0 else if ((((bsA P l (allO l.length)).filter (folB · a b)).length : Nat) : Int) = (bsA P l (allO l.length)).length then 2 else 1 := by
  have hne := bests_ne (P := P) h1
  have hm : ∀ o, o ∈ bsA P l (allO l.length) ↔ o ∈ bestsL P l := fun o => bsA_mem h1
  unfold kindV
  generalize bestsL P l = B at hne hm
  generalize bsA P l (allO l.length) = L at hm
  have h1 : B.all (folB · a b) = true ↔ (L.filter (folB · a b)).length = L.length := by
    rw [List.length_filter_eq_length_iff, List.all_eq_true]
    exact ⟨fun h x hx => h x ((hm x).1 hx), fun h x hx => h x ((hm x).2 hx)⟩
  have h2 : B.any (folB · a b) = true ↔ ¬ (L.filter (folB · a b)).length = 0 := by
    rw [List.length_eq_zero_iff, List.filter_eq_nil_iff, List.any_eq_true]
    constructor
    · rintro ⟨x, hx, h⟩ h'; exact h' x ((hm x).2 hx) h
    · intro h
      refine Classical.byContradiction fun hn => h fun x hx hb => hn ⟨x, (hm x).1 hx, hb⟩
  have h3 : L.length ≠ 0 := fun e => by
    have e2 := List.length_eq_zero_iff.1 e
    obtain ⟨x, r, hx⟩ := List.exists_cons_of_ne_nil hne
    have := (hm x).2 (by rw [hx]; exact List.mem_cons_self)
    rw [e2] at this; cases this
  by_cases c1 : (L.filter (folB · a b)).length = 0
  · rw [if_neg (fun h => by have := h1.1 h; omega), if_neg (fun h => h2.1 h c1), if_pos (by omega)]
  · rw [if_neg (by omega : ¬ ((L.filter (folB · a b)).length : Int) = 0)]
    by_cases c2 : (L.filter (folB · a b)).length = L.length
    · rw [if_pos (h1.2 c2), if_pos (by omega)]
    · rw [if_neg (fun h => c2 (h1.1 h)), if_pos (h2.2 c1), if_neg (by omega)]
def K46 (a b : Code) (P : Int) (l : List Pt) (one two le n w : Int) : List (Nat × HO) :=
  [(8, .fr 0 [(73, .lf (.yld 7)), (4, .lf (.optr 1 [])), (5, .lf (.optr 2 [])), (8, .lf (.optr 3 [])), (10, .lf (.optr 4 [])), (11, .lf (.optr 5 [])), (12, .lf (.optr 6 []))]),
   (7, .loop .ready none #[45] a b 73 [(4, .lf (.optr 1 [])), (5, .lf (.optr 2 [])), (8, .lf (.optr 3 [])), (10, .lf (.optr 4 [])), (11, .lf (.optr 5 [])), (12, .lf (.optr 6 []))]),
   (1, .cell (.int .i64) (vI one)), (2, .cell (.int .i64) (vI two)), (3, .cell (.ptr shT) (vH P l)), (4, .cell (.int .i64) (vI le)), (5, .cell (.int .i64) (vI n)), (6, .cell (.int .i64) (vI w))]
set_option maxHeartbeats 8000000 in
theorem fn46 (P : Int) (l : List Pt) (one two : Int) : Ox.Fn Try.prog 46 (.acons (vS P l) (.acons (vI one) (.acons (vI two) .anil))) (· = vT2 (kindI P l one two) (kindE P l one two)) := by
  refine Ox.Fn.intro xok Try.func46 rfl Try.call46 (Nat.le_of_ble_eq_true rfl) (fun E M0 up => ?_)
  refine JK.start ?_
  have c61 := fn61 P l
  unfold vOp at c61
  by_cases hz : seE P l = 0
  · obtain ⟨hP, h1, h8, hl⟩ := se_ok.1 hz
    rw [if_pos hz, hz] at c61
    have c64a := fn64 P l one
    have c64b := fn64 P l two
    (repeat (first | refine zs rfl ?_ | refine zg rfl rfl rfl ?_ | refine zd ?_ | refine JK.fin ?_ | refine JK.ret ?_ | refine zc rfl (c61) rfl rfl ?_ | refine ze rfl (c61) rfl ?_ | refine zk rfl rfl (fun _ => c61) rfl rfl ?_))
    refine JK.cond rfl (fun h => absurd h (by decide)) (fun _ => ?_)
    (repeat (first | refine zs rfl ?_ | refine zg rfl rfl rfl ?_ | refine zd ?_ | refine JK.fin ?_ | refine JK.ret ?_ | refine zc rfl (c64a) rfl rfl ?_ | refine ze rfl (c64a) rfl ?_ | refine zk rfl rfl (fun _ => c64a) rfl rfl ?_ | refine zc rfl (c64b) rfl rfl ?_ | refine ze rfl (c64b) rfl ?_ | refine zk rfl rfl (fun _ => c64b) rfl rfl ?_))
    refine JK.cond rfl (fun hd => ?_) (fun hd => ?_)
    · have hno : ¬ ((0 ≤ one ∧ one < (l.length : Int)) ∧ (0 ≤ two ∧ two < (l.length : Int)) ∧ one ≠ two) := by
        rintro ⟨q1, q2, q3⟩
        have hd2 : (bif (bif !decide (0 ≤ one ∧ one < (l.length : Int)) then true else !decide (0 ≤ two ∧ two < (l.length : Int))) then true else one == two) = true := hd
        rw [decide_eq_true q1, decide_eq_true q2] at hd2
        exact q3 (beq_iff_eq.1 hd2)
      have e2 : kindE P l one two = 2 := by unfold kindE; rw [if_neg (by omega), if_neg hno]
      have e1 : kindI P l one two = 0 := by unfold kindI; rw [if_neg (by rw [e2]; decide)]
      rw [e1, e2]
      (repeat (first | refine zs rfl ?_ | refine zg rfl rfl rfl ?_ | refine zd ?_ | refine JK.fin ?_ | refine JK.ret ?_))
      refine ⟨.inl rfl, _, _, rfl, trivial, ?_⟩
      rfl
    · have hyes : (0 ≤ one ∧ one < (l.length : Int)) ∧ (0 ≤ two ∧ two < (l.length : Int)) ∧ one ≠ two := by
        have hd2 : (bif (bif !decide (0 ≤ one ∧ one < (l.length : Int)) then true else !decide (0 ≤ two ∧ two < (l.length : Int))) then true else one == two) = false := hd
        by_cases q : 0 ≤ one ∧ one < (l.length : Int)
        · rw [decide_eq_true q] at hd2
          by_cases r : 0 ≤ two ∧ two < (l.length : Int)
          · rw [decide_eq_true r] at hd2
            exact ⟨q, r, fun e => by rw [e] at hd2; simp at hd2⟩
          · rw [decide_eq_false r] at hd2; cases hd2
        · rw [decide_eq_false q] at hd2; cases hd2
      have hz2 : kindE P l one two = 0 := kind_ok.2 ⟨hz, hyes⟩
      obtain ⟨⟨q1, q2⟩, ⟨q3, q4⟩, q5⟩ := hyes
      have e1 : kindI P l one two = kindV P l one.toNat two.toNat := by unfold kindI; rw [if_pos hz2]
      rw [e1, hz2]
      obtain ⟨a, rfl⟩ : ∃ a : Nat, one = (a : Int) := ⟨one.toNat, by omega⟩
      obtain ⟨b, rfl⟩ : ∃ b : Nat, two = (b : Int) := ⟨two.toNat, by omega⟩
      rw [Int.toNat_natCast, Int.toNat_natCast, kind_cnt h1]
      have c74 := fn74 P l hz
      obtain ⟨b1, b2, b3, b4⟩ := best_has hP.1 h1 h8
      have c71 := fn71 P l (bestO P l) hz b2 (by omega)
      rw [← rdL_eq b3, b4] at c71
      generalize iL (bestO P l) = B at c74 c71
      have halen : (allO l.length).length ≤ 5040 := by
        have := List.Perm.length_eq ((List.perm_ext_iff_of_nodup (allO_nd l.length) (inO_nodup (l.length - 1))).2 fun o => (inO_allO h1).symm)
        rw [this]; exact inO_bd _ (by omega)
      (repeat (first | refine zs rfl ?_ | refine zg rfl rfl rfl ?_ | refine JK.fin ?_ | refine JK.ret ?_))
      refine JK.drawTo xk (Try.f46.body.getD .skip) ⟨[(4, .lf (.optr 1 [])), (5, .lf (.optr 2 [])), (8, .lf (.optr 3 [])), (10, .lf (.optr 4 [])), (11, .lf (.optr 5 [])), (12, .lf (.optr 6 []))], [(1, .cell (.int .i64) (vI a)), (2, .cell (.int .i64) (vI b)), (3, .cell (.ptr shT) (vH P l)), (4, .cell (.int .i64) (vI (leR P l))), (5, .cell (.int .i64) (vI 0)), (6, .cell (.int .i64) (vI 0))], 7⟩ rfl 10 rfl ?_ ?_
      · (refine JF.Float 0 xk rfl rfl ?_; refine JF.Float 1 xk rfl rfl ?_; refine JF.Branch 2 [4, 5, 6] xk ?_ ?_; (focus (repeat (first | exact StF.nil | refine StF.One rfl rfl rfl ?_))); refine (BrF.one rfl rfl ?_ (BrF.one rfl rfl ?_ (BrF.one rfl rfl ?_ (BrF.one rfl rfl ?_ BrF.nil)))); (· (first | refine JL.S1 rfl (c74) rfl trivial rfl ?_ | refine JL.T1 rfl (c74) rfl rfl ?_ | (refine JL.C1 rfl (c74) rfl (fun r hr => ?_); subst hr) | refine JL.S1 rfl (c71) rfl trivial rfl ?_ | refine JL.T1 rfl (c71) rfl rfl ?_ | (refine JL.C1 rfl (c71) rfl (fun r hr => ?_); subst hr)); refine JL.finN ?_; refine JF.Branch 3 [4, 5, 6] xk ?_ ?_; (focus (repeat (first | exact StF.nil | refine StF.One rfl rfl rfl ?_))); refine (BrF.one rfl rfl ?_ (BrF.one rfl rfl ?_ (BrF.one rfl rfl ?_ (BrF.one rfl rfl ?_ BrF.nil)))); (· (first | refine JL.S1 rfl (c74) rfl trivial rfl ?_ | refine JL.T1 rfl (c74) rfl rfl ?_ | (refine JL.C1 rfl (c74) rfl (fun r hr => ?_); subst hr) | refine JL.S1 rfl (c71) rfl trivial rfl ?_ | refine JL.T1 rfl (c71) rfl rfl ?_ | (refine JL.C1 rfl (c71) rfl (fun r hr => ?_); subst hr)); refine JL.finN ?_; refine JF.Branch 4 [5, 6] xk StF.nil (BrF.one rfl rfl ?_ (BrF.one rfl rfl ?_ (BrF.one rfl rfl ?_ BrF.nil))); (· (refine JL.M1 xk rfl rfl ?_); refine JL.finN ?_; refine JF.Branch 5 [6] xk StF.nil (BrF.one rfl rfl ?_ (BrF.one rfl rfl ?_ BrF.nil)); (· (refine JL.M1 xk rfl rfl ?_); refine JL.finN ?_; refine JF.Branch 6 [] xk StF.nil (BrF.one rfl rfl ?_ BrF.nil); (· (refine JL.M1 xk rfl rfl ?_); refine JL.finN ?_; refine JF.Branch 7 [] xk StF.nil (BrF.one rfl rfl ?_ BrF.nil); (· (first | refine JL.M0 xk rfl ?_ | refine JL.Q0 xk rfl ?_); refine JL.finN ?_; refine JF.Branch 8 [] xk StF.nil (BrF.one rfl rfl ?_ BrF.nil); (· (first | refine JL.M0 xk rfl ?_ | refine JL.Q0 xk rfl ?_); refine JL.finN ?_; refine JF.Branch 9 [] xk StF.nil (BrF.one rfl rfl ?_ BrF.nil); (· (first | refine JL.M0 xk rfl ?_ | refine JL.Q0 xk rfl ?_); refine JL.finN ?_; refine JF.Done xk StF.nil ?_; ((exact JW.Auto (by conv => lhs; reduce)))))))); (· (refine JL.M1 xk rfl rfl ?_); refine JL.finN ?_; refine JF.Branch 5 [] xk StF.nil (BrF.one rfl rfl ?_ BrF.nil); (· (refine JL.M1 xk rfl rfl ?_); refine JL.finN ?_; refine JF.Branch 7 [] xk StF.nil (BrF.one rfl rfl ?_ BrF.nil); (· (first | refine JL.M0 xk rfl ?_ | refine JL.Q0 xk rfl ?_); refine JL.finN ?_; refine JF.Branch 8 [] xk StF.nil (BrF.one rfl rfl ?_ BrF.nil); (· (first | refine JL.M0 xk rfl ?_ | refine JL.Q0 xk rfl ?_); refine JL.finN ?_; refine JF.Branch 9 [] xk StF.nil (BrF.one rfl rfl ?_ BrF.nil); (· (first | refine JL.M0 xk rfl ?_ | refine JL.Q0 xk rfl ?_); refine JL.finN ?_; refine JF.Done xk StF.nil ?_; ((exact JW.Auto (by conv => lhs; reduce))))))))); (· (refine JL.M1 xk rfl rfl ?_); refine JL.finN ?_; refine JF.Branch 4 [6] xk StF.nil (BrF.one rfl rfl ?_ (BrF.one rfl rfl ?_ BrF.nil)); (· (refine JL.M1 xk rfl rfl ?_); refine JL.finN ?_; refine JF.Branch 6 [] xk StF.nil (BrF.one rfl rfl ?_ BrF.nil); (· (refine JL.M1 xk rfl rfl ?_); refine JL.finN ?_; refine JF.Branch 7 [] xk StF.nil (BrF.one rfl rfl ?_ BrF.nil); (· (first | refine JL.M0 xk rfl ?_ | refine JL.Q0 xk rfl ?_); refine JL.finN ?_; refine JF.Branch 8 [] xk StF.nil (BrF.one rfl rfl ?_ BrF.nil); (· (first | refine JL.M0 xk rfl ?_ | refine JL.Q0 xk rfl ?_); refine JL.finN ?_; refine JF.Branch 9 [] xk StF.nil (BrF.one rfl rfl ?_ BrF.nil); (· (first | refine JL.M0 xk rfl ?_ | refine JL.Q0 xk rfl ?_); refine JL.finN ?_; refine JF.Done xk StF.nil ?_; ((exact JW.Auto (by conv => lhs; reduce)))))))); (· (refine JL.M1 xk rfl rfl ?_); refine JL.finN ?_; refine JF.Branch 4 [] xk StF.nil (BrF.one rfl rfl ?_ BrF.nil); (· (refine JL.M1 xk rfl rfl ?_); refine JL.finN ?_; refine JF.Branch 7 [] xk StF.nil (BrF.one rfl rfl ?_ BrF.nil); (· (first | refine JL.M0 xk rfl ?_ | refine JL.Q0 xk rfl ?_); refine JL.finN ?_; refine JF.Branch 8 [] xk StF.nil (BrF.one rfl rfl ?_ BrF.nil); (· (first | refine JL.M0 xk rfl ?_ | refine JL.Q0 xk rfl ?_); refine JL.finN ?_; refine JF.Branch 9 [] xk StF.nil (BrF.one rfl rfl ?_ BrF.nil); (· (first | refine JL.M0 xk rfl ?_ | refine JL.Q0 xk rfl ?_); refine JL.finN ?_; refine JF.Done xk StF.nil ?_; ((exact JW.Auto (by conv => lhs; reduce))))))))); (· (refine JL.M1 xk rfl rfl ?_); refine JL.finN ?_; refine JF.Branch 4 [5] xk StF.nil (BrF.one rfl rfl ?_ (BrF.one rfl rfl ?_ BrF.nil)); (· (refine JL.M1 xk rfl rfl ?_); refine JL.finN ?_; refine JF.Branch 5 [] xk StF.nil (BrF.one rfl rfl ?_ BrF.nil); (· (refine JL.M1 xk rfl rfl ?_); refine JL.finN ?_; refine JF.Branch 7 [] xk StF.nil (BrF.one rfl rfl ?_ BrF.nil); (· (first | refine JL.M0 xk rfl ?_ | refine JL.Q0 xk rfl ?_); refine JL.finN ?_; refine JF.Branch 8 [] xk StF.nil (BrF.one rfl rfl ?_ BrF.nil); (· (first | refine JL.M0 xk rfl ?_ | refine JL.Q0 xk rfl ?_); refine JL.finN ?_; refine JF.Branch 9 [] xk StF.nil (BrF.one rfl rfl ?_ BrF.nil); (· (first | refine JL.M0 xk rfl ?_ | refine JL.Q0 xk rfl ?_); refine JL.finN ?_; refine JF.Done xk StF.nil ?_; ((exact JW.Auto (by conv => lhs; reduce)))))))); (· (refine JL.M1 xk rfl rfl ?_); refine JL.finN ?_; refine JF.Branch 4 [] xk StF.nil (BrF.one rfl rfl ?_ BrF.nil); (· (refine JL.M1 xk rfl rfl ?_); refine JL.finN ?_; refine JF.Branch 7 [] xk StF.nil (BrF.one rfl rfl ?_ BrF.nil); (· (first | refine JL.M0 xk rfl ?_ | refine JL.Q0 xk rfl ?_); refine JL.finN ?_; refine JF.Branch 8 [] xk StF.nil (BrF.one rfl rfl ?_ BrF.nil); (· (first | refine JL.M0 xk rfl ?_ | refine JL.Q0 xk rfl ?_); refine JL.finN ?_; refine JF.Branch 9 [] xk StF.nil (BrF.one rfl rfl ?_ BrF.nil); (· (first | refine JL.M0 xk rfl ?_ | refine JL.Q0 xk rfl ?_); refine JL.finN ?_; refine JF.Done xk StF.nil ?_; ((exact JW.Auto (by conv => lhs; reduce)))))))))); (· (refine JL.M1 xk rfl rfl ?_); refine JL.finN ?_; refine JF.Branch 3 [5, 6] xk ?_ ?_; (focus (repeat (first | exact StF.nil | refine StF.One rfl rfl rfl ?_))); refine (BrF.one rfl rfl ?_ (BrF.one rfl rfl ?_ (BrF.one rfl rfl ?_ BrF.nil))); (· (first | refine JL.S1 rfl (c74) rfl trivial rfl ?_ | refine JL.T1 rfl (c74) rfl rfl ?_ | (refine JL.C1 rfl (c74) rfl (fun r hr => ?_); subst hr) | refine JL.S1 rfl (c71) rfl trivial rfl ?_ | refine JL.T1 rfl (c71) rfl rfl ?_ | (refine JL.C1 rfl (c71) rfl (fun r hr => ?_); subst hr)); refine JL.finN ?_; refine JF.Branch 5 [6] xk StF.nil (BrF.one rfl rfl ?_ (BrF.one rfl rfl ?_ BrF.nil)); (· (refine JL.M1 xk rfl rfl ?_); refine JL.finN ?_; refine JF.Branch 6 [] xk StF.nil (BrF.one rfl rfl ?_ BrF.nil); (· (refine JL.M1 xk rfl rfl ?_); refine JL.finN ?_; refine JF.Branch 7 [] xk StF.nil (BrF.one rfl rfl ?_ BrF.nil); (· (first | refine JL.M0 xk rfl ?_ | refine JL.Q0 xk rfl ?_); refine JL.finN ?_; refine JF.Branch 8 [] xk StF.nil (BrF.one rfl rfl ?_ BrF.nil); (· (first | refine JL.M0 xk rfl ?_ | refine JL.Q0 xk rfl ?_); refine JL.finN ?_; refine JF.Branch 9 [] xk StF.nil (BrF.one rfl rfl ?_ BrF.nil); (· (first | refine JL.M0 xk rfl ?_ | refine JL.Q0 xk rfl ?_); refine JL.finN ?_; refine JF.Done xk StF.nil ?_; ((exact JW.Auto (by conv => lhs; reduce)))))))); (· (refine JL.M1 xk rfl rfl ?_); refine JL.finN ?_; refine JF.Branch 5 [] xk StF.nil (BrF.one rfl rfl ?_ BrF.nil); (· (refine JL.M1 xk rfl rfl ?_); refine JL.finN ?_; refine JF.Branch 7 [] xk StF.nil (BrF.one rfl rfl ?_ BrF.nil); (· (first | refine JL.M0 xk rfl ?_ | refine JL.Q0 xk rfl ?_); refine JL.finN ?_; refine JF.Branch 8 [] xk StF.nil (BrF.one rfl rfl ?_ BrF.nil); (· (first | refine JL.M0 xk rfl ?_ | refine JL.Q0 xk rfl ?_); refine JL.finN ?_; refine JF.Branch 9 [] xk StF.nil (BrF.one rfl rfl ?_ BrF.nil); (· (first | refine JL.M0 xk rfl ?_ | refine JL.Q0 xk rfl ?_); refine JL.finN ?_; refine JF.Done xk StF.nil ?_; ((exact JW.Auto (by conv => lhs; reduce))))))))); (· (refine JL.M1 xk rfl rfl ?_); refine JL.finN ?_; refine JF.Branch 3 [6] xk ?_ ?_; (focus (repeat (first | exact StF.nil | refine StF.One rfl rfl rfl ?_))); refine (BrF.one rfl rfl ?_ (BrF.one rfl rfl ?_ BrF.nil)); (· (first | refine JL.S1 rfl (c74) rfl trivial rfl ?_ | refine JL.T1 rfl (c74) rfl rfl ?_ | (refine JL.C1 rfl (c74) rfl (fun r hr => ?_); subst hr) | refine JL.S1 rfl (c71) rfl trivial rfl ?_ | refine JL.T1 rfl (c71) rfl rfl ?_ | (refine JL.C1 rfl (c71) rfl (fun r hr => ?_); subst hr)); refine JL.finN ?_; refine JF.Branch 6 [] xk StF.nil (BrF.one rfl rfl ?_ BrF.nil); (· (refine JL.M1 xk rfl rfl ?_); refine JL.finN ?_; refine JF.Branch 7 [] xk StF.nil (BrF.one rfl rfl ?_ BrF.nil); (· (first | refine JL.M0 xk rfl ?_ | refine JL.Q0 xk rfl ?_); refine JL.finN ?_; refine JF.Branch 8 [] xk StF.nil (BrF.one rfl rfl ?_ BrF.nil); (· (first | refine JL.M0 xk rfl ?_ | refine JL.Q0 xk rfl ?_); refine JL.finN ?_; refine JF.Branch 9 [] xk StF.nil (BrF.one rfl rfl ?_ BrF.nil); (· (first | refine JL.M0 xk rfl ?_ | refine JL.Q0 xk rfl ?_); refine JL.finN ?_; refine JF.Done xk StF.nil ?_; ((exact JW.Auto (by conv => lhs; reduce)))))))); (· (refine JL.M1 xk rfl rfl ?_); refine JL.finN ?_; refine JF.Branch 3 [] xk ?_ ?_; (focus (repeat (first | exact StF.nil | refine StF.One rfl rfl rfl ?_))); refine (BrF.one rfl rfl ?_ BrF.nil); (· (first | refine JL.S1 rfl (c74) rfl trivial rfl ?_ | refine JL.T1 rfl (c74) rfl rfl ?_ | (refine JL.C1 rfl (c74) rfl (fun r hr => ?_); subst hr) | refine JL.S1 rfl (c71) rfl trivial rfl ?_ | refine JL.T1 rfl (c71) rfl rfl ?_ | (refine JL.C1 rfl (c71) rfl (fun r hr => ?_); subst hr)); refine JL.finN ?_; refine JF.Branch 7 [] xk StF.nil (BrF.one rfl rfl ?_ BrF.nil); (· (first | refine JL.M0 xk rfl ?_ | refine JL.Q0 xk rfl ?_); refine JL.finN ?_; refine JF.Branch 8 [] xk StF.nil (BrF.one rfl rfl ?_ BrF.nil); (· (first | refine JL.M0 xk rfl ?_ | refine JL.Q0 xk rfl ?_); refine JL.finN ?_; refine JF.Branch 9 [] xk StF.nil (BrF.one rfl rfl ?_ BrF.nil); (· (first | refine JL.M0 xk rfl ?_ | refine JL.Q0 xk rfl ?_); refine JL.finN ?_; refine JF.Done xk StF.nil ?_; ((exact JW.Auto (by conv => lhs; reduce))))))))); (· (refine JL.M1 xk rfl rfl ?_); refine JL.finN ?_; refine JF.Branch 3 [5] xk ?_ ?_; (focus (repeat (first | exact StF.nil | refine StF.One rfl rfl rfl ?_))); refine (BrF.one rfl rfl ?_ (BrF.one rfl rfl ?_ BrF.nil)); (· (first | refine JL.S1 rfl (c74) rfl trivial rfl ?_ | refine JL.T1 rfl (c74) rfl rfl ?_ | (refine JL.C1 rfl (c74) rfl (fun r hr => ?_); subst hr) | refine JL.S1 rfl (c71) rfl trivial rfl ?_ | refine JL.T1 rfl (c71) rfl rfl ?_ | (refine JL.C1 rfl (c71) rfl (fun r hr => ?_); subst hr)); refine JL.finN ?_; refine JF.Branch 5 [] xk StF.nil (BrF.one rfl rfl ?_ BrF.nil); (· (refine JL.M1 xk rfl rfl ?_); refine JL.finN ?_; refine JF.Branch 7 [] xk StF.nil (BrF.one rfl rfl ?_ BrF.nil); (· (first | refine JL.M0 xk rfl ?_ | refine JL.Q0 xk rfl ?_); refine JL.finN ?_; refine JF.Branch 8 [] xk StF.nil (BrF.one rfl rfl ?_ BrF.nil); (· (first | refine JL.M0 xk rfl ?_ | refine JL.Q0 xk rfl ?_); refine JL.finN ?_; refine JF.Branch 9 [] xk StF.nil (BrF.one rfl rfl ?_ BrF.nil); (· (first | refine JL.M0 xk rfl ?_ | refine JL.Q0 xk rfl ?_); refine JL.finN ?_; refine JF.Done xk StF.nil ?_; ((exact JW.Auto (by conv => lhs; reduce)))))))); (· (refine JL.M1 xk rfl rfl ?_); refine JL.finN ?_; refine JF.Branch 3 [] xk ?_ ?_; (focus (repeat (first | exact StF.nil | refine StF.One rfl rfl rfl ?_))); refine (BrF.one rfl rfl ?_ BrF.nil); (· (first | refine JL.S1 rfl (c74) rfl trivial rfl ?_ | refine JL.T1 rfl (c74) rfl rfl ?_ | (refine JL.C1 rfl (c74) rfl (fun r hr => ?_); subst hr) | refine JL.S1 rfl (c71) rfl trivial rfl ?_ | refine JL.T1 rfl (c71) rfl rfl ?_ | (refine JL.C1 rfl (c71) rfl (fun r hr => ?_); subst hr)); refine JL.finN ?_; refine JF.Branch 7 [] xk StF.nil (BrF.one rfl rfl ?_ BrF.nil); (· (first | refine JL.M0 xk rfl ?_ | refine JL.Q0 xk rfl ?_); refine JL.finN ?_; refine JF.Branch 8 [] xk StF.nil (BrF.one rfl rfl ?_ BrF.nil); (· (first | refine JL.M0 xk rfl ?_ | refine JL.Q0 xk rfl ?_); refine JL.finN ?_; refine JF.Branch 9 [] xk StF.nil (BrF.one rfl rfl ?_ BrF.nil); (· (first | refine JL.M0 xk rfl ?_ | refine JL.Q0 xk rfl ?_); refine JL.finN ?_; refine JF.Done xk StF.nil ?_; ((exact JW.Auto (by conv => lhs; reduce)))))))))); (· (refine JL.M1 xk rfl rfl ?_); refine JL.finN ?_; refine JF.Branch 3 [4, 6] xk ?_ ?_; (focus (repeat (first | exact StF.nil | refine StF.One rfl rfl rfl ?_))); refine (BrF.one rfl rfl ?_ (BrF.one rfl rfl ?_ (BrF.one rfl rfl ?_ BrF.nil))); (· (first | refine JL.S1 rfl (c74) rfl trivial rfl ?_ | refine JL.T1 rfl (c74) rfl rfl ?_ | (refine JL.C1 rfl (c74) rfl (fun r hr => ?_); subst hr) | refine JL.S1 rfl (c71) rfl trivial rfl ?_ | refine JL.T1 rfl (c71) rfl rfl ?_ | (refine JL.C1 rfl (c71) rfl (fun r hr => ?_); subst hr)); refine JL.finN ?_; refine JF.Branch 4 [6] xk StF.nil (BrF.one rfl rfl ?_ (BrF.one rfl rfl ?_ BrF.nil)); (· (refine JL.M1 xk rfl rfl ?_); refine JL.finN ?_; refine JF.Branch 6 [] xk StF.nil (BrF.one rfl rfl ?_ BrF.nil); (· (refine JL.M1 xk rfl rfl ?_); refine JL.finN ?_; refine JF.Branch 7 [] xk StF.nil (BrF.one rfl rfl ?_ BrF.nil); (· (first | refine JL.M0 xk rfl ?_ | refine JL.Q0 xk rfl ?_); refine JL.finN ?_; refine JF.Branch 8 [] xk StF.nil (BrF.one rfl rfl ?_ BrF.nil); (· (first | refine JL.M0 xk rfl ?_ | refine JL.Q0 xk rfl ?_); refine JL.finN ?_; refine JF.Branch 9 [] xk StF.nil (BrF.one rfl rfl ?_ BrF.nil); (· (first | refine JL.M0 xk rfl ?_ | refine JL.Q0 xk rfl ?_); refine JL.finN ?_; refine JF.Done xk StF.nil ?_; ((exact JW.Auto (by conv => lhs; reduce)))))))); (· (refine JL.M1 xk rfl rfl ?_); refine JL.finN ?_; refine JF.Branch 4 [] xk StF.nil (BrF.one rfl rfl ?_ BrF.nil); (· (refine JL.M1 xk rfl rfl ?_); refine JL.finN ?_; refine JF.Branch 7 [] xk StF.nil (BrF.one rfl rfl ?_ BrF.nil); (· (first | refine JL.M0 xk rfl ?_ | refine JL.Q0 xk rfl ?_); refine JL.finN ?_; refine JF.Branch 8 [] xk StF.nil (BrF.one rfl rfl ?_ BrF.nil); (· (first | refine JL.M0 xk rfl ?_ | refine JL.Q0 xk rfl ?_); refine JL.finN ?_; refine JF.Branch 9 [] xk StF.nil (BrF.one rfl rfl ?_ BrF.nil); (· (first | refine JL.M0 xk rfl ?_ | refine JL.Q0 xk rfl ?_); refine JL.finN ?_; refine JF.Done xk StF.nil ?_; ((exact JW.Auto (by conv => lhs; reduce))))))))); (· (refine JL.M1 xk rfl rfl ?_); refine JL.finN ?_; refine JF.Branch 3 [6] xk ?_ ?_; (focus (repeat (first | exact StF.nil | refine StF.One rfl rfl rfl ?_))); refine (BrF.one rfl rfl ?_ (BrF.one rfl rfl ?_ BrF.nil)); (· (first | refine JL.S1 rfl (c74) rfl trivial rfl ?_ | refine JL.T1 rfl (c74) rfl rfl ?_ | (refine JL.C1 rfl (c74) rfl (fun r hr => ?_); subst hr) | refine JL.S1 rfl (c71) rfl trivial rfl ?_ | refine JL.T1 rfl (c71) rfl rfl ?_ | (refine JL.C1 rfl (c71) rfl (fun r hr => ?_); subst hr)); refine JL.finN ?_; refine JF.Branch 6 [] xk StF.nil (BrF.one rfl rfl ?_ BrF.nil); (· (refine JL.M1 xk rfl rfl ?_); refine JL.finN ?_; refine JF.Branch 7 [] xk StF.nil (BrF.one rfl rfl ?_ BrF.nil); (· (first | refine JL.M0 xk rfl ?_ | refine JL.Q0 xk rfl ?_); refine JL.finN ?_; refine JF.Branch 8 [] xk StF.nil (BrF.one rfl rfl ?_ BrF.nil); (· (first | refine JL.M0 xk rfl ?_ | refine JL.Q0 xk rfl ?_); refine JL.finN ?_; refine JF.Branch 9 [] xk StF.nil (BrF.one rfl rfl ?_ BrF.nil); (· (first | refine JL.M0 xk rfl ?_ | refine JL.Q0 xk rfl ?_); refine JL.finN ?_; refine JF.Done xk StF.nil ?_; ((exact JW.Auto (by conv => lhs; reduce)))))))); (· (refine JL.M1 xk rfl rfl ?_); refine JL.finN ?_; refine JF.Branch 3 [] xk ?_ ?_; (focus (repeat (first | exact StF.nil | refine StF.One rfl rfl rfl ?_))); refine (BrF.one rfl rfl ?_ BrF.nil); (· (first | refine JL.S1 rfl (c74) rfl trivial rfl ?_ | refine JL.T1 rfl (c74) rfl rfl ?_ | (refine JL.C1 rfl (c74) rfl (fun r hr => ?_); subst hr) | refine JL.S1 rfl (c71) rfl trivial rfl ?_ | refine JL.T1 rfl (c71) rfl rfl ?_ | (refine JL.C1 rfl (c71) rfl (fun r hr => ?_); subst hr)); refine JL.finN ?_; refine JF.Branch 7 [] xk StF.nil (BrF.one rfl rfl ?_ BrF.nil); (· (first | refine JL.M0 xk rfl ?_ | refine JL.Q0 xk rfl ?_); refine JL.finN ?_; refine JF.Branch 8 [] xk StF.nil (BrF.one rfl rfl ?_ BrF.nil); (· (first | refine JL.M0 xk rfl ?_ | refine JL.Q0 xk rfl ?_); refine JL.finN ?_; refine JF.Branch 9 [] xk StF.nil (BrF.one rfl rfl ?_ BrF.nil); (· (first | refine JL.M0 xk rfl ?_ | refine JL.Q0 xk rfl ?_); refine JL.finN ?_; refine JF.Done xk StF.nil ?_; ((exact JW.Auto (by conv => lhs; reduce))))))))); (· (refine JL.M1 xk rfl rfl ?_); refine JL.finN ?_; refine JF.Branch 3 [4] xk ?_ ?_; (focus (repeat (first | exact StF.nil | refine StF.One rfl rfl rfl ?_))); refine (BrF.one rfl rfl ?_ (BrF.one rfl rfl ?_ BrF.nil)); (· (first | refine JL.S1 rfl (c74) rfl trivial rfl ?_ | refine JL.T1 rfl (c74) rfl rfl ?_ | (refine JL.C1 rfl (c74) rfl (fun r hr => ?_); subst hr) | refine JL.S1 rfl (c71) rfl trivial rfl ?_ | refine JL.T1 rfl (c71) rfl rfl ?_ | (refine JL.C1 rfl (c71) rfl (fun r hr => ?_); subst hr)); refine JL.finN ?_; refine JF.Branch 4 [] xk StF.nil (BrF.one rfl rfl ?_ BrF.nil); (· (refine JL.M1 xk rfl rfl ?_); refine JL.finN ?_; refine JF.Branch 7 [] xk StF.nil (BrF.one rfl rfl ?_ BrF.nil); (· (first | refine JL.M0 xk rfl ?_ | refine JL.Q0 xk rfl ?_); refine JL.finN ?_; refine JF.Branch 8 [] xk StF.nil (BrF.one rfl rfl ?_ BrF.nil); (· (first | refine JL.M0 xk rfl ?_ | refine JL.Q0 xk rfl ?_); refine JL.finN ?_; refine JF.Branch 9 [] xk StF.nil (BrF.one rfl rfl ?_ BrF.nil); (· (first | refine JL.M0 xk rfl ?_ | refine JL.Q0 xk rfl ?_); refine JL.finN ?_; refine JF.Done xk StF.nil ?_; ((exact JW.Auto (by conv => lhs; reduce)))))))); (· (refine JL.M1 xk rfl rfl ?_); refine JL.finN ?_; refine JF.Branch 3 [] xk ?_ ?_; (focus (repeat (first | exact StF.nil | refine StF.One rfl rfl rfl ?_))); refine (BrF.one rfl rfl ?_ BrF.nil); (· (first | refine JL.S1 rfl (c74) rfl trivial rfl ?_ | refine JL.T1 rfl (c74) rfl rfl ?_ | (refine JL.C1 rfl (c74) rfl (fun r hr => ?_); subst hr) | refine JL.S1 rfl (c71) rfl trivial rfl ?_ | refine JL.T1 rfl (c71) rfl rfl ?_ | (refine JL.C1 rfl (c71) rfl (fun r hr => ?_); subst hr)); refine JL.finN ?_; refine JF.Branch 7 [] xk StF.nil (BrF.one rfl rfl ?_ BrF.nil); (· (first | refine JL.M0 xk rfl ?_ | refine JL.Q0 xk rfl ?_); refine JL.finN ?_; refine JF.Branch 8 [] xk StF.nil (BrF.one rfl rfl ?_ BrF.nil); (· (first | refine JL.M0 xk rfl ?_ | refine JL.Q0 xk rfl ?_); refine JL.finN ?_; refine JF.Branch 9 [] xk StF.nil (BrF.one rfl rfl ?_ BrF.nil); (· (first | refine JL.M0 xk rfl ?_ | refine JL.Q0 xk rfl ?_); refine JL.finN ?_; refine JF.Done xk StF.nil ?_; ((exact JW.Auto (by conv => lhs; reduce)))))))))); (· (refine JL.M1 xk rfl rfl ?_); refine JL.finN ?_; refine JF.Branch 3 [4, 5] xk ?_ ?_; (focus (repeat (first | exact StF.nil | refine StF.One rfl rfl rfl ?_))); refine (BrF.one rfl rfl ?_ (BrF.one rfl rfl ?_ (BrF.one rfl rfl ?_ BrF.nil))); (· (first | refine JL.S1 rfl (c74) rfl trivial rfl ?_ | refine JL.T1 rfl (c74) rfl rfl ?_ | (refine JL.C1 rfl (c74) rfl (fun r hr => ?_); subst hr) | refine JL.S1 rfl (c71) rfl trivial rfl ?_ | refine JL.T1 rfl (c71) rfl rfl ?_ | (refine JL.C1 rfl (c71) rfl (fun r hr => ?_); subst hr)); refine JL.finN ?_; refine JF.Branch 4 [5] xk StF.nil (BrF.one rfl rfl ?_ (BrF.one rfl rfl ?_ BrF.nil)); (· (refine JL.M1 xk rfl rfl ?_); refine JL.finN ?_; refine JF.Branch 5 [] xk StF.nil (BrF.one rfl rfl ?_ BrF.nil); (· (refine JL.M1 xk rfl rfl ?_); refine JL.finN ?_; refine JF.Branch 7 [] xk StF.nil (BrF.one rfl rfl ?_ BrF.nil); (· (first | refine JL.M0 xk rfl ?_ | refine JL.Q0 xk rfl ?_); refine JL.finN ?_; refine JF.Branch 8 [] xk StF.nil (BrF.one rfl rfl ?_ BrF.nil); (· (first | refine JL.M0 xk rfl ?_ | refine JL.Q0 xk rfl ?_); refine JL.finN ?_; refine JF.Branch 9 [] xk StF.nil (BrF.one rfl rfl ?_ BrF.nil); (· (first | refine JL.M0 xk rfl ?_ | refine JL.Q0 xk rfl ?_); refine JL.finN ?_; refine JF.Done xk StF.nil ?_; ((exact JW.Auto (by conv => lhs; reduce)))))))); (· (refine JL.M1 xk rfl rfl ?_); refine JL.finN ?_; refine JF.Branch 4 [] xk StF.nil (BrF.one rfl rfl ?_ BrF.nil); (· (refine JL.M1 xk rfl rfl ?_); refine JL.finN ?_; refine JF.Branch 7 [] xk StF.nil (BrF.one rfl rfl ?_ BrF.nil); (· (first | refine JL.M0 xk rfl ?_ | refine JL.Q0 xk rfl ?_); refine JL.finN ?_; refine JF.Branch 8 [] xk StF.nil (BrF.one rfl rfl ?_ BrF.nil); (· (first | refine JL.M0 xk rfl ?_ | refine JL.Q0 xk rfl ?_); refine JL.finN ?_; refine JF.Branch 9 [] xk StF.nil (BrF.one rfl rfl ?_ BrF.nil); (· (first | refine JL.M0 xk rfl ?_ | refine JL.Q0 xk rfl ?_); refine JL.finN ?_; refine JF.Done xk StF.nil ?_; ((exact JW.Auto (by conv => lhs; reduce))))))))); (· (refine JL.M1 xk rfl rfl ?_); refine JL.finN ?_; refine JF.Branch 3 [5] xk ?_ ?_; (focus (repeat (first | exact StF.nil | refine StF.One rfl rfl rfl ?_))); refine (BrF.one rfl rfl ?_ (BrF.one rfl rfl ?_ BrF.nil)); (· (first | refine JL.S1 rfl (c74) rfl trivial rfl ?_ | refine JL.T1 rfl (c74) rfl rfl ?_ | (refine JL.C1 rfl (c74) rfl (fun r hr => ?_); subst hr) | refine JL.S1 rfl (c71) rfl trivial rfl ?_ | refine JL.T1 rfl (c71) rfl rfl ?_ | (refine JL.C1 rfl (c71) rfl (fun r hr => ?_); subst hr)); refine JL.finN ?_; refine JF.Branch 5 [] xk StF.nil (BrF.one rfl rfl ?_ BrF.nil); (· (refine JL.M1 xk rfl rfl ?_); refine JL.finN ?_; refine JF.Branch 7 [] xk StF.nil (BrF.one rfl rfl ?_ BrF.nil); (· (first | refine JL.M0 xk rfl ?_ | refine JL.Q0 xk rfl ?_); refine JL.finN ?_; refine JF.Branch 8 [] xk StF.nil (BrF.one rfl rfl ?_ BrF.nil); (· (first | refine JL.M0 xk rfl ?_ | refine JL.Q0 xk rfl ?_); refine JL.finN ?_; refine JF.Branch 9 [] xk StF.nil (BrF.one rfl rfl ?_ BrF.nil); (· (first | refine JL.M0 xk rfl ?_ | refine JL.Q0 xk rfl ?_); refine JL.finN ?_; refine JF.Done xk StF.nil ?_; ((exact JW.Auto (by conv => lhs; reduce)))))))); (· (refine JL.M1 xk rfl rfl ?_); refine JL.finN ?_; refine JF.Branch 3 [] xk ?_ ?_; (focus (repeat (first | exact StF.nil | refine StF.One rfl rfl rfl ?_))); refine (BrF.one rfl rfl ?_ BrF.nil); (· (first | refine JL.S1 rfl (c74) rfl trivial rfl ?_ | refine JL.T1 rfl (c74) rfl rfl ?_ | (refine JL.C1 rfl (c74) rfl (fun r hr => ?_); subst hr) | refine JL.S1 rfl (c71) rfl trivial rfl ?_ | refine JL.T1 rfl (c71) rfl rfl ?_ | (refine JL.C1 rfl (c71) rfl (fun r hr => ?_); subst hr)); refine JL.finN ?_; refine JF.Branch 7 [] xk StF.nil (BrF.one rfl rfl ?_ BrF.nil); (· (first | refine JL.M0 xk rfl ?_ | refine JL.Q0 xk rfl ?_); refine JL.finN ?_; refine JF.Branch 8 [] xk StF.nil (BrF.one rfl rfl ?_ BrF.nil); (· (first | refine JL.M0 xk rfl ?_ | refine JL.Q0 xk rfl ?_); refine JL.finN ?_; refine JF.Branch 9 [] xk StF.nil (BrF.one rfl rfl ?_ BrF.nil); (· (first | refine JL.M0 xk rfl ?_ | refine JL.Q0 xk rfl ?_); refine JL.finN ?_; refine JF.Done xk StF.nil ?_; ((exact JW.Auto (by conv => lhs; reduce))))))))); (· (refine JL.M1 xk rfl rfl ?_); refine JL.finN ?_; refine JF.Branch 3 [4] xk ?_ ?_; (focus (repeat (first | exact StF.nil | refine StF.One rfl rfl rfl ?_))); refine (BrF.one rfl rfl ?_ (BrF.one rfl rfl ?_ BrF.nil)); (· (first | refine JL.S1 rfl (c74) rfl trivial rfl ?_ | refine JL.T1 rfl (c74) rfl rfl ?_ | (refine JL.C1 rfl (c74) rfl (fun r hr => ?_); subst hr) | refine JL.S1 rfl (c71) rfl trivial rfl ?_ | refine JL.T1 rfl (c71) rfl rfl ?_ | (refine JL.C1 rfl (c71) rfl (fun r hr => ?_); subst hr)); refine JL.finN ?_; refine JF.Branch 4 [] xk StF.nil (BrF.one rfl rfl ?_ BrF.nil); (· (refine JL.M1 xk rfl rfl ?_); refine JL.finN ?_; refine JF.Branch 7 [] xk StF.nil (BrF.one rfl rfl ?_ BrF.nil); (· (first | refine JL.M0 xk rfl ?_ | refine JL.Q0 xk rfl ?_); refine JL.finN ?_; refine JF.Branch 8 [] xk StF.nil (BrF.one rfl rfl ?_ BrF.nil); (· (first | refine JL.M0 xk rfl ?_ | refine JL.Q0 xk rfl ?_); refine JL.finN ?_; refine JF.Branch 9 [] xk StF.nil (BrF.one rfl rfl ?_ BrF.nil); (· (first | refine JL.M0 xk rfl ?_ | refine JL.Q0 xk rfl ?_); refine JL.finN ?_; refine JF.Done xk StF.nil ?_; ((exact JW.Auto (by conv => lhs; reduce)))))))); (· (refine JL.M1 xk rfl rfl ?_); refine JL.finN ?_; refine JF.Branch 3 [] xk ?_ ?_; (focus (repeat (first | exact StF.nil | refine StF.One rfl rfl rfl ?_))); refine (BrF.one rfl rfl ?_ BrF.nil); (· (first | refine JL.S1 rfl (c74) rfl trivial rfl ?_ | refine JL.T1 rfl (c74) rfl rfl ?_ | (refine JL.C1 rfl (c74) rfl (fun r hr => ?_); subst hr) | refine JL.S1 rfl (c71) rfl trivial rfl ?_ | refine JL.T1 rfl (c71) rfl rfl ?_ | (refine JL.C1 rfl (c71) rfl (fun r hr => ?_); subst hr)); refine JL.finN ?_; refine JF.Branch 7 [] xk StF.nil (BrF.one rfl rfl ?_ BrF.nil); (· (first | refine JL.M0 xk rfl ?_ | refine JL.Q0 xk rfl ?_); refine JL.finN ?_; refine JF.Branch 8 [] xk StF.nil (BrF.one rfl rfl ?_ BrF.nil); (· (first | refine JL.M0 xk rfl ?_ | refine JL.Q0 xk rfl ?_); refine JL.finN ?_; refine JF.Branch 9 [] xk StF.nil (BrF.one rfl rfl ?_ BrF.nil); (· (first | refine JL.M0 xk rfl ?_ | refine JL.Q0 xk rfl ?_); refine JL.finN ?_; refine JF.Done xk StF.nil ?_; ((exact JW.Auto (by conv => lhs; reduce))))))))))); (· (refine JL.M1 xk rfl rfl ?_); refine JL.finN ?_; refine JF.Branch 2 [5, 6] xk ?_ ?_; (focus (repeat (first | exact StF.nil | refine StF.One rfl rfl rfl ?_))); refine (BrF.one rfl rfl ?_ (BrF.one rfl rfl ?_ (BrF.one rfl rfl ?_ BrF.nil))); (· (first | refine JL.S1 rfl (c74) rfl trivial rfl ?_ | refine JL.T1 rfl (c74) rfl rfl ?_ | (refine JL.C1 rfl (c74) rfl (fun r hr => ?_); subst hr) | refine JL.S1 rfl (c71) rfl trivial rfl ?_ | refine JL.T1 rfl (c71) rfl rfl ?_ | (refine JL.C1 rfl (c71) rfl (fun r hr => ?_); subst hr)); refine JL.finN ?_; refine JF.Branch 3 [5, 6] xk ?_ ?_; (focus (repeat (first | exact StF.nil | refine StF.One rfl rfl rfl ?_))); refine (BrF.one rfl rfl ?_ (BrF.one rfl rfl ?_ (BrF.one rfl rfl ?_ BrF.nil))); (· (first | refine JL.S1 rfl (c74) rfl trivial rfl ?_ | refine JL.T1 rfl (c74) rfl rfl ?_ | (refine JL.C1 rfl (c74) rfl (fun r hr => ?_); subst hr) | refine JL.S1 rfl (c71) rfl trivial rfl ?_ | refine JL.T1 rfl (c71) rfl rfl ?_ | (refine JL.C1 rfl (c71) rfl (fun r hr => ?_); subst hr)); refine JL.finN ?_; refine JF.Branch 5 [6] xk StF.nil (BrF.one rfl rfl ?_ (BrF.one rfl rfl ?_ BrF.nil)); (· (refine JL.M1 xk rfl rfl ?_); refine JL.finN ?_; refine JF.Branch 6 [] xk StF.nil (BrF.one rfl rfl ?_ BrF.nil); (· (refine JL.M1 xk rfl rfl ?_); refine JL.finN ?_; refine JF.Branch 7 [] xk StF.nil (BrF.one rfl rfl ?_ BrF.nil); (· (first | refine JL.M0 xk rfl ?_ | refine JL.Q0 xk rfl ?_); refine JL.finN ?_; refine JF.Branch 8 [] xk StF.nil (BrF.one rfl rfl ?_ BrF.nil); (· (first | refine JL.M0 xk rfl ?_ | refine JL.Q0 xk rfl ?_); refine JL.finN ?_; refine JF.Branch 9 [] xk StF.nil (BrF.one rfl rfl ?_ BrF.nil); (· (first | refine JL.M0 xk rfl ?_ | refine JL.Q0 xk rfl ?_); refine JL.finN ?_; refine JF.Done xk StF.nil ?_; ((exact JW.Auto (by conv => lhs; reduce)))))))); (· (refine JL.M1 xk rfl rfl ?_); refine JL.finN ?_; refine JF.Branch 5 [] xk StF.nil (BrF.one rfl rfl ?_ BrF.nil); (· (refine JL.M1 xk rfl rfl ?_); refine JL.finN ?_; refine JF.Branch 7 [] xk StF.nil (BrF.one rfl rfl ?_ BrF.nil); (· (first | refine JL.M0 xk rfl ?_ | refine JL.Q0 xk rfl ?_); refine JL.finN ?_; refine JF.Branch 8 [] xk StF.nil (BrF.one rfl rfl ?_ BrF.nil); (· (first | refine JL.M0 xk rfl ?_ | refine JL.Q0 xk rfl ?_); refine JL.finN ?_; refine JF.Branch 9 [] xk StF.nil (BrF.one rfl rfl ?_ BrF.nil); (· (first | refine JL.M0 xk rfl ?_ | refine JL.Q0 xk rfl ?_); refine JL.finN ?_; refine JF.Done xk StF.nil ?_; ((exact JW.Auto (by conv => lhs; reduce))))))))); (· (refine JL.M1 xk rfl rfl ?_); refine JL.finN ?_; refine JF.Branch 3 [6] xk ?_ ?_; (focus (repeat (first | exact StF.nil | refine StF.One rfl rfl rfl ?_))); refine (BrF.one rfl rfl ?_ (BrF.one rfl rfl ?_ BrF.nil)); (· (first | refine JL.S1 rfl (c74) rfl trivial rfl ?_ | refine JL.T1 rfl (c74) rfl rfl ?_ | (refine JL.C1 rfl (c74) rfl (fun r hr => ?_); subst hr) | refine JL.S1 rfl (c71) rfl trivial rfl ?_ | refine JL.T1 rfl (c71) rfl rfl ?_ | (refine JL.C1 rfl (c71) rfl (fun r hr => ?_); subst hr)); refine JL.finN ?_; refine JF.Branch 6 [] xk StF.nil (BrF.one rfl rfl ?_ BrF.nil); (· (refine JL.M1 xk rfl rfl ?_); refine JL.finN ?_; refine JF.Branch 7 [] xk StF.nil (BrF.one rfl rfl ?_ BrF.nil); (· (first | refine JL.M0 xk rfl ?_ | refine JL.Q0 xk rfl ?_); refine JL.finN ?_; refine JF.Branch 8 [] xk StF.nil (BrF.one rfl rfl ?_ BrF.nil); (· (first | refine JL.M0 xk rfl ?_ | refine JL.Q0 xk rfl ?_); refine JL.finN ?_; refine JF.Branch 9 [] xk StF.nil (BrF.one rfl rfl ?_ BrF.nil); (· (first | refine JL.M0 xk rfl ?_ | refine JL.Q0 xk rfl ?_); refine JL.finN ?_; refine JF.Done xk StF.nil ?_; ((exact JW.Auto (by conv => lhs; reduce)))))))); (· (refine JL.M1 xk rfl rfl ?_); refine JL.finN ?_; refine JF.Branch 3 [] xk ?_ ?_; (focus (repeat (first | exact StF.nil | refine StF.One rfl rfl rfl ?_))); refine (BrF.one rfl rfl ?_ BrF.nil); (· (first | refine JL.S1 rfl (c74) rfl trivial rfl ?_ | refine JL.T1 rfl (c74) rfl rfl ?_ | (refine JL.C1 rfl (c74) rfl (fun r hr => ?_); subst hr) | refine JL.S1 rfl (c71) rfl trivial rfl ?_ | refine JL.T1 rfl (c71) rfl rfl ?_ | (refine JL.C1 rfl (c71) rfl (fun r hr => ?_); subst hr)); refine JL.finN ?_; refine JF.Branch 7 [] xk StF.nil (BrF.one rfl rfl ?_ BrF.nil); (· (first | refine JL.M0 xk rfl ?_ | refine JL.Q0 xk rfl ?_); refine JL.finN ?_; refine JF.Branch 8 [] xk StF.nil (BrF.one rfl rfl ?_ BrF.nil); (· (first | refine JL.M0 xk rfl ?_ | refine JL.Q0 xk rfl ?_); refine JL.finN ?_; refine JF.Branch 9 [] xk StF.nil (BrF.one rfl rfl ?_ BrF.nil); (· (first | refine JL.M0 xk rfl ?_ | refine JL.Q0 xk rfl ?_); refine JL.finN ?_; refine JF.Done xk StF.nil ?_; ((exact JW.Auto (by conv => lhs; reduce))))))))); (· (refine JL.M1 xk rfl rfl ?_); refine JL.finN ?_; refine JF.Branch 3 [5] xk ?_ ?_; (focus (repeat (first | exact StF.nil | refine StF.One rfl rfl rfl ?_))); refine (BrF.one rfl rfl ?_ (BrF.one rfl rfl ?_ BrF.nil)); (· (first | refine JL.S1 rfl (c74) rfl trivial rfl ?_ | refine JL.T1 rfl (c74) rfl rfl ?_ | (refine JL.C1 rfl (c74) rfl (fun r hr => ?_); subst hr) | refine JL.S1 rfl (c71) rfl trivial rfl ?_ | refine JL.T1 rfl (c71) rfl rfl ?_ | (refine JL.C1 rfl (c71) rfl (fun r hr => ?_); subst hr)); refine JL.finN ?_; refine JF.Branch 5 [] xk StF.nil (BrF.one rfl rfl ?_ BrF.nil); (· (refine JL.M1 xk rfl rfl ?_); refine JL.finN ?_; refine JF.Branch 7 [] xk StF.nil (BrF.one rfl rfl ?_ BrF.nil); (· (first | refine JL.M0 xk rfl ?_ | refine JL.Q0 xk rfl ?_); refine JL.finN ?_; refine JF.Branch 8 [] xk StF.nil (BrF.one rfl rfl ?_ BrF.nil); (· (first | refine JL.M0 xk rfl ?_ | refine JL.Q0 xk rfl ?_); refine JL.finN ?_; refine JF.Branch 9 [] xk StF.nil (BrF.one rfl rfl ?_ BrF.nil); (· (first | refine JL.M0 xk rfl ?_ | refine JL.Q0 xk rfl ?_); refine JL.finN ?_; refine JF.Done xk StF.nil ?_; ((exact JW.Auto (by conv => lhs; reduce)))))))); (· (refine JL.M1 xk rfl rfl ?_); refine JL.finN ?_; refine JF.Branch 3 [] xk ?_ ?_; (focus (repeat (first | exact StF.nil | refine StF.One rfl rfl rfl ?_))); refine (BrF.one rfl rfl ?_ BrF.nil); (· (first | refine JL.S1 rfl (c74) rfl trivial rfl ?_ | refine JL.T1 rfl (c74) rfl rfl ?_ | (refine JL.C1 rfl (c74) rfl (fun r hr => ?_); subst hr) | refine JL.S1 rfl (c71) rfl trivial rfl ?_ | refine JL.T1 rfl (c71) rfl rfl ?_ | (refine JL.C1 rfl (c71) rfl (fun r hr => ?_); subst hr)); refine JL.finN ?_; refine JF.Branch 7 [] xk StF.nil (BrF.one rfl rfl ?_ BrF.nil); (· (first | refine JL.M0 xk rfl ?_ | refine JL.Q0 xk rfl ?_); refine JL.finN ?_; refine JF.Branch 8 [] xk StF.nil (BrF.one rfl rfl ?_ BrF.nil); (· (first | refine JL.M0 xk rfl ?_ | refine JL.Q0 xk rfl ?_); refine JL.finN ?_; refine JF.Branch 9 [] xk StF.nil (BrF.one rfl rfl ?_ BrF.nil); (· (first | refine JL.M0 xk rfl ?_ | refine JL.Q0 xk rfl ?_); refine JL.finN ?_; refine JF.Done xk StF.nil ?_; ((exact JW.Auto (by conv => lhs; reduce)))))))))); (· (refine JL.M1 xk rfl rfl ?_); refine JL.finN ?_; refine JF.Branch 2 [6] xk ?_ ?_; (focus (repeat (first | exact StF.nil | refine StF.One rfl rfl rfl ?_))); refine (BrF.one rfl rfl ?_ (BrF.one rfl rfl ?_ BrF.nil)); (· (first | refine JL.S1 rfl (c74) rfl trivial rfl ?_ | refine JL.T1 rfl (c74) rfl rfl ?_ | (refine JL.C1 rfl (c74) rfl (fun r hr => ?_); subst hr) | refine JL.S1 rfl (c71) rfl trivial rfl ?_ | refine JL.T1 rfl (c71) rfl rfl ?_ | (refine JL.C1 rfl (c71) rfl (fun r hr => ?_); subst hr)); refine JL.finN ?_; refine JF.Branch 3 [6] xk ?_ ?_; (focus (repeat (first | exact StF.nil | refine StF.One rfl rfl rfl ?_))); refine (BrF.one rfl rfl ?_ (BrF.one rfl rfl ?_ BrF.nil)); (· (first | refine JL.S1 rfl (c74) rfl trivial rfl ?_ | refine JL.T1 rfl (c74) rfl rfl ?_ | (refine JL.C1 rfl (c74) rfl (fun r hr => ?_); subst hr) | refine JL.S1 rfl (c71) rfl trivial rfl ?_ | refine JL.T1 rfl (c71) rfl rfl ?_ | (refine JL.C1 rfl (c71) rfl (fun r hr => ?_); subst hr)); refine JL.finN ?_; refine JF.Branch 6 [] xk StF.nil (BrF.one rfl rfl ?_ BrF.nil); (· (refine JL.M1 xk rfl rfl ?_); refine JL.finN ?_; refine JF.Branch 7 [] xk StF.nil (BrF.one rfl rfl ?_ BrF.nil); (· (first | refine JL.M0 xk rfl ?_ | refine JL.Q0 xk rfl ?_); refine JL.finN ?_; refine JF.Branch 8 [] xk StF.nil (BrF.one rfl rfl ?_ BrF.nil); (· (first | refine JL.M0 xk rfl ?_ | refine JL.Q0 xk rfl ?_); refine JL.finN ?_; refine JF.Branch 9 [] xk StF.nil (BrF.one rfl rfl ?_ BrF.nil); (· (first | refine JL.M0 xk rfl ?_ | refine JL.Q0 xk rfl ?_); refine JL.finN ?_; refine JF.Done xk StF.nil ?_; ((exact JW.Auto (by conv => lhs; reduce)))))))); (· (refine JL.M1 xk rfl rfl ?_); refine JL.finN ?_; refine JF.Branch 3 [] xk ?_ ?_; (focus (repeat (first | exact StF.nil | refine StF.One rfl rfl rfl ?_))); refine (BrF.one rfl rfl ?_ BrF.nil); (· (first | refine JL.S1 rfl (c74) rfl trivial rfl ?_ | refine JL.T1 rfl (c74) rfl rfl ?_ | (refine JL.C1 rfl (c74) rfl (fun r hr => ?_); subst hr) | refine JL.S1 rfl (c71) rfl trivial rfl ?_ | refine JL.T1 rfl (c71) rfl rfl ?_ | (refine JL.C1 rfl (c71) rfl (fun r hr => ?_); subst hr)); refine JL.finN ?_; refine JF.Branch 7 [] xk StF.nil (BrF.one rfl rfl ?_ BrF.nil); (· (first | refine JL.M0 xk rfl ?_ | refine JL.Q0 xk rfl ?_); refine JL.finN ?_; refine JF.Branch 8 [] xk StF.nil (BrF.one rfl rfl ?_ BrF.nil); (· (first | refine JL.M0 xk rfl ?_ | refine JL.Q0 xk rfl ?_); refine JL.finN ?_; refine JF.Branch 9 [] xk StF.nil (BrF.one rfl rfl ?_ BrF.nil); (· (first | refine JL.M0 xk rfl ?_ | refine JL.Q0 xk rfl ?_); refine JL.finN ?_; refine JF.Done xk StF.nil ?_; ((exact JW.Auto (by conv => lhs; reduce))))))))); (· (refine JL.M1 xk rfl rfl ?_); refine JL.finN ?_; refine JF.Branch 2 [] xk ?_ ?_; (focus (repeat (first | exact StF.nil | refine StF.One rfl rfl rfl ?_))); refine (BrF.one rfl rfl ?_ BrF.nil); (· (first | refine JL.S1 rfl (c74) rfl trivial rfl ?_ | refine JL.T1 rfl (c74) rfl rfl ?_ | (refine JL.C1 rfl (c74) rfl (fun r hr => ?_); subst hr) | refine JL.S1 rfl (c71) rfl trivial rfl ?_ | refine JL.T1 rfl (c71) rfl rfl ?_ | (refine JL.C1 rfl (c71) rfl (fun r hr => ?_); subst hr)); refine JL.finN ?_; refine JF.Branch 3 [] xk ?_ ?_; (focus (repeat (first | exact StF.nil | refine StF.One rfl rfl rfl ?_))); refine (BrF.one rfl rfl ?_ BrF.nil); (· (first | refine JL.S1 rfl (c74) rfl trivial rfl ?_ | refine JL.T1 rfl (c74) rfl rfl ?_ | (refine JL.C1 rfl (c74) rfl (fun r hr => ?_); subst hr) | refine JL.S1 rfl (c71) rfl trivial rfl ?_ | refine JL.T1 rfl (c71) rfl rfl ?_ | (refine JL.C1 rfl (c71) rfl (fun r hr => ?_); subst hr)); refine JL.finN ?_; refine JF.Branch 7 [] xk StF.nil (BrF.one rfl rfl ?_ BrF.nil); (· (first | refine JL.M0 xk rfl ?_ | refine JL.Q0 xk rfl ?_); refine JL.finN ?_; refine JF.Branch 8 [] xk StF.nil (BrF.one rfl rfl ?_ BrF.nil); (· (first | refine JL.M0 xk rfl ?_ | refine JL.Q0 xk rfl ?_); refine JL.finN ?_; refine JF.Branch 9 [] xk StF.nil (BrF.one rfl rfl ?_ BrF.nil); (· (first | refine JL.M0 xk rfl ?_ | refine JL.Q0 xk rfl ?_); refine JL.finN ?_; refine JF.Done xk StF.nil ?_; ((exact JW.Auto (by conv => lhs; reduce)))))))))); (· (refine JL.M1 xk rfl rfl ?_); refine JL.finN ?_; refine JF.Branch 2 [5] xk ?_ ?_; (focus (repeat (first | exact StF.nil | refine StF.One rfl rfl rfl ?_))); refine (BrF.one rfl rfl ?_ (BrF.one rfl rfl ?_ BrF.nil)); (· (first | refine JL.S1 rfl (c74) rfl trivial rfl ?_ | refine JL.T1 rfl (c74) rfl rfl ?_ | (refine JL.C1 rfl (c74) rfl (fun r hr => ?_); subst hr) | refine JL.S1 rfl (c71) rfl trivial rfl ?_ | refine JL.T1 rfl (c71) rfl rfl ?_ | (refine JL.C1 rfl (c71) rfl (fun r hr => ?_); subst hr)); refine JL.finN ?_; refine JF.Branch 3 [5] xk ?_ ?_; (focus (repeat (first | exact StF.nil | refine StF.One rfl rfl rfl ?_))); refine (BrF.one rfl rfl ?_ (BrF.one rfl rfl ?_ BrF.nil)); (· (first | refine JL.S1 rfl (c74) rfl trivial rfl ?_ | refine JL.T1 rfl (c74) rfl rfl ?_ | (refine JL.C1 rfl (c74) rfl (fun r hr => ?_); subst hr) | refine JL.S1 rfl (c71) rfl trivial rfl ?_ | refine JL.T1 rfl (c71) rfl rfl ?_ | (refine JL.C1 rfl (c71) rfl (fun r hr => ?_); subst hr)); refine JL.finN ?_; refine JF.Branch 5 [] xk StF.nil (BrF.one rfl rfl ?_ BrF.nil); (· (refine JL.M1 xk rfl rfl ?_); refine JL.finN ?_; refine JF.Branch 7 [] xk StF.nil (BrF.one rfl rfl ?_ BrF.nil); (· (first | refine JL.M0 xk rfl ?_ | refine JL.Q0 xk rfl ?_); refine JL.finN ?_; refine JF.Branch 8 [] xk StF.nil (BrF.one rfl rfl ?_ BrF.nil); (· (first | refine JL.M0 xk rfl ?_ | refine JL.Q0 xk rfl ?_); refine JL.finN ?_; refine JF.Branch 9 [] xk StF.nil (BrF.one rfl rfl ?_ BrF.nil); (· (first | refine JL.M0 xk rfl ?_ | refine JL.Q0 xk rfl ?_); refine JL.finN ?_; refine JF.Done xk StF.nil ?_; ((exact JW.Auto (by conv => lhs; reduce)))))))); (· (refine JL.M1 xk rfl rfl ?_); refine JL.finN ?_; refine JF.Branch 3 [] xk ?_ ?_; (focus (repeat (first | exact StF.nil | refine StF.One rfl rfl rfl ?_))); refine (BrF.one rfl rfl ?_ BrF.nil); (· (first | refine JL.S1 rfl (c74) rfl trivial rfl ?_ | refine JL.T1 rfl (c74) rfl rfl ?_ | (refine JL.C1 rfl (c74) rfl (fun r hr => ?_); subst hr) | refine JL.S1 rfl (c71) rfl trivial rfl ?_ | refine JL.T1 rfl (c71) rfl rfl ?_ | (refine JL.C1 rfl (c71) rfl (fun r hr => ?_); subst hr)); refine JL.finN ?_; refine JF.Branch 7 [] xk StF.nil (BrF.one rfl rfl ?_ BrF.nil); (· (first | refine JL.M0 xk rfl ?_ | refine JL.Q0 xk rfl ?_); refine JL.finN ?_; refine JF.Branch 8 [] xk StF.nil (BrF.one rfl rfl ?_ BrF.nil); (· (first | refine JL.M0 xk rfl ?_ | refine JL.Q0 xk rfl ?_); refine JL.finN ?_; refine JF.Branch 9 [] xk StF.nil (BrF.one rfl rfl ?_ BrF.nil); (· (first | refine JL.M0 xk rfl ?_ | refine JL.Q0 xk rfl ?_); refine JL.finN ?_; refine JF.Done xk StF.nil ?_; ((exact JW.Auto (by conv => lhs; reduce))))))))); (· (refine JL.M1 xk rfl rfl ?_); refine JL.finN ?_; refine JF.Branch 2 [] xk ?_ ?_; (focus (repeat (first | exact StF.nil | refine StF.One rfl rfl rfl ?_))); refine (BrF.one rfl rfl ?_ BrF.nil); (· (first | refine JL.S1 rfl (c74) rfl trivial rfl ?_ | refine JL.T1 rfl (c74) rfl rfl ?_ | (refine JL.C1 rfl (c74) rfl (fun r hr => ?_); subst hr) | refine JL.S1 rfl (c71) rfl trivial rfl ?_ | refine JL.T1 rfl (c71) rfl rfl ?_ | (refine JL.C1 rfl (c71) rfl (fun r hr => ?_); subst hr)); refine JL.finN ?_; refine JF.Branch 3 [] xk ?_ ?_; (focus (repeat (first | exact StF.nil | refine StF.One rfl rfl rfl ?_))); refine (BrF.one rfl rfl ?_ BrF.nil); (· (first | refine JL.S1 rfl (c74) rfl trivial rfl ?_ | refine JL.T1 rfl (c74) rfl rfl ?_ | (refine JL.C1 rfl (c74) rfl (fun r hr => ?_); subst hr) | refine JL.S1 rfl (c71) rfl trivial rfl ?_ | refine JL.T1 rfl (c71) rfl rfl ?_ | (refine JL.C1 rfl (c71) rfl (fun r hr => ?_); subst hr)); refine JL.finN ?_; refine JF.Branch 7 [] xk StF.nil (BrF.one rfl rfl ?_ BrF.nil); (· (first | refine JL.M0 xk rfl ?_ | refine JL.Q0 xk rfl ?_); refine JL.finN ?_; refine JF.Branch 8 [] xk StF.nil (BrF.one rfl rfl ?_ BrF.nil); (· (first | refine JL.M0 xk rfl ?_ | refine JL.Q0 xk rfl ?_); refine JL.finN ?_; refine JF.Branch 9 [] xk StF.nil (BrF.one rfl rfl ?_ BrF.nil); (· (first | refine JL.M0 xk rfl ?_ | refine JL.Q0 xk rfl ?_); refine JL.finN ?_; refine JF.Done xk StF.nil ?_; ((exact JW.Auto (by conv => lhs; reduce))))))))))); (· (refine JL.M1 xk rfl rfl ?_); refine JL.finN ?_; refine JF.Branch 2 [4, 6] xk ?_ ?_; (focus (repeat (first | exact StF.nil | refine StF.One rfl rfl rfl ?_))); refine (BrF.one rfl rfl ?_ (BrF.one rfl rfl ?_ (BrF.one rfl rfl ?_ BrF.nil))); (· (first | refine JL.S1 rfl (c74) rfl trivial rfl ?_ | refine JL.T1 rfl (c74) rfl rfl ?_ | (refine JL.C1 rfl (c74) rfl (fun r hr => ?_); subst hr) | refine JL.S1 rfl (c71) rfl trivial rfl ?_ | refine JL.T1 rfl (c71) rfl rfl ?_ | (refine JL.C1 rfl (c71) rfl (fun r hr => ?_); subst hr)); refine JL.finN ?_; refine JF.Branch 3 [4, 6] xk ?_ ?_; (focus (repeat (first | exact StF.nil | refine StF.One rfl rfl rfl ?_))); refine (BrF.one rfl rfl ?_ (BrF.one rfl rfl ?_ (BrF.one rfl rfl ?_ BrF.nil))); (· (first | refine JL.S1 rfl (c74) rfl trivial rfl ?_ | refine JL.T1 rfl (c74) rfl rfl ?_ | (refine JL.C1 rfl (c74) rfl (fun r hr => ?_); subst hr) | refine JL.S1 rfl (c71) rfl trivial rfl ?_ | refine JL.T1 rfl (c71) rfl rfl ?_ | (refine JL.C1 rfl (c71) rfl (fun r hr => ?_); subst hr)); refine JL.finN ?_; refine JF.Branch 4 [6] xk StF.nil (BrF.one rfl rfl ?_ (BrF.one rfl rfl ?_ BrF.nil)); (· (refine JL.M1 xk rfl rfl ?_); refine JL.finN ?_; refine JF.Branch 6 [] xk StF.nil (BrF.one rfl rfl ?_ BrF.nil); (· (refine JL.M1 xk rfl rfl ?_); refine JL.finN ?_; refine JF.Branch 7 [] xk StF.nil (BrF.one rfl rfl ?_ BrF.nil); (· (first | refine JL.M0 xk rfl ?_ | refine JL.Q0 xk rfl ?_); refine JL.finN ?_; refine JF.Branch 8 [] xk StF.nil (BrF.one rfl rfl ?_ BrF.nil); (· (first | refine JL.M0 xk rfl ?_ | refine JL.Q0 xk rfl ?_); refine JL.finN ?_; refine JF.Branch 9 [] xk StF.nil (BrF.one rfl rfl ?_ BrF.nil); (· (first | refine JL.M0 xk rfl ?_ | refine JL.Q0 xk rfl ?_); refine JL.finN ?_; refine JF.Done xk StF.nil ?_; ((exact JW.Auto (by conv => lhs; reduce)))))))); (· (refine JL.M1 xk rfl rfl ?_); refine JL.finN ?_; refine JF.Branch 4 [] xk StF.nil (BrF.one rfl rfl ?_ BrF.nil); (· (refine JL.M1 xk rfl rfl ?_); refine JL.finN ?_; refine JF.Branch 7 [] xk StF.nil (BrF.one rfl rfl ?_ BrF.nil); (· (first | refine JL.M0 xk rfl ?_ | refine JL.Q0 xk rfl ?_); refine JL.finN ?_; refine JF.Branch 8 [] xk StF.nil (BrF.one rfl rfl ?_ BrF.nil); (· (first | refine JL.M0 xk rfl ?_ | refine JL.Q0 xk rfl ?_); refine JL.finN ?_; refine JF.Branch 9 [] xk StF.nil (BrF.one rfl rfl ?_ BrF.nil); (· (first | refine JL.M0 xk rfl ?_ | refine JL.Q0 xk rfl ?_); refine JL.finN ?_; refine JF.Done xk StF.nil ?_; ((exact JW.Auto (by conv => lhs; reduce))))))))); (· (refine JL.M1 xk rfl rfl ?_); refine JL.finN ?_; refine JF.Branch 3 [6] xk ?_ ?_; (focus (repeat (first | exact StF.nil | refine StF.One rfl rfl rfl ?_))); refine (BrF.one rfl rfl ?_ (BrF.one rfl rfl ?_ BrF.nil)); (· (first | refine JL.S1 rfl (c74) rfl trivial rfl ?_ | refine JL.T1 rfl (c74) rfl rfl ?_ | (refine JL.C1 rfl (c74) rfl (fun r hr => ?_); subst hr) | refine JL.S1 rfl (c71) rfl trivial rfl ?_ | refine JL.T1 rfl (c71) rfl rfl ?_ | (refine JL.C1 rfl (c71) rfl (fun r hr => ?_); subst hr)); refine JL.finN ?_; refine JF.Branch 6 [] xk StF.nil (BrF.one rfl rfl ?_ BrF.nil); (· (refine JL.M1 xk rfl rfl ?_); refine JL.finN ?_; refine JF.Branch 7 [] xk StF.nil (BrF.one rfl rfl ?_ BrF.nil); (· (first | refine JL.M0 xk rfl ?_ | refine JL.Q0 xk rfl ?_); refine JL.finN ?_; refine JF.Branch 8 [] xk StF.nil (BrF.one rfl rfl ?_ BrF.nil); (· (first | refine JL.M0 xk rfl ?_ | refine JL.Q0 xk rfl ?_); refine JL.finN ?_; refine JF.Branch 9 [] xk StF.nil (BrF.one rfl rfl ?_ BrF.nil); (· (first | refine JL.M0 xk rfl ?_ | refine JL.Q0 xk rfl ?_); refine JL.finN ?_; refine JF.Done xk StF.nil ?_; ((exact JW.Auto (by conv => lhs; reduce)))))))); (· (refine JL.M1 xk rfl rfl ?_); refine JL.finN ?_; refine JF.Branch 3 [] xk ?_ ?_; (focus (repeat (first | exact StF.nil | refine StF.One rfl rfl rfl ?_))); refine (BrF.one rfl rfl ?_ BrF.nil); (· (first | refine JL.S1 rfl (c74) rfl trivial rfl ?_ | refine JL.T1 rfl (c74) rfl rfl ?_ | (refine JL.C1 rfl (c74) rfl (fun r hr => ?_); subst hr) | refine JL.S1 rfl (c71) rfl trivial rfl ?_ | refine JL.T1 rfl (c71) rfl rfl ?_ | (refine JL.C1 rfl (c71) rfl (fun r hr => ?_); subst hr)); refine JL.finN ?_; refine JF.Branch 7 [] xk StF.nil (BrF.one rfl rfl ?_ BrF.nil); (· (first | refine JL.M0 xk rfl ?_ | refine JL.Q0 xk rfl ?_); refine JL.finN ?_; refine JF.Branch 8 [] xk StF.nil (BrF.one rfl rfl ?_ BrF.nil); (· (first | refine JL.M0 xk rfl ?_ | refine JL.Q0 xk rfl ?_); refine JL.finN ?_; refine JF.Branch 9 [] xk StF.nil (BrF.one rfl rfl ?_ BrF.nil); (· (first | refine JL.M0 xk rfl ?_ | refine JL.Q0 xk rfl ?_); refine JL.finN ?_; refine JF.Done xk StF.nil ?_; ((exact JW.Auto (by conv => lhs; reduce))))))))); (· (refine JL.M1 xk rfl rfl ?_); refine JL.finN ?_; refine JF.Branch 3 [4] xk ?_ ?_; (focus (repeat (first | exact StF.nil | refine StF.One rfl rfl rfl ?_))); refine (BrF.one rfl rfl ?_ (BrF.one rfl rfl ?_ BrF.nil)); (· (first | refine JL.S1 rfl (c74) rfl trivial rfl ?_ | refine JL.T1 rfl (c74) rfl rfl ?_ | (refine JL.C1 rfl (c74) rfl (fun r hr => ?_); subst hr) | refine JL.S1 rfl (c71) rfl trivial rfl ?_ | refine JL.T1 rfl (c71) rfl rfl ?_ | (refine JL.C1 rfl (c71) rfl (fun r hr => ?_); subst hr)); refine JL.finN ?_; refine JF.Branch 4 [] xk StF.nil (BrF.one rfl rfl ?_ BrF.nil); (· (refine JL.M1 xk rfl rfl ?_); refine JL.finN ?_; refine JF.Branch 7 [] xk StF.nil (BrF.one rfl rfl ?_ BrF.nil); (· (first | refine JL.M0 xk rfl ?_ | refine JL.Q0 xk rfl ?_); refine JL.finN ?_; refine JF.Branch 8 [] xk StF.nil (BrF.one rfl rfl ?_ BrF.nil); (· (first | refine JL.M0 xk rfl ?_ | refine JL.Q0 xk rfl ?_); refine JL.finN ?_; refine JF.Branch 9 [] xk StF.nil (BrF.one rfl rfl ?_ BrF.nil); (· (first | refine JL.M0 xk rfl ?_ | refine JL.Q0 xk rfl ?_); refine JL.finN ?_; refine JF.Done xk StF.nil ?_; ((exact JW.Auto (by conv => lhs; reduce)))))))); (· (refine JL.M1 xk rfl rfl ?_); refine JL.finN ?_; refine JF.Branch 3 [] xk ?_ ?_; (focus (repeat (first | exact StF.nil | refine StF.One rfl rfl rfl ?_))); refine (BrF.one rfl rfl ?_ BrF.nil); (· (first | refine JL.S1 rfl (c74) rfl trivial rfl ?_ | refine JL.T1 rfl (c74) rfl rfl ?_ | (refine JL.C1 rfl (c74) rfl (fun r hr => ?_); subst hr) | refine JL.S1 rfl (c71) rfl trivial rfl ?_ | refine JL.T1 rfl (c71) rfl rfl ?_ | (refine JL.C1 rfl (c71) rfl (fun r hr => ?_); subst hr)); refine JL.finN ?_; refine JF.Branch 7 [] xk StF.nil (BrF.one rfl rfl ?_ BrF.nil); (· (first | refine JL.M0 xk rfl ?_ | refine JL.Q0 xk rfl ?_); refine JL.finN ?_; refine JF.Branch 8 [] xk StF.nil (BrF.one rfl rfl ?_ BrF.nil); (· (first | refine JL.M0 xk rfl ?_ | refine JL.Q0 xk rfl ?_); refine JL.finN ?_; refine JF.Branch 9 [] xk StF.nil (BrF.one rfl rfl ?_ BrF.nil); (· (first | refine JL.M0 xk rfl ?_ | refine JL.Q0 xk rfl ?_); refine JL.finN ?_; refine JF.Done xk StF.nil ?_; ((exact JW.Auto (by conv => lhs; reduce)))))))))); (· (refine JL.M1 xk rfl rfl ?_); refine JL.finN ?_; refine JF.Branch 2 [6] xk ?_ ?_; (focus (repeat (first | exact StF.nil | refine StF.One rfl rfl rfl ?_))); refine (BrF.one rfl rfl ?_ (BrF.one rfl rfl ?_ BrF.nil)); (· (first | refine JL.S1 rfl (c74) rfl trivial rfl ?_ | refine JL.T1 rfl (c74) rfl rfl ?_ | (refine JL.C1 rfl (c74) rfl (fun r hr => ?_); subst hr) | refine JL.S1 rfl (c71) rfl trivial rfl ?_ | refine JL.T1 rfl (c71) rfl rfl ?_ | (refine JL.C1 rfl (c71) rfl (fun r hr => ?_); subst hr)); refine JL.finN ?_; refine JF.Branch 3 [6] xk ?_ ?_; (focus (repeat (first | exact StF.nil | refine StF.One rfl rfl rfl ?_))); refine (BrF.one rfl rfl ?_ (BrF.one rfl rfl ?_ BrF.nil)); (· (first | refine JL.S1 rfl (c74) rfl trivial rfl ?_ | refine JL.T1 rfl (c74) rfl rfl ?_ | (refine JL.C1 rfl (c74) rfl (fun r hr => ?_); subst hr) | refine JL.S1 rfl (c71) rfl trivial rfl ?_ | refine JL.T1 rfl (c71) rfl rfl ?_ | (refine JL.C1 rfl (c71) rfl (fun r hr => ?_); subst hr)); refine JL.finN ?_; refine JF.Branch 6 [] xk StF.nil (BrF.one rfl rfl ?_ BrF.nil); (· (refine JL.M1 xk rfl rfl ?_); refine JL.finN ?_; refine JF.Branch 7 [] xk StF.nil (BrF.one rfl rfl ?_ BrF.nil); (· (first | refine JL.M0 xk rfl ?_ | refine JL.Q0 xk rfl ?_); refine JL.finN ?_; refine JF.Branch 8 [] xk StF.nil (BrF.one rfl rfl ?_ BrF.nil); (· (first | refine JL.M0 xk rfl ?_ | refine JL.Q0 xk rfl ?_); refine JL.finN ?_; refine JF.Branch 9 [] xk StF.nil (BrF.one rfl rfl ?_ BrF.nil); (· (first | refine JL.M0 xk rfl ?_ | refine JL.Q0 xk rfl ?_); refine JL.finN ?_; refine JF.Done xk StF.nil ?_; ((exact JW.Auto (by conv => lhs; reduce)))))))); (· (refine JL.M1 xk rfl rfl ?_); refine JL.finN ?_; refine JF.Branch 3 [] xk ?_ ?_; (focus (repeat (first | exact StF.nil | refine StF.One rfl rfl rfl ?_))); refine (BrF.one rfl rfl ?_ BrF.nil); (· (first | refine JL.S1 rfl (c74) rfl trivial rfl ?_ | refine JL.T1 rfl (c74) rfl rfl ?_ | (refine JL.C1 rfl (c74) rfl (fun r hr => ?_); subst hr) | refine JL.S1 rfl (c71) rfl trivial rfl ?_ | refine JL.T1 rfl (c71) rfl rfl ?_ | (refine JL.C1 rfl (c71) rfl (fun r hr => ?_); subst hr)); refine JL.finN ?_; refine JF.Branch 7 [] xk StF.nil (BrF.one rfl rfl ?_ BrF.nil); (· (first | refine JL.M0 xk rfl ?_ | refine JL.Q0 xk rfl ?_); refine JL.finN ?_; refine JF.Branch 8 [] xk StF.nil (BrF.one rfl rfl ?_ BrF.nil); (· (first | refine JL.M0 xk rfl ?_ | refine JL.Q0 xk rfl ?_); refine JL.finN ?_; refine JF.Branch 9 [] xk StF.nil (BrF.one rfl rfl ?_ BrF.nil); (· (first | refine JL.M0 xk rfl ?_ | refine JL.Q0 xk rfl ?_); refine JL.finN ?_; refine JF.Done xk StF.nil ?_; ((exact JW.Auto (by conv => lhs; reduce))))))))); (· (refine JL.M1 xk rfl rfl ?_); refine JL.finN ?_; refine JF.Branch 2 [] xk ?_ ?_; (focus (repeat (first | exact StF.nil | refine StF.One rfl rfl rfl ?_))); refine (BrF.one rfl rfl ?_ BrF.nil); (· (first | refine JL.S1 rfl (c74) rfl trivial rfl ?_ | refine JL.T1 rfl (c74) rfl rfl ?_ | (refine JL.C1 rfl (c74) rfl (fun r hr => ?_); subst hr) | refine JL.S1 rfl (c71) rfl trivial rfl ?_ | refine JL.T1 rfl (c71) rfl rfl ?_ | (refine JL.C1 rfl (c71) rfl (fun r hr => ?_); subst hr)); refine JL.finN ?_; refine JF.Branch 3 [] xk ?_ ?_; (focus (repeat (first | exact StF.nil | refine StF.One rfl rfl rfl ?_))); refine (BrF.one rfl rfl ?_ BrF.nil); (· (first | refine JL.S1 rfl (c74) rfl trivial rfl ?_ | refine JL.T1 rfl (c74) rfl rfl ?_ | (refine JL.C1 rfl (c74) rfl (fun r hr => ?_); subst hr) | refine JL.S1 rfl (c71) rfl trivial rfl ?_ | refine JL.T1 rfl (c71) rfl rfl ?_ | (refine JL.C1 rfl (c71) rfl (fun r hr => ?_); subst hr)); refine JL.finN ?_; refine JF.Branch 7 [] xk StF.nil (BrF.one rfl rfl ?_ BrF.nil); (· (first | refine JL.M0 xk rfl ?_ | refine JL.Q0 xk rfl ?_); refine JL.finN ?_; refine JF.Branch 8 [] xk StF.nil (BrF.one rfl rfl ?_ BrF.nil); (· (first | refine JL.M0 xk rfl ?_ | refine JL.Q0 xk rfl ?_); refine JL.finN ?_; refine JF.Branch 9 [] xk StF.nil (BrF.one rfl rfl ?_ BrF.nil); (· (first | refine JL.M0 xk rfl ?_ | refine JL.Q0 xk rfl ?_); refine JL.finN ?_; refine JF.Done xk StF.nil ?_; ((exact JW.Auto (by conv => lhs; reduce)))))))))); (· (refine JL.M1 xk rfl rfl ?_); refine JL.finN ?_; refine JF.Branch 2 [4] xk ?_ ?_; (focus (repeat (first | exact StF.nil | refine StF.One rfl rfl rfl ?_))); refine (BrF.one rfl rfl ?_ (BrF.one rfl rfl ?_ BrF.nil)); (· (first | refine JL.S1 rfl (c74) rfl trivial rfl ?_ | refine JL.T1 rfl (c74) rfl rfl ?_ | (refine JL.C1 rfl (c74) rfl (fun r hr => ?_); subst hr) | refine JL.S1 rfl (c71) rfl trivial rfl ?_ | refine JL.T1 rfl (c71) rfl rfl ?_ | (refine JL.C1 rfl (c71) rfl (fun r hr => ?_); subst hr)); refine JL.finN ?_; refine JF.Branch 3 [4] xk ?_ ?_; (focus (repeat (first | exact StF.nil | refine StF.One rfl rfl rfl ?_))); refine (BrF.one rfl rfl ?_ (BrF.one rfl rfl ?_ BrF.nil)); (· (first | refine JL.S1 rfl (c74) rfl trivial rfl ?_ | refine JL.T1 rfl (c74) rfl rfl ?_ | (refine JL.C1 rfl (c74) rfl (fun r hr => ?_); subst hr) | refine JL.S1 rfl (c71) rfl trivial rfl ?_ | refine JL.T1 rfl (c71) rfl rfl ?_ | (refine JL.C1 rfl (c71) rfl (fun r hr => ?_); subst hr)); refine JL.finN ?_; refine JF.Branch 4 [] xk StF.nil (BrF.one rfl rfl ?_ BrF.nil); (· (refine JL.M1 xk rfl rfl ?_); refine JL.finN ?_; refine JF.Branch 7 [] xk StF.nil (BrF.one rfl rfl ?_ BrF.nil); (· (first | refine JL.M0 xk rfl ?_ | refine JL.Q0 xk rfl ?_); refine JL.finN ?_; refine JF.Branch 8 [] xk StF.nil (BrF.one rfl rfl ?_ BrF.nil); (· (first | refine JL.M0 xk rfl ?_ | refine JL.Q0 xk rfl ?_); refine JL.finN ?_; refine JF.Branch 9 [] xk StF.nil (BrF.one rfl rfl ?_ BrF.nil); (· (first | refine JL.M0 xk rfl ?_ | refine JL.Q0 xk rfl ?_); refine JL.finN ?_; refine JF.Done xk StF.nil ?_; ((exact JW.Auto (by conv => lhs; reduce)))))))); (· (refine JL.M1 xk rfl rfl ?_); refine JL.finN ?_; refine JF.Branch 3 [] xk ?_ ?_; (focus (repeat (first | exact StF.nil | refine StF.One rfl rfl rfl ?_))); refine (BrF.one rfl rfl ?_ BrF.nil); (· (first | refine JL.S1 rfl (c74) rfl trivial rfl ?_ | refine JL.T1 rfl (c74) rfl rfl ?_ | (refine JL.C1 rfl (c74) rfl (fun r hr => ?_); subst hr) | refine JL.S1 rfl (c71) rfl trivial rfl ?_ | refine JL.T1 rfl (c71) rfl rfl ?_ | (refine JL.C1 rfl (c71) rfl (fun r hr => ?_); subst hr)); refine JL.finN ?_; refine JF.Branch 7 [] xk StF.nil (BrF.one rfl rfl ?_ BrF.nil); (· (first | refine JL.M0 xk rfl ?_ | refine JL.Q0 xk rfl ?_); refine JL.finN ?_; refine JF.Branch 8 [] xk StF.nil (BrF.one rfl rfl ?_ BrF.nil); (· (first | refine JL.M0 xk rfl ?_ | refine JL.Q0 xk rfl ?_); refine JL.finN ?_; refine JF.Branch 9 [] xk StF.nil (BrF.one rfl rfl ?_ BrF.nil); (· (first | refine JL.M0 xk rfl ?_ | refine JL.Q0 xk rfl ?_); refine JL.finN ?_; refine JF.Done xk StF.nil ?_; ((exact JW.Auto (by conv => lhs; reduce))))))))); (· (refine JL.M1 xk rfl rfl ?_); refine JL.finN ?_; refine JF.Branch 2 [] xk ?_ ?_; (focus (repeat (first | exact StF.nil | refine StF.One rfl rfl rfl ?_))); refine (BrF.one rfl rfl ?_ BrF.nil); (· (first | refine JL.S1 rfl (c74) rfl trivial rfl ?_ | refine JL.T1 rfl (c74) rfl rfl ?_ | (refine JL.C1 rfl (c74) rfl (fun r hr => ?_); subst hr) | refine JL.S1 rfl (c71) rfl trivial rfl ?_ | refine JL.T1 rfl (c71) rfl rfl ?_ | (refine JL.C1 rfl (c71) rfl (fun r hr => ?_); subst hr)); refine JL.finN ?_; refine JF.Branch 3 [] xk ?_ ?_; (focus (repeat (first | exact StF.nil | refine StF.One rfl rfl rfl ?_))); refine (BrF.one rfl rfl ?_ BrF.nil); (· (first | refine JL.S1 rfl (c74) rfl trivial rfl ?_ | refine JL.T1 rfl (c74) rfl rfl ?_ | (refine JL.C1 rfl (c74) rfl (fun r hr => ?_); subst hr) | refine JL.S1 rfl (c71) rfl trivial rfl ?_ | refine JL.T1 rfl (c71) rfl rfl ?_ | (refine JL.C1 rfl (c71) rfl (fun r hr => ?_); subst hr)); refine JL.finN ?_; refine JF.Branch 7 [] xk StF.nil (BrF.one rfl rfl ?_ BrF.nil); (· (first | refine JL.M0 xk rfl ?_ | refine JL.Q0 xk rfl ?_); refine JL.finN ?_; refine JF.Branch 8 [] xk StF.nil (BrF.one rfl rfl ?_ BrF.nil); (· (first | refine JL.M0 xk rfl ?_ | refine JL.Q0 xk rfl ?_); refine JL.finN ?_; refine JF.Branch 9 [] xk StF.nil (BrF.one rfl rfl ?_ BrF.nil); (· (first | refine JL.M0 xk rfl ?_ | refine JL.Q0 xk rfl ?_); refine JL.finN ?_; refine JF.Done xk StF.nil ?_; ((exact JW.Auto (by conv => lhs; reduce))))))))))); (· (refine JL.M1 xk rfl rfl ?_); refine JL.finN ?_; refine JF.Branch 2 [4, 5] xk ?_ ?_; (focus (repeat (first | exact StF.nil | refine StF.One rfl rfl rfl ?_))); refine (BrF.one rfl rfl ?_ (BrF.one rfl rfl ?_ (BrF.one rfl rfl ?_ BrF.nil))); (· (first | refine JL.S1 rfl (c74) rfl trivial rfl ?_ | refine JL.T1 rfl (c74) rfl rfl ?_ | (refine JL.C1 rfl (c74) rfl (fun r hr => ?_); subst hr) | refine JL.S1 rfl (c71) rfl trivial rfl ?_ | refine JL.T1 rfl (c71) rfl rfl ?_ | (refine JL.C1 rfl (c71) rfl (fun r hr => ?_); subst hr)); refine JL.finN ?_; refine JF.Branch 3 [4, 5] xk ?_ ?_; (focus (repeat (first | exact StF.nil | refine StF.One rfl rfl rfl ?_))); refine (BrF.one rfl rfl ?_ (BrF.one rfl rfl ?_ (BrF.one rfl rfl ?_ BrF.nil))); (· (first | refine JL.S1 rfl (c74) rfl trivial rfl ?_ | refine JL.T1 rfl (c74) rfl rfl ?_ | (refine JL.C1 rfl (c74) rfl (fun r hr => ?_); subst hr) | refine JL.S1 rfl (c71) rfl trivial rfl ?_ | refine JL.T1 rfl (c71) rfl rfl ?_ | (refine JL.C1 rfl (c71) rfl (fun r hr => ?_); subst hr)); refine JL.finN ?_; refine JF.Branch 4 [5] xk StF.nil (BrF.one rfl rfl ?_ (BrF.one rfl rfl ?_ BrF.nil)); (· (refine JL.M1 xk rfl rfl ?_); refine JL.finN ?_; refine JF.Branch 5 [] xk StF.nil (BrF.one rfl rfl ?_ BrF.nil); (· (refine JL.M1 xk rfl rfl ?_); refine JL.finN ?_; refine JF.Branch 7 [] xk StF.nil (BrF.one rfl rfl ?_ BrF.nil); (· (first | refine JL.M0 xk rfl ?_ | refine JL.Q0 xk rfl ?_); refine JL.finN ?_; refine JF.Branch 8 [] xk StF.nil (BrF.one rfl rfl ?_ BrF.nil); (· (first | refine JL.M0 xk rfl ?_ | refine JL.Q0 xk rfl ?_); refine JL.finN ?_; refine JF.Branch 9 [] xk StF.nil (BrF.one rfl rfl ?_ BrF.nil); (· (first | refine JL.M0 xk rfl ?_ | refine JL.Q0 xk rfl ?_); refine JL.finN ?_; refine JF.Done xk StF.nil ?_; ((exact JW.Auto (by conv => lhs; reduce)))))))); (· (refine JL.M1 xk rfl rfl ?_); refine JL.finN ?_; refine JF.Branch 4 [] xk StF.nil (BrF.one rfl rfl ?_ BrF.nil); (· (refine JL.M1 xk rfl rfl ?_); refine JL.finN ?_; refine JF.Branch 7 [] xk StF.nil (BrF.one rfl rfl ?_ BrF.nil); (· (first | refine JL.M0 xk rfl ?_ | refine JL.Q0 xk rfl ?_); refine JL.finN ?_; refine JF.Branch 8 [] xk StF.nil (BrF.one rfl rfl ?_ BrF.nil); (· (first | refine JL.M0 xk rfl ?_ | refine JL.Q0 xk rfl ?_); refine JL.finN ?_; refine JF.Branch 9 [] xk StF.nil (BrF.one rfl rfl ?_ BrF.nil); (· (first | refine JL.M0 xk rfl ?_ | refine JL.Q0 xk rfl ?_); refine JL.finN ?_; refine JF.Done xk StF.nil ?_; ((exact JW.Auto (by conv => lhs; reduce))))))))); (· (refine JL.M1 xk rfl rfl ?_); refine JL.finN ?_; refine JF.Branch 3 [5] xk ?_ ?_; (focus (repeat (first | exact StF.nil | refine StF.One rfl rfl rfl ?_))); refine (BrF.one rfl rfl ?_ (BrF.one rfl rfl ?_ BrF.nil)); (· (first | refine JL.S1 rfl (c74) rfl trivial rfl ?_ | refine JL.T1 rfl (c74) rfl rfl ?_ | (refine JL.C1 rfl (c74) rfl (fun r hr => ?_); subst hr) | refine JL.S1 rfl (c71) rfl trivial rfl ?_ | refine JL.T1 rfl (c71) rfl rfl ?_ | (refine JL.C1 rfl (c71) rfl (fun r hr => ?_); subst hr)); refine JL.finN ?_; refine JF.Branch 5 [] xk StF.nil (BrF.one rfl rfl ?_ BrF.nil); (· (refine JL.M1 xk rfl rfl ?_); refine JL.finN ?_; refine JF.Branch 7 [] xk StF.nil (BrF.one rfl rfl ?_ BrF.nil); (· (first | refine JL.M0 xk rfl ?_ | refine JL.Q0 xk rfl ?_); refine JL.finN ?_; refine JF.Branch 8 [] xk StF.nil (BrF.one rfl rfl ?_ BrF.nil); (· (first | refine JL.M0 xk rfl ?_ | refine JL.Q0 xk rfl ?_); refine JL.finN ?_; refine JF.Branch 9 [] xk StF.nil (BrF.one rfl rfl ?_ BrF.nil); (· (first | refine JL.M0 xk rfl ?_ | refine JL.Q0 xk rfl ?_); refine JL.finN ?_; refine JF.Done xk StF.nil ?_; ((exact JW.Auto (by conv => lhs; reduce)))))))); (· (refine JL.M1 xk rfl rfl ?_); refine JL.finN ?_; refine JF.Branch 3 [] xk ?_ ?_; (focus (repeat (first | exact StF.nil | refine StF.One rfl rfl rfl ?_))); refine (BrF.one rfl rfl ?_ BrF.nil); (· (first | refine JL.S1 rfl (c74) rfl trivial rfl ?_ | refine JL.T1 rfl (c74) rfl rfl ?_ | (refine JL.C1 rfl (c74) rfl (fun r hr => ?_); subst hr) | refine JL.S1 rfl (c71) rfl trivial rfl ?_ | refine JL.T1 rfl (c71) rfl rfl ?_ | (refine JL.C1 rfl (c71) rfl (fun r hr => ?_); subst hr)); refine JL.finN ?_; refine JF.Branch 7 [] xk StF.nil (BrF.one rfl rfl ?_ BrF.nil); (· (first | refine JL.M0 xk rfl ?_ | refine JL.Q0 xk rfl ?_); refine JL.finN ?_; refine JF.Branch 8 [] xk StF.nil (BrF.one rfl rfl ?_ BrF.nil); (· (first | refine JL.M0 xk rfl ?_ | refine JL.Q0 xk rfl ?_); refine JL.finN ?_; refine JF.Branch 9 [] xk StF.nil (BrF.one rfl rfl ?_ BrF.nil); (· (first | refine JL.M0 xk rfl ?_ | refine JL.Q0 xk rfl ?_); refine JL.finN ?_; refine JF.Done xk StF.nil ?_; ((exact JW.Auto (by conv => lhs; reduce))))))))); (· (refine JL.M1 xk rfl rfl ?_); refine JL.finN ?_; refine JF.Branch 3 [4] xk ?_ ?_; (focus (repeat (first | exact StF.nil | refine StF.One rfl rfl rfl ?_))); refine (BrF.one rfl rfl ?_ (BrF.one rfl rfl ?_ BrF.nil)); (· (first | refine JL.S1 rfl (c74) rfl trivial rfl ?_ | refine JL.T1 rfl (c74) rfl rfl ?_ | (refine JL.C1 rfl (c74) rfl (fun r hr => ?_); subst hr) | refine JL.S1 rfl (c71) rfl trivial rfl ?_ | refine JL.T1 rfl (c71) rfl rfl ?_ | (refine JL.C1 rfl (c71) rfl (fun r hr => ?_); subst hr)); refine JL.finN ?_; refine JF.Branch 4 [] xk StF.nil (BrF.one rfl rfl ?_ BrF.nil); (· (refine JL.M1 xk rfl rfl ?_); refine JL.finN ?_; refine JF.Branch 7 [] xk StF.nil (BrF.one rfl rfl ?_ BrF.nil); (· (first | refine JL.M0 xk rfl ?_ | refine JL.Q0 xk rfl ?_); refine JL.finN ?_; refine JF.Branch 8 [] xk StF.nil (BrF.one rfl rfl ?_ BrF.nil); (· (first | refine JL.M0 xk rfl ?_ | refine JL.Q0 xk rfl ?_); refine JL.finN ?_; refine JF.Branch 9 [] xk StF.nil (BrF.one rfl rfl ?_ BrF.nil); (· (first | refine JL.M0 xk rfl ?_ | refine JL.Q0 xk rfl ?_); refine JL.finN ?_; refine JF.Done xk StF.nil ?_; ((exact JW.Auto (by conv => lhs; reduce)))))))); (· (refine JL.M1 xk rfl rfl ?_); refine JL.finN ?_; refine JF.Branch 3 [] xk ?_ ?_; (focus (repeat (first | exact StF.nil | refine StF.One rfl rfl rfl ?_))); refine (BrF.one rfl rfl ?_ BrF.nil); (· (first | refine JL.S1 rfl (c74) rfl trivial rfl ?_ | refine JL.T1 rfl (c74) rfl rfl ?_ | (refine JL.C1 rfl (c74) rfl (fun r hr => ?_); subst hr) | refine JL.S1 rfl (c71) rfl trivial rfl ?_ | refine JL.T1 rfl (c71) rfl rfl ?_ | (refine JL.C1 rfl (c71) rfl (fun r hr => ?_); subst hr)); refine JL.finN ?_; refine JF.Branch 7 [] xk StF.nil (BrF.one rfl rfl ?_ BrF.nil); (· (first | refine JL.M0 xk rfl ?_ | refine JL.Q0 xk rfl ?_); refine JL.finN ?_; refine JF.Branch 8 [] xk StF.nil (BrF.one rfl rfl ?_ BrF.nil); (· (first | refine JL.M0 xk rfl ?_ | refine JL.Q0 xk rfl ?_); refine JL.finN ?_; refine JF.Branch 9 [] xk StF.nil (BrF.one rfl rfl ?_ BrF.nil); (· (first | refine JL.M0 xk rfl ?_ | refine JL.Q0 xk rfl ?_); refine JL.finN ?_; refine JF.Done xk StF.nil ?_; ((exact JW.Auto (by conv => lhs; reduce)))))))))); (· (refine JL.M1 xk rfl rfl ?_); refine JL.finN ?_; refine JF.Branch 2 [5] xk ?_ ?_; (focus (repeat (first | exact StF.nil | refine StF.One rfl rfl rfl ?_))); refine (BrF.one rfl rfl ?_ (BrF.one rfl rfl ?_ BrF.nil)); (· (first | refine JL.S1 rfl (c74) rfl trivial rfl ?_ | refine JL.T1 rfl (c74) rfl rfl ?_ | (refine JL.C1 rfl (c74) rfl (fun r hr => ?_); subst hr) | refine JL.S1 rfl (c71) rfl trivial rfl ?_ | refine JL.T1 rfl (c71) rfl rfl ?_ | (refine JL.C1 rfl (c71) rfl (fun r hr => ?_); subst hr)); refine JL.finN ?_; refine JF.Branch 3 [5] xk ?_ ?_; (focus (repeat (first | exact StF.nil | refine StF.One rfl rfl rfl ?_))); refine (BrF.one rfl rfl ?_ (BrF.one rfl rfl ?_ BrF.nil)); (· (first | refine JL.S1 rfl (c74) rfl trivial rfl ?_ | refine JL.T1 rfl (c74) rfl rfl ?_ | (refine JL.C1 rfl (c74) rfl (fun r hr => ?_); subst hr) | refine JL.S1 rfl (c71) rfl trivial rfl ?_ | refine JL.T1 rfl (c71) rfl rfl ?_ | (refine JL.C1 rfl (c71) rfl (fun r hr => ?_); subst hr)); refine JL.finN ?_; refine JF.Branch 5 [] xk StF.nil (BrF.one rfl rfl ?_ BrF.nil); (· (refine JL.M1 xk rfl rfl ?_); refine JL.finN ?_; refine JF.Branch 7 [] xk StF.nil (BrF.one rfl rfl ?_ BrF.nil); (· (first | refine JL.M0 xk rfl ?_ | refine JL.Q0 xk rfl ?_); refine JL.finN ?_; refine JF.Branch 8 [] xk StF.nil (BrF.one rfl rfl ?_ BrF.nil); (· (first | refine JL.M0 xk rfl ?_ | refine JL.Q0 xk rfl ?_); refine JL.finN ?_; refine JF.Branch 9 [] xk StF.nil (BrF.one rfl rfl ?_ BrF.nil); (· (first | refine JL.M0 xk rfl ?_ | refine JL.Q0 xk rfl ?_); refine JL.finN ?_; refine JF.Done xk StF.nil ?_; ((exact JW.Auto (by conv => lhs; reduce)))))))); (· (refine JL.M1 xk rfl rfl ?_); refine JL.finN ?_; refine JF.Branch 3 [] xk ?_ ?_; (focus (repeat (first | exact StF.nil | refine StF.One rfl rfl rfl ?_))); refine (BrF.one rfl rfl ?_ BrF.nil); (· (first | refine JL.S1 rfl (c74) rfl trivial rfl ?_ | refine JL.T1 rfl (c74) rfl rfl ?_ | (refine JL.C1 rfl (c74) rfl (fun r hr => ?_); subst hr) | refine JL.S1 rfl (c71) rfl trivial rfl ?_ | refine JL.T1 rfl (c71) rfl rfl ?_ | (refine JL.C1 rfl (c71) rfl (fun r hr => ?_); subst hr)); refine JL.finN ?_; refine JF.Branch 7 [] xk StF.nil (BrF.one rfl rfl ?_ BrF.nil); (· (first | refine JL.M0 xk rfl ?_ | refine JL.Q0 xk rfl ?_); refine JL.finN ?_; refine JF.Branch 8 [] xk StF.nil (BrF.one rfl rfl ?_ BrF.nil); (· (first | refine JL.M0 xk rfl ?_ | refine JL.Q0 xk rfl ?_); refine JL.finN ?_; refine JF.Branch 9 [] xk StF.nil (BrF.one rfl rfl ?_ BrF.nil); (· (first | refine JL.M0 xk rfl ?_ | refine JL.Q0 xk rfl ?_); refine JL.finN ?_; refine JF.Done xk StF.nil ?_; ((exact JW.Auto (by conv => lhs; reduce))))))))); (· (refine JL.M1 xk rfl rfl ?_); refine JL.finN ?_; refine JF.Branch 2 [] xk ?_ ?_; (focus (repeat (first | exact StF.nil | refine StF.One rfl rfl rfl ?_))); refine (BrF.one rfl rfl ?_ BrF.nil); (· (first | refine JL.S1 rfl (c74) rfl trivial rfl ?_ | refine JL.T1 rfl (c74) rfl rfl ?_ | (refine JL.C1 rfl (c74) rfl (fun r hr => ?_); subst hr) | refine JL.S1 rfl (c71) rfl trivial rfl ?_ | refine JL.T1 rfl (c71) rfl rfl ?_ | (refine JL.C1 rfl (c71) rfl (fun r hr => ?_); subst hr)); refine JL.finN ?_; refine JF.Branch 3 [] xk ?_ ?_; (focus (repeat (first | exact StF.nil | refine StF.One rfl rfl rfl ?_))); refine (BrF.one rfl rfl ?_ BrF.nil); (· (first | refine JL.S1 rfl (c74) rfl trivial rfl ?_ | refine JL.T1 rfl (c74) rfl rfl ?_ | (refine JL.C1 rfl (c74) rfl (fun r hr => ?_); subst hr) | refine JL.S1 rfl (c71) rfl trivial rfl ?_ | refine JL.T1 rfl (c71) rfl rfl ?_ | (refine JL.C1 rfl (c71) rfl (fun r hr => ?_); subst hr)); refine JL.finN ?_; refine JF.Branch 7 [] xk StF.nil (BrF.one rfl rfl ?_ BrF.nil); (· (first | refine JL.M0 xk rfl ?_ | refine JL.Q0 xk rfl ?_); refine JL.finN ?_; refine JF.Branch 8 [] xk StF.nil (BrF.one rfl rfl ?_ BrF.nil); (· (first | refine JL.M0 xk rfl ?_ | refine JL.Q0 xk rfl ?_); refine JL.finN ?_; refine JF.Branch 9 [] xk StF.nil (BrF.one rfl rfl ?_ BrF.nil); (· (first | refine JL.M0 xk rfl ?_ | refine JL.Q0 xk rfl ?_); refine JL.finN ?_; refine JF.Done xk StF.nil ?_; ((exact JW.Auto (by conv => lhs; reduce)))))))))); (· (refine JL.M1 xk rfl rfl ?_); refine JL.finN ?_; refine JF.Branch 2 [4] xk ?_ ?_; (focus (repeat (first | exact StF.nil | refine StF.One rfl rfl rfl ?_))); refine (BrF.one rfl rfl ?_ (BrF.one rfl rfl ?_ BrF.nil)); (· (first | refine JL.S1 rfl (c74) rfl trivial rfl ?_ | refine JL.T1 rfl (c74) rfl rfl ?_ | (refine JL.C1 rfl (c74) rfl (fun r hr => ?_); subst hr) | refine JL.S1 rfl (c71) rfl trivial rfl ?_ | refine JL.T1 rfl (c71) rfl rfl ?_ | (refine JL.C1 rfl (c71) rfl (fun r hr => ?_); subst hr)); refine JL.finN ?_; refine JF.Branch 3 [4] xk ?_ ?_; (focus (repeat (first | exact StF.nil | refine StF.One rfl rfl rfl ?_))); refine (BrF.one rfl rfl ?_ (BrF.one rfl rfl ?_ BrF.nil)); (· (first | refine JL.S1 rfl (c74) rfl trivial rfl ?_ | refine JL.T1 rfl (c74) rfl rfl ?_ | (refine JL.C1 rfl (c74) rfl (fun r hr => ?_); subst hr) | refine JL.S1 rfl (c71) rfl trivial rfl ?_ | refine JL.T1 rfl (c71) rfl rfl ?_ | (refine JL.C1 rfl (c71) rfl (fun r hr => ?_); subst hr)); refine JL.finN ?_; refine JF.Branch 4 [] xk StF.nil (BrF.one rfl rfl ?_ BrF.nil); (· (refine JL.M1 xk rfl rfl ?_); refine JL.finN ?_; refine JF.Branch 7 [] xk StF.nil (BrF.one rfl rfl ?_ BrF.nil); (· (first | refine JL.M0 xk rfl ?_ | refine JL.Q0 xk rfl ?_); refine JL.finN ?_; refine JF.Branch 8 [] xk StF.nil (BrF.one rfl rfl ?_ BrF.nil); (· (first | refine JL.M0 xk rfl ?_ | refine JL.Q0 xk rfl ?_); refine JL.finN ?_; refine JF.Branch 9 [] xk StF.nil (BrF.one rfl rfl ?_ BrF.nil); (· (first | refine JL.M0 xk rfl ?_ | refine JL.Q0 xk rfl ?_); refine JL.finN ?_; refine JF.Done xk StF.nil ?_; ((exact JW.Auto (by conv => lhs; reduce)))))))); (· (refine JL.M1 xk rfl rfl ?_); refine JL.finN ?_; refine JF.Branch 3 [] xk ?_ ?_; (focus (repeat (first | exact StF.nil | refine StF.One rfl rfl rfl ?_))); refine (BrF.one rfl rfl ?_ BrF.nil); (· (first | refine JL.S1 rfl (c74) rfl trivial rfl ?_ | refine JL.T1 rfl (c74) rfl rfl ?_ | (refine JL.C1 rfl (c74) rfl (fun r hr => ?_); subst hr) | refine JL.S1 rfl (c71) rfl trivial rfl ?_ | refine JL.T1 rfl (c71) rfl rfl ?_ | (refine JL.C1 rfl (c71) rfl (fun r hr => ?_); subst hr)); refine JL.finN ?_; refine JF.Branch 7 [] xk StF.nil (BrF.one rfl rfl ?_ BrF.nil); (· (first | refine JL.M0 xk rfl ?_ | refine JL.Q0 xk rfl ?_); refine JL.finN ?_; refine JF.Branch 8 [] xk StF.nil (BrF.one rfl rfl ?_ BrF.nil); (· (first | refine JL.M0 xk rfl ?_ | refine JL.Q0 xk rfl ?_); refine JL.finN ?_; refine JF.Branch 9 [] xk StF.nil (BrF.one rfl rfl ?_ BrF.nil); (· (first | refine JL.M0 xk rfl ?_ | refine JL.Q0 xk rfl ?_); refine JL.finN ?_; refine JF.Done xk StF.nil ?_; ((exact JW.Auto (by conv => lhs; reduce))))))))); (· (refine JL.M1 xk rfl rfl ?_); refine JL.finN ?_; refine JF.Branch 2 [] xk ?_ ?_; (focus (repeat (first | exact StF.nil | refine StF.One rfl rfl rfl ?_))); refine (BrF.one rfl rfl ?_ BrF.nil); (· (first | refine JL.S1 rfl (c74) rfl trivial rfl ?_ | refine JL.T1 rfl (c74) rfl rfl ?_ | (refine JL.C1 rfl (c74) rfl (fun r hr => ?_); subst hr) | refine JL.S1 rfl (c71) rfl trivial rfl ?_ | refine JL.T1 rfl (c71) rfl rfl ?_ | (refine JL.C1 rfl (c71) rfl (fun r hr => ?_); subst hr)); refine JL.finN ?_; refine JF.Branch 3 [] xk ?_ ?_; (focus (repeat (first | exact StF.nil | refine StF.One rfl rfl rfl ?_))); refine (BrF.one rfl rfl ?_ BrF.nil); (· (first | refine JL.S1 rfl (c74) rfl trivial rfl ?_ | refine JL.T1 rfl (c74) rfl rfl ?_ | (refine JL.C1 rfl (c74) rfl (fun r hr => ?_); subst hr) | refine JL.S1 rfl (c71) rfl trivial rfl ?_ | refine JL.T1 rfl (c71) rfl rfl ?_ | (refine JL.C1 rfl (c71) rfl (fun r hr => ?_); subst hr)); refine JL.finN ?_; refine JF.Branch 7 [] xk StF.nil (BrF.one rfl rfl ?_ BrF.nil); (· (first | refine JL.M0 xk rfl ?_ | refine JL.Q0 xk rfl ?_); refine JL.finN ?_; refine JF.Branch 8 [] xk StF.nil (BrF.one rfl rfl ?_ BrF.nil); (· (first | refine JL.M0 xk rfl ?_ | refine JL.Q0 xk rfl ?_); refine JL.finN ?_; refine JF.Branch 9 [] xk StF.nil (BrF.one rfl rfl ?_ BrF.nil); (· (first | refine JL.M0 xk rfl ?_ | refine JL.Q0 xk rfl ?_); refine JL.finN ?_; refine JF.Done xk StF.nil ?_; ((exact JW.Auto (by conv => lhs; reduce))))))))))))
      have c82 := fn82 P l
      (repeat (first | refine zs rfl ?_ | refine zg rfl rfl rfl ?_ | refine zd ?_ | refine JK.fin ?_ | refine JK.ret ?_ | refine zc rfl (c82) rfl rfl ?_ | refine ze rfl (c82) rfl ?_ | refine zk rfl rfl (fun _ => c82) rfl rfl ?_))
      refine JK.rangeG [4, 5, 8, 10, 11, 12] rfl rfl rfl Try.func102 rfl Try.call102 (Nat.le_of_ble_eq_true rfl) trivial fun M2 up2 a0 b0 ha0 hb0 => ?_
      refine JK.weak (s' := ⟨[(0, .lf (.yld 7)), (1, ppH P l)], K46 a0 b0 P l a b (leR P l) 0 0, 100⟩) (by (exact JW.Auto (by conv => lhs; reduce))) ?_
      refine or_it (Mx := M2) (nX := 7) (rdX := none) 0 73 (by simp) P l h1 h8 (fun pre => K46 a0 b0 P l a b (leR P l) (bsA P l pre).length ((bsA P l pre).filter (folB · a b)).length) ?_ (by omega) ?_ ?_ ?_
      · intro pre; (repeat' (first | exact trivial | exact rfl | refine And.intro ?_ ?_ | exact Nat.le_of_ble_eq_true rfl | refine HO.bdF ?_ | refine HO.bdP ?_ | (refine congrArg (fun z : Int => some (AV.val (.int .i64) z)) ?_; push_cast; omega)))
      · intro pre; exact ⟨8, _, rfl, rfl⟩
      · intro pre o post hp
        have hoL : o ∈ allO l.length := by rw [hp]; simp
        obtain ⟨m1, m2, m3, m4⟩ := allO_has h1 hoL
        have hpl : pre.length < 5040 := by
          have := congrArg List.length hp
          rw [List.length_append, List.length_cons] at this
          omega
        have hbl : (bsA P l pre).length ≤ pre.length := List.length_filter_le _ _
        have hcl : ((bsA P l pre).filter (folB · a b)).length ≤ (bsA P l pre).length := List.length_filter_le _ _
        have hao : a ∈ o := by
          obtain ⟨z, rfl, hpm⟩ := (mem_allO h1).1 hoL
          exact hpm.mem_iff.2 (List.mem_range.2 (by omega))
        have hle := leR_all (P := P) hoL
        have hb2 : bsA P l (pre ++ [o]) = bsA P l pre ++ if rdL P l o = leR P l then [o] else [] := by
          unfold bsA
          rw [List.filter_append]; by_cases h : rdL P l o = leR P l <;> simp [h]
        have hc2 : ∀ h : rdL P l o = leR P l, ((bsA P l (pre ++ [o])).filter (folB · a b)).length = ((bsA P l pre).filter (folB · a b)).length + (if folB o a b = true then 1 else 0) := fun h => by
          rw [hb2, if_pos h, List.filter_append, List.length_append]
          by_cases h : folB o a b = true <;> simp [h]
        have c71o := fn71 P l o hz m2 (by omega)
        rw [← rdL_eq m3] at c71o
        have c83 := fn83 (iL o) (a : Int)
        rw [idxB_nat (k := 0) hao, Nat.zero_add] at c83
        have hfi := fol_idx (b := b) m4 hao
        have hil := List.idxOf_lt_length_of_mem hao
        have hio := iL_len o
        have hnx := nx1_term o (o.idxOf a)
        have hmx := mod_ix hil
        rw [← hio] at hmx
        generalize hn2 : ((bsA P l pre).filter (folB · a b)).length = n2 at hcl hc2 ⊢
        generalize hn1 : (bsA P l pre).length = n1 at hbl hcl ⊢
        refine YO.intro 0 73 (ps := #[45]) (assign := a0) (body := b0) (nO := 73) (LO := [(4, .lf (.optr 1 [])), (5, .lf (.optr 2 [])), (8, .lf (.optr 3 [])), (10, .lf (.optr 4 [])), (11, .lf (.optr 5 [])), (12, .lf (.optr 6 []))]) (L0 := [(45, vL (iL o)), (4, .lf (.optr 1 [])), (5, .lf (.optr 2 [])), (8, .lf (.optr 3 [])), (10, .lf (.optr 4 [])), (11, .lf (.optr 5 [])), (12, .lf (.optr 6 []))]) rfl rfl rfl ⟨8, _, rfl, rfl⟩ ⟨8, _, rfl, rfl⟩ fun M3 M4 up4 bl hup => JK.start (JK.codeEq ha0 ?_)
        (repeat (first | refine zs rfl ?_ | refine zg rfl rfl rfl ?_ | refine zd ?_ | refine JK.fin ?_ | refine JK.ret ?_))
        refine JK.done (asgQ.nor rfl rfl rfl rfl (JK.start (JK.codeEq hb0 ?_)))
        (repeat (first | refine zs rfl ?_ | refine zg rfl rfl rfl ?_ | refine zd ?_ | refine JK.fin ?_ | refine JK.ret ?_ | refine zc rfl (c71o) rfl rfl ?_ | refine ze rfl (c71o) rfl ?_ | refine zk rfl rfl (fun _ => c71o) rfl rfl ?_))
        refine JK.cond rfl (fun hd => ?_) (fun hd => ?_)
        · (simp only [↓cdL] at hd; try simp only [Ty.dflt, Int.toNat_natCast] at hd)
          rw [if_neg (by omega), List.append_nil] at hb2
          (repeat (first | refine zs rfl ?_ | refine zg rfl rfl rfl ?_ | refine zd ?_ | refine JK.fin ?_ | refine JK.ret ?_))
          refine JK.done (bodyQ.of rfl rfl rfl rfl rfl rfl ⟨rfl, ?_⟩)
          show JW _ ⟨[], K46 a0 b0 P l a b (leR P l) (bsA P l (pre ++ [o])).length ((bsA P l (pre ++ [o])).filter (folB · a b)).length, 100⟩ _
          rw [hb2, hn1, hn2]
          (exact JW.Auto (by conv => lhs; reduce))
        · (simp only [↓cdL] at hd; try simp only [Ty.dflt, Int.toNat_natCast] at hd)
          have hbest : rdL P l o = leR P l := by omega
          have hL1 : (((bsA P l (pre ++ [o])).length : Nat) : Int) = (n1 : Int) + 1 := by rw [hb2, if_pos hbest, List.length_append, hn1]; rfl
          have hL2 := hc2 hbest
          generalize o.idxOf a = ix at *
          (repeat (first | refine zs rfl ?_ | refine zg rfl rfl rfl ?_ | refine zd ?_ | refine JK.fin ?_ | refine JK.ret ?_ | refine zc rfl (c83) rfl rfl ?_ | refine ze rfl (c83) rfl ?_ | refine zk rfl rfl (fun _ => c83) rfl rfl ?_))
          refine JK.cond rfl (fun he => ?_) (fun he => ?_)
          · have he2 : ((iL o).getD (((ix : Int) + 1) % ((iL o).length : Int)).toNat 0 == (b : Int)) = true := he
            rw [← hnx, beq_iff_eq] at he2
            rw [if_pos (by rw [hfi]; exact decide_eq_true (Int.ofNat_inj.1 he2))] at hL2
            (repeat (first | refine zs rfl ?_ | refine zg rfl rfl rfl ?_ | refine zd ?_ | refine JK.fin ?_ | refine JK.ret ?_))
            refine JK.done (bodyQ.of rfl rfl rfl rfl rfl rfl ⟨rfl, ?_⟩)
            show JW _ ⟨[], K46 a0 b0 P l a b (leR P l) (bsA P l (pre ++ [o])).length ((bsA P l (pre ++ [o])).filter (folB · a b)).length, 100⟩ _
            rw [hL1, hL2, Int.natCast_add]
            (exact JW.Auto (by conv => lhs; reduce))
          · have he2 : ((iL o).getD (((ix : Int) + 1) % ((iL o).length : Int)).toNat 0 == (b : Int)) = false := he
            rw [← hnx, beq_eq_false_iff_ne] at he2
            rw [if_neg (by rw [hfi]; exact fun h => he2 (by rw [of_decide_eq_true h]))] at hL2
            (repeat (first | refine zs rfl ?_ | refine zg rfl rfl rfl ?_ | refine zd ?_ | refine JK.fin ?_ | refine JK.ret ?_))
            refine JK.done (bodyQ.of rfl rfl rfl rfl rfl rfl ⟨rfl, ?_⟩)
            show JW _ ⟨[], K46 a0 b0 P l a b (leR P l) (bsA P l (pre ++ [o])).length ((bsA P l (pre ++ [o])).filter (folB · a b)).length, 100⟩ _
            rw [hL1, hL2]
            (exact JW.Auto (by conv => lhs; reduce))
      · intro L
        show rngQ _ _ _ _ ⟨L, K46 a0 b0 P l a b (leR P l) (bsA P l (allO l.length)).length ((bsA P l (allO l.length)).filter (folB · a b)).length, 100⟩
        generalize ((bsA P l (allO l.length)).filter (folB · a b)).length = nB
        generalize (bsA P l (allO l.length)).length = nA
        refine rngQ.of (.inr rfl) rfl rfl rfl rfl rfl rfl rfl (endJ.kn ?_)
        (repeat (first | refine zs rfl ?_ | refine zg rfl rfl rfl ?_ | refine zd ?_ | refine JK.fin ?_ | refine JK.ret ?_))
        refine JK.cond rfl (fun he => ?_) (fun he => ?_)
        · have he' : (nB : Int) = 0 := beq_iff_eq.1 he
          rw [if_pos he']
          (repeat (first | refine zs rfl ?_ | refine zg rfl rfl rfl ?_ | refine zd ?_ | refine JK.fin ?_ | refine JK.ret ?_))
          refine ⟨.inl rfl, _, _, rfl, trivial, ?_⟩
          rfl
        · have he' : ¬ (nB : Int) = 0 := beq_eq_false_iff_ne.1 he
          rw [if_neg he']
          (repeat (first | refine zs rfl ?_ | refine zg rfl rfl rfl ?_ | refine zd ?_ | refine JK.fin ?_ | refine JK.ret ?_))
          refine JK.cond rfl (fun hf => ?_) (fun hf => ?_)
          · have hf' : (nB : Int) = (nA : Int) := beq_iff_eq.1 hf
            rw [if_pos hf']
            (repeat (first | refine zs rfl ?_ | refine zg rfl rfl rfl ?_ | refine zd ?_ | refine JK.fin ?_ | refine JK.ret ?_))
            refine ⟨.inl rfl, _, _, rfl, trivial, ?_⟩
            rfl
          · have hf' : ¬ (nB : Int) = (nA : Int) := beq_eq_false_iff_ne.1 hf
            rw [if_neg hf']
            (repeat (first | refine zs rfl ?_ | refine zg rfl rfl rfl ?_ | refine zd ?_ | refine JK.fin ?_ | refine JK.ret ?_))
            refine ⟨.inl rfl, _, _, rfl, trivial, ?_⟩
            rfl
  · have e : kindE P l one two = seE P l := by unfold kindE; rw [if_pos hz]
    have e1 : kindI P l one two = 0 := by unfold kindI; rw [if_neg (by rw [e]; exact hz)]
    rw [e1, e]
    rw [if_neg hz] at c61
    generalize seE P l = z at hz c61 ⊢
    (repeat (first | refine zs rfl ?_ | refine zg rfl rfl rfl ?_ | refine zd ?_ | refine JK.fin ?_ | refine JK.ret ?_ | refine zc rfl (c61) rfl rfl ?_ | refine ze rfl (c61) rfl ?_ | refine zk rfl rfl (fun _ => c61) rfl rfl ?_))
    refine JK.cond rfl (fun _ => ?_) (fun h => ?_)
    · (repeat (first | refine zs rfl ?_ | refine zg rfl rfl rfl ?_ | refine zd ?_ | refine JK.fin ?_ | refine JK.ret ?_))
      refine ⟨.inl rfl, _, _, rfl, trivial, ?_⟩
      rfl
    · (simp only [↓cdL] at h; try simp only [Ty.dflt, Int.toNat_natCast] at h)
      omega
end Go.Proofs.Ytinehlphcckkmaa

namespace Go.Proofs.Ytinehlphcckkmaa
open Go Go.RowKit Ox Ox.Sh Ox.Se
attribute [local irreducible] JC JL JK JW
attribute [local irreducible] ovA stA pkV
abbrev vIB (a : Int) (b : Bool) : AV := .tup (.acons (vI a) (.acons (vB b) .anil))
theorem best_ord {P : Int} {l : List Pt} (hz : seE P l = 0) : ordE P l (iL (bestO P l)) = 0 ∧ rdI P l (iL (bestO P l)) = leR P l := by
  obtain ⟨hP, h1, h8, hl⟩ := se_ok.1 hz
  obtain ⟨b1, b2, b3, b4⟩ := best_has hP.1 h1 h8
  have hn := (allO_has h1 ((mem_bests h1).1 (best_in hP.1 h1 h8)).1).2.2.2
  have ho : ordE P l (iL (bestO P l)) = 0 := ordE_ok.2 ⟨hz, ord_of b1 b2 hn⟩
  refine ⟨ho, ?_⟩
  unfold rdI
  rw [if_pos ho, nat_iL, b4]
theorem fn51 (P : Int) (l : List Pt) : Ox.Fn Try.prog 51 (.acons (vS P l) .anil) (· = vIB (lstI P l) (decide (seE P l = 0))) := by
  refine Ox.Fn.intro xok Try.func51 rfl Try.call51 (Nat.le_of_ble_eq_true rfl) (fun E M0 up => ?_)
  refine JK.start ?_
  have c36 := fn36 P l
  by_cases hz : seE P l = 0
  · obtain ⟨hP, h1, h8, hl⟩ := se_ok.1 hz
    obtain ⟨o1, o2⟩ := best_ord hz
    obtain ⟨b1, b2, b3, b4⟩ := best_has hP.1 h1 h8
    have e1 : bstI P l = iL (bestO P l) := by unfold bstI; rw [if_pos hz]
    have e2 : lstI P l = leR P l := by unfold lstI; rw [if_pos hz]
    rw [e1, e2, hz] at c36
    rw [e2, hz]
    have c31 := fn31 P l (iL (bestO P l))
    rw [o1, o2] at c31
    have hil : (iL (bestO P l)).length = l.length := by rw [iL_len]; exact b1
    have h0 : (iL (bestO P l)).getD (Int.toNat 0) 0 = 0 := by
      obtain ⟨z, hz2, _⟩ := (mem_allO h1).1 ((mem_bests h1).1 (best_in hP.1 h1 h8)).1
      rw [hz2]; rfl
    generalize iL (bestO P l) = B at c36 c31 hil h0
    generalize leR P l = R at c36 c31 ⊢
    (repeat (first | refine zs rfl ?_ | refine zg rfl rfl rfl ?_ | refine zd ?_ | refine JK.fin ?_ | refine JK.ret ?_ | refine zc rfl (c36) rfl rfl ?_ | refine ze rfl (c36) rfl ?_ | refine zk rfl rfl (fun _ => c36) rfl rfl ?_))
    refine JK.cond rfl (fun h => absurd h (by decide)) (fun _ => ?_)
    (repeat (first | refine zs rfl ?_ | refine zg rfl rfl rfl ?_ | refine zd ?_ | refine JK.fin ?_ | refine JK.ret ?_ | refine zc rfl (c31) rfl rfl ?_ | refine ze rfl (c31) rfl ?_ | refine zk rfl rfl (fun _ => c31) rfl rfl ?_))
    refine ⟨.inl rfl, _, _, rfl, trivial, ?_⟩
    show vIB R (bif (bif ((0 : Int) == 0) then (R == R) else false) then (B.getD (Int.toNat 0) 0 == 0) else false) = _
    rw [h0]
    simp
  · have e2 : lstI P l = 0 := by unfold lstI; rw [if_neg hz]
    rw [e2, decide_eq_false hz]
    generalize bstI P l = B at c36
    rw [e2] at c36
    generalize seE P l = z at hz c36
    (repeat (first | refine zs rfl ?_ | refine zg rfl rfl rfl ?_ | refine zd ?_ | refine JK.fin ?_ | refine JK.ret ?_ | refine zc rfl (c36) rfl rfl ?_ | refine ze rfl (c36) rfl ?_ | refine zk rfl rfl (fun _ => c36) rfl rfl ?_))
    refine JK.cond rfl (fun _ => ?_) (fun h => ?_)
    · (repeat (first | refine zs rfl ?_ | refine zg rfl rfl rfl ?_ | refine zd ?_ | refine JK.fin ?_ | refine JK.ret ?_))
      refine ⟨.inl rfl, _, _, rfl, trivial, ?_⟩
      rfl
    · (simp only [↓cdL] at h; try simp only [Ty.dflt, Int.toNat_natCast] at h)
      omega
end Go.Proofs.Ytinehlphcckkmaa

namespace Ox
open Go Go.RowKit
variable {X : Ctx} {s : S} {M : Mem} {ρ : Env} {a a' : Act} {w w' : World} {QA : Exit → S → Prop} {K : S → Prop} {ops : List Oper} {ls fl fr : List Nat} {fuel : Nat}
theorem JF.firstG (i : Nat) {d : Nat} {op : Op} {ty : TypeId} {ps : String} {af : Array Edge} {gg : Nat × Bool} {g : Bool} {cs : List Prop} {v : AV} {L : List (Nat × AV)} {H : List (Nat × HO)} {nx : Nat}
    (hX : XOK X) (hf : fsB ops ls fl i = true) (ho : ops[i]? = some ⟨some d, op, ty, ps, af, some gg⟩) (hg : gOf ops L (some gg) = some g) (hgt : g = true) (e3 : isLoad op = false)
    (h : evq X.T op ⟨L, H, nx⟩ = some (cs, v)) (hd : ltB d X.n = true) (hc : allP cs) (k : JF X ops K fl fuel (i :: ls) ⟨(d, v) :: L, H, nx⟩) : JF X ops K fl (fuel + 1) ls ⟨L, H, nx⟩ := by
  intro M ρ a a' w l fr hsub hnd hl hp h1 h2
  simp only [fsB, Bool.and_eq_true, Bool.not_eq_true'] at hf
  obtain ⟨⟨⟨⟨hnl, hnf⟩, hf⟩, hap⟩, hs, hnd0⟩ := hf
  simp only [frB, ho, Bool.and_eq_true, Bool.not_eq_true'] at hf
  obtain ⟨⟨_, h4⟩, e4⟩ := hf
  have hlt : i < ops.length := (List.getElem?_eq_some_iff.1 ho).1
  have hif : i ∉ fr := fun hc => by simp at hnf; exact hnf (hsub i hc)
  have hed := edgesL_spec.1 h4
  have hapf : ∀ g ∈ fr, ∀ q, ops[g]? = some q → halfB ops q (⟨some d, op, ty, ps, af, some gg⟩ : Oper) = true := by
    intro g hg q hq
    simp only [apB, ho] at hap
    have := List.all_eq_true.1 hap g (hsub g hg)
    rw [hq] at this
    simp only [Bool.or_eq_true] at this
    refine this.resolve_left fun hw => ?_
    obtain ⟨e, he, hb, rfl⟩ := waits_spec.1 hw
    have := (hed e (by simpa using he) hb).2
    rw [sure_mem] at this
    simp [hsub _ hg] at this
  obtain ⟨hb, z, hz, hrun⟩ := evq_soundA hX.t (o := ⟨some d, op, ty, ps, af, some gg⟩) e3 h hc h1 h2
  have hsel : ∀ (j : Nat) (o : Oper) cs b, ops.toArray[j]? = some o → o.op ≠ .select cs b := Region.noSelect_spec hs
  obtain ⟨hx1, hx2⟩ := PutsR.exec (o := ⟨some d, op, ty, ps, af, some gg⟩) (hsel i _ · · (by simpa using ho)) hp fun g hg q hq => (halfB_spec (hapf g hg q hq)).1
  have hw := (gOf_sound (o := ⟨some d, op, ty, ps, af, some gg⟩) hg h2).trans hgt
  rw [show fuel + 1 + fr.length = (fuel + fr.length) + 1 by omega]
  refine wpAny_firstA (fun _ _ _ h => conc_qN h) (i := i) (oi := ⟨some d, op, ty, ps, af, some gg⟩) (v := z) (by simpa using ho) hsel (ndAll_spec hnd0) (fuel + fr.length) l a w ?_ ?_ (.inl ⟨hx2.symm.trans hw, by rw [← hx1]; exact hrun⟩) ?_
  · intro j oj hj hne hun hno
    have hjl : j < ops.length := by have := (Array.getElem?_eq_some_iff.1 hj).1; simpa using this
    refine freeL_spec e4 j oj (by simpa using hj) (by omega) ?_ hno
    rw [hl.getT hjl] at hun
    rw [Nat.zero_add, sure_mem]
    cases hc : ls.contains j with
    | false => rfl
    | true =>
      rw [hc] at hun
      simp at hun
      simp [hsub _ hun]
  · refine mem_ready.2 ⟨by rw [hl.getT hlt, hnl]; rfl, _, by simpa using ho, fun e he hb => ?_⟩
    obtain ⟨e1, e2⟩ := hed e (by simpa using he) hb
    rw [sure_mem, Bool.and_eq_true] at e2
    rw [hl.getT e1, e2.1]
    have : e.on ∉ fr := fun hc => by have := e2.2; simp [hsub _ hc] at this
    simp [this]
  · exact k M ρ _ (a'.put (some d) z) w _ fr hsub hnd (hl.setNew hlt hif) (PutsR.put (d := some d) hp fun f hf o ho' e he hde => (halfB_spec (hapf f hf o ho')).2 e he hde)
      (putS_sat (d := some d) (v := v) h1) (h2.putO (d := some d) (dstOk.spec (ltB_lt hd)) hb hz)
theorem JF.FirstG (i : Nat) {d : Nat} {op : Op} {ty : TypeId} {ps : String} {af : Array Edge} {gg : Nat × Bool} {g : Bool} {cs : List Prop} {v : AV} {L : List (Nat × AV)} {H : List (Nat × HO)} {nx : Nat}
    (hX : XOK X) (ho : ops[i]? = some ⟨some d, op, ty, ps, af, some gg⟩) (hg : gOf ops L (some gg) = some g) (hgt : g = true) (h : evq X.T op ⟨L, H, nx⟩ = some (cs, v)) (k : JF X ops K fl fuel (i :: ls) ⟨(d, v) :: L, H, nx⟩)
    (hf : fsB ops ls fl i = true := by decide +kernel) (e3 : isLoad op = false := by rfl) (hd : ltB d X.n = true := by rfl) (hc : allP cs := by (first | exact trivial | (try dsimp only [allP, inK, idxC, loC, lohiC, fullC, underG, List.append, List.nil_append, List.cons_append, Ty.den, Ty.dflt, Int.toNat_natCast, List.length_cons, List.length_nil] at *); first | omega | ((repeat' (first | exact trivial | assumption | refine And.intro ?_ ?_ | exact fun h => h | (intro hpk; first | exact hpk | simp only [wantB, hpk, Bool.not_false, Bool.not_true]))) <;> omega) | fail)) :
    JF X ops K fl (fuel + 1) ls ⟨L, H, nx⟩ := JF.firstG i hX hf ho hg hgt e3 h hd hc k
end Ox

namespace Go.Proofs.Ytinehlphcckkmaa
open Go Go.RowKit Ox Ox.Sh Ox.Se
attribute [local irreducible] JC JL JK JW
attribute [local irreducible] ovA stA pkV
theorem wf1 : seE 10 exT = 0 := by decide +kernel
theorem wf2 : seE 10 exU = 0 := by decide +kernel
def exS : List Pt := [(7, 5, ()), (2, 8, ()), (0, 3, ())]
theorem wf3 : seE 10 (sdL 10 7 [5, 8, 3]) = 0 := by decide +kernel
theorem wf4 : sdL 10 7 [5, 8, 3] = exS := by decide +kernel
abbrev vT1s (a : AV) : AV := .tup (.acons a (.acons (vI 0) .anil))
set_option maxHeartbeats 80000000 in
theorem fn18 : Ox.Fn Try.prog 18 .anil (· = vB true) := by
  refine Ox.Fn.intro xok Try.func18 rfl Try.call18 (Nat.le_of_ble_eq_true rfl) (fun E M0 up => ?_)
  refine JK.start ?_
  have d56 := fn56
  have d26 : Ox.Fn Try.prog 26 (.acons (vS 10 exT) (.acons (vI 7) .anil)) (· = vT2 2 0) := by
    have := fn26 10 exT 7; rwa [show overI 10 exT 7 = 2 by decide +kernel, show overE 10 exT 7 = 0 by decide +kernel] at this
  have d28 : Ox.Fn Try.prog 28 (.acons (vS 10 exT) .anil) (· = .tup (.acons (vI 2) (.acons (vI 2) (.acons (vI 0) .anil)))) := by
    have := fn28 10 exT; rwa [show pkI 10 exT = 2 by decide +kernel, show paI 10 exT = 2 by decide +kernel, wf1] at this
  have d30 : Ox.Fn Try.prog 30 (.acons (vS 10 exT) (.acons (vL [0, 1, 2, 3]) .anil)) (· = vT2 3 0) := by
    have := fn30 10 exT [0, 1, 2, 3]; rwa [show rdI 10 exT [0, 1, 2, 3] = 3 by decide +kernel, show ordE 10 exT [0, 1, 2, 3] = 0 by decide +kernel] at this
  have d32 : Ox.Fn Try.prog 32 (.acons (vS 10 exT) (.acons (vL [0, 1, 3, 2]) .anil)) (· = vTL [0, 4, 3, 0] 0) := by
    have := fn32 10 exT [0, 1, 3, 2]; rwa [show wasI 10 exT [0, 1, 3, 2] = [0, 4, 3, 0] by decide +kernel, show ordE 10 exT [0, 1, 3, 2] = 0 by decide +kernel] at this
  have d36 : Ox.Fn Try.prog 36 (.acons (vS 10 exT) .anil) (· = vB3 (iL (bestO 10 exT)) 2 0) := by
    have := fn36 10 exT; rwa [show bstI 10 exT = iL (bestO 10 exT) by (unfold bstI; rw [if_pos wf1]), show lstI 10 exT = 2 by decide +kernel, wf1] at this
  have d36u : Ox.Fn Try.prog 36 (.acons (vS 10 exU) .anil) (· = vB3 (bstI 10 exU) 3 0) := by
    have := fn36 10 exU; rwa [show lstI 10 exU = 3 by decide +kernel, wf2] at this
  have d40 : Ox.Fn Try.prog 40 (.acons (vS 10 exU) .anil) (· = vTLL [[0], [1]] 0) := by
    have := fn40 10 exU; rwa [show gpI 10 exU = [[0], [1]] by decide +kernel, wf2] at this
  have d38u : Ox.Fn Try.prog 38 (.acons (vS 10 exU) .anil) (· = vTL [0] 0) := by
    have := fn38 10 exU; rwa [show apI 10 exU = [0] by decide +kernel, show apE 10 exU = 0 by decide +kernel] at this
  have d38 : Ox.Fn Try.prog 38 (.acons (vS 10 exT) .anil) (· = vTL [] 5) := by
    have := fn38 10 exT; rwa [show apI 10 exT = [] by decide +kernel, show apE 10 exT = 5 by decide +kernel] at this
  have d44 : Ox.Fn Try.prog 44 (.acons (vS 10 exU) (.acons (vL [1]) .anil)) (· = vI 0) := by
    have := fn44 10 exU [1]; rwa [show apcE 10 exU [1] = 0 by decide +kernel] at this
  have d46 : Ox.Fn Try.prog 46 (.acons (vS 10 exT) (.acons (vI 0) (.acons (vI 1) .anil))) (· = vT2 1 0) := by
    have := fn46 10 exT 0 1; rwa [show kindI 10 exT 0 1 = 1 by decide +kernel, show kindE 10 exT 0 1 = 0 by decide +kernel] at this
  have d48 : Ox.Fn Try.prog 48 (.acons (vS 10 exT) .anil) (· = vT2 2 0) := by
    have := fn48 10 exT; rwa [show countI 10 exT = 2 by decide +kernel, wf1] at this
  have d19 : Ox.Fn Try.prog 19 (.acons (vI 10) (.acons (vI 7) (.acons (vL [5, 8, 3]) .anil))) (· = vT1s (vS 10 exS)) := by
    have := fn19 10 7 [5, 8, 3] (by decide)
    unfold vSe at this
    rwa [wf3, if_pos rfl, wf4] at this
  have d24 : Ox.Fn Try.prog 24 (.acons (vS 10 exT) (.acons (vL [0, 2]) .anil)) (· = vI 20) := by
    have := fn24 10 exT [0, 2]; rwa [show conE 10 exT [0, 2] = 20 by decide +kernel] at this
  have d31 : Ox.Fn Try.prog 31 (.acons (vS 10 exT) (.acons (vL (iL (bestO 10 exT))) .anil)) (· = vT2 2 0) := by
    have := fn31 10 exT (iL (bestO 10 exT)); rwa [(best_ord wf1).2, (best_ord wf1).1, show leR 10 exT = 2 by decide +kernel] at this
  have d57 : Ox.Fn Try.prog 57 (.acons (vI 10) (.acons (vL [7, 5, 2, 8, 0, 3]) .anil)) (· = vS 10 exS) := by
    have e : setN ([7, 5, 2, 8, 0, 3] : List Int) (([7, 5, 2, 8, 0, 3] : List Int).length / 2) = exS := by decide +kernel
    have := fn57 10 [7, 5, 2, 8, 0, 3] (by decide); rwa [e] at this
  have d23 := fn23 10 10 exS exS
  have d34 := fn34 [0, 4, 3, 0] [0, 4, 3, 0]
  have d43 := fn43 [[0], [1]] [[0], [1]]
  have d42 := fn42 [0] [0]
  rw [decide_eq_true ⟨rfl, rfl⟩] at d23
  rw [decide_eq_true rfl] at d34 d43 d42
  generalize exS = S3 at *
  generalize iL (bestO 10 exT) = B at d36 d31
  generalize bstI 10 exU = BU at d36u
  have hex : exT = exT := rfl
  generalize exT = T at *
  generalize exU = U at *
  (repeat (first | refine zs rfl ?_ | refine zg rfl rfl rfl ?_ | refine zd ?_ | refine JK.fin ?_ | refine JK.ret ?_ | refine zc rfl (d56) rfl rfl ?_ | refine ze rfl (d56) rfl ?_ | refine zk rfl rfl (fun _ => d56) rfl rfl ?_ | refine zc rfl (d26) rfl rfl ?_ | refine ze rfl (d26) rfl ?_ | refine zk rfl rfl (fun _ => d26) rfl rfl ?_ | refine zc rfl (d28) rfl rfl ?_ | refine ze rfl (d28) rfl ?_ | refine zk rfl rfl (fun _ => d28) rfl rfl ?_ | refine zc rfl (d30) rfl rfl ?_ | refine ze rfl (d30) rfl ?_ | refine zk rfl rfl (fun _ => d30) rfl rfl ?_))
  (refine JK.fzL [3] [1,2,3,4,5,6,7,8,9,53,54] rfl ?_)
  (repeat (first | refine zs rfl ?_ | refine zg rfl rfl rfl ?_ | refine zd ?_ | refine JK.fin ?_ | refine JK.ret ?_ | refine zc rfl (d32) rfl rfl ?_ | refine ze rfl (d32) rfl ?_ | refine zk rfl rfl (fun _ => d32) rfl rfl ?_ | refine zc rfl (d36) rfl rfl ?_ | refine ze rfl (d36) rfl ?_ | refine zk rfl rfl (fun _ => d36) rfl rfl ?_ | refine zc rfl (d36u) rfl rfl ?_ | refine ze rfl (d36u) rfl ?_ | refine zk rfl rfl (fun _ => d36u) rfl rfl ?_ | refine zc rfl (d40) rfl rfl ?_ | refine ze rfl (d40) rfl ?_ | refine zk rfl rfl (fun _ => d40) rfl rfl ?_ | refine zc rfl (d38u) rfl rfl ?_ | refine ze rfl (d38u) rfl ?_ | refine zk rfl rfl (fun _ => d38u) rfl rfl ?_ | refine zc rfl (d38) rfl rfl ?_ | refine ze rfl (d38) rfl ?_ | refine zk rfl rfl (fun _ => d38) rfl rfl ?_ | refine zc rfl (d44) rfl rfl ?_ | refine ze rfl (d44) rfl ?_ | refine zk rfl rfl (fun _ => d44) rfl rfl ?_ | refine zc rfl (d46) rfl rfl ?_ | refine ze rfl (d46) rfl ?_ | refine zk rfl rfl (fun _ => d46) rfl rfl ?_ | refine zc rfl (d48) rfl rfl ?_ | refine ze rfl (d48) rfl ?_ | refine zk rfl rfl (fun _ => d48) rfl rfl ?_))
  refine JK.cond rfl (fun h => absurd h (by decide)) (fun _ => ?_)
  (repeat (first | refine zs rfl ?_ | refine zg rfl rfl rfl ?_ | refine zd ?_ | refine JK.fin ?_ | refine JK.ret ?_))
  (refine JK.fzL [5] [1,2,3,5,6,8,10,12,13,16,18,20,25,27,145] rfl ?_)
  (repeat (first | refine zs rfl ?_ | refine zg rfl rfl rfl ?_ | refine JK.fin ?_ | refine JK.ret ?_ | refine zc rfl (d19) rfl rfl ?_ | refine ze rfl (d19) rfl ?_ | refine zk rfl rfl (fun _ => d19) rfl rfl ?_ | refine zc rfl (d24) rfl rfl ?_ | refine ze rfl (d24) rfl ?_ | refine zk rfl rfl (fun _ => d24) rfl rfl ?_ | refine zc rfl (d31) rfl rfl ?_ | refine ze rfl (d31) rfl ?_ | refine zk rfl rfl (fun _ => d31) rfl rfl ?_))
  clear d56 d26 d28 d30 d32 d36 d36u d40 d38u d38 d44 d46 d48 d19 d24 d31
  refine JK.drawP xk (Try.f18.body.getD .skip) rfl 70 rfl ?_
  (refine JF.First 0 xk rfl rfl ?_; refine JF.First 1 xk rfl rfl ?_; refine JF.First 2 xk rfl rfl ?_; refine JF.FirstG 3 xk rfl rfl rfl rfl ?_; refine JF.FirstG 4 xk rfl rfl rfl rfl ?_; refine JF.First 5 xk rfl rfl ?_; refine JF.First 6 xk rfl rfl ?_; refine JF.FirstG 7 xk rfl rfl rfl rfl ?_; refine JF.FirstG 8 xk rfl rfl rfl rfl ?_; refine JF.First 9 xk rfl rfl ?_; refine JF.First 10 xk rfl rfl ?_; refine JF.Branch 11 [12] xk StF.nil (BrF.one rfl rfl ?_ (BrF.one rfl rfl ?_ BrF.nil)); (· (refine JL.G1 xk rfl rfl rfl ?_); refine JL.finN ?_; refine JF.Branch 12 [] xk StF.nil (BrF.one rfl rfl ?_ BrF.nil); (· ((refine JL.gT rfl rfl ?_ ; refine JL.M1 xk rfl rfl ?_)); refine JL.finN ?_; refine JF.Branch 13 [] xk StF.nil (BrF.one rfl rfl ?_ BrF.nil); (· (first | (refine JL.frz (8 :: List.nil) (3 :: 5 :: 6 :: 8 :: 10 :: 13 :: 16 :: 18 :: 20 :: 25 :: 27 :: 29 :: 30 :: 168 :: 169 :: 170 :: List.nil) rfl (by (first | exact trivial | (try dsimp only [allP, inK, idxC, loC, lohiC, fullC, underG, List.append, List.nil_append, List.cons_append, Ty.den, Ty.dflt, Int.toNat_natCast, List.length_cons, List.length_nil] at *); first | omega | ((repeat' (first | exact trivial | assumption | refine And.intro ?_ ?_ | exact fun h => h | (intro hpk; first | exact hpk | simp only [wantB, hpk, Bool.not_false, Bool.not_true]))) <;> omega) | fail)) ?_ ; refine JL.gT rfl rfl ?_ ; refine JL.C1 rfl d57 rfl (fun r hr => ?_) ; subst hr) | (refine JL.frz (8 :: List.nil) (3 :: 5 :: 6 :: 8 :: 10 :: 13 :: 16 :: 18 :: 20 :: 25 :: 27 :: 29 :: 30 :: 168 :: 170 :: List.nil) rfl (by (first | exact trivial | (try dsimp only [allP, inK, idxC, loC, lohiC, fullC, underG, List.append, List.nil_append, List.cons_append, Ty.den, Ty.dflt, Int.toNat_natCast, List.length_cons, List.length_nil] at *); first | omega | ((repeat' (first | exact trivial | assumption | refine And.intro ?_ ?_ | exact fun h => h | (intro hpk; first | exact hpk | simp only [wantB, hpk, Bool.not_false, Bool.not_true]))) <;> omega) | fail)) ?_ ; refine JL.gT rfl rfl ?_ ; refine JL.C1 rfl d57 rfl (fun r hr => ?_) ; subst hr)); refine JL.finN ?_; refine JF.Branch 14 [] xk StF.nil (BrF.one rfl rfl ?_ BrF.nil); (· (refine JL.S1g rfl rfl (fun hgd => d23) rfl trivial rfl ?_); refine JL.finN ?_; refine JF.First 15 xk rfl rfl ?_; refine JF.First 16 xk rfl rfl ?_; refine JF.FirstG 17 xk rfl rfl rfl rfl ?_; refine JF.FirstG 18 xk rfl rfl rfl rfl ?_; refine JF.First 19 xk rfl rfl ?_; refine JF.First 20 xk rfl rfl ?_; refine JF.FirstG 21 xk rfl rfl rfl rfl ?_; refine JF.FirstG 22 xk rfl rfl rfl rfl ?_; refine JF.First 23 xk rfl rfl ?_; refine JF.First 24 xk rfl rfl ?_; refine JF.FirstG 25 xk rfl rfl rfl rfl ?_; refine JF.FirstG 26 xk rfl rfl rfl rfl ?_; refine JF.First 27 xk rfl rfl ?_; refine JF.First 28 xk rfl rfl ?_; refine JF.FirstG 29 xk rfl rfl rfl rfl ?_; refine JF.FirstG 30 xk rfl rfl rfl rfl ?_; refine JF.First 31 xk rfl rfl ?_; refine JF.First 32 xk rfl rfl ?_; refine JF.FirstG 33 xk rfl rfl rfl rfl ?_; refine JF.FirstG 34 xk rfl rfl rfl rfl ?_; refine JF.First 35 xk rfl rfl ?_; refine JF.First 36 xk rfl rfl ?_; refine JF.FirstG 37 xk rfl rfl rfl rfl ?_; refine JF.Branch 38 [] xk StF.nil (BrF.one rfl rfl ?_ BrF.nil); (· ((refine JL.gT rfl rfl ?_ ; refine JL.M1 xk rfl rfl ?_)); refine JL.finN ?_; refine JF.Branch 39 [] xk StF.nil (BrF.one rfl rfl ?_ BrF.nil); (· (refine JL.S1g rfl rfl (fun hgd => d34) rfl trivial rfl ?_); refine JL.finN ?_; refine JF.First 40 xk rfl rfl ?_; refine JF.First 41 xk rfl rfl ?_; refine JF.FirstG 42 xk rfl rfl rfl rfl ?_; refine JF.FirstG 43 xk rfl rfl rfl rfl ?_; refine JF.First 44 xk rfl rfl ?_; refine JF.First 45 xk rfl rfl ?_; refine JF.FirstG 46 xk rfl rfl rfl rfl ?_; refine JF.FirstG 47 xk rfl rfl rfl rfl ?_; refine JF.First 48 xk rfl rfl ?_; refine JF.First 49 xk rfl rfl ?_; refine JF.FirstG 50 xk rfl rfl rfl rfl ?_; refine JF.Branch 51 [52] xk StF.nil (BrF.one rfl rfl ?_ (BrF.one rfl rfl ?_ BrF.nil)); (· ((refine JL.gT rfl rfl ?_ ; refine JL.M1 xk rfl rfl ?_)); refine JL.finN ?_; refine JF.Branch 52 [] xk StF.nil (BrF.one rfl rfl ?_ BrF.nil); (· ((refine JL.gT rfl rfl ?_ ; refine JL.M1 xk rfl rfl ?_)); refine JL.finN ?_; refine JF.Branch 53 [] xk StF.nil (BrF.one rfl rfl ?_ BrF.nil); (· ((refine JL.frz (10 :: 11 :: List.nil) (3 :: 5 :: 6 :: 8 :: 10 :: 13 :: 16 :: 18 :: 20 :: 25 :: 27 :: 29 :: 30 :: 207 :: 208 :: 209 :: 210 :: List.nil) rfl (by (first | exact trivial | (try dsimp only [allP, inK, idxC, loC, lohiC, fullC, underG, List.append, List.nil_append, List.cons_append, Ty.den, Ty.dflt, Int.toNat_natCast, List.length_cons, List.length_nil] at *); first | omega | ((repeat' (first | exact trivial | assumption | refine And.intro ?_ ?_ | exact fun h => h | (intro hpk; first | exact hpk | simp only [wantB, hpk, Bool.not_false, Bool.not_true]))) <;> omega) | fail)) ?_ ; refine JL.gT rfl rfl ?_ ; refine JL.M1 xk rfl rfl ?_)); refine JL.finN ?_; refine JF.Branch 54 [] xk StF.nil (BrF.one rfl rfl ?_ BrF.nil); (· (refine JL.S1g rfl rfl (fun hgd => d43) rfl trivial rfl ?_); refine JL.finN ?_; refine JF.First 55 xk rfl rfl ?_; refine JF.First 56 xk rfl rfl ?_; refine JF.FirstG 57 xk rfl rfl rfl rfl ?_; refine JF.Branch 58 [] xk StF.nil (BrF.one rfl rfl ?_ BrF.nil); (· ((refine JL.gT rfl rfl ?_ ; refine JL.M1 xk rfl rfl ?_)); refine JL.finN ?_; refine JF.Branch 59 [] xk StF.nil (BrF.one rfl rfl ?_ BrF.nil); (· (refine JL.S1g rfl rfl (fun hgd => d42) rfl trivial rfl ?_); refine JL.finN ?_; refine JF.First 60 xk rfl rfl ?_; refine JF.First 61 xk rfl rfl ?_; refine JF.FirstG 62 xk rfl rfl rfl rfl ?_; refine JF.FirstG 63 xk rfl rfl rfl rfl ?_; refine JF.First 64 xk rfl rfl ?_; refine JF.First 65 xk rfl rfl ?_; refine JF.FirstG 66 xk rfl rfl rfl rfl ?_; refine JF.FirstG 67 xk rfl rfl rfl rfl ?_; refine JF.First 68 xk rfl rfl ?_; refine JF.First 69 xk rfl rfl ?_; refine JF.Done xk StF.nil ?_; (((repeat (first | refine zs rfl ?_ | refine zg rfl rfl rfl ?_ | refine zd ?_ | refine JK.fin ?_ | refine JK.ret ?_)); refine ⟨.inl rfl, _, _, rfl, trivial, ?_⟩; rfl)))))))); (· ((refine JL.gT rfl rfl ?_ ; refine JL.M1 xk rfl rfl ?_)); refine JL.finN ?_; refine JF.Branch 51 [] xk StF.nil (BrF.one rfl rfl ?_ BrF.nil); (· ((refine JL.gT rfl rfl ?_ ; refine JL.M1 xk rfl rfl ?_)); refine JL.finN ?_; refine JF.Branch 53 [] xk StF.nil (BrF.one rfl rfl ?_ BrF.nil); (· ((refine JL.frz (10 :: 11 :: List.nil) (3 :: 5 :: 6 :: 8 :: 10 :: 13 :: 16 :: 18 :: 20 :: 25 :: 27 :: 29 :: 30 :: 207 :: 208 :: 209 :: 210 :: List.nil) rfl (by (first | exact trivial | (try dsimp only [allP, inK, idxC, loC, lohiC, fullC, underG, List.append, List.nil_append, List.cons_append, Ty.den, Ty.dflt, Int.toNat_natCast, List.length_cons, List.length_nil] at *); first | omega | ((repeat' (first | exact trivial | assumption | refine And.intro ?_ ?_ | exact fun h => h | (intro hpk; first | exact hpk | simp only [wantB, hpk, Bool.not_false, Bool.not_true]))) <;> omega) | fail)) ?_ ; refine JL.gT rfl rfl ?_ ; refine JL.M1 xk rfl rfl ?_)); refine JL.finN ?_; refine JF.Branch 54 [] xk StF.nil (BrF.one rfl rfl ?_ BrF.nil); (· (refine JL.S1g rfl rfl (fun hgd => d43) rfl trivial rfl ?_); refine JL.finN ?_; refine JF.First 55 xk rfl rfl ?_; refine JF.First 56 xk rfl rfl ?_; refine JF.FirstG 57 xk rfl rfl rfl rfl ?_; refine JF.Branch 58 [] xk StF.nil (BrF.one rfl rfl ?_ BrF.nil); (· ((refine JL.gT rfl rfl ?_ ; refine JL.M1 xk rfl rfl ?_)); refine JL.finN ?_; refine JF.Branch 59 [] xk StF.nil (BrF.one rfl rfl ?_ BrF.nil); (· (refine JL.S1g rfl rfl (fun hgd => d42) rfl trivial rfl ?_); refine JL.finN ?_; refine JF.First 60 xk rfl rfl ?_; refine JF.First 61 xk rfl rfl ?_; refine JF.FirstG 62 xk rfl rfl rfl rfl ?_; refine JF.FirstG 63 xk rfl rfl rfl rfl ?_; refine JF.First 64 xk rfl rfl ?_; refine JF.First 65 xk rfl rfl ?_; refine JF.FirstG 66 xk rfl rfl rfl rfl ?_; refine JF.FirstG 67 xk rfl rfl rfl rfl ?_; refine JF.First 68 xk rfl rfl ?_; refine JF.First 69 xk rfl rfl ?_; refine JF.Done xk StF.nil ?_; (((repeat (first | refine zs rfl ?_ | refine zg rfl rfl rfl ?_ | refine zd ?_ | refine JK.fin ?_ | refine JK.ret ?_)); refine ⟨.inl rfl, _, _, rfl, trivial, ?_⟩; rfl)))))))))))))); (· ((refine JL.gT rfl rfl ?_ ; refine JL.M1 xk rfl rfl ?_)); refine JL.finN ?_; refine JF.Branch 11 [13] xk StF.nil (BrF.one rfl rfl ?_ (BrF.one rfl rfl ?_ BrF.nil)); (· (refine JL.G1 xk rfl rfl rfl ?_); refine JL.finN ?_; refine JF.Branch 13 [] xk StF.nil (BrF.one rfl rfl ?_ BrF.nil); (· (first | (refine JL.frz (8 :: List.nil) (3 :: 5 :: 6 :: 8 :: 10 :: 13 :: 16 :: 18 :: 20 :: 25 :: 27 :: 29 :: 30 :: 168 :: 169 :: 170 :: List.nil) rfl (by (first | exact trivial | (try dsimp only [allP, inK, idxC, loC, lohiC, fullC, underG, List.append, List.nil_append, List.cons_append, Ty.den, Ty.dflt, Int.toNat_natCast, List.length_cons, List.length_nil] at *); first | omega | ((repeat' (first | exact trivial | assumption | refine And.intro ?_ ?_ | exact fun h => h | (intro hpk; first | exact hpk | simp only [wantB, hpk, Bool.not_false, Bool.not_true]))) <;> omega) | fail)) ?_ ; refine JL.gT rfl rfl ?_ ; refine JL.C1 rfl d57 rfl (fun r hr => ?_) ; subst hr) | (refine JL.frz (8 :: List.nil) (3 :: 5 :: 6 :: 8 :: 10 :: 13 :: 16 :: 18 :: 20 :: 25 :: 27 :: 29 :: 30 :: 168 :: 170 :: List.nil) rfl (by (first | exact trivial | (try dsimp only [allP, inK, idxC, loC, lohiC, fullC, underG, List.append, List.nil_append, List.cons_append, Ty.den, Ty.dflt, Int.toNat_natCast, List.length_cons, List.length_nil] at *); first | omega | ((repeat' (first | exact trivial | assumption | refine And.intro ?_ ?_ | exact fun h => h | (intro hpk; first | exact hpk | simp only [wantB, hpk, Bool.not_false, Bool.not_true]))) <;> omega) | fail)) ?_ ; refine JL.gT rfl rfl ?_ ; refine JL.C1 rfl d57 rfl (fun r hr => ?_) ; subst hr)); refine JL.finN ?_; refine JF.Branch 14 [] xk StF.nil (BrF.one rfl rfl ?_ BrF.nil); (· (refine JL.S1g rfl rfl (fun hgd => d23) rfl trivial rfl ?_); refine JL.finN ?_; refine JF.First 15 xk rfl rfl ?_; refine JF.First 16 xk rfl rfl ?_; refine JF.FirstG 17 xk rfl rfl rfl rfl ?_; refine JF.FirstG 18 xk rfl rfl rfl rfl ?_; refine JF.First 19 xk rfl rfl ?_; refine JF.First 20 xk rfl rfl ?_; refine JF.FirstG 21 xk rfl rfl rfl rfl ?_; refine JF.FirstG 22 xk rfl rfl rfl rfl ?_; refine JF.First 23 xk rfl rfl ?_; refine JF.First 24 xk rfl rfl ?_; refine JF.FirstG 25 xk rfl rfl rfl rfl ?_; refine JF.FirstG 26 xk rfl rfl rfl rfl ?_; refine JF.First 27 xk rfl rfl ?_; refine JF.First 28 xk rfl rfl ?_; refine JF.FirstG 29 xk rfl rfl rfl rfl ?_; refine JF.FirstG 30 xk rfl rfl rfl rfl ?_; refine JF.First 31 xk rfl rfl ?_; refine JF.First 32 xk rfl rfl ?_; refine JF.FirstG 33 xk rfl rfl rfl rfl ?_; refine JF.FirstG 34 xk rfl rfl rfl rfl ?_; refine JF.First 35 xk rfl rfl ?_; refine JF.First 36 xk rfl rfl ?_; refine JF.FirstG 37 xk rfl rfl rfl rfl ?_; refine JF.Branch 38 [] xk StF.nil (BrF.one rfl rfl ?_ BrF.nil); (· ((refine JL.gT rfl rfl ?_ ; refine JL.M1 xk rfl rfl ?_)); refine JL.finN ?_; refine JF.Branch 39 [] xk StF.nil (BrF.one rfl rfl ?_ BrF.nil); (· (refine JL.S1g rfl rfl (fun hgd => d34) rfl trivial rfl ?_); refine JL.finN ?_; refine JF.First 40 xk rfl rfl ?_; refine JF.First 41 xk rfl rfl ?_; refine JF.FirstG 42 xk rfl rfl rfl rfl ?_; refine JF.FirstG 43 xk rfl rfl rfl rfl ?_; refine JF.First 44 xk rfl rfl ?_; refine JF.First 45 xk rfl rfl ?_; refine JF.FirstG 46 xk rfl rfl rfl rfl ?_; refine JF.FirstG 47 xk rfl rfl rfl rfl ?_; refine JF.First 48 xk rfl rfl ?_; refine JF.First 49 xk rfl rfl ?_; refine JF.FirstG 50 xk rfl rfl rfl rfl ?_; refine JF.Branch 51 [52] xk StF.nil (BrF.one rfl rfl ?_ (BrF.one rfl rfl ?_ BrF.nil)); (· ((refine JL.gT rfl rfl ?_ ; refine JL.M1 xk rfl rfl ?_)); refine JL.finN ?_; refine JF.Branch 52 [] xk StF.nil (BrF.one rfl rfl ?_ BrF.nil); (· ((refine JL.gT rfl rfl ?_ ; refine JL.M1 xk rfl rfl ?_)); refine JL.finN ?_; refine JF.Branch 53 [] xk StF.nil (BrF.one rfl rfl ?_ BrF.nil); (· ((refine JL.frz (10 :: 11 :: List.nil) (3 :: 5 :: 6 :: 8 :: 10 :: 13 :: 16 :: 18 :: 20 :: 25 :: 27 :: 29 :: 30 :: 207 :: 208 :: 209 :: 210 :: List.nil) rfl (by (first | exact trivial | (try dsimp only [allP, inK, idxC, loC, lohiC, fullC, underG, List.append, List.nil_append, List.cons_append, Ty.den, Ty.dflt, Int.toNat_natCast, List.length_cons, List.length_nil] at *); first | omega | ((repeat' (first | exact trivial | assumption | refine And.intro ?_ ?_ | exact fun h => h | (intro hpk; first | exact hpk | simp only [wantB, hpk, Bool.not_false, Bool.not_true]))) <;> omega) | fail)) ?_ ; refine JL.gT rfl rfl ?_ ; refine JL.M1 xk rfl rfl ?_)); refine JL.finN ?_; refine JF.Branch 54 [] xk StF.nil (BrF.one rfl rfl ?_ BrF.nil); (· (refine JL.S1g rfl rfl (fun hgd => d43) rfl trivial rfl ?_); refine JL.finN ?_; refine JF.First 55 xk rfl rfl ?_; refine JF.First 56 xk rfl rfl ?_; refine JF.FirstG 57 xk rfl rfl rfl rfl ?_; refine JF.Branch 58 [] xk StF.nil (BrF.one rfl rfl ?_ BrF.nil); (· ((refine JL.gT rfl rfl ?_ ; refine JL.M1 xk rfl rfl ?_)); refine JL.finN ?_; refine JF.Branch 59 [] xk StF.nil (BrF.one rfl rfl ?_ BrF.nil); (· (refine JL.S1g rfl rfl (fun hgd => d42) rfl trivial rfl ?_); refine JL.finN ?_; refine JF.First 60 xk rfl rfl ?_; refine JF.First 61 xk rfl rfl ?_; refine JF.FirstG 62 xk rfl rfl rfl rfl ?_; refine JF.FirstG 63 xk rfl rfl rfl rfl ?_; refine JF.First 64 xk rfl rfl ?_; refine JF.First 65 xk rfl rfl ?_; refine JF.FirstG 66 xk rfl rfl rfl rfl ?_; refine JF.FirstG 67 xk rfl rfl rfl rfl ?_; refine JF.First 68 xk rfl rfl ?_; refine JF.First 69 xk rfl rfl ?_; refine JF.Done xk StF.nil ?_; (((repeat (first | refine zs rfl ?_ | refine zg rfl rfl rfl ?_ | refine zd ?_ | refine JK.fin ?_ | refine JK.ret ?_)); refine ⟨.inl rfl, _, _, rfl, trivial, ?_⟩; rfl)))))))); (· ((refine JL.gT rfl rfl ?_ ; refine JL.M1 xk rfl rfl ?_)); refine JL.finN ?_; refine JF.Branch 51 [] xk StF.nil (BrF.one rfl rfl ?_ BrF.nil); (· ((refine JL.gT rfl rfl ?_ ; refine JL.M1 xk rfl rfl ?_)); refine JL.finN ?_; refine JF.Branch 53 [] xk StF.nil (BrF.one rfl rfl ?_ BrF.nil); (· ((refine JL.frz (10 :: 11 :: List.nil) (3 :: 5 :: 6 :: 8 :: 10 :: 13 :: 16 :: 18 :: 20 :: 25 :: 27 :: 29 :: 30 :: 207 :: 208 :: 209 :: 210 :: List.nil) rfl (by (first | exact trivial | (try dsimp only [allP, inK, idxC, loC, lohiC, fullC, underG, List.append, List.nil_append, List.cons_append, Ty.den, Ty.dflt, Int.toNat_natCast, List.length_cons, List.length_nil] at *); first | omega | ((repeat' (first | exact trivial | assumption | refine And.intro ?_ ?_ | exact fun h => h | (intro hpk; first | exact hpk | simp only [wantB, hpk, Bool.not_false, Bool.not_true]))) <;> omega) | fail)) ?_ ; refine JL.gT rfl rfl ?_ ; refine JL.M1 xk rfl rfl ?_)); refine JL.finN ?_; refine JF.Branch 54 [] xk StF.nil (BrF.one rfl rfl ?_ BrF.nil); (· (refine JL.S1g rfl rfl (fun hgd => d43) rfl trivial rfl ?_); refine JL.finN ?_; refine JF.First 55 xk rfl rfl ?_; refine JF.First 56 xk rfl rfl ?_; refine JF.FirstG 57 xk rfl rfl rfl rfl ?_; refine JF.Branch 58 [] xk StF.nil (BrF.one rfl rfl ?_ BrF.nil); (· ((refine JL.gT rfl rfl ?_ ; refine JL.M1 xk rfl rfl ?_)); refine JL.finN ?_; refine JF.Branch 59 [] xk StF.nil (BrF.one rfl rfl ?_ BrF.nil); (· (refine JL.S1g rfl rfl (fun hgd => d42) rfl trivial rfl ?_); refine JL.finN ?_; refine JF.First 60 xk rfl rfl ?_; refine JF.First 61 xk rfl rfl ?_; refine JF.FirstG 62 xk rfl rfl rfl rfl ?_; refine JF.FirstG 63 xk rfl rfl rfl rfl ?_; refine JF.First 64 xk rfl rfl ?_; refine JF.First 65 xk rfl rfl ?_; refine JF.FirstG 66 xk rfl rfl rfl rfl ?_; refine JF.FirstG 67 xk rfl rfl rfl rfl ?_; refine JF.First 68 xk rfl rfl ?_; refine JF.First 69 xk rfl rfl ?_; refine JF.Done xk StF.nil ?_; (((repeat (first | refine zs rfl ?_ | refine zg rfl rfl rfl ?_ | refine zd ?_ | refine JK.fin ?_ | refine JK.ret ?_)); refine ⟨.inl rfl, _, _, rfl, trivial, ?_⟩; rfl))))))))))))); (· (first | (refine JL.frz (8 :: List.nil) (3 :: 5 :: 6 :: 8 :: 10 :: 13 :: 16 :: 18 :: 20 :: 25 :: 27 :: 29 :: 30 :: 168 :: 169 :: 170 :: List.nil) rfl (by (first | exact trivial | (try dsimp only [allP, inK, idxC, loC, lohiC, fullC, underG, List.append, List.nil_append, List.cons_append, Ty.den, Ty.dflt, Int.toNat_natCast, List.length_cons, List.length_nil] at *); first | omega | ((repeat' (first | exact trivial | assumption | refine And.intro ?_ ?_ | exact fun h => h | (intro hpk; first | exact hpk | simp only [wantB, hpk, Bool.not_false, Bool.not_true]))) <;> omega) | fail)) ?_ ; refine JL.gT rfl rfl ?_ ; refine JL.C1 rfl d57 rfl (fun r hr => ?_) ; subst hr) | (refine JL.frz (8 :: List.nil) (3 :: 5 :: 6 :: 8 :: 10 :: 13 :: 16 :: 18 :: 20 :: 25 :: 27 :: 29 :: 30 :: 168 :: 170 :: List.nil) rfl (by (first | exact trivial | (try dsimp only [allP, inK, idxC, loC, lohiC, fullC, underG, List.append, List.nil_append, List.cons_append, Ty.den, Ty.dflt, Int.toNat_natCast, List.length_cons, List.length_nil] at *); first | omega | ((repeat' (first | exact trivial | assumption | refine And.intro ?_ ?_ | exact fun h => h | (intro hpk; first | exact hpk | simp only [wantB, hpk, Bool.not_false, Bool.not_true]))) <;> omega) | fail)) ?_ ; refine JL.gT rfl rfl ?_ ; refine JL.C1 rfl d57 rfl (fun r hr => ?_) ; subst hr)); refine JL.finN ?_; refine JF.Branch 11 [] xk StF.nil (BrF.one rfl rfl ?_ BrF.nil); (· (refine JL.G1 xk rfl rfl rfl ?_); refine JL.finN ?_; refine JF.Branch 14 [] xk StF.nil (BrF.one rfl rfl ?_ BrF.nil); (· (refine JL.S1g rfl rfl (fun hgd => d23) rfl trivial rfl ?_); refine JL.finN ?_; refine JF.First 15 xk rfl rfl ?_; refine JF.First 16 xk rfl rfl ?_; refine JF.FirstG 17 xk rfl rfl rfl rfl ?_; refine JF.FirstG 18 xk rfl rfl rfl rfl ?_; refine JF.First 19 xk rfl rfl ?_; refine JF.First 20 xk rfl rfl ?_; refine JF.FirstG 21 xk rfl rfl rfl rfl ?_; refine JF.FirstG 22 xk rfl rfl rfl rfl ?_; refine JF.First 23 xk rfl rfl ?_; refine JF.First 24 xk rfl rfl ?_; refine JF.FirstG 25 xk rfl rfl rfl rfl ?_; refine JF.FirstG 26 xk rfl rfl rfl rfl ?_; refine JF.First 27 xk rfl rfl ?_; refine JF.First 28 xk rfl rfl ?_; refine JF.FirstG 29 xk rfl rfl rfl rfl ?_; refine JF.FirstG 30 xk rfl rfl rfl rfl ?_; refine JF.First 31 xk rfl rfl ?_; refine JF.First 32 xk rfl rfl ?_; refine JF.FirstG 33 xk rfl rfl rfl rfl ?_; refine JF.FirstG 34 xk rfl rfl rfl rfl ?_; refine JF.First 35 xk rfl rfl ?_; refine JF.First 36 xk rfl rfl ?_; refine JF.FirstG 37 xk rfl rfl rfl rfl ?_; refine JF.Branch 38 [] xk StF.nil (BrF.one rfl rfl ?_ BrF.nil); (· ((refine JL.gT rfl rfl ?_ ; refine JL.M1 xk rfl rfl ?_)); refine JL.finN ?_; refine JF.Branch 39 [] xk StF.nil (BrF.one rfl rfl ?_ BrF.nil); (· (refine JL.S1g rfl rfl (fun hgd => d34) rfl trivial rfl ?_); refine JL.finN ?_; refine JF.First 40 xk rfl rfl ?_; refine JF.First 41 xk rfl rfl ?_; refine JF.FirstG 42 xk rfl rfl rfl rfl ?_; refine JF.FirstG 43 xk rfl rfl rfl rfl ?_; refine JF.First 44 xk rfl rfl ?_; refine JF.First 45 xk rfl rfl ?_; refine JF.FirstG 46 xk rfl rfl rfl rfl ?_; refine JF.FirstG 47 xk rfl rfl rfl rfl ?_; refine JF.First 48 xk rfl rfl ?_; refine JF.First 49 xk rfl rfl ?_; refine JF.FirstG 50 xk rfl rfl rfl rfl ?_; refine JF.Branch 51 [52] xk StF.nil (BrF.one rfl rfl ?_ (BrF.one rfl rfl ?_ BrF.nil)); (· ((refine JL.gT rfl rfl ?_ ; refine JL.M1 xk rfl rfl ?_)); refine JL.finN ?_; refine JF.Branch 52 [] xk StF.nil (BrF.one rfl rfl ?_ BrF.nil); (· ((refine JL.gT rfl rfl ?_ ; refine JL.M1 xk rfl rfl ?_)); refine JL.finN ?_; refine JF.Branch 53 [] xk StF.nil (BrF.one rfl rfl ?_ BrF.nil); (· ((refine JL.frz (10 :: 11 :: List.nil) (3 :: 5 :: 6 :: 8 :: 10 :: 13 :: 16 :: 18 :: 20 :: 25 :: 27 :: 29 :: 30 :: 207 :: 208 :: 209 :: 210 :: List.nil) rfl (by (first | exact trivial | (try dsimp only [allP, inK, idxC, loC, lohiC, fullC, underG, List.append, List.nil_append, List.cons_append, Ty.den, Ty.dflt, Int.toNat_natCast, List.length_cons, List.length_nil] at *); first | omega | ((repeat' (first | exact trivial | assumption | refine And.intro ?_ ?_ | exact fun h => h | (intro hpk; first | exact hpk | simp only [wantB, hpk, Bool.not_false, Bool.not_true]))) <;> omega) | fail)) ?_ ; refine JL.gT rfl rfl ?_ ; refine JL.M1 xk rfl rfl ?_)); refine JL.finN ?_; refine JF.Branch 54 [] xk StF.nil (BrF.one rfl rfl ?_ BrF.nil); (· (refine JL.S1g rfl rfl (fun hgd => d43) rfl trivial rfl ?_); refine JL.finN ?_; refine JF.First 55 xk rfl rfl ?_; refine JF.First 56 xk rfl rfl ?_; refine JF.FirstG 57 xk rfl rfl rfl rfl ?_; refine JF.Branch 58 [] xk StF.nil (BrF.one rfl rfl ?_ BrF.nil); (· ((refine JL.gT rfl rfl ?_ ; refine JL.M1 xk rfl rfl ?_)); refine JL.finN ?_; refine JF.Branch 59 [] xk StF.nil (BrF.one rfl rfl ?_ BrF.nil); (· (refine JL.S1g rfl rfl (fun hgd => d42) rfl trivial rfl ?_); refine JL.finN ?_; refine JF.First 60 xk rfl rfl ?_; refine JF.First 61 xk rfl rfl ?_; refine JF.FirstG 62 xk rfl rfl rfl rfl ?_; refine JF.FirstG 63 xk rfl rfl rfl rfl ?_; refine JF.First 64 xk rfl rfl ?_; refine JF.First 65 xk rfl rfl ?_; refine JF.FirstG 66 xk rfl rfl rfl rfl ?_; refine JF.FirstG 67 xk rfl rfl rfl rfl ?_; refine JF.First 68 xk rfl rfl ?_; refine JF.First 69 xk rfl rfl ?_; refine JF.Done xk StF.nil ?_; (((repeat (first | refine zs rfl ?_ | refine zg rfl rfl rfl ?_ | refine zd ?_ | refine JK.fin ?_ | refine JK.ret ?_)); refine ⟨.inl rfl, _, _, rfl, trivial, ?_⟩; rfl)))))))); (· ((refine JL.gT rfl rfl ?_ ; refine JL.M1 xk rfl rfl ?_)); refine JL.finN ?_; refine JF.Branch 51 [] xk StF.nil (BrF.one rfl rfl ?_ BrF.nil); (· ((refine JL.gT rfl rfl ?_ ; refine JL.M1 xk rfl rfl ?_)); refine JL.finN ?_; refine JF.Branch 53 [] xk StF.nil (BrF.one rfl rfl ?_ BrF.nil); (· ((refine JL.frz (10 :: 11 :: List.nil) (3 :: 5 :: 6 :: 8 :: 10 :: 13 :: 16 :: 18 :: 20 :: 25 :: 27 :: 29 :: 30 :: 207 :: 208 :: 209 :: 210 :: List.nil) rfl (by (first | exact trivial | (try dsimp only [allP, inK, idxC, loC, lohiC, fullC, underG, List.append, List.nil_append, List.cons_append, Ty.den, Ty.dflt, Int.toNat_natCast, List.length_cons, List.length_nil] at *); first | omega | ((repeat' (first | exact trivial | assumption | refine And.intro ?_ ?_ | exact fun h => h | (intro hpk; first | exact hpk | simp only [wantB, hpk, Bool.not_false, Bool.not_true]))) <;> omega) | fail)) ?_ ; refine JL.gT rfl rfl ?_ ; refine JL.M1 xk rfl rfl ?_)); refine JL.finN ?_; refine JF.Branch 54 [] xk StF.nil (BrF.one rfl rfl ?_ BrF.nil); (· (refine JL.S1g rfl rfl (fun hgd => d43) rfl trivial rfl ?_); refine JL.finN ?_; refine JF.First 55 xk rfl rfl ?_; refine JF.First 56 xk rfl rfl ?_; refine JF.FirstG 57 xk rfl rfl rfl rfl ?_; refine JF.Branch 58 [] xk StF.nil (BrF.one rfl rfl ?_ BrF.nil); (· ((refine JL.gT rfl rfl ?_ ; refine JL.M1 xk rfl rfl ?_)); refine JL.finN ?_; refine JF.Branch 59 [] xk StF.nil (BrF.one rfl rfl ?_ BrF.nil); (· (refine JL.S1g rfl rfl (fun hgd => d42) rfl trivial rfl ?_); refine JL.finN ?_; refine JF.First 60 xk rfl rfl ?_; refine JF.First 61 xk rfl rfl ?_; refine JF.FirstG 62 xk rfl rfl rfl rfl ?_; refine JF.FirstG 63 xk rfl rfl rfl rfl ?_; refine JF.First 64 xk rfl rfl ?_; refine JF.First 65 xk rfl rfl ?_; refine JF.FirstG 66 xk rfl rfl rfl rfl ?_; refine JF.FirstG 67 xk rfl rfl rfl rfl ?_; refine JF.First 68 xk rfl rfl ?_; refine JF.First 69 xk rfl rfl ?_; refine JF.Done xk StF.nil ?_; (((repeat (first | refine zs rfl ?_ | refine zg rfl rfl rfl ?_ | refine zd ?_ | refine JK.fin ?_ | refine JK.ret ?_)); refine ⟨.inl rfl, _, _, rfl, trivial, ?_⟩; rfl)))))))))))))))
end Go.Proofs.Ytinehlphcckkmaa

namespace Go.Proofs.Ytinehlphcckkmaa
open Go Go.RowKit Ox Ox.Sh Ox.Se
variable {P : Int} {l m : List Pt}
abbrev rotL {α : Type} (o : List α) (k : Nat) : List α := o.drop k ++ o.take k
theorem rot_rd (o : List Nat) {k : Nat} (hk : k < o.length) : rdL P l (rotL o k) = rdL P l o := by
  cases k with
  | zero => rw [rotL, List.drop_zero, List.take_zero, List.append_nil]
  | succ k =>
    cases o with
    | nil => cases hk
    | cons h t =>
      have hk' : k < t.length := by simpa using hk
      have e1 : t = t.take k ++ t[k] :: t.drop (k + 1) := by rw [← List.drop_eq_getElem_cons hk', List.take_append_drop]
      have e2 : rotL (h :: t) (k + 1) = t[k] :: (t.drop (k + 1) ++ h :: t.take k) := by
        rw [rotL, List.drop_succ_cons, List.take_succ_cons, List.drop_eq_getElem_cons hk', List.cons_append]
      rw [e2]
      have := tot_rot (P := P) (l := l) h t[k] (t.take k) (t.drop (k + 1))
      rw [← e1] at this
      show tot P l _ _ / P = tot P l h t / P
      rw [this]
theorem rot_perm' {α : Type} (o : List α) (k : Nat) : (rotL o k).Perm o := by
  have h : o.Perm (o.take k ++ o.drop k) := by rw [List.take_append_drop]
  exact (List.perm_append_comm).trans h.symm
theorem rot_zero {o : List Nat} (h1 : 1 ≤ l.length) (hp : o.Perm (List.range l.length)) : ∃ k, k < o.length ∧ rotL o k ∈ allO l.length := by
  have h0 : 0 ∈ o := hp.mem_iff.2 (List.mem_range.2 (by omega))
  obtain ⟨u, v, rfl⟩ := List.append_of_mem h0
  refine ⟨u.length, by simp, (mem_allO h1).2 ⟨v ++ u, ?_, ?_⟩⟩
  · simp [rotL]
  · have := rot_perm' (u ++ 0 :: v) u.length
    have e : rotL (u ++ 0 :: v) u.length = 0 :: (v ++ u) := by simp [rotL]
    rw [e] at this
    exact this.trans hp
theorem le_any (h1 : 1 ≤ l.length) {o : List Nat} (hp : o.Perm (List.range l.length)) : leR P l ≤ rdL P l o := by
  obtain ⟨k, hk, ha⟩ := rot_zero h1 hp
  rw [← rot_rd o hk]
  exact leR_all ha
def shL (P q : Int) (l : List Pt) : List Pt := l.map fun p => ((p.1 + q) % P, p.2.1, ())
def bkL (P : Int) (l : List Pt) : List Pt := (List.range l.length).map fun n => ((P - eN P l n) % P, lO l n, ())
def tnO : List Nat → List Nat
  | [] => []
  | h :: t => h :: t.reverse
abbrev W18 : Prop := Ox.Fn Try.prog 18 .anil (· = .val .bool true)
end Go.Proofs.Ytinehlphcckkmaa

namespace Go.Proofs.Ytinehlphcckkmaa
open Go Go.RowKit Ox Ox.Sh Ox.Se
variable {P : Int} {l m : List Pt}
theorem gp_cover (h8 : l.length ≤ 8) : ∀ k, k ≤ l.length → (∀ g ∈ gpK P l k, ∃ j, j < k ∧ g = cmpL P l j) ∧ (∀ i, i < k → i ∈ (gpK P l k).flatten) ∧ (gpK P l k).flatten.Nodup
  | 0, _ => ⟨(fun g h => by cases h), (fun i h => by omega), List.nodup_nil⟩
  | k + 1, hk => by
    obtain ⟨a, b, c⟩ := gp_cover h8 k (by omega)
    rw [gpK]
    by_cases h : k ∈ (gpK P l k).flatten
    · rw [if_pos h]
      refine ⟨fun g hg => ?_, fun i hi => ?_, c⟩
      · obtain ⟨j, hj, e⟩ := a g hg; exact ⟨j, by omega, e⟩
      · by_cases e : i = k
        · subst e; exact h
        · exact b i (by omega)
    · rw [if_neg h]
      refine ⟨fun g hg => ?_, fun i hi => ?_, ?_⟩
      · rcases List.mem_append.1 hg with hg | hg
        · obtain ⟨j, hj, e⟩ := a g hg; exact ⟨j, by omega, e⟩
        · exact ⟨k, by omega, List.mem_singleton.1 hg⟩
      · rw [List.flatten_append, List.mem_append]
        by_cases e : i = k
        · subst e
          exact Or.inr (by rw [List.flatten_singleton]; exact (mem_cmp h8 (by omega)).2 .refl)
        · exact Or.inl (b i (by omega))
      · rw [List.flatten_append, List.flatten_singleton, List.nodup_append]
        refine ⟨c, cmp_nd P l k, fun x hx y hy e => ?_⟩
        subst e
        obtain ⟨g, hg, hxg⟩ := List.mem_flatten.1 hx
        obtain ⟨j, hj, rfl⟩ := a g hg
        have c1 := (mem_cmp h8 (by omega)).1 hxg
        have c2 := (mem_cmp h8 (by omega)).1 hy
        exact h (List.mem_flatten.2 ⟨_, hg, (mem_cmp h8 (by omega)).2 (c1.trans (c2.symm (by omega)))⟩)
theorem gp_head (P : Int) (l : List Pt) : ∀ k, ∃ r, gpK P l (k + 1) = cmpL P l 0 :: r
  | 0 => ⟨[], by rw [gpK, if_neg (by simp [gpK])]; rfl⟩
  | k + 1 => by
    obtain ⟨r, e⟩ := gp_head P l k
    rw [gpK]
    split
    · exact ⟨r, e⟩
    · exact ⟨r ++ [cmpL P l (k + 1)], by rw [e]; rfl⟩
theorem gp_sum (h8 : l.length ≤ 8) : (gpK P l l.length).flatten.length = l.length := by
  obtain ⟨a, b, c⟩ := gp_cover (P := P) h8 l.length (Nat.le_refl _)
  refine (full_len c fun x hx => ?_).2 b
  obtain ⟨g, hg, hxg⟩ := List.mem_flatten.1 hx
  obtain ⟨j, hj, rfl⟩ := a g hg
  exact cmp_lt h8 hj x hxg
theorem gp_one (h1 : 1 ≤ l.length) (h8 : l.length ≤ 8) : (gpK P l l.length).length = 1 ↔ (cmpL P l 0).length = l.length := by
  obtain ⟨a, b, c⟩ := gp_cover (P := P) h8 l.length (Nat.le_refl _)
  have hs := gp_sum (P := P) h8
  obtain ⟨r, e⟩ := gp_head P l (l.length - 1)
  rw [show l.length - 1 + 1 = l.length by omega] at e
  rw [e] at a b c hs ⊢
  constructor
  · intro h
    have : r = [] := List.length_eq_zero_iff.1 (by simpa using h)
    subst this
    rw [List.flatten_singleton] at hs
    exact hs
  · intro h
    cases r with
    | nil => rfl
    | cons g r =>
      obtain ⟨j, hj, rfl⟩ := a g (by simp)
      rw [List.flatten_cons, List.length_append, List.flatten_cons, List.length_append, h] at hs
      have : j ∈ cmpL P l j := (mem_cmp h8 hj).2 .refl
      have := List.length_pos_of_mem this
      omega
theorem either (hz : seE P l = 0) : ((cmpL P l 0).length = l.length → leR P l = pkV P l) ∧ ((cmpL P l 0).length ≠ l.length → leR P l = pkV P l + 1) := by
  obtain ⟨hP, h1, h8, hl⟩ := se_ok.1 hz
  have hne : l ≠ [] := fun e => by rw [e] at h1; simp at h1
  have hf := pk_full (l := l) hP.1
  have a : pkV P l ≤ leR P l := leR_ge hP.1 hne _
  have b : leR P l ≤ pkV P l + 1 := leR_top hP.1 hne hf
  have c : leR P l = pkV P l ↔ (cmpL P l 0).length = l.length := by
    rw [cmp_all h8 (by omega), ← held_conn hP.1 hl h1]
    exact leR_held hP.1 hne hf
  exact ⟨c.2, fun h => by
    have : leR P l ≠ pkV P l := fun e => h (c.1 e)
    omega⟩
theorem inc_iL {N : Nat} {o : List Nat} (h1 : o.Pairwise (· < ·)) (h2 : ∀ n ∈ o, n < N) : Inc N (iL o) := by
  refine ⟨fun x hx => ?_, ?_⟩
  · obtain ⟨n, hn, rfl⟩ := List.mem_map.1 hx
    have := h2 n hn
    constructor <;> omega
  · rw [List.pairwise_map]
    exact h1.imp fun h => by omega
theorem cmp_sorted (P : Int) (l : List Pt) (n : Nat) : (cmpL P l n).Pairwise (· < ·) := List.pairwise_lt_range.filter _
theorem cmp_apart (hz : seE P l = 0) (h : (cmpL P l 0).length ≠ l.length) : apcE P l (iL (cmpL P l 0)) = 0 := by
  obtain ⟨hP, h1, h8, hl⟩ := se_ok.1 hz
  unfold apcE
  have hi : Inc l.length (iL (cmpL P l 0)) := inc_iL (cmp_sorted P l 0) (cmp_lt h8 (by omega))
  have hm : (0 : Nat) ∈ cmpL P l 0 := (mem_cmp h8 (by omega)).2 .refl
  rw [if_neg (by rw [hz]; simp), if_neg (fun h => h hi), if_neg, if_neg]
  · rw [nat_iL, crB_iff]
    rintro ⟨i, k, hi, hk, a, b, c⟩
    exact b ((mem_cmp h8 (by omega)).2 (.step ((mem_cmp h8 (by omega)).1 a) hk c))
  · rw [iL_len]
    rintro (h' | h')
    · have := List.map_eq_nil_iff.1 h'
      rw [this] at hm; cases hm
    · exact h h'
theorem apart_more (hz : seE P l = 0) {xs : List Int} (h : apcE P l xs = 0) : pkV P l < leR P l := by
  obtain ⟨hP, h1, h8, hl⟩ := se_ok.1 hz
  have hne : l ≠ [] := fun e => by rw [e] at h1; simp at h1
  have hf := pk_full (l := l) hP.1
  have a : pkV P l ≤ leR P l := leR_ge hP.1 hne _
  refine Classical.byContradiction fun hlt => ?_
  have e : pkV P l = leR P l := by omega
  have hh : held P l (pkA P l : Int) := (leR_held hP.1 hne hf).1 e.symm
  unfold apcE at h
  rw [if_neg (by rw [hz]; simp)] at h
  by_cases hi : Inc l.length xs
  · rw [if_neg (fun h => h hi)] at h
    by_cases c : xs = [] ∨ xs.length = l.length
    · rw [if_pos c] at h; cases h
    · rw [if_neg c] at h
      by_cases d : crB P l (natL xs) = true
      · rw [if_pos d] at h; cases h
      · obtain ⟨n1, n2, n3⟩ := hi.nat
        have hnd : (natL xs).Nodup := n1.imp fun h => Nat.ne_of_lt h
        have hlen : (natL xs).length = xs.length := List.length_map _
        obtain ⟨i, k, hi, hk, si, sk, ht⟩ := hh (· ∈ natL xs) (by
          obtain ⟨x, r, e⟩ := List.exists_cons_of_ne_nil (fun e => c (Or.inl e) : xs ≠ [])
          have : x.toNat ∈ natL xs := by rw [e]; simp
          exact ⟨_, n2 _ this, this⟩) (by
          refine Classical.byContradiction fun hn => c (Or.inr ?_)
          rw [← hlen]
          refine (full_len hnd n2).2 fun m hm => ?_
          exact Classical.byContradiction fun h' => hn ⟨m, hm, h'⟩)
        refine d (crB_iff.2 ⟨i, k, hi, hk, si, sk, ?_⟩)
        rw [tB_iff]; exact (tch_st hP.1 hl hi hk).1 ht
  · rw [if_pos hi] at h; cases h
theorem apc_cases (hz : seE P l = 0) {xs : List Int} (hi : Inc l.length xs) : apcE P l xs = 0 ∨ apcE P l xs = 14 := by
  unfold apcE
  rw [if_neg (by rw [hz]; simp), if_neg (fun h => h hi)]
  split
  · exact Or.inr rfl
  · split
    · exact Or.inr rfl
    · exact Or.inl rfl
def wholeB (xs g : List Int) : Bool := decide (g.countP (fun x => decide (x ∈ xs)) = 0) || decide (g.countP (fun x => decide (x ∈ xs)) = g.length)
theorem whole_iff (hz : seE P l = 0) {xs : List Int} (hi : Inc l.length xs) : apcE P l xs = 0 ↔ (0 < xs.length ∧ xs.length < l.length) ∧ (gpI P l).all (wholeB xs) = true := by
  obtain ⟨hP, h1, h8, hl⟩ := se_ok.1 hz
  obtain ⟨n1, n2, n3⟩ := hi.nat
  have hnd : (natL xs).Nodup := n1.imp fun h => Nat.ne_of_lt h
  have hlen : (natL xs).length = xs.length := List.length_map _
  have hle := nodup_len hnd n2
  obtain ⟨a, b, c⟩ := gp_cover (P := P) h8 l.length (Nat.le_refl _)
  have hmem : ∀ n : Nat, (n : Int) ∈ xs ↔ n ∈ natL xs := fun n => by
    conv => lhs; rw [← n3]
    exact mem_iL
  have hcr : crB P l (natL xs) = true ↔ ¬ (gpI P l).all (wholeB xs) = true := by
    rw [crB_iff, show gpI P l = iLL (gpK P l l.length) by unfold gpI; rw [if_pos hz]]
    constructor
    · rintro ⟨i, k, hi, hk, si, sk, ht⟩ hall
      obtain ⟨g, hg, hig⟩ := List.mem_flatten.1 (b i hi)
      have hg2 := List.all_eq_true.1 hall _ (List.mem_map_of_mem hg)
      obtain ⟨j, hj, rfl⟩ := a g hg
      have hkg : k ∈ cmpL P l j := (mem_cmp h8 hj).2 (.step ((mem_cmp h8 hj).1 hig) hk ht)
      unfold wholeB at hg2
      rw [Bool.or_eq_true, decide_eq_true_iff, decide_eq_true_iff, List.countP_eq_zero, List.countP_eq_length] at hg2
      rcases hg2 with h | h
      · exact h _ (mem_iL.2 hig) (decide_eq_true ((hmem i).2 si))
      · exact sk ((hmem k).1 (of_decide_eq_true (h _ (mem_iL.2 hkg))))
    · intro hall
      have hex : ∃ g ∈ gpK P l l.length, ¬ wholeB xs (iL g) = true := by
        refine Classical.byContradiction fun hn => hall (List.all_eq_true.2 fun y hy => ?_)
        obtain ⟨g, hg, rfl⟩ := List.mem_map.1 hy
        exact Classical.byContradiction fun h => hn ⟨g, hg, h⟩
      obtain ⟨g, hg, hw⟩ := hex
      obtain ⟨j, hj, rfl⟩ := a g hg
      unfold wholeB at hw
      rw [Bool.or_eq_true, decide_eq_true_iff, decide_eq_true_iff, List.countP_eq_zero, List.countP_eq_length] at hw
      have w1 : ∃ p, p ∈ cmpL P l j ∧ p ∈ natL xs := by
        refine Classical.byContradiction fun hn => hw (Or.inl fun y hy => ?_)
        obtain ⟨p, hp, rfl⟩ := List.mem_map.1 hy
        intro hd
        exact hn ⟨p, hp, (hmem p).1 (of_decide_eq_true hd)⟩
      have w2 : ∃ q, q ∈ cmpL P l j ∧ q ∉ natL xs := by
        refine Classical.byContradiction fun hn => hw (Or.inr fun y hy => ?_)
        obtain ⟨p, hp, rfl⟩ := List.mem_map.1 hy
        refine decide_eq_true ((hmem p).2 (Classical.byContradiction fun h => hn ⟨p, hp, h⟩))
      obtain ⟨p, hp, sp⟩ := w1
      obtain ⟨q, hq, sq⟩ := w2
      have cp := (mem_cmp h8 hj).1 hp
      have cq := (mem_cmp h8 hj).1 hq
      have hpq : Conn P l p q := (cp.symm hj).trans cq
      refine Classical.byContradiction fun hn => sq ?_
      clear hq cq
      induction hpq with
      | refl => exact sp
      | step hx hk ht ih =>
        refine Classical.byContradiction fun h => hn ⟨_, _, hx.lt (cp.lt hj), hk, ?_, h, ht⟩
        exact Classical.byContradiction fun h' => h' (ih h')
  unfold apcE
  rw [if_neg (by rw [hz]; simp), if_neg (fun h => h hi)]
  by_cases d : xs = [] ∨ xs.length = l.length
  · rw [if_pos d]
    constructor
    · intro h; cases h
    · rintro ⟨⟨h2, h3⟩, _⟩
      rcases d with rfl | d
      · simp at h2
      · omega
  · rw [if_neg d]
    have d1 : 0 < xs.length := List.length_pos_iff.2 fun e => d (Or.inl e)
    have d2 : xs.length ≠ l.length := fun e => d (Or.inr e)
    by_cases e : crB P l (natL xs) = true
    · rw [if_pos e]
      constructor
      · intro h; cases h
      · rintro ⟨_, h⟩; exact absurd h (hcr.1 e)
    · rw [if_neg e]
      refine ⟨fun _ => ⟨⟨d1, by omega⟩, ?_⟩, fun _ => rfl⟩
      exact Classical.byContradiction fun h => e (hcr.2 h)
def op2 (P : Int) (l : List Pt) (p q : Int) : Prop := ∀ k : Nat, (k : Int) < (q - p) % P → ov P l (p + k) < pkV P l
end Go.Proofs.Ytinehlphcckkmaa

namespace Go.Proofs.Ytinehlphcckkmaa
open Go Go.RowKit Ox Ox.Sh Ox.Se
variable {P : Int} {l m : List Pt}
abbrev delL (l : List Pt) (k : Nat) : List Pt := l.take k ++ l.drop (k + 1)
def upN (k i : Nat) : Nat := if i < k then i else i + 1
def dnN (k i : Nat) : Nat := if i < k then i else i - 1
def lgL (P : Int) (l : List Pt) (k : Nat) : List Pt := l.set k ((l.getD k zP).1, (l.getD k zP).2.1 + P, ())
end Go.Proofs.Ytinehlphcckkmaa

namespace Go.Proofs.Ytinehlphcckkmaa
open Go Go.RowKit Ox Ox.Sh Ox.Se
variable {P : Int} {l m : List Pt}
theorem perm_ord {o : List Nat} (hp : o.Perm (List.range l.length)) : Ord l.length (iL o) :=
  ord_of (by rw [hp.length_eq, List.length_range]) (fun n hn => List.mem_range.1 (hp.mem_iff.1 hn)) (hp.nodup_iff.2 List.nodup_range)
theorem ord_facts (hz : seE P l = 0) {o : List Nat} (hp : o.Perm (List.range l.length)) : ordE P l (iL o) = 0 ∧ rdI P l (iL o) = rdL P l o ∧ wasI P l (iL o) = wasL P l o o.length := by
  have h : ordE P l (iL o) = 0 := ordE_ok.2 ⟨hz, perm_ord hp⟩
  refine ⟨h, ?_, ?_⟩
  · unfold rdI; rw [if_pos h, nat_iL]
  · unfold wasI; rw [if_pos h, nat_iL]
end Go.Proofs.Ytinehlphcckkmaa

namespace Go.Proofs.Ytinehlphcckkmaa
open Go Go.RowKit Ox Ox.Sh Ox.Se
attribute [local irreducible] JC JL JK JW
attribute [local irreducible] ovA stA pkV
theorem fine_of {P : Int} {l : List Pt} {u : List Int} (hc : (bif !decide (seE P l = 0) then true else decide ((u.length : Int) > 30)) = false) : seE P l = 0 ∧ u.length ≤ 30 := by
  by_cases e : seE P l = 0
  · rw [decide_eq_true e] at hc
    have := of_decide_eq_false hc
    exact ⟨e, by omega⟩
  · rw [decide_eq_false e] at hc; cases hc
theorem gpI_all {P : Int} {l : List Pt} (hz : seE P l = 0) : gpI P l = iLL (gpK P l l.length) := by unfold gpI; rw [if_pos hz]
theorem bfalse {p : Prop} [Decidable p] (h : ¬ p) : decide p = false := decide_eq_false h
set_option maxHeartbeats 4000000 in
theorem law9 (w : W18) (P : Int) (l : List Pt) (u : List Int) (hu : ∀ x ∈ u, 0 ≤ x ∧ x ≤ 255) : Ox.Fn Try.prog 9 (.acons (vS P l) (.acons (vU u) .anil)) (· = vB true) := by
  refine Ox.Fn.intro xok Try.func9 rfl Try.call9 (Nat.le_of_ble_eq_true rfl) (fun E M0 up => ?_)
  refine JK.start ?_
  (repeat (first | refine zs rfl ?_ | refine zg rfl rfl rfl ?_ | refine zd ?_ | refine JK.fin ?_ | refine JK.ret ?_ | refine zc rfl (fn50 P l) rfl rfl ?_ | refine ze rfl (fn50 P l) rfl ?_ | refine zk rfl rfl (fun _ => fn50 P l) rfl rfl ?_))
  refine JK.cond rfl (fun hc => ?_) (fun hc => ?_)
  · (repeat (first | refine zs rfl ?_ | refine zg rfl rfl rfl ?_ | refine zd ?_ | refine JK.fin ?_ | refine JK.ret ?_ | refine zc rfl (w) rfl rfl ?_ | refine ze rfl (w) rfl ?_ | refine zk rfl rfl (fun _ => w) rfl rfl ?_))
    refine ⟨.inl rfl, _, _, rfl, trivial, ?_⟩
    rfl
  · obtain ⟨hz, hul⟩ := fine_of hc
    obtain ⟨hP, h1, h8, hl⟩ := se_ok.1 hz
    have hp := ordR_perm u l.length
    obtain ⟨o1, o2, o3⟩ := ord_facts hz hp
    have c51 := fn51 P l
    have c28 := fn28 P l
    have c38 := fn38 P l
    have c40 := fn40 P l
    have c52 := fn52 P l u (by omega) hu (by omega)
    have c30 := fn30 P l (iL (ordR u l.length))
    have c27 := fn27 P l (pkA P l : Int)
    have hov : overE P l (pkA P l : Int) = 0 := over_ok.2 ⟨hz, (pk_full hP.1).1⟩
    rw [show lstI P l = leR P l by unfold lstI; rw [if_pos hz], decide_eq_true hz] at c51
    rw [show pkI P l = pkV P l by unfold pkI; rw [if_pos hz], show paI P l = (pkA P l : Int) by unfold paI; rw [if_pos hz], hz] at c28
    rw [hz] at c40
    rw [o1, o2] at c30
    rw [hov, show overI P l (pkA P l : Int) = pkV P l by unfold overI; rw [if_pos hov]; exact pkV_def] at c27
    have hle := le_any (P := P) h1 hp
    have hge : pkV P l ≤ leR P l := by rw [← pkV_def]; exact leR_ge (l := l) hP.1 (fun e => by rw [e] at h1; simp at h1) (pkA P l : Int)
    have hpb : 0 ≤ pkV P l ∧ pkV P l ≤ 10001 * l.length := by rw [← pkV_def]; exact ov_bd hP.1 hl _
    have hei := either hz
    have hgo := gp_one (P := P) h1 h8
    obtain ⟨r, hr⟩ := gp_head P l (l.length - 1)
    rw [show l.length - 1 + 1 = l.length by omega] at hr
    have hG := gpI_all hz
    have hap := cmp_apart hz
    have c44 := fn44 P l (apI P l)
    have c45 := fn45 P l (apI P l)
    have hgl : 1 ≤ (gpI P l).length := by rw [hG, hr]; simp
    have hgs : (gpI P l).length = (gpK P l l.length).length := by rw [hG, List.length_map]
    have hg0 : (gpI P l).getD (Int.toNat 0) (Ty.dflt (.slice (.int .i64))) = iL (cmpL P l 0) := by rw [hG, hr]; rfl
    have hb1 : decide (rdL P l (ordR u l.length) < leR P l) = false := bfalse (by omega)
    have hb2 : decide (rdL P l (ordR u l.length) < pkV P l) = false := bfalse (by omega)
    have hb3 : decide (((gpI P l).length : Int) < 1) = false := bfalse (by omega)
    generalize rdL P l (ordR u l.length) = R at c30 hle hb1 hb2
    generalize iL (ordR u l.length) = o at c52 c30
    by_cases hall : (cmpL P l 0).length = l.length
    · have e1 : apE P l = 5 := by unfold apE; rw [if_neg (by rw [hz]; simp), if_pos hall]
      have e2 : apI P l = [] := by unfold apI; rw [if_neg (by rw [e1]; decide)]
      rw [e1, e2] at c38
      have hlp := hei.1 hall
      have hg1 := hgo.2 hall
      rw [← hgs] at hg1
      generalize gpI P l = G at c40 hgl hb3 hg1
      generalize leR P l = Lr at *
      generalize pkV P l = Pk at *
      subst hlp
      generalize (pkA P l : Int) = pa at c28 c27
      obtain ⟨bt, hbt⟩ : ∃ b, b = true := ⟨_, rfl⟩
      rw [← hbt] at c51
      clear c44 c45 hap hg0
      (repeat (first | refine zs rfl ?_ | refine zg rfl rfl rfl ?_ | refine JK.fin ?_ | refine JK.ret ?_ | refine zc rfl (c51) rfl rfl ?_ | refine ze rfl (c51) rfl ?_ | refine zk rfl rfl (fun _ => c51) rfl rfl ?_ | refine zc rfl (c28) rfl rfl ?_ | refine ze rfl (c28) rfl ?_ | refine zk rfl rfl (fun _ => c28) rfl rfl ?_ | refine zc rfl (c38) rfl rfl ?_ | refine ze rfl (c38) rfl ?_ | refine zk rfl rfl (fun _ => c38) rfl rfl ?_ | refine zc rfl (c40) rfl rfl ?_ | refine ze rfl (c40) rfl ?_ | refine zk rfl rfl (fun _ => c40) rfl rfl ?_))
      refine JK.drawTo xk (Try.f9.body.getD .skip) ⟨[(1, vU u), (2, .lf (.optr 0 [])), (5, vI Lr), (6, vB bt), (7, vI Lr), (8, vI pa), (9, vI 0), (10, vL []), (11, vI 5), (12, vLL G), (13, vI 0), (14, vI R), (15, vI 0)], [(0, .cell seT (vS P l))], 1⟩ rfl 10 rfl ?_ ?_
      · (refine JF.First 2 xk rfl rfl ?_; refine JF.Float 0 xk rfl rfl ?_; refine JF.Float 1 xk rfl rfl ?_; refine JF.Branch 3 [] xk ?_ ?_; (focus (repeat (first | exact StF.nil | refine StF.One rfl rfl rfl ?_))); refine (BrF.one rfl rfl ?_ BrF.nil); (· (first | refine JL.S1 rfl (c52) rfl trivial rfl ?_ | refine JL.T1 rfl (c52) rfl rfl ?_ | (refine JL.C1 rfl (c52) rfl (fun r hr => ?_); subst hr) | refine JL.S1 rfl (c30) rfl trivial rfl ?_ | refine JL.T1 rfl (c30) rfl rfl ?_ | (refine JL.C1 rfl (c30) rfl (fun r hr => ?_); subst hr)); refine JL.finN ?_; refine JF.Branch 4 [] xk ?_ ?_; (focus (repeat (first | exact StF.nil | refine StF.One rfl rfl rfl ?_))); refine (BrF.one rfl rfl ?_ BrF.nil); (· (first | refine JL.S1 rfl (c52) rfl trivial rfl ?_ | refine JL.T1 rfl (c52) rfl rfl ?_ | (refine JL.C1 rfl (c52) rfl (fun r hr => ?_); subst hr) | refine JL.S1 rfl (c30) rfl trivial rfl ?_ | refine JL.T1 rfl (c30) rfl rfl ?_ | (refine JL.C1 rfl (c30) rfl (fun r hr => ?_); subst hr)); refine JL.finN ?_; refine JF.First 5 xk rfl rfl ?_; refine JF.First 6 xk rfl rfl ?_; refine JF.First 7 xk rfl rfl ?_; refine JF.First 8 xk rfl rfl ?_; refine JF.First 9 xk rfl rfl ?_; refine JF.Done xk StF.nil ?_; ((exact JW.Auto (by conv => lhs; reduce))))))
      (repeat (first | refine zs rfl ?_ | refine zg rfl rfl rfl ?_ | refine zd ?_ | refine JK.fin ?_ | refine JK.ret ?_ | refine zc rfl (c27) rfl rfl ?_ | refine ze rfl (c27) rfl ?_ | refine zk rfl rfl (fun _ => c27) rfl rfl ?_))
      refine JK.cond rfl (fun h => absurd h (by simp [hb1, hb2, hb3, hbt])) (fun _ => ?_)
      (repeat (first | refine zs rfl ?_ | refine zg rfl rfl rfl ?_ | refine zd ?_ | refine JK.fin ?_ | refine JK.ret ?_))
      refine JK.cond rfl (fun _ => ?_) (fun h => absurd h (by decide))
      (repeat (first | refine zt rfl (by simp [wantB, hg1]) ?_ | refine zs rfl ?_ | refine zc rfl w rfl rfl ?_ | refine JK.ret ?_))
      refine ⟨.inl rfl, _, _, rfl, trivial, ?_⟩
      simp [hg1]
    · have e1 : apE P l = 0 := by unfold apE; rw [if_neg (by rw [hz]; simp), if_neg hall]
      have e2 : apI P l = iL (cmpL P l 0) := by unfold apI; rw [if_pos e1]
      rw [e1, e2] at c38
      rw [e2, hap hall] at c44 c45
      have hlp := hei.2 hall
      have hg1 : (gpI P l).length ≠ 1 := fun e => hall (hgo.1 (hgs.symm.trans e))
      have hg2 : decide (((gpI P l).length : Int) > 1) = true := decide_eq_true (by omega)
      have c42 := fn42 (iL (cmpL P l 0)) ((gpI P l).getD (Int.toNat 0) (Ty.dflt (.slice (.int .i64))))
      rw [decide_eq_true hg0.symm] at c42
      generalize iL (cmpL P l 0) = C at c38 c44 c45 c42 hg0
      generalize gpI P l = G at c40 hgl hb3 hg0 hg2 c42
      generalize leR P l = Lr at *
      generalize pkV P l = Pk at *
      subst hlp
      generalize (pkA P l : Int) = pa at c28 c27
      obtain ⟨bt, hbt⟩ : ∃ b, b = true := ⟨_, rfl⟩
      rw [← hbt] at c51
      (repeat (first | refine zs rfl ?_ | refine zg rfl rfl rfl ?_ | refine JK.fin ?_ | refine JK.ret ?_ | refine zc rfl (c51) rfl rfl ?_ | refine ze rfl (c51) rfl ?_ | refine zk rfl rfl (fun _ => c51) rfl rfl ?_ | refine zc rfl (c28) rfl rfl ?_ | refine ze rfl (c28) rfl ?_ | refine zk rfl rfl (fun _ => c28) rfl rfl ?_ | refine zc rfl (c38) rfl rfl ?_ | refine ze rfl (c38) rfl ?_ | refine zk rfl rfl (fun _ => c38) rfl rfl ?_ | refine zc rfl (c40) rfl rfl ?_ | refine ze rfl (c40) rfl ?_ | refine zk rfl rfl (fun _ => c40) rfl rfl ?_))
      refine JK.drawTo xk (Try.f9.body.getD .skip) ⟨[(1, vU u), (2, .lf (.optr 0 [])), (5, vI (Pk + 1)), (6, vB bt), (7, vI Pk), (8, vI pa), (9, vI 0), (10, vL C), (11, vI 0), (12, vLL G), (13, vI 0), (14, vI R), (15, vI 0)], [(0, .cell seT (vS P l))], 1⟩ rfl 10 rfl ?_ ?_
      · (refine JF.First 2 xk rfl rfl ?_; refine JF.Float 0 xk rfl rfl ?_; refine JF.Float 1 xk rfl rfl ?_; refine JF.Branch 3 [] xk ?_ ?_; (focus (repeat (first | exact StF.nil | refine StF.One rfl rfl rfl ?_))); refine (BrF.one rfl rfl ?_ BrF.nil); (· (first | refine JL.S1 rfl (c52) rfl trivial rfl ?_ | refine JL.T1 rfl (c52) rfl rfl ?_ | (refine JL.C1 rfl (c52) rfl (fun r hr => ?_); subst hr) | refine JL.S1 rfl (c30) rfl trivial rfl ?_ | refine JL.T1 rfl (c30) rfl rfl ?_ | (refine JL.C1 rfl (c30) rfl (fun r hr => ?_); subst hr)); refine JL.finN ?_; refine JF.Branch 4 [] xk ?_ ?_; (focus (repeat (first | exact StF.nil | refine StF.One rfl rfl rfl ?_))); refine (BrF.one rfl rfl ?_ BrF.nil); (· (first | refine JL.S1 rfl (c52) rfl trivial rfl ?_ | refine JL.T1 rfl (c52) rfl rfl ?_ | (refine JL.C1 rfl (c52) rfl (fun r hr => ?_); subst hr) | refine JL.S1 rfl (c30) rfl trivial rfl ?_ | refine JL.T1 rfl (c30) rfl rfl ?_ | (refine JL.C1 rfl (c30) rfl (fun r hr => ?_); subst hr)); refine JL.finN ?_; refine JF.First 5 xk rfl rfl ?_; refine JF.First 6 xk rfl rfl ?_; refine JF.First 7 xk rfl rfl ?_; refine JF.First 8 xk rfl rfl ?_; refine JF.First 9 xk rfl rfl ?_; refine JF.Done xk StF.nil ?_; ((exact JW.Auto (by conv => lhs; reduce))))))
      (repeat (first | refine zs rfl ?_ | refine zg rfl rfl rfl ?_ | refine zd ?_ | refine JK.fin ?_ | refine JK.ret ?_ | refine zc rfl (c27) rfl rfl ?_ | refine ze rfl (c27) rfl ?_ | refine zk rfl rfl (fun _ => c27) rfl rfl ?_))
      refine JK.cond rfl (fun h => absurd h (by simp [hb1, hb2, hb3, hbt])) (fun _ => ?_)
      (repeat (first | refine zs rfl ?_ | refine zg rfl rfl rfl ?_ | refine zd ?_ | refine JK.fin ?_ | refine JK.ret ?_))
      refine JK.cond rfl (fun h => absurd h (by decide)) (fun _ => ?_)
      (repeat (first | refine zt rfl (by simp [wantB, hg2]) ?_ | refine zs rfl ?_ | refine zc rfl c42 rfl rfl ?_ | refine zc rfl c44 rfl rfl ?_ | refine zc rfl c45 rfl rfl ?_ | refine zc rfl w rfl rfl ?_ | refine JK.ret ?_))
      refine ⟨.inl rfl, _, _, rfl, trivial, ?_⟩
      simp [hg2]
end Go.Proofs.Ytinehlphcckkmaa

namespace Go.Proofs.Ytinehlphcckkmaa
open Go Go.RowKit Ox Ox.Sh Ox.Se
attribute [local irreducible] JC JL JK JW
attribute [local irreducible] ovA stA pkV
theorem flat_iLL (L : List (List Nat)) : (iLL L).flatten = iL L.flatten := (List.map_flatten).symm
def wI (X : List Int) (B0 : Bool) (G : List (List Int)) (i : Nat) : Bool := bif B0 then (G.take i).all (wholeB X) else false
theorem wI_succ (X : List Int) (B0 : Bool) (G : List (List Int)) {i : Nat} (h : i < G.length) : wI X B0 G (i + 1) = bif wI X B0 G i then wholeB X (G.getD i []) else false := by
  unfold wI
  rw [all_snoc (wholeB X) G h []]
  cases B0 <;> simp
def sI (G : List (List Int)) (i : Nat) : Int := (((G.take i).flatten.length : Nat) : Int)
theorem sI_succ (G : List (List Int)) {i : Nat} (h : i < G.length) : sI G (i + 1) = sI G i + ((G.getD i []).length : Int) := by
  unfold sI
  rw [take_snoc G h [], List.flatten_append, List.length_append, List.flatten_singleton]; push_cast; rfl
theorem sI_le (G : List (List Int)) (i : Nat) : 0 ≤ sI G i ∧ sI G i ≤ G.flatten.length := by
  unfold sI
  have : G.flatten.length = (G.take i).flatten.length + (G.drop i).flatten.length := by
    rw [← List.length_append, ← List.flatten_append, List.take_append_drop]
  omega
def mI (X g : List Int) (k : Nat) : Int := (((g.take k).countP (fun x => decide (x ∈ X)) : Nat) : Int)
theorem mI_succ (X g : List Int) {k : Nat} (h : k < g.length) : mI X g (k + 1) = if g.getD k 0 ∈ X then mI X g k + 1 else mI X g k := by
  unfold mI
  rw [take_snoc g h 0, List.countP_append]
  by_cases c : g.getD k 0 ∈ X
  · rw [if_pos c, List.countP_singleton, if_pos (decide_eq_true c)]; push_cast; rfl
  · rw [if_neg c, List.countP_singleton, if_neg (by simpa using c)]; rfl
theorem mI_bd (X g : List Int) (k : Nat) : 0 ≤ mI X g k ∧ mI X g k ≤ g.length := by
  unfold mI
  have := List.countP_le_length (p := fun x => decide (x ∈ X)) (l := g.take k)
  rw [List.length_take] at this
  omega
theorem get_flat {G : List (List Int)} {i : Nat} (h : i < G.length) : (G.getD i []).length ≤ G.flatten.length := by
  have := sI_succ G h
  have a := sI_le G (i + 1)
  have b := sI_le G i
  omega
theorem wI_zero (X : List Int) (B0 : Bool) (G : List (List Int)) : wI X B0 G 0 = B0 := by cases B0 <;> rfl
theorem sI_zero (G : List (List Int)) : sI G 0 = 0 := rfl
theorem whole_mI (X g : List Int) : (bif (mI X g g.length == 0) then true else (mI X g g.length == (g.length : Int))) = wholeB X g := by
  unfold mI wholeB
  rw [List.take_length]
  generalize g.countP (fun x => decide (x ∈ X)) = n
  rw [Bool.eq_iff_iff]
  simp
  omega
set_option maxHeartbeats 4000000 in
theorem law10 (w : W18) (P : Int) (l : List Pt) (u : List Int) (pl : Int) (b : Nat) (hu : ∀ x ∈ u, 0 ≤ x ∧ x ≤ 255) (hpl : 0 ≤ pl ∧ pl ≤ 65535) (hb : b ≤ 255) : Ox.Fn Try.prog 10 (.acons (vS P l) (.acons (vU u) (.acons (.val (.int .u16) pl) (.acons (.val (.int .u8) (b : Int)) .anil)))) (· = vB true) := by
  refine Ox.Fn.intro xok Try.func10 rfl Try.call10 (Nat.le_of_ble_eq_true rfl) (fun E M0 up => ?_)
  refine JK.start ?_
  (repeat (first | refine zs rfl ?_ | refine zg rfl rfl rfl ?_ | refine zd ?_ | refine JK.fin ?_ | refine JK.ret ?_ | refine zc rfl (fn50 P l) rfl rfl ?_ | refine ze rfl (fn50 P l) rfl ?_ | refine zk rfl rfl (fun _ => fn50 P l) rfl rfl ?_))
  refine JK.cond rfl (fun hc => ?_) (fun hc => ?_)
  · (repeat (first | refine zs rfl ?_ | refine zg rfl rfl rfl ?_ | refine zd ?_ | refine JK.fin ?_ | refine JK.ret ?_ | refine zc rfl (w) rfl rfl ?_ | refine ze rfl (w) rfl ?_ | refine zk rfl rfl (fun _ => w) rfl rfl ?_))
    refine ⟨.inl rfl, _, _, rfl, trivial, ?_⟩
    rfl
  · obtain ⟨hz, hul⟩ := fine_of hc
    obtain ⟨hP, h1, h8, hl⟩ := se_ok.1 hz
    have hp := ordR_perm u l.length
    have c52 := fn52 P l u (by omega) hu (by omega)
    generalize ordR u l.length = o at hp c52
    obtain ⟨o1, o2, o3⟩ := ord_facts hz hp
    have c30 := fn30 P l (iL o)
    rw [o1, o2] at c30
    have hle := le_any (P := P) h1 hp
    generalize rdL P l o = R at c30 hle
    generalize iL o = X0 at c52 c30
    (repeat (first | refine zs rfl ?_ | refine zg rfl rfl rfl ?_ | refine zd ?_ | refine JK.fin ?_ | refine JK.ret ?_))
    refine JK.ghost 9 3 (.int .i64) rfl ?_
    refine JK.loop (fun i : Nat => ⟨[(1, vU u), (2, .val (.int .u16) pl), (3, .val (.int .u8) (b : Int)), (4, .lf (.optr 0 [])), (9, .lf (.osl 1)), (10, vI (i : Int))], [(0, .cell seT (vS P l)), (1, .sl 3 (.int .i64) (iL (bitsK b i)))], 2⟩) (fun i => i ≤ l.length) (fun i => l.length - i) 0 (Nat.zero_le _) (by (exact JW.Auto (by conv => lhs; reduce))) fun i hi => ?_
    have hs := bitsK_succ b i
    have hbl := bitsK_len b i
    have hbi := bit_iff b i
    have hdv : 0 ≤ (b : Int) / 2 ^ i ∧ (b : Int) / 2 ^ i ≤ 255 := by
      have h2 := Nat.div_le_self b (2 ^ i)
      have e : (b : Int) / 2 ^ i = ((b / 2 ^ i : Nat) : Int) := by push_cast; rfl
      rw [e]
      generalize b / 2 ^ i = z at h2 ⊢
      omega
    have hl1 : (iL (bitsK b i)).length ≤ 8 := by rw [iL_len]; omega
    have hfin : i = l.length → iL (bitsK b i) = iL (bitsK b l.length) := fun e => by rw [e]
    have hsn : ∀ D, iL (bitsK b i) = D → iL (bitsK b (i + 1)) = D ++ if b.testBit i = true then [(i : Int)] else [] := fun D e => by
      rw [hs, ← e]; split <;> simp
    replace hsn := hsn _ rfl
    generalize iL (bitsK b i) = D at hl1 hfin hsn ⊢
    (repeat (first | refine zs rfl ?_ | refine zg rfl rfl rfl ?_ | refine zd ?_ | refine JK.fin ?_ | refine JK.ret ?_))
    refine JK.cond rfl (fun hd => ?_) (fun hd => ?_)
    · (simp only [↓cdL] at hd; try simp only [Ty.dflt, Int.toNat_natCast] at hd)
      (repeat (first | refine zs rfl ?_ | refine zg rfl rfl rfl ?_ | refine zd ?_ | refine JK.fin ?_ | refine JK.ret ?_))
      refine JK.cond rfl (fun he => ?_) (fun he => ?_)
      · rw [if_pos (hbi.1 (beq_iff_eq.1 he))] at hsn
        (repeat (first | refine zs rfl ?_ | refine zg rfl rfl rfl ?_ | refine zd ?_ | refine JK.fin ?_ | refine JK.ret ?_))
        refine ⟨i + 1, ?_, by omega, by omega⟩
        rw [hsn]
        (exact JW.Auto (by conv => lhs; reduce))
      · rw [if_neg (fun h => by rw [hbi.2 h] at he; simp at he), List.append_nil] at hsn
        (repeat (first | refine zs rfl ?_ | refine zg rfl rfl rfl ?_ | refine zd ?_ | refine JK.fin ?_ | refine JK.ret ?_))
        refine ⟨i + 1, ?_, by omega, by omega⟩
        rw [hsn]
        (exact JW.Auto (by conv => lhs; reduce))
    · (simp only [↓cdL] at hd; try simp only [Ty.dflt, Int.toNat_natCast] at hd)
      have hinc : Inc l.length (iL (bitsK b l.length)) := inc_iL (List.pairwise_lt_range.filter _) fun n hn => (mem_bits.1 hn).1
      have hXl : (iL (bitsK b l.length)).length ≤ 8 := by rw [iL_len]; have := bitsK_len b l.length; omega
      rw [hfin (by omega)]
      clear hsn hfin hl1 hs hbl hbi hdv D
      generalize iL (bitsK b l.length) = X at hinc hXl ⊢
      have hac := apc_cases hz hinc
      have ham := fun h => apart_more (xs := X) hz h
      have hwh := whole_iff hz hinc
      have c44 := fn44 P l X
      have hplm := mod_bd hP.1 pl
      have hov : overE P l (pl % P) = 0 := over_ok.2 ⟨hz, hplm⟩
      have c26 := fn26 P l (pl % P)
      rw [hov, show overI P l (pl % P) = ov P l (pl % P) by unfold overI; rw [if_pos hov]] at c26
      have c28 := fn28 P l
      rw [show pkI P l = pkV P l by unfold pkI; rw [if_pos hz], show paI P l = (pkA P l : Int) by unfold paI; rw [if_pos hz], hz] at c28
      have c51 := fn51 P l
      rw [show lstI P l = leR P l by unfold lstI; rw [if_pos hz], decide_eq_true hz] at c51
      obtain ⟨bt, hbt⟩ : ∃ b, b = true := ⟨_, rfl⟩
      rw [← hbt] at c51
      have c40 := fn40 P l
      rw [hz] at c40
      have hcp : ov P l (pl % P) ≤ pkV P l := by rw [← pkV_def]; exact (pk_full hP.1).2 _ hplm.1 hplm.2
      have hcl : ov P l (pl % P) ≤ leR P l := leR_ge (l := l) hP.1 (fun e => by rw [e] at h1; simp at h1) _
      have hgs := gp_sum (P := P) h8
      have hG := gpI_all hz
      have hGf : (gpI P l).flatten.length = l.length := by rw [hG, flat_iLL, iL_len, hgs]
      have hGl : (gpI P l).length ≤ 8 := by rw [hG, List.length_map]; have := gpK_len P l l.length; omega
      generalize ov P l (pl % P) = C at c26 hcp hcl
      generalize pkV P l = Pk at c28 hcp ham
      generalize leR P l = Lr at c51 hle hcl ham
      generalize (pkA P l : Int) = pa at c28
      generalize gpI P l = G at c40 hGf hGl hwh
      generalize apcE P l X = E44 at c44 hac ham hwh
      (refine JK.fz [1] [1,2,4,9] rfl ?_)
      (repeat (first | refine zs rfl ?_ | refine zg rfl rfl rfl ?_ | refine JK.fin ?_ | refine JK.ret ?_))
      refine JK.drawTo xk (Try.f10.body.getD .skip) ⟨[(2, .val (.int .u16) pl), (4, .lf (.optr 0 [])), (9, vL X), (11, vI R), (12, vI 0)], [(0, .cell seT (vS P l))], 2⟩ rfl 10 rfl ?_ ?_
      · (refine JF.First 2 xk rfl rfl ?_; refine JF.Float 0 xk rfl rfl ?_; refine JF.Float 1 xk rfl rfl ?_; refine JF.Branch 3 [] xk ?_ ?_; (focus (repeat (first | exact StF.nil | refine StF.One rfl rfl rfl ?_))); refine (BrF.one rfl rfl ?_ BrF.nil); (· (first | refine JL.S1 rfl (c52) rfl trivial rfl ?_ | refine JL.T1 rfl (c52) rfl rfl ?_ | (refine JL.C1 rfl (c52) rfl (fun r hr => ?_); subst hr) | refine JL.S1 rfl (c30) rfl trivial rfl ?_ | refine JL.T1 rfl (c30) rfl rfl ?_ | (refine JL.C1 rfl (c30) rfl (fun r hr => ?_); subst hr)); refine JL.finN ?_; refine JF.Branch 4 [] xk ?_ ?_; (focus (repeat (first | exact StF.nil | refine StF.One rfl rfl rfl ?_))); refine (BrF.one rfl rfl ?_ BrF.nil); (· (first | refine JL.S1 rfl (c52) rfl trivial rfl ?_ | refine JL.T1 rfl (c52) rfl rfl ?_ | (refine JL.C1 rfl (c52) rfl (fun r hr => ?_); subst hr) | refine JL.S1 rfl (c30) rfl trivial rfl ?_ | refine JL.T1 rfl (c30) rfl rfl ?_ | (refine JL.C1 rfl (c30) rfl (fun r hr => ?_); subst hr)); refine JL.finN ?_; refine JF.First 5 xk rfl rfl ?_; refine JF.First 6 xk rfl rfl ?_; refine JF.First 7 xk rfl rfl ?_; refine JF.First 8 xk rfl rfl ?_; refine JF.First 9 xk rfl rfl ?_; refine JF.Done xk StF.nil ?_; ((exact JW.Auto (by conv => lhs; reduce))))))
      (repeat (first | refine zs rfl ?_ | refine zg rfl rfl rfl ?_ | refine JK.fin ?_ | refine JK.ret ?_))
      refine JK.drawTo xk (Try.f10.body.getD .skip) ⟨[(4, .lf (.optr 0 [])), (9, vL X), (11, vI R), (12, vI 0), (13, vI C), (14, vI 0)], [(0, .cell seT (vS P l))], 2⟩ rfl 12 rfl ?_ ?_
      · (refine JF.First 1 xk rfl rfl ?_; refine JF.First 2 xk rfl rfl ?_; refine JF.First 3 xk rfl rfl ?_; refine JF.Float 0 xk rfl rfl ?_; refine JF.Float 4 xk rfl rfl ?_; refine JF.Float 5 xk rfl rfl ?_; refine JF.Branch 6 [] xk ?_ ?_; (focus (repeat (first | exact StF.nil | refine StF.One rfl rfl rfl ?_))); refine (BrF.one rfl rfl ?_ BrF.nil); (· (first | refine JL.S1 rfl (c26) rfl trivial rfl ?_ | refine JL.T1 rfl (c26) rfl rfl ?_ | (refine JL.C1 rfl (c26) rfl (fun r hr => ?_); subst hr)); refine JL.finN ?_; refine JF.First 7 xk rfl rfl ?_; refine JF.First 8 xk rfl rfl ?_; refine JF.First 9 xk rfl rfl ?_; refine JF.Float 10 xk rfl rfl ?_; refine JF.Float 11 xk rfl rfl ?_; refine JF.Done xk ?_ ?_; (focus (repeat (first | exact StF.nil | refine StF.One rfl rfl rfl ?_))); ((exact JW.Auto (by conv => lhs; reduce)))))
      (repeat (first | refine zs rfl ?_ | refine zg rfl rfl rfl ?_ | refine zd ?_ | refine JK.fin ?_ | refine JK.ret ?_ | refine zc rfl (c28) rfl rfl ?_ | refine ze rfl (c28) rfl ?_ | refine zk rfl rfl (fun _ => c28) rfl rfl ?_ | refine zc rfl (c51) rfl rfl ?_ | refine ze rfl (c51) rfl ?_ | refine zk rfl rfl (fun _ => c51) rfl rfl ?_ | refine zc rfl (c44) rfl rfl ?_ | refine ze rfl (c44) rfl ?_ | refine zk rfl rfl (fun _ => c44) rfl rfl ?_))
      have d1 : decide (C > Pk) = false := decide_eq_false (by omega)
      have d2 : decide (R < C) = false := decide_eq_false (by omega)
      have d3 : decide (Lr < C) = false := decide_eq_false (by omega)
      have d4 : E44 = 0 → decide (R ≤ Pk) = false ∧ decide (Lr ≤ Pk) = false := fun e => by
        have := ham e
        exact ⟨decide_eq_false (by omega), decide_eq_false (by omega)⟩
      refine JK.cond rfl (fun h => ?_) (fun _ => ?_)
      · exfalso
        have h2 : (bif bif bif bif bif bif bif bif !bt then true else (0 : Int) != 0 then true else (0 : Int) != 0 then true else (0 : Int) != 0 then true else bif E44 != 0 then E44 != 14 else false then true else decide (C > Pk) then true else decide (R < C) then true else decide (Lr < C) then true else bif E44 == 0 then bif decide (R ≤ Pk) then true else decide (Lr ≤ Pk) else false) = true := h
        rw [d1, d2, d3, hbt] at h2
        rcases hac with e | e
        · rw [(d4 e).1, (d4 e).2, e] at h2; simp at h2
        · rw [e] at h2; simp at h2
      clear d1 d2 d3 d4 hbt c28 c51 c44 c26 c30 c52 ham hac hle hcp hcl
      (repeat (first | refine zs rfl ?_ | refine zg rfl rfl rfl ?_ | refine zd ?_ | refine JK.fin ?_ | refine JK.ret ?_ | refine zc rfl (c40) rfl rfl ?_ | refine ze rfl (c40) rfl ?_ | refine zk rfl rfl (fun _ => c40) rfl rfl ?_))
      refine JK.cond rfl (fun h => absurd h (by decide)) (fun _ => ?_)
      (repeat (first | refine zs rfl ?_ | refine zg rfl rfl rfl ?_ | refine zd ?_ | refine JK.fin ?_ | refine JK.ret ?_))
      refine JK.loop (fun i : Nat => ⟨[(4, .lf (.optr 0 [])), (9, vL X), (20, vI E44), (21, vLL G), (23, vB (wI X (bif decide ((X.length : Int) > 0) then decide ((X.length : Int) < (l.length : Int)) else false) G i)), (24, vI (sI G i)), (25, vI (i : Int))], [(0, .cell seT (vS P l))], 2⟩) (fun i => i ≤ G.length) (fun i => G.length - i) 0 (Nat.zero_le _) (by rw [wI_zero, sI_zero]; (exact JW.Auto (by conv => lhs; reduce))) fun i hi => ?_
      have hwn := fun h => wI_succ X (bif decide ((X.length : Int) > 0) then decide ((X.length : Int) < (l.length : Int)) else false) G (i := i) h
      have hsn := fun h => sI_succ G (i := i) h
      have hsb := sI_le G i
      have hwf : i = G.length → wI X (bif decide ((X.length : Int) > 0) then decide ((X.length : Int) < (l.length : Int)) else false) G i = (bif (bif decide ((X.length : Int) > 0) then decide ((X.length : Int) < (l.length : Int)) else false) then G.all (wholeB X) else false) := fun e => by rw [e]; unfold wI; rw [List.take_length]
      have hsf : i = G.length → sI G i = (G.flatten.length : Int) := fun e => by rw [e]; unfold sI; rw [List.take_length]
      have hgl := fun h : i < G.length => get_flat h
      generalize wI X (bif decide ((X.length : Int) > 0) then decide ((X.length : Int) < (l.length : Int)) else false) G i = Wi at hwn hwf ⊢
      generalize sI G i = Si at hsn hsb hsf ⊢
      (repeat (first | refine zs rfl ?_ | refine zg rfl rfl rfl ?_ | refine zd ?_ | refine JK.fin ?_ | refine JK.ret ?_))
      refine JK.cond rfl (fun hd => ?_) (fun hd => ?_)
      · (simp only [↓cdL] at hd; try simp only [Ty.dflt, Int.toNat_natCast] at hd)
        have hi' : i < G.length := by omega
        replace hwn := hwn hi'
        replace hsn := hsn hi'
        replace hgl := hgl hi'
        (repeat (first | refine zs rfl ?_ | refine zg rfl rfl rfl ?_ | refine zd ?_ | refine JK.fin ?_ | refine JK.ret ?_))
        refine JK.loop (fun k : Nat => ⟨[(4, .lf (.optr 0 [])), (9, vL X), (20, vI E44), (21, vLL G), (23, vB Wi), (24, vI Si), (25, vI (i : Int)), (26, vI (mI X (G.getD i []) k)), (27, vI (k : Int))], [(0, .cell seT (vS P l))], 2⟩) (fun k => k ≤ (G.getD i []).length) (fun k => (G.getD i []).length - k) 0 (Nat.zero_le _) (by (exact JW.Auto (by conv => lhs; reduce))) fun k hk => ?_
        have hmn := fun h => mI_succ X (G.getD i []) (k := k) h
        have hmb := mI_bd X (G.getD i []) k
        have hmf : k = (G.getD i []).length → mI X (G.getD i []) k = mI X (G.getD i []) (G.getD i []).length := fun e => by rw [← e]
        generalize mI X (G.getD i []) k = Mk at hmn hmb hmf ⊢
        (repeat (first | refine zs rfl ?_ | refine zg rfl rfl rfl ?_ | refine zd ?_ | refine JK.fin ?_ | refine JK.ret ?_))
        refine JK.cond rfl (fun he => ?_) (fun he => ?_)
        · (simp only [↓cdL] at he; try simp only [Ty.dflt, Int.toNat_natCast] at he)
          have hk' : k < (G.getD i []).length := by omega
          replace hmn := hmn hk'
          have c53 := fn53 X ((G.getD ((i : Nat) : Int).toNat (Ty.dflt (.slice (.int .i64)))).getD ((k : Nat) : Int).toNat (Ty.dflt (.int .i64)))
          (repeat (first | refine zs rfl ?_ | refine zg rfl rfl rfl ?_ | refine zd ?_ | refine JK.fin ?_ | refine JK.ret ?_ | refine zc rfl (c53) rfl rfl ?_ | refine ze rfl (c53) rfl ?_ | refine zk rfl rfl (fun _ => c53) rfl rfl ?_))
          refine JK.cond rfl (fun hf => ?_) (fun hf => ?_)
          · rw [if_pos (c := (G.getD i []).getD k 0 ∈ X) (of_decide_eq_true hf)] at hmn
            (repeat (first | refine zs rfl ?_ | refine zg rfl rfl rfl ?_ | refine zd ?_ | refine JK.fin ?_ | refine JK.ret ?_))
            refine ⟨k + 1, ?_, by omega, by omega⟩
            rw [hmn]
            (exact JW.Auto (by conv => lhs; reduce))
          · rw [if_neg (c := (G.getD i []).getD k 0 ∈ X) (of_decide_eq_false hf)] at hmn
            (repeat (first | refine zs rfl ?_ | refine zg rfl rfl rfl ?_ | refine zd ?_ | refine JK.fin ?_ | refine JK.ret ?_))
            refine ⟨k + 1, ?_, by omega, by omega⟩
            rw [hmn]
            (exact JW.Auto (by conv => lhs; reduce))
        · (simp only [↓cdL] at he; try simp only [Ty.dflt, Int.toNat_natCast] at he)
          rw [hmf (by omega)]
          (repeat (first | refine zs rfl ?_ | refine zg rfl rfl rfl ?_ | refine zd ?_ | refine JK.fin ?_ | refine JK.ret ?_))
          refine ⟨i + 1, ?_, by omega, by omega⟩
          rw [hwn, hsn, ← whole_mI]
          (exact JW.Auto (by conv => lhs; reduce))
      · (simp only [↓cdL] at hd; try simp only [Ty.dflt, Int.toNat_natCast] at hd)
        rw [hwf (by omega), hsf (by omega), hGf]
        (repeat (first | refine zs rfl ?_ | refine zg rfl rfl rfl ?_ | refine zd ?_ | refine JK.fin ?_ | refine JK.ret ?_ | refine zc rfl (w) rfl rfl ?_ | refine ze rfl (w) rfl ?_ | refine zk rfl rfl (fun _ => w) rfl rfl ?_))
        have key : ((E44 == 0) == (bif (bif decide ((X.length : Int) > 0) then decide ((X.length : Int) < (l.length : Int)) else false) then G.all (wholeB X) else false)) = true := by
          rw [beq_iff_eq, Bool.eq_iff_iff, beq_iff_eq, hwh]
          generalize G.all (wholeB X) = g
          cases g <;> simp
        refine ⟨.inl rfl, _, _, rfl, trivial, ?_⟩
        show vB (bif (bif (E44 == 0) == (bif (bif decide ((X.length : Int) > 0) then decide ((X.length : Int) < (l.length : Int)) else false) then G.all (wholeB X) else false) then ((l.length : Int) == (l.length : Int)) else false) then true else false) = _
        rw [key]
        simp
theorem law10i (w : W18) (P : Int) (l : List Pt) (u : List Int) (pl b : Int) (hu : ∀ x ∈ u, 0 ≤ x ∧ x ≤ 255) (hpl : 0 ≤ pl ∧ pl ≤ 65535) (hb : 0 ≤ b ∧ b ≤ 255) : Ox.Fn Try.prog 10 (.acons (vS P l) (.acons (vU u) (.acons (.val (.int .u16) pl) (.acons (.val (.int .u8) b) .anil)))) (· = vB true) := by
  obtain ⟨n, rfl⟩ : ∃ n : Nat, b = (n : Int) := ⟨b.toNat, by omega⟩
  exact law10 w P l u pl n hu hpl (by omega)
end Go.Proofs.Ytinehlphcckkmaa
