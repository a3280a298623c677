/- A statement of the seat, proved: see the last theorem. Texts of the proof, part 6 of 6.
  The engine, part ZT: from a function's contract to the row of a law: arguments that are plain data. -/
import Derived.Test.YtinehlphcckkmaaPke
import Derived.ProofKit
import Derived.OpenShut
import Derived.Carry
import Derived.JoinedOf
set_option linter.all false
set_option maxHeartbeats 2000000
namespace Ox
open Go Go.RowKit Go.ChangeShapes Go.WideShapes Go.ChangeAt
section
variable {H : Type} {enc : TypeId × Value → H} {P : Program} {w : World} {base : Nat} {spare : Nat → Bool} {held : Bool}
def Ty.argB : Ty → Bool
  | .int _ | .bool | .nil => true
  | .slice e => e.argB && decide (0 < e.size)
  | .arr _ e => e.argB
  | .cons a b => a.argB && b.argB
  | .ptr _ => false
theorem cells?_take {b off n : Nat} {spot : Option Nat} {cs : List Value} (h : w.cells? base ⟨b, off, spot⟩ n = some cs) (hn : 0 < n) :
    spot = none ∧ ∃ c ty fz, w.heap[b]? = some (.cells c ty fz) ∧ cs = (c.toList.drop off).take n := by
  unfold World.cells? at h
  split at h
  · have hl := mapM_some_length h
    have hg := fun i (hi : i < n) => mapM_some_get h i i (by simp [hi])
    have h0 := hg 0 hn
    rw [List.length_range] at hl
    rw [List.getElem?_eq_getElem (by omega)] at h0
    simp only [Addr.add, if_true, World.cell?] at h0
    split at h0
    · rename_i c ty fz hb
      split at h0
      · cases h0
      · rename_i hs
        have hs : spot = none := by simpa using hs
        subst hs
        refine ⟨rfl, c, ty, fz, hb, ?_⟩
        apply List.ext_getElem?
        intro i
        rw [List.getElem?_take]
        by_cases hi : i < n
        · rw [if_pos hi, ← hg i hi, Addr.add_plain, cell?_block hb, List.getElem?_drop]
          simp
        · rw [if_neg hi, List.getElem?_eq_none (by omega)]
    · cases h0
  · cases h
def Ty.fit : (t : Ty) → t.den → Prop
  | .int k, n => inK k n
  | .bool, _ => True
  | .slice e, l => ∀ y ∈ l, e.fit y
  | .ptr _, _ => True
  | .arr _ e, l => ∀ y ∈ l, e.fit y
  | .nil, _ => True
  | .cons a b, y => a.fit y.1 ∧ b.fit y.2
theorem inK_wf {k : IntKind} {n : Int} (h : (Lit.int k n).wf = true) : inK k n := by
  simp only [Lit.wf, Bool.and_eq_true, decide_eq_true_eq] at h
  cases k <;> exact h
def RepA (P : Program) (t : Ty) : Prop := ∀ {H : Type} {enc : TypeId × Value → H} {w : World} {base : Nat} {spare : Nat → Bool} {held : Bool} (id : TypeId) (fuel : Nat) (cs : List Value) (x : DataW H × List MemPlace),
  TyOf P t id → t.argB = true → DataW.trod enc P w base spare held fuel id cs = some x → ∃ y, Rep (fun b => w.heap[b]?) t y cs ∧ t.fit y
def RepF (P : Program) (t : Ty) : Prop := ∀ {H : Type} {enc : TypeId × Value → H} {w : World} {base : Nat} {spare : Nat → Bool} {held : Bool} (fs : List Field) (off fuel : Nat) (cs : List Value),
  TyOf.fields P t fs off → t.argB = true → cs.length = off + t.size → (∀ (i : Nat) (f : Field), fs[i]? = some f → ∃ x, DataW.trod enc P w base spare held fuel f.type ((cs.drop f.offset).take (P.cellsOf f.type)) = some x) →
    ∃ y, Rep (fun b => w.heap[b]?) t y (cs.drop off) ∧ t.fit y
theorem list_of {α : Type} {n : Nat} {p : Nat → α → Prop} (h : ∀ i, i < n → ∃ y, p i y) : ∃ l : List α, l.length = n ∧ ∀ i (hi : i < l.length), p i (l.get ⟨i, hi⟩) := by
  induction n with
  | zero => exact ⟨[], rfl, fun i hi => absurd hi (by simp)⟩
  | succ n ih =>
    obtain ⟨l, h1, h2⟩ := ih fun i hi => h i (by omega)
    obtain ⟨y, hy⟩ := h n (by omega)
    refine ⟨l ++ [y], by simp [h1], fun i hi => ?_⟩
    simp only [List.get_eq_getElem]
    by_cases hl : i < l.length
    · rw [List.getElem_append_left hl]; exact h2 i hl
    · have : i = l.length := by simp at hi; omega
      subst this
      rw [List.getElem_append_right (Nat.le_refl _)]
      simp only [Nat.sub_self, List.getElem_cons_zero]
      rw [h1]; exact hy
theorem rep_all (P : Program) : ∀ t : Ty, RepA P t ∧ RepF P t := by
  intro t
  induction t with
  | int k =>
    refine ⟨fun id fuel cs x ht _ h => ?_, fun fs off fuel cs hf _ _ _ => by simp [TyOf.fields] at hf⟩
    simp only [TyOf] at ht
    have hu := ht.under
    cases fuel with
    | zero => simp [DataW.trod] at h
    | succ n =>
      unfold DataW.trod at h
      rw [hu] at h
      split at h <;> try (simp_all; done)
      rename_i k' q n' he
      split at h
      · rename_i hk
        injection he with he
        injection he with he
        subst he
        exact ⟨n', by simp only [Rep]; rw [hk.1], inK_wf hk.2⟩
      · cases h
  | bool =>
    refine ⟨fun id fuel cs x ht _ h => ?_, fun fs off fuel cs hf _ _ _ => by simp [TyOf.fields] at hf⟩
    simp only [TyOf] at ht
    have hu := ht.under
    cases fuel with
    | zero => simp [DataW.trod] at h
    | succ n =>
      unfold DataW.trod at h
      rw [hu] at h
      split at h <;> try (simp_all; done)
      rename_i b he
      exact ⟨b, by simp only [Rep], trivial⟩
  | slice e ih =>
    refine ⟨@fun H enc w base spare held id fuel cs x ht hb h => ?_, fun fs off fuel cs hf _ _ _ => by simp [TyOf.fields] at hf⟩
    simp only [TyOf] at ht
    obtain ⟨eid, hi, he⟩ := ht
    simp only [Ty.argB, Bool.and_eq_true, decide_eq_true_eq] at hb
    have hsz := cells_of he
    rcases DataW.trod_slice hi.under h with ⟨h0, _⟩ | ⟨a, len, cap, elems, rest, n, _, rfl, _, _, hlc, hcm, hel, hg, _⟩
    · exact ⟨[], by simp only [Rep]; exact ⟨none, 0, h0, Nat.le_refl _, Nat.zero_le _, fun _ => rfl, .inl rfl⟩, fun y hy => by cases hy⟩
    · have each : ∀ i, i < len → ∃ y : e.den, ∃ spot c ty fz, a = ⟨a.block, a.off, spot⟩ ∧ (spot = none ∨ i ≠ 0) ∧ ∃ _ : w.heap[a.block]? = some (.cells c ty fz), Rep (fun b => w.heap[b]?) e y ((c.toList.drop (a.off + i * e.size)).take e.size) ∧ e.fit y := by
        intro i hi'
        have h1 := hg i hi'
        rw [List.getElem?_eq_getElem (by omega), Option.bind_eq_some_iff, hsz] at h1
        obtain ⟨ce, h2, h3⟩ := h1
        obtain ⟨blk, off, spot⟩ := a
        by_cases h0 : i * e.size = 0
        · have hi0 : i = 0 := by
            rcases Nat.mul_eq_zero.1 h0 with h0 | h0
            · exact h0
            · omega
          subst hi0
          simp only [Nat.zero_mul, Addr.add, if_true] at h2
          obtain ⟨hs, c, ty, fz, h4, rfl⟩ := cells?_take h2 hb.2
          obtain ⟨y, hy, hyf⟩ := ih.1 eid n _ _ he hb.1 h3
          exact ⟨y, spot, c, ty, fz, rfl, .inl hs, h4, by simpa using hy, hyf⟩
        · have e1 : (Addr.add ⟨blk, off, spot⟩ (i * e.size)) = ⟨blk, off + i * e.size, none⟩ := by simp only [Addr.add, if_neg h0]
          rw [e1] at h2
          obtain ⟨hs, c, ty, fz, h4, rfl⟩ := cells?_take h2 hb.2
          obtain ⟨y, hy, hyf⟩ := ih.1 eid n _ _ he hb.1 h3
          exact ⟨y, spot, c, ty, fz, rfl, .inr (fun hi0 => h0 (by rw [hi0, Nat.zero_mul])), h4, hy, hyf⟩
      by_cases hl0 : len = 0
      · subst hl0
        exact ⟨[], by simp only [Rep]; exact ⟨some a, cap, rfl, Nat.zero_le _, hcm, (fun h => by cases h), .inl rfl⟩, fun y hy => by cases hy⟩
      · obtain ⟨y0, spot, c, ty, fz, ha, hs, hc, _⟩ := each 0 (by omega)
        have hs : spot = none := hs.resolve_right (fun h => h rfl)
        subst hs
        obtain ⟨l, hl, hr⟩ := list_of (p := fun i (y : e.den) => Rep (fun b => w.heap[b]?) e y ((c.toList.drop (a.off + i * e.size)).take e.size) ∧ e.fit y) (n := len) (fun i hi' => by
          obtain ⟨y, _, c', ty', fz', _, _, hc', hy⟩ := each i hi'
          rw [hc] at hc'
          injection hc' with hc'
          injection hc' with hc' _ _
          subst hc'
          exact ⟨y, hy⟩)
        refine ⟨l, ?_, fun y hy => by
          obtain ⟨i, hi, rfl⟩ := List.mem_iff_get.1 hy
          exact (hr i.1 i.2).2⟩
        simp only [Rep]
        refine ⟨some a, cap, by rw [hl], by rw [hl]; exact hlc, hcm, (fun h => by cases h), .inr ⟨a.block, a.off, c, ty, fz, by rw [ha], hc, fun i hi => (hr i hi).1⟩⟩
  | ptr e ih => exact ⟨fun id fuel cs x _ hb _ => by simp [Ty.argB] at hb, fun fs off fuel cs hf _ _ _ => by simp [TyOf.fields] at hf⟩
  | arr n e ih =>
    refine ⟨@fun H enc w base spare held id fuel cs x ht hb h => ?_, fun fs off fuel cs hf _ _ _ => by simp [TyOf.fields] at hf⟩
    simp only [TyOf] at ht
    obtain ⟨eid, hi, he⟩ := ht
    simp only [Ty.argB] at hb
    have hsz := cells_of he
    have hsa : P.cellsOf id = n * e.size := cells_of (t := .arr n e) ⟨eid, hi, he⟩
    obtain ⟨xs, m, _, _, hl, hxl, hg⟩ := DataW.trod_array hi.under h
    obtain ⟨l, h1, h2⟩ := list_of (p := fun i (y : e.den) => Rep (fun b => w.heap[b]?) e y ((cs.drop (i * e.size)).take e.size) ∧ e.fit y) (n := n) (fun i hi' => by
      have h3 := hg i hi'
      rw [hsz, List.getElem?_eq_getElem (by omega)] at h3
      exact ih.1 eid m _ _ he hb h3)
    exact ⟨l, by simp only [Rep]; exact ⟨h1, by rw [hl, hsa], fun i hi => (h2 i hi).1⟩, fun y hy => by
      obtain ⟨i, hi, rfl⟩ := List.mem_iff_get.1 hy
      exact (h2 i.1 i.2).2⟩
  | nil =>
    refine ⟨fun id fuel cs x ht _ _ => by simp [TyOf] at ht, fun fs off fuel cs hf _ hl _ => ⟨(), ?_, trivial⟩⟩
    simp only [Rep, Ty.size] at hl ⊢
    exact List.drop_of_length_le (by omega)
  | cons a b iha ihb =>
    have hF : RepF P (.cons a b) := by
      intro H enc w base spare held fs off fuel cs hf hb hl hg
      cases fs with
      | nil => simp [TyOf.fields] at hf
      | cons f r =>
        simp only [TyOf.fields] at hf
        obtain ⟨h1, h2, h3, h4⟩ := hf
        simp only [Ty.argB, Bool.and_eq_true] at hb
        simp only [Ty.size] at hl
        obtain ⟨x, hx⟩ := hg 0 f rfl
        rw [h1, cells_of h2] at hx
        obtain ⟨y1, hy1, hf1⟩ := iha.1 _ _ _ _ h2 hb.1 hx
        obtain ⟨y2, hy2, hf2⟩ := ihb.2 r (off + a.size) fuel cs h4 hb.2 (by omega) fun i f hf => hg (i + 1) f (by simpa using hf)
        refine ⟨(y1, y2), ?_, hf1, hf2⟩
        simp only [Rep]
        refine ⟨_, _, ?_, hy1, hy2⟩
        rw [← List.drop_drop, List.take_append_drop]
    refine ⟨@fun H enc w base spare held id fuel cs x ht hb h => ?_, hF⟩
    have hct := cells_of ht
    simp only [TyOf] at ht
    obtain ⟨fs, hi, hm⟩ := ht
    obtain ⟨xs, n, _, _, hl, hxl, hg⟩ := DataW.trod_struct hi.under h
    have hff : TyOf.fields P (.cons a b) fs.toList 0 := by
      split at hm
      · rename_i f r hfr
        rw [hfr]
        simp only [TyOf.fields]
        simpa using hm
      · exact hm.elim
    have := hF fs.toList 0 n cs hff hb (by rw [hl, hct]; omega) (held := held) (enc := enc) (w := w) (base := base) (spare := spare) fun i f hf => by
      have h1 := hg i f (by simpa using hf)
      have hlt : i < xs.length := by
        rw [hxl]
        have := (List.getElem?_eq_some_iff.1 hf).1
        simpa using this
      rw [List.getElem?_eq_getElem hlt] at h1
      exact ⟨_, h1⟩
    simpa using this
def Dat : List Ty → Type
  | [] => Unit
  | t :: ts => t.den × Dat ts
def Dat.av : {ts : List Ty} → Dat ts → AV
  | [], _ => .anil
  | t :: _, x => .acons (.val t x.1) (Dat.av x.2)
def Dat.fit : {ts : List Ty} → Dat ts → Prop
  | [], _ => True
  | t :: _, x => t.fit x.1 ∧ Dat.fit x.2
def tysB (P : Program) : List Ty → List TypeId → Bool
  | [], [] => true
  | t :: ts, i :: is => (tyB P t i && t.argB) && (P.readableRec i && decide (i < P.types.size)) && tysB P ts is
  | _, _ => false
theorem agg_of {t : Ty} {id : TypeId} (ht : TyOf P t id) (hb : t.argB = true) : (t.agg = true ∧ ((∃ fs, P.underlying id = some (.struct fs)) ∨ ∃ n e, P.underlying id = some (.array n e))) ∨
    (t.agg = false ∧ ((∃ k, P.underlying id = some (.int k)) ∨ P.underlying id = some .bool ∨ ∃ e, P.underlying id = some (.slice e))) := by
  cases t with
  | int k => simp only [TyOf] at ht; exact .inr ⟨rfl, .inl ⟨k, ht.under⟩⟩
  | bool => simp only [TyOf] at ht; exact .inr ⟨rfl, .inr (.inl ht.under)⟩
  | slice e => simp only [TyOf] at ht; obtain ⟨eid, h, _⟩ := ht; exact .inr ⟨rfl, .inr (.inr ⟨eid, h.under⟩)⟩
  | ptr e => simp [Ty.argB] at hb
  | arr n e => simp only [TyOf] at ht; obtain ⟨eid, h, _⟩ := ht; exact .inl ⟨rfl, .inr ⟨n, eid, h.under⟩⟩
  | nil => simp [TyOf] at ht
  | cons a b => simp only [TyOf] at ht; obtain ⟨fs, h, _⟩ := ht; exact .inl ⟨rfl, .inl ⟨fs, h.under⟩⟩
theorem arg_rv {ρ : Env} {t : Ty} {id : TypeId} {v : Value} {d : DataW H} {ps : List MemPlace} (ht : TyOf P t id) (hb : t.argB = true) (hv : Value.okWide P w .any base id v) {b0 : Nat}
    (h : DataW.Trod enc P w b0 spare held id v d ps) : ∃ y, (AV.val t y).rv (fun b => w.heap[b]?) ρ v ∧ t.fit y := by
  obtain ⟨fuel, h⟩ := h
  obtain ⟨y, hy, hyf⟩ := (rep_all P t).1 id fuel _ _ ht hb h
  refine ⟨y, ?_, hyf⟩
  simp only [AV.rv]
  refine ⟨_, hy, ?_⟩
  unfold Value.okWide at hv
  rcases agg_of ht hb with ⟨hag, hu⟩ | ⟨hag, hu⟩
  · have : ∃ cs, v = .agg cs := by
      rcases hu with ⟨fs, hu⟩ | ⟨n, e, hu⟩ <;> · rw [hu] at hv; obtain ⟨cs, h1, _⟩ := hv; exact ⟨cs, h1⟩
    obtain ⟨cs, rfl⟩ := this
    rw [Ty.wrap_agg hag]
    simp [Value.cells]
  · have hone : v.oneCell' = true := by
      rcases hu with ⟨k, hu⟩ | hu | ⟨e, hu⟩ <;> rw [hu] at hv <;> simp only [Cell.okWide, hu, Cell.ok] at hv <;> (split at hv <;> first | rfl | (exact hv.elim) | (split at hv <;> first | rfl | exact hv.elim))
    rw [Value.cells_one hone]
    simp [Ty.wrap, hag]
theorem tysB_cons {t : Ty} {ts : List Ty} {i : TypeId} {is : List TypeId} (h : tysB P (t :: ts) (i :: is) = true) : TyOf P t i ∧ t.argB = true ∧ P.readableRec i = true ∧ i < P.types.size ∧ tysB P ts is = true := by
  simp only [tysB, Bool.and_eq_true, decide_eq_true_eq] at h
  exact ⟨tyB_sound h.1.1.1, h.1.1.2, h.1.2.1, h.1.2.2, h.2⟩
theorem all_rvs {ρ : Env} {b0 : Nat} : ∀ {ts : List Ty} {is : List TypeId} {vs : List Value} {ds : List (DataW H)} {ps : List MemPlace}, tysB P ts is = true → (∀ (j : Nat) t v, is[j]? = some t → vs[j]? = some v → Value.okWide P w .any base t v) →
    DataW.TrodAll enc P w b0 spare held is vs ds ps → ∃ ys : Dat ts, ys.av.rvs (fun b => w.heap[b]?) ρ vs ∧ ys.fit
  | [], [], vs, ds, ps, _, _, h => by
    cases vs with
    | nil => exact ⟨(), by simp only [Dat.av, AV.rvs], trivial⟩
    | cons v vs => cases ds <;> simp [DataW.TrodAll] at h
  | t :: ts, i :: is, vs, ds, ps, hb, hv, h => by
    obtain ⟨h1, h2, _, _, h5⟩ := tysB_cons hb
    cases vs with
    | nil => cases ds <;> simp [DataW.TrodAll] at h
    | cons v vs =>
      cases ds with
      | nil => simp [DataW.TrodAll] at h
      | cons d ds =>
        obtain ⟨p, q, h6, h7, _⟩ := h
        obtain ⟨y, hy, hyf⟩ := arg_rv (ρ := ρ) h1 h2 (hv 0 i v rfl rfl) h6
        obtain ⟨ys, hys, hysf⟩ := all_rvs (ρ := ρ) h5 (fun j t v hj hjv => hv (j + 1) t v (by simpa using hj) (by simpa using hjv)) h7
        exact ⟨(y, ys), by simp only [Dat.av, AV.rvs]; exact ⟨v, vs, hy, hys, rfl⟩, hyf, hysf⟩
  | [], _ :: _, _, _, _, hb, _, _ => by simp [tysB] at hb
  | _ :: _, [], _, _, _, hb, _, _ => by simp [tysB] at hb
theorem Dat.bd : ∀ {ts : List Ty} (ys : Dat ts) (n : Nat), ys.av.bd n
  | [], _, _ => trivial
  | _ :: _, x, n => ⟨trivial, Dat.bd x.2 n⟩
theorem args_again {W W' : World} (hl : laidOutB P = true) (hbl : Below W.heap.size W W') {sp : Nat → Bool} : ∀ {ts : List Ty} {is : List TypeId} {vs : List Value} {ds : List (DataW H)} {ps : List MemPlace}, tysB P ts is = true →
    DataW.TrodAll enc P W 0 (fun _ => true) true is vs ds ps → (∀ p ∈ ps, p.block < W.heap.size) → (∀ p ∈ ps, sp p.block = true) → DataW.TrodAll enc P W' 0 sp true is vs ds ps
  | [], [], vs, ds, ps, _, h, _, _ => by
    cases vs <;> cases ds <;> simp_all [DataW.TrodAll]
  | t :: ts, i :: is, vs, ds, ps, hb, h, hlt, hsp => by
    obtain ⟨_, _, h3, h4, h5⟩ := tysB_cons hb
    cases vs with
    | nil => cases ds <;> simp [DataW.TrodAll] at h
    | cons v vs =>
      cases ds with
      | nil => simp [DataW.TrodAll] at h
      | cons d ds =>
        obtain ⟨p, q, h6, h7, rfl⟩ := h
        refine ⟨p, q, WideElems.Trod_stays hl h3 h4 h6 (fun x hx => hbl.same (hlt x (List.mem_append_left _ hx))) (fun x hx => hsp x (List.mem_append_left _ hx)), ?_, rfl⟩
        exact args_again hl hbl h5 h7 (fun x hx => hlt x (List.mem_append_right _ hx)) (fun x hx => hsp x (List.mem_append_right _ hx))
  | [], _ :: _, _, _, _, hb, _, _, _ => by simp [tysB] at hb
  | _ :: _, [], _, _, _, hb, _, _, _ => by simp [tysB] at hb
theorem law_calls {f : FuncId} {fn : Func} {s : ChangeSpec} {ts : List Ty} {W : World} {base : Nat} {args : Array Value} {ds gs : List (DataW H)} {before : List MemPlace} {fresh handsOn : Bool}
    (hfn : ∀ ys : Dat ts, ys.fit → Fn P f ys.av (· = .val .bool true)) (hts : tysB P ts fn.params.toList = true) (hl : laidOutB P = true) (hvars : s.vars = [])
    (hspec : ∀ ds : List (DataW H), ds.length = ts.length → (s.fn H ds).results = [.lit (.bool true)] ∧ (s.fn H ds).args = ds ∧ (s.fn H ds).vars = []) {rt : TypeId} (hres : fn.resultTypes = #[rt]) (hrt : P.underlying rt = some .bool)
    (hval : ∀ (j : Nat) t v, fn.params[j]? = some t → args[j]? = some v → Value.okWide P W .any base t v) (hW : DataW.Whole enc P fn.params.toList s.vars false W args.toList ds gs before) :
    Calls P f args W fun e W' => ∃ v, e = .returned v ∧ s.post enc P fn false fresh handsOn false W args v W' := by
  have hW' := hW
  obtain ⟨p, q, hA, hV, rfl, hfz, _⟩ := hW
  rw [hvars] at hV
  obtain ⟨rfl, rfl⟩ := trodVars_none hV
  rw [List.append_nil] at hW'
  obtain ⟨ys, hys, hysf⟩ := all_rvs (ρ := ⟨fun _ => 0, fun _ => .nil, fun _ => Go.undef⟩) hts (fun j t v hj hv => hval j t v (by simpa using hj) (by simpa using hv)) hA
  have hlen : ∀ {ts : List Ty} {is : List TypeId} {vs : List Value} {ds : List (DataW H)} {ps : List MemPlace}, tysB P ts is = true → DataW.TrodAll enc P W 0 (fun _ => true) true is vs ds ps → ds.length = ts.length := by
    intro ts
    induction ts with
    | nil => intro is vs ds ps hb h; cases is <;> cases vs <;> cases ds <;> simp_all [DataW.TrodAll, tysB]
    | cons t ts ih =>
      intro is vs ds ps hb h
      cases is with
      | nil => simp [tysB] at hb
      | cons i is =>
        cases vs <;> cases ds <;> try (simp [DataW.TrodAll] at h; done)
        obtain ⟨p, q, _, h7, _⟩ := h
        simp [ih (tysB_cons hb).2.2.2.2 h7]
  have hdl := hlen hts hA
  have hrun := (hfn ys hysf).run (fun b => W.heap[b]?) ⟨fun _ => 0, fun _ => .nil, fun _ => Go.undef⟩ W args.toList (fun _ _ h => h) hys (Dat.bd ys 0)
  rw [Array.toArray_toList] at hrun
  refine hrun.mono fun e W' => ?_
  rintro ⟨v, r, M', rfl, rfl, _, hrv, hbl, _⟩
  rw [rv_bool] at hrv
  subst hrv
  obtain ⟨hs1, hs2, hs3⟩ := hspec ds hdl
  have hlt := fun x hx => hW'.lt x hx
  refine ⟨_, rfl, ds, [], p, [], p, [], hW', ?_, ?_, ?_, World.keptBut_mono (fun x hx => ⟨hx, .inr (.inl hx)⟩) (hbl.frame (· ∈ p)), fun h => by cases h⟩
  · rw [List.append_nil, hs1, hres]
    exact trodAll_cons_mk (shut_bool hrt _) trodAll_mk0
  · rw [List.append_nil, hs2]
    exact args_again hl hbl hts hA hlt fun x hx => by simpa using hlt x hx
  · rw [List.append_nil, hs3, hvars]
    rfl
end
end Ox
