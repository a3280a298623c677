/- Texts of the proof, part 3 of 5.
  The engine, part ZX: the opposite of the least number; whether a map has a key.
  The engine, part ZY: walks over memory of a caller that is not looked at.
  The engine, part ZV: variables that are maps, set once.
  The engine, part ZR: a row of whole numbers that is taken from at its front and grows at its end.
  The seat's table of types for the engine.
  The seat's steps: one rule a kind.
  Plain law: sayings of which one or the other holds: chains, contradictions, truths. No program in sight.
  Plain theory of sheets: orders on two machines with waits between; the rule's order is a best one.
  Plain theory of sheets: rows, bounds.
  Plain theory of sheets: all orders, the first best one.
  Plain theory of seams: parts on a line, cycles of them whose wastes go forward; when one cycle has all.
  Plain theory of seams: cycles that touch become one; one row of all parts.
  Plain theory of seams: parts round a circle, cut open at a place: rounds are how often parts lie over it, and how often wastes go over it.
  Plain theory of seams: orders that begin with the part 0, the fewest rounds, full places, stretches.
  The engine, part ZS: functions whose result is a new row of the caller's own.
  The engine, part ZQ: the end of a row is cleared; a row is cut short.
  The engine, part ZAA: a cell's content at another reading; the nil slice as the empty list.
  Sets that are valid; equal lists; what is in a list.
  Sets that are valid.
  A sheet is made: plain.
  A sheet is made.
  Small functions of a sheet.
  Parts as bits: numbers, first, touched, group.
  How often parts lie over places; the peak; gaps: the reference and the program.
  Rows over which the pattern continues. -/
import Derived.Test.YtinehlphcckkmaaPkb
import Derived.Test.YtinehlphcckkmaaProg
import Init
set_option linter.all false
set_option maxHeartbeats 2000000
namespace Ox
open Go Go.RowKit
variable {X : Ctx} {s : S} {M : Mem} {ρ : Env} {a : Act} {w w' : World} {QA : Exit → S → Prop} {all l : List Oper} {P : Program}
variable {L : List (Nat × AV)} {H : List (Nat × HO)} {nx d n : Nat} {rr : List Fr} {om ok : Operand} {c1 c2 : List Prop} {ty : TypeId} {ps : String} {af : Array Edge} {md : Bool}
section
variable {kt vt : Ty} {t kid vid : TypeId} {es : List (Ent kt vt)} {ms : Array MapEntry} {clk b : Nat} {x : kt.den} {cx : List Value}
def mHas (es : List (Ent kt vt)) (x : kt.den) : Bool := (mIdx es x).isSome
theorem run_lookupOk (hT : MapT P kt vt t kid vid) (hb : w.heap[b]? = some (.map ms clk)) (hm : MapRep M kt vt es ms.toList) (hx : Rep M kt x cx) :
    ∃ vc, Rep M vt (mGet es x vt.dflt) vc ∧ (Instr.lookup t (.map (some b)) (kt.wrap cx) true).run P w = .ok (.tuple #[vt.wrap vc, .bool (mHas es x)]) w := by
  have hf := find_run hT.key hx w es ms.toList hm
  unfold Instr.lookup
  simp only [Sem.run_bind, run_underlying hT.under, Result.andThen_ok, MapKept.run_getObj_map hb, Sem.run_pure, key_checks hT.key hx]
  unfold mGet mHas
  cases hi : mIdx es x with
  | none =>
    rw [hi] at hf
    refine ⟨vt.zc, Ty.zc_rep M vt, ?_⟩
    simp [hf, val_zero hT.val]
  | some j =>
    rw [hi] at hf
    obtain ⟨e, h1, h2⟩ := hf
    obtain ⟨e', h3, ⟨_, ⟨vc, h4, h5⟩, _⟩⟩ := hm.get h1
    refine ⟨vc, by simp only [h3, Option.map_some, Option.getD_some]; exact h4, ?_⟩
    simp [h2, h5]
theorem JL.mLookOk (hT : MapT X.P kt vt t kid vid) (hu : opd L om = some (c1, .lf (.mp n))) (hl : lk H n = some (.map kt vt es clk)) (hv : opd L ok = some (c2, .val kt x)) (hd : ltB d X.n = true) (hc : allP (c1 ++ c2))
    (k : JL X true all QA l ⟨(d, .tup (.acons (.val vt (mGet es x vt.dflt)) (.acons (.val .bool (mHas es x)) .anil))) :: L, H, nx⟩) : JL X true all QA (⟨some d, .lookup t om ok true, ty, ps, af, none⟩ :: l) ⟨L, H, nx⟩ := by
  rw [allP_append] at hc
  refine JL.did rfl rfl (ltB_lt hd) (v := .tup (.acons (.val vt (mGet es x vt.dflt)) (.acons (.val .bool (mHas es x)) .anil))) (s' := ⟨L, H, nx⟩) (fun M ρ a w h1 h2 => ?_) k
  obtain ⟨ms, hb, hm⟩ := own_map h1 hl
  obtain ⟨cx, hx, hxe⟩ := opd_val hv hc.2 h2
  obtain ⟨vc, r1, r2⟩ := run_lookupOk hT hb hm hx
  refine ⟨ρ, w, _, ?_, Env.upTo.refl _ _, Nat.le_refl _, rfl, h1, ⟨trivial, trivial, trivial⟩, .inl ⟨.tuple #[vt.wrap vc, .bool (mHas es x)], rfl, ?_⟩⟩
  · simp only [execOp, opd_map hu hc.1 h2, hxe, Sem.run_bind, r2, Result.andThen_ok, Sem.run_pure]
  · simp only [AV.rv, AV.rvs]
    exact ⟨[vt.wrap vc, .bool (mHas es x)], ⟨vt.wrap vc, [.bool (mHas es x)], ⟨vc, r1, rfl⟩, ⟨.bool (mHas es x), [], ⟨[.bool (mHas es x)], by simp only [Rep], rfl⟩, rfl, rfl⟩, rfl⟩, rfl⟩
theorem JK.mLookOk (hT : MapT X.P kt vt t kid vid) (hu : opd L om = some (c1, .lf (.mp n))) (hl : lk H n = some (.map kt vt es clk)) (hv : opd L ok = some (c2, .val kt x)) (hd : ltB d X.n = true)
    (k : JK X (.ops true all l :: rr) QA ⟨(d, .tup (.acons (.val vt (mGet es x vt.dflt)) (.acons (.val .bool (mHas es x)) .anil))) :: L, H, nx⟩) (hc : allP (c1 ++ c2)) : JK X (.ops true all (⟨some d, .lookup t om ok true, ty, ps, af, none⟩ :: l) :: rr) QA ⟨L, H, nx⟩ :=
  JL.mLookOk hT hu hl hv hd hc k
end
end Ox
namespace Ox
open Go Go.RowKit
variable {X : Ctx} {s : S} {M : Mem} {ρ : Env} {a : Act} {w w' : World} {QA : Exit → S → Prop} {all l : List Oper} {P : Program}
variable {L : List (Nat × AV)} {H : List (Nat × HO)} {nx d n : Nat} {rr : List Fr} {c1 c2 : List Prop} {ty ty2 : TypeId} {ps ps2 : String} {af af2 : Array Edge} {md : Bool}
def funB (P : Program) (t : TypeId) : Bool := match P.info? t with
  | some i => (match i.zero with | some .nilFunc => true | _ => false) && (i.size == 1) && (match P.underlying t with | some (.func ..) => true | _ => false)
  | none => false
structure FunT (P : Program) (t : TypeId) : Prop where
  zero : ∀ w, (zeroValue t).run P w = .ok .nilFunc w
  size : ∀ w, (Go.sizeOf t).run P w = .ok 1 w
  agg : ∀ w, (isAgg t).run P w = .ok false w
theorem FunT.of {P : Program} {t : TypeId} (h : funB P t = true) : FunT P t := by
  unfold funB at h
  cases hi : P.info? t with
  | none => rw [hi] at h; cases h
  | some i =>
    rw [hi] at h
    simp only [Bool.and_eq_true, beq_iff_eq] at h
    obtain ⟨⟨h1, h2⟩, h3⟩ := h
    refine ⟨fun w => ?_, fun w => ?_, fun w => ?_⟩
    · split at h1
      · rename_i hz; simp [zeroValue, typeInfo, hi, hz]
      · cases h1
    · simp [Go.sizeOf, typeInfo, hi, h2]
    · split at h3
      · rename_i hu; simp [isAgg, run_underlying hu]
      · cases h3
def AV.fnB : AV → Bool
  | .fn .. => true
  | _ => false
theorem fnB_rv {v : AV} (h : v.fnB = true) {u : Value} (hu : v.rv M ρ u) : ∃ f fs ks, u = .func (.func f) fs ks := by
  cases v with
  | fn f x y => simp only [AV.rv] at hu; obtain ⟨fs, ks, _, _, rfl⟩ := hu; exact ⟨_, _, _, rfl⟩
  | _ => simp [AV.fnB] at h
theorem push_modify {α : Type} (a : Array α) (x : α) (f : α → α) : (a.push x).modify a.size f = a.push (f x) := by
  apply Array.ext
  · simp
  · intro i h1 h2
    rw [Array.getElem_modify]
    have hi : i < a.size + 1 := by simpa using h2
    by_cases e : a.size = i
    · subst e; simp
    · rw [if_neg e, Array.getElem_push_lt (by omega), Array.getElem_push_lt (by omega)]
theorem JL.layF {t : TypeId} {x : Operand} {v : AV} (hF : funB X.P t = true) (hu : opd (del L d) x = some (c1, v)) (hv : v.fnB = true) (hc : allP c1) (hd : ltB d X.n = true) (k : JL X true all QA l ⟨(d, .pfn v) :: L, H, nx⟩) :
    JL X true all QA (⟨some d, .alloc t, ty, ps, af, none⟩ :: ⟨none, .store t (.tmp d) x, ty2, ps2, af2, none⟩ :: l) ⟨L, H, nx⟩ := by
  have hf := FunT.of hF
  intro M ρ a w h1 h2
  let p : Value := .pointer (some ⟨w.heap.size, 0, none⟩)
  let w1 : World := w.alloc (.cells #[.nilFunc] t)
  have hE := h1.below.size
  have hdn : d < X.n := ltB_lt hd
  have hsz := h2.size
  have hr1 : (execOp a.eval ⟨some d, .alloc t, ty, ps, af, none⟩).run X.P w = .ok (.value p) w1 := by
    simp only [execOp, Instr.alloc, Sem.run_bind, hf.zero, Result.andThen_ok, newVar, newRow, run_newObj, Sem.run_pure]
    rfl
  have hreg : REG X M ρ ⟨del L d, H, nx⟩ (a.put (some d) p) := ⟨by simp [Act.put, hsz], h2.defers, fun e y he => by
    obtain ⟨e1, e2⟩ := del_lk he
    have := h2.reg e y e2
    refine ⟨this.1, ?_⟩
    have e3 : ((a.put (some d) p).tmps.getD e Go.undef) = a.tmps.getD e Go.undef := by
      simp only [Act.put, Array.getD_eq_getD_getElem?]
      rw [Array.getElem?_setIfInBounds_ne (Ne.symm e1)]
    rw [e3]; exact this.2⟩
  obtain ⟨hvb, hvr⟩ := opd_sound (s := ⟨del L d, H, nx⟩) hu hc hreg
  obtain ⟨f, fs, ks, hfv⟩ := fnB_rv hv hvr
  let w2 : World := w.alloc (.cells #[(a.put (some d) p).eval x] t)
  have hnew : w1.heap[w.heap.size]? = some (.cells #[.nilFunc] t (0, 0)) := World.alloc_heap_new w _
  have hpd : (a.put (some d) p).eval (.tmp d) = p := by
    simp only [Act.eval, Act.put, Array.getD_eq_getD_getElem?]
    rw [Array.getElem?_setIfInBounds_self_of_lt (by omega)]; rfl
  have hone : ∀ y ∈ [(a.put (some d) p).eval x], y.oneCell' = true := fun y hy => by
    rw [List.mem_singleton.1 hy, hfv]; rfl
  have hst := run_storeCells_at X.P w.heap.size 0 t [(a.put (some d) p).eval x] 0 #[.nilFunc] w1 hnew (by simp) hone
  have hcells : ((a.put (some d) p).eval x).cells = #[(a.put (some d) p).eval x] := by rw [hfv]; rfl
  have hset : w1.setRow w.heap.size (([Value.nilFunc].take (0 + 0) ++ [(a.put (some d) p).eval x] ++ [Value.nilFunc].drop (0 + 0 + 1)).toArray) = w2 := by
    show ({ heap := (w.heap.push (.cells #[.nilFunc] t)).modify w.heap.size _, tape := w.tape, drawn := w.drawn, os := w.os, output := w.output } : World) = { heap := w.heap.push _, tape := w.tape, drawn := w.drawn, os := w.os, output := w.output }
    rw [push_modify]
    rfl
  have hr2 : (execOp (a.put (some d) p).eval ⟨none, .store t (.tmp d) x, ty2, ps2, af2, none⟩).run X.P w1 = .ok .skip w2 := by
    have h3 : (storeVar t ⟨w.heap.size, 0, none⟩ ((a.put (some d) p).eval x)).run X.P w1 = .ok () w2 := by
      unfold storeVar
      simp only [Sem.run_bind, hf.size, Result.andThen_ok, hcells]
      simp only [List.size_toArray, List.length_cons, List.length_nil, ne_eq, not_true_eq_false, if_false, Array.toList]
      rw [hst]
      exact congrArg (Result.ok ()) hset
    simp only [execOp, Instr.storeAt, hpd, p, Instr.sureAddr, Sem.run_bind, Sem.run_pure, Result.andThen_ok]
    rw [h3]
    rfl
  let M' : Mem := fun b => if b = w.heap.size then some (.cells #[(a.put (some d) p).eval x] t (0, 0)) else M b
  have hfull : ∀ b o, M b = some o → M' b = some o := fun b o hb => by
    show (if b = w.heap.size then _ else _) = _
    rw [if_neg (by have := (Array.getElem?_eq_some_iff.1 (h1.mem _ _ hb)).1; omega)]; exact hb
  have hM : Mem.le M M' := fun b c ty fz hb => hfull b _ hb
  have hat : w2.heap[w.heap.size]? = some (.cells #[(a.put (some d) p).eval x] t (0, 0)) := World.alloc_heap_new w _
  have hbl : Below w.heap.size w w2 := (Below.refl _ _).alloc (Nat.le_refl _) _
  have hs2 : SAT X M' ρ ⟨L, H, nx⟩ w2 := h1.ext hbl hM (fun b o hb => by
    by_cases e : b = w.heap.size
    · subst e
      have : some (Obj.cells #[(a.put (some d) p).eval x] t (0, 0)) = some o := by
        have hb' : (if w.heap.size = w.heap.size then some (Obj.cells #[(a.put (some d) p).eval x] t (0, 0)) else M w.heap.size) = some o := hb
        rwa [if_pos rfl] at hb'
      rw [← this]; exact hat
    · have hb' : (if b = w.heap.size then some (Obj.cells #[(a.put (some d) p).eval x] t (0, 0)) else M b) = some o := hb
      rw [if_neg e] at hb'
      have hlt := (Array.getElem?_eq_some_iff.1 (h1.mem b o hb')).1
      rw [hbl.block b hlt]; exact h1.mem b o hb') (fun b hb => by
    show (if b = w.heap.size then _ else _) = _
    rw [if_neg (by omega)])
  have hreg2 : REG X M' ρ ⟨(d, .pfn v) :: L, H, nx⟩ ((a.put (some d) p).put none Go.undef) := by
    refine ⟨by simp [Act.put, hsz], let ⟨Ds, e1, e2, e3, e4⟩ := h2.defers; ⟨Ds, e1, e2, fun D hD => ⟨(e3 D hD).1, hfull _ _ (e3 D hD).2⟩, e4⟩, fun e y he => ?_⟩
    simp only [lk] at he
    by_cases hde : d = e
    · subst hde
      rw [if_pos rfl] at he
      injection he with he; subst he
      refine ⟨hvb, ?_⟩
      simp only [AV.rv]
      refine ⟨w.heap.size, _, t, (0, 0), ?_, ?_, AV.rv_mono hM (Env.upTo.refl ρ nx) hvb hvr⟩
      · show (a.put (some d) p).tmps.getD d Go.undef = p
        simp only [Act.put, Array.getD_eq_getD_getElem?]
        rw [Array.getElem?_setIfInBounds_self_of_lt (by omega)]; rfl
      · show (if w.heap.size = w.heap.size then _ else _) = _
        rw [if_pos rfl]
    · rw [if_neg hde] at he
      have := h2.reg e y he
      refine ⟨this.1, ?_⟩
      have e3 : (((a.put (some d) p).put none Go.undef).tmps.getD e Go.undef) = a.tmps.getD e Go.undef := by
        simp only [Act.put, Array.getD_eq_getD_getElem?]
        rw [Array.getElem?_setIfInBounds_ne hde]
      rw [e3]
      exact AV.rv_mono hM (Env.upTo.refl ρ nx) this.1 this.2
  refine wpListIn_w (wanted_none rfl) (wpIn_value rfl hr1 (wpListIn_w (wanted_none rfl) (wpIn_skipv rfl hr2 ?_)))
  exact k M' ρ _ w2 (hs2.regs _) hreg2
theorem ldF_run {t : TypeId} {x : Operand} {v : AV} (hF : funB X.P t = true) (hu : opd s.L x = some (c1, .pfn v)) (hc : allP c1) : ∀ {M ρ a w0} {d : Option Nat} {gu : Option (Nat × Bool)}, SAT X M ρ s w0 → REG X M ρ s a → v.bd s.nx ∧ ∃ z, v.rv M ρ z ∧ ∀ w1, Below w0.heap.size w0 w1 → (execOp a.eval ⟨d, .load t x, ty, ps, af, gu⟩).run X.P w1 = .ok (.value z) w1 := by
  have hf := FunT.of hF
  intro M ρ a w0 d gu h1 h2
  obtain ⟨hb, hr⟩ := opd_sound hu hc h2
  simp only [AV.rv] at hr
  obtain ⟨b, fv, ty', fz, e1, e2, e3⟩ := hr
  refine ⟨hb, fv, e3, fun w1 hw => ?_⟩
  have hm := h1.mem b _ e2
  have hlt := (Array.getElem?_eq_some_iff.1 hm).1
  have hm1 : w1.heap[b]? = some (.cells #[fv] ty' fz) := by rw [hw.block b hlt]; exact hm
  have h3 : (loadVar t ⟨b, 0, none⟩).run X.P w1 = .ok fv w1 := by
    unfold loadVar
    simp only [Sem.run_bind, hf.agg, Result.andThen_ok]
    simp [cell?_block hm1]
  simp only [execOp, e1, Instr.loadAt, Instr.sureAddr, Sem.run_bind, Sem.run_pure, Result.andThen_ok, h3]
theorem JL.ldF {t : TypeId} {x : Operand} {v : AV} (hF : funB X.P t = true) (hu : opd s.L x = some (c1, .pfn v)) (hc : allP c1) (hd : ltB d X.n = true) (k : JL X md all QA l ⟨(d, v) :: s.L, s.H, s.nx⟩) : JL X md all QA (⟨some d, .load t x, ty, ps, af, none⟩ :: l) s := by
  cases md
  · intro M ρ a w0 h1 h2
    obtain ⟨hb, z, hz, hr⟩ := ldF_run (d := some d) (gu := none) (ty := ty) (ps := ps) (af := af) hF hu hc h1 h2
    simp only [wpQuiet, Region.wanted, if_true]
    refine ⟨z, fun w hw => ?_, k M ρ _ w0 (h1.regs _) (h2.putO (d := some d) (dstOk.spec (ltB_lt hd)) hb hz)⟩
    unfold Oper.quietAt
    rw [hr w hw]
    exact ⟨rfl, rfl⟩
  · intro M ρ a w h1 h2
    obtain ⟨hb, z, hz, hr⟩ := ldF_run (d := some d) (gu := none) (ty := ty) (ps := ps) (af := af) hF hu hc h1 h2
    exact wpListIn_w (wanted_none rfl) (wpIn_value rfl (hr w (Below.refl _ _)) (k M ρ _ w (h1.regs _) (h2.putO (d := some d) (dstOk.spec (ltB_lt hd)) hb hz)))
theorem JL.ldFg {t : TypeId} {x : Operand} {v : AV} {g : Bool} {gg : Nat × Bool} (hF : funB X.P t = true) (hg : gOf all s.L (some gg) = some g) (hu : opd s.L x = some (c1, .pfn v)) (hc : g = true → allP c1) (hd : ltB d X.n = true) (k : JL X md all QA l (putS (some d) (.gd g v) s)) : JL X md all QA (⟨some d, .load t x, ty, ps, af, some gg⟩ :: l) s := by
  cases md
  · intro M ρ a w0 h1 h2
    have hw := gOf_sound (o := ⟨some d, .load t x, ty, ps, af, some gg⟩) hg h2
    simp only [wpQuiet, hw]
    cases g with
    | true =>
      obtain ⟨e1, z, e2, e3⟩ := ldF_run (d := some d) (gu := some gg) (ty := ty) (ps := ps) (af := af) hF hu (hc rfl) h1 h2
      simp only [if_true]
      exact ⟨z, fun w hw => by unfold Oper.quietAt; rw [e3 w hw]; exact ⟨rfl, rfl⟩, k M ρ _ w0 (putS_sat h1) (h2.putO (d := some d) (dstOk.spec (ltB_lt hd)) (by exact fun _ => e1) (by simp only [AV.rv]; exact ⟨fun _ => e2, fun h => (by cases h)⟩))⟩
    | false =>
      simp only [Bool.false_eq_true, if_false]
      exact k M ρ _ w0 (putS_sat h1) (h2.putO (d := some d) (dstOk.spec (ltB_lt hd)) (by exact fun h => (by cases h)) (by simp [AV.rv]))
  · intro M ρ a w h1 h2
    have hw := gOf_sound (o := ⟨some d, .load t x, ty, ps, af, some gg⟩) hg h2
    cases g with
    | true =>
      obtain ⟨e1, z, e2, e3⟩ := ldF_run (d := some d) (gu := some gg) (ty := ty) (ps := ps) (af := af) hF hu (hc rfl) h1 h2
      refine wpListIn_w hw (wpIn_value rfl (e3 w (Below.refl _ _)) ?_)
      exact k M ρ _ w (putS_sat h1) (h2.putO (d := some d) (dstOk.spec (ltB_lt hd)) (by exact fun _ => e1) (by simp only [AV.rv]; exact ⟨fun _ => e2, fun h => (by cases h)⟩))
    | false =>
      refine wpListIn_nw hw ?_
      exact k M ρ _ w (putS_sat h1) (h2.putO (d := some d) (dstOk.spec (ltB_lt hd)) (by exact fun h => (by cases h)) (by simp [AV.rv]))
theorem JK.layF {t : TypeId} {x : Operand} {v : AV} (hF : funB X.P t = true) (hu : opd (del L d) x = some (c1, v)) (hv : v.fnB = true) (hd : ltB d X.n = true) (hc : allP c1) (k : JK X (.ops true all l :: rr) QA ⟨(d, .pfn v) :: L, H, nx⟩) :
    JK X (.ops true all (⟨some d, .alloc t, ty, ps, af, none⟩ :: ⟨none, .store t (.tmp d) x, ty2, ps2, af2, none⟩ :: l) :: rr) QA ⟨L, H, nx⟩ := JL.layF hF hu hv hc hd k
theorem JK.ldF {t : TypeId} {x : Operand} {v : AV} (hF : funB X.P t = true) (hu : opd L x = some (c1, .pfn v)) (hd : ltB d X.n = true) (hc : allP c1) (k : JK X (.ops md all l :: rr) QA ⟨(d, v) :: L, H, nx⟩) : JK X (.ops md all (⟨some d, .load t x, ty, ps, af, none⟩ :: l) :: rr) QA ⟨L, H, nx⟩ :=
  JL.ldF (s := ⟨L, H, nx⟩) hF hu hc hd k
theorem JK.ldFg {t : TypeId} {x : Operand} {v : AV} {g : Bool} {gg : Nat × Bool} (hF : funB X.P t = true) (hg : gOf all L (some gg) = some g) (hu : opd L x = some (c1, .pfn v)) (hd : ltB d X.n = true) (hc : g = true → allP c1) (k : JK X (.ops md all l :: rr) QA ⟨(d, .gd g v) :: L, H, nx⟩) : JK X (.ops md all (⟨some d, .load t x, ty, ps, af, some gg⟩ :: l) :: rr) QA ⟨L, H, nx⟩ :=
  JL.ldFg (s := ⟨L, H, nx⟩) hF hg hu hc hd k
theorem JL.vqg {o : Oper} {v : AV} {g : Bool} (hg : gOf all s.L o.guard = some g) (hn : notDef o.op = true) (hd : dstOk X.n o.dst) (hb : v.bd s.nx) (h : g = true → ∀ M ρ a w, SAT X M ρ s w → REG X M ρ s a → ∃ z, v.rv M ρ z ∧ ∀ w1, (execOp a.eval o).run X.P w1 = .ok (.value z) w1)
    (k : JL X md all QA l (putS o.dst (.gd g v) s)) : JL X md all QA (o :: l) s := by
  cases md
  · intro M ρ a w0 h1 h2
    have hw := gOf_sound hg h2
    simp only [wpQuiet, hw]
    cases g with
    | true =>
      obtain ⟨z, hz, hr⟩ := h rfl M ρ a w0 h1 h2
      simp only [if_true]
      exact ⟨z, fun w hw => by unfold Oper.quietAt; rw [hr w]; exact ⟨rfl, rfl⟩, k M ρ _ w0 (putS_sat h1) (h2.putO hd.spec (by exact fun _ => hb) (by simp only [AV.rv]; exact ⟨fun _ => hz, fun h => (by cases h)⟩))⟩
    | false =>
      simp only [Bool.false_eq_true, if_false]
      exact k M ρ _ w0 (putS_sat h1) (h2.putO hd.spec (by exact fun h => (by cases h)) (by simp [AV.rv]))
  · intro M ρ a w h1 h2
    have hw := gOf_sound hg h2
    cases g with
    | true =>
      obtain ⟨z, hz, hr⟩ := h rfl M ρ a w h1 h2
      refine wpListIn_w hw (wpIn_value hn (hr w) ?_)
      exact k M ρ _ w (putS_sat h1) (h2.putO hd.spec (by exact fun _ => hb) (by simp only [AV.rv]; exact ⟨fun _ => hz, fun h => (by cases h)⟩))
    | false =>
      refine wpListIn_nw hw ?_
      exact k M ρ _ w (putS_sat h1) (h2.putO hd.spec (by exact fun h => (by cases h)) (by simp [AV.rv]))
section
variable {kt : Ty} {t : TypeId} {om ok : Operand} {c2 : List Prop} {x y : kt.den} {dd : Nat} {g : Bool} {gg : Nat × Bool}
theorem JK.eqQg (hK : EqT X.P kt t) (hg : gOf all L (some gg) = some g) (hu : opd L om = some (c1, .val kt x)) (hv : opd L ok = some (c2, .val kt y)) (hd : ltB dd X.n = true) (hc : g = true → allP (c1 ++ c2)) {tt : TypeId}
    (k : JK X (.ops md all l :: rr) QA ⟨(dd, .gd g (.val .bool (kt.eqB x y))) :: L, H, nx⟩) : JK X (.ops md all (⟨some dd, .binOp .eql t om ok tt, ty, ps, af, some gg⟩ :: l) :: rr) QA ⟨L, H, nx⟩ := by
  refine JL.vqg (o := ⟨some dd, .binOp .eql t om ok tt, ty, ps, af, some gg⟩) (s := ⟨L, H, nx⟩) (v := .val .bool (kt.eqB x y)) hg rfl (ltB_lt hd) trivial (fun hgt M ρ a w h1 h2 => ⟨.bool (kt.eqB x y), rv_bool.2 rfl, fun w1 => ?_⟩) k
  have hc' := hc hgt
  rw [allP_append] at hc'
  obtain ⟨cx, hx, hxe⟩ := opd_val (vt := kt) hu hc'.1 h2
  obtain ⟨cy, hy, hye⟩ := opd_val (vt := kt) hv hc'.2 h2
  obtain ⟨r, hr, hq⟩ := equal_run hK.key.ty hK.key.ok hK.key.dep hK.key.flat hx hy w1
  have hrb : r = kt.eqB x y := by rw [Bool.eq_iff_iff, Ty.eqB_iff]; exact hq
  rw [Ty.wrap_agg hK.ag, Ty.wrap_agg hK.ag] at hr
  simp only [execOp, hxe, hye, Ty.wrap_agg hK.ag, Sem.run_bind, run_eqGuard_agg w1 _ _ _ _ _ _ hK.gt, Result.andThen_ok, binOp, hr, Sem.run_pure, hrb]
theorem JK.neQg (hK : EqT X.P kt t) (hg : gOf all L (some gg) = some g) (hu : opd L om = some (c1, .val kt x)) (hv : opd L ok = some (c2, .val kt y)) (hd : ltB dd X.n = true) (hc : g = true → allP (c1 ++ c2)) {tt : TypeId}
    (k : JK X (.ops md all l :: rr) QA ⟨(dd, .gd g (.val .bool (!kt.eqB x y))) :: L, H, nx⟩) : JK X (.ops md all (⟨some dd, .binOp .neq t om ok tt, ty, ps, af, some gg⟩ :: l) :: rr) QA ⟨L, H, nx⟩ := by
  refine JL.vqg (o := ⟨some dd, .binOp .neq t om ok tt, ty, ps, af, some gg⟩) (s := ⟨L, H, nx⟩) (v := .val .bool (!kt.eqB x y)) hg rfl (ltB_lt hd) trivial (fun hgt M ρ a w h1 h2 => ⟨.bool (!kt.eqB x y), rv_bool.2 rfl, fun w1 => ?_⟩) k
  have hc' := hc hgt
  rw [allP_append] at hc'
  obtain ⟨cx, hx, hxe⟩ := opd_val (vt := kt) hu hc'.1 h2
  obtain ⟨cy, hy, hye⟩ := opd_val (vt := kt) hv hc'.2 h2
  obtain ⟨r, hr, hq⟩ := equal_run hK.key.ty hK.key.ok hK.key.dep hK.key.flat hx hy w1
  have hrb : r = kt.eqB x y := by rw [Bool.eq_iff_iff, Ty.eqB_iff]; exact hq
  rw [Ty.wrap_agg hK.ag, Ty.wrap_agg hK.ag] at hr
  simp only [execOp, hxe, hye, Ty.wrap_agg hK.ag, Sem.run_bind, run_eqGuard_agg w1 _ _ _ _ _ _ hK.gt, Result.andThen_ok, binOp, hr, Sem.run_pure, hrb]
end
end Ox

namespace Ox
open Go Go.RowKit
variable {X : Ctx} {s : S} {M : Mem} {ρ : Env} {a : Act} {w w' : World} {QA : Exit → S → Prop} {all l : List Oper} {md : Bool}
variable {L L' : List (Nat × AV)} {H H' : List (Nat × HO)} {nx nx' : Nat}
def subL (L : List (Nat × AV)) : List (Nat × AV) → Prop
  | [] => True
  | (d, v) :: r => lk L d = some v ∧ subL L r
theorem subL_spec : ∀ {r : List (Nat × AV)}, subL L r → ∀ d v, lk r d = some v → lk L d = some v
  | [], _, d, v, h => by simp [lk] at h
  | (k, u) :: r, hc, d, v, h => by
    simp only [lk] at h
    by_cases e : k = d
    · subst e; rw [if_pos rfl] at h; injection h with h; subst h; exact hc.1
    · rw [if_neg e] at h; exact subL_spec hc.2 d v h
def subH (H H' : List (Nat × HO)) : Prop := ∀ m o, lk H' m = some o → lk H m = some o
theorem subH.refl (H : List (Nat × HO)) : subH H H := fun _ _ h => h
theorem JW.same (hL : subL L L') : JW X ⟨L', H, nx⟩ ⟨L, H, nx⟩ := fun M ρ a w h1 h2 => ⟨ρ, h1.regs L', h2.size, h2.defers, fun d v hd => h2.reg d v (subL_spec hL d v hd)⟩
theorem JW.refl (s : S) : JW X s s := fun M ρ a w h1 h2 => ⟨ρ, h1, h2⟩
theorem JW.trans {s1 s2 s3 : S} (h : JW X s1 s2) (k : JW X s2 s3) : JW X s1 s3 := fun M ρ a w h1 h2 => by
  obtain ⟨ρ1, e1, e2⟩ := k M ρ a w h1 h2
  exact h M ρ1 a w e1 e2
theorem SAT.frzG {m d : Nat} {o0 : HO} {v0 v1 : AV} (h1 : SAT X M ρ ⟨L, H, nx⟩ w) (h2 : REG X M ρ ⟨L, H, nx⟩ a) (hl : lk H m = some o0) (hd : lk L d = some v0) (hf : Ox.frz [m] [d] ⟨[(d, v0)], [(m, o0)], nx⟩ = some ([], ⟨[(d, v1)], [], nx⟩))
    (hv : v1.bd nx') (hL : subL L L') (hH : subH H H') (hm : lk H' m = none) (bL : bdL nx' L') (bH : bdH nx' H') :
    ∃ M', SAT X M' ρ ⟨(d, v1) :: L', H', nx'⟩ w ∧ REG X M' ρ ⟨(d, v1) :: L', H', nx'⟩ a := by
  have one : ∀ l' o', lk [(m, o0)] l' = some o' → l' = m ∧ o' = o0 := fun l' o' h => by
    simp only [lk] at h
    by_cases e : m = l'
    · rw [if_pos e] at h; injection h with h; exact ⟨e.symm, h.symm⟩
    · rw [if_neg e] at h; cases h
  have g1 : SAT X M ρ ⟨[(d, v0)], [(m, o0)], nx⟩ w := by
    refine ⟨h1.below, h1.msub, h1.mnew, h1.mem, fun l o hl' => ?_, fun l l' o o' b k1 k2 _ _ => ?_, fun l o b k1 => ?_⟩
    · obtain ⟨rfl, rfl⟩ := one _ _ hl'; exact h1.own _ _ hl
    · obtain ⟨rfl, _⟩ := one _ _ k1; exact (one _ _ k2).1.symm
    · obtain ⟨rfl, rfl⟩ := one _ _ k1; exact h1.notM _ _ b hl
  have g2 : REG X M ρ ⟨[(d, v0)], [(m, o0)], nx⟩ a := ⟨h2.size, h2.defers, fun d' v hd' => by
      simp only [lk] at hd'
      by_cases e : d = d'
      · subst e; rw [if_pos rfl] at hd'; injection hd' with hd'; subst hd'; exact h2.reg _ _ hd
      · rw [if_neg e] at hd'; (cases hd')⟩
  have hp : pickF [(m, o0)] [m] = [(m, o0)] := by simp [pickF]
  obtain ⟨f1, f2⟩ := frz_sound hf trivial g1 g2
  have hle := frzM_le (F := [m]) g1
  refine ⟨_, ⟨f1.below, f1.msub, f1.mnew, f1.mem, fun l o hl' => ?_, fun l l' o o' b k1 k2 => h1.apart l l' o o' b (hH _ _ k1) (hH _ _ k2), fun l o b k1 k2 => ?_⟩, f2.size, f2.defers, fun d' v hd' => ?_⟩
  · obtain ⟨e1, e2⟩ := bdH_spec bH l o (lk_mem hl')
    obtain ⟨q1, q2, q3⟩ := h1.own l o (hH l o hl')
    exact ⟨e1, e2, HO.ok_env hle (Env.upTo.refl ρ nx) q1 q2 q3⟩
  · unfold frzM
    split
    · rename_i h
      obtain ⟨l', o', r1, r2⟩ := h
      change lk (pickF [(m, o0)] [m]) l' = some o' at r1
      rw [hp] at r1
      simp only [lk] at r1
      by_cases e' : m = l'
      · subst e'
        rw [if_pos rfl] at r1; injection r1 with r1; subst r1
        have := h1.apart l m o _ b (hH _ _ k1) hl k2 r2
        subst this
        rw [hm] at k1; cases k1
      · rw [if_neg e'] at r1; cases r1
    · exact h1.notM l o b (hH _ _ k1) k2
  · simp only [lk] at hd'
    by_cases e' : d = d'
    · subst e'
      rw [if_pos rfl] at hd'; injection hd' with hd'; subst hd'
      have := f2.reg d v1 (by simp [lk])
      exact ⟨hv, this.2⟩
    · rw [if_neg e'] at hd'
      have q := h2.reg d' v (subL_spec hL d' v hd')
      exact ⟨bdL_spec bL d' v (lk_mem hd'), AV.rv_mono hle (Env.upTo.refl ρ nx) q.1 q.2⟩
theorem frz_row {m d : Nat} {eid : TypeId} {e : Ty} {xs : List e.den} : Ox.frz [m] [d] ⟨[(d, .lf (.osl m))], [(m, .sl eid e xs)], nx⟩ = some ([], ⟨[(d, .val (.slice e) xs)], [], nx⟩) := by
  have hc : ([m].contains m) = true := by simp
  have hp : pickF [(m, HO.sl eid e xs)] [m] = [(m, .sl eid e xs)] := by simp [pickF]
  have hlk : lk [(m, HO.sl eid e xs)] m = some (.sl eid e xs) := by simp [lk]
  have hcast : castK (.slice e) (.slice e) xs (fun y => some (([] : List Prop), y)) = some ([], xs) := by unfold castK; rw [dif_pos rfl]
  have ht : toK [(m, HO.sl eid e xs)] 8 (.slice e) (.lf (.osl m)) (fun c y => some (c, y)) = some ([], xs) := by
    simp only [toK, hlk]; exact hcast
  simp only [Ox.frz, hp, fzR, fzH, lk, if_true, fzV, fzL, hc, hlk, ht, Option.map_some, Option.bind_some, List.append_nil]
theorem JL.frzG {m d : Nat} {o0 : HO} {v0 v1 : AV} (hl : lk H m = some o0) (hd : lk L d = some v0) (hf : Ox.frz [m] [d] ⟨[(d, v0)], [(m, o0)], nx⟩ = some ([], ⟨[(d, v1)], [], nx⟩)) (hv : v1.bd nx') (hL : subL L L') (hH : subH H H') (hm : lk H' m = none) (bL : bdL nx' L') (bH : bdH nx' H')
    (k : JL X md all QA l ⟨(d, v1) :: L', H', nx'⟩) : JL X md all QA l ⟨L, H, nx⟩ := by
  cases md
  · intro M ρ a w h1 h2
    obtain ⟨M', e1, e2⟩ := h1.frzG h2 hl hd hf hv hL hH hm bL bH
    exact k _ ρ a w e1 e2
  · intro M ρ a w h1 h2
    obtain ⟨M', e1, e2⟩ := h1.frzG h2 hl hd hf hv hL hH hm bL bH
    exact k _ ρ a w e1 e2
theorem JC.frzG {c : Code} {m d : Nat} {o0 : HO} {v0 v1 : AV} (hl : lk H m = some o0) (hd : lk L d = some v0) (hf : Ox.frz [m] [d] ⟨[(d, v0)], [(m, o0)], nx⟩ = some ([], ⟨[(d, v1)], [], nx⟩)) (hv : v1.bd nx') (hL : subL L L') (hH : subH H H') (hm : lk H' m = none) (bL : bdL nx' L') (bH : bdH nx' H')
    (k : JC X c QA ⟨(d, v1) :: L', H', nx'⟩) : JC X c QA ⟨L, H, nx⟩ := by
  intro M ρ a w h1 h2
  obtain ⟨M', e1, e2⟩ := h1.frzG h2 hl hd hf hv hL hH hm bL bH
  exact k _ ρ a w e1 e2
section
variable {r : List Fr} {eid : TypeId} {e t : Ty} {xs : List e.den} {x : t.den} {c : Code}
theorem JK.frzR (m d : Nat) (hl : lk H m = some (.sl eid e xs)) (hd : lk L d = some (.lf (.osl m))) (hL : subL L L') (hH : subH H H') (hm : lk H' m = none) (bL : bdL nx' L') (bH : bdH nx' H')
    (k : JK X (.ops md all l :: r) QA ⟨(d, .val (.slice e) xs) :: L', H', nx'⟩) : JK X (.ops md all l :: r) QA ⟨L, H, nx⟩ := JL.frzG hl hd frz_row trivial hL hH hm bL bH k
end
theorem JK.weakO {r : List Fr} {s s' : S} (h : JW X s' s) (k : JK X (.ops true all l :: r) QA s') : JK X (.ops true all l :: r) QA s := JL.weakT h k
theorem lk_none {α : Type} : ∀ {L : List (Nat × α)} {m : Nat}, (∀ p ∈ L, p.1 ≠ m) → lk L m = none
  | [], _, _ => rfl
  | (k, v) :: r, m, h => by
    simp only [lk]
    rw [if_neg (h _ List.mem_cons_self)]
    exact lk_none fun p hp => h p (List.mem_cons_of_mem _ hp)
theorem bdH_none {n m : Nat} (h : bdH n H) (hm : n ≤ m) : lk H m = none := lk_none fun p hp e => by
  have := (bdH_spec h p.1 p.2 hp).1; omega
theorem FO.args {f : FuncId} {az az' : AV} {Q : AV → List (Nat × HO) → Nat → Prop} (h : FO X f az H nx Q) (hb : az.bd nx) (hr : ∀ M ρ vs, az'.rvs M ρ vs → az.rvs M ρ vs) : FO X f az' H nx Q :=
  fun M0 M ρ w vs hS _ hvs => h M0 M ρ w vs hS hb (hr M ρ vs hvs)
theorem FO.mono {f : FuncId} {az : AV} {Q Q' : AV → List (Nat × HO) → Nat → Prop} (h : FO X f az H nx Q) (hq : ∀ r H' nx', Q r H' nx' → Q' r H' nx') : FO X f az H nx Q' := by
  intro M0 M ρ w vs hS hbd hvs
  refine (h M0 M ρ w vs hS hbd hvs).mono ?_
  rintro e w' ⟨v, r, H', nx', M', ρ', h1, h2, h3, h4, h5⟩
  exact ⟨v, r, H', nx', M', ρ', h1, h2, h3, h4, hq _ _ _ h5⟩
theorem JK.inl {r : List Fr} {d : Nat} {ty : TypeId} {ps : String} {af : Array Edge} (Kp : List Nat) {f : FuncId} {fn : Func} {c : Code} {fst cap az : AV} {cs1 cs2 : List Prop} {fo : Operand} {args : Array Operand} {tys : Array TypeId}
    (hu : opd L fo = some (cs1, .fn f fst cap)) (ha : opds L args.toList = some (cs2, az)) (hc : allP (cs1 ++ cs2)) (hf : X.P.funcs[f]? = some fn) (hb : fn.body = some c) (hcall : ∀ az w, (callFunc f az).run X.P w = .ok (.enter f az) w)
    (hn : argN (apA fst (apA az cap)) ≤ fn.ntmps) (hd : ltB d X.n = true)
    (h : ∀ M0 up, JK (X.sub M0 fn.ntmps none up) [.code c] (inlQ X fn.results.toList fun v L H nx => JK X (.ops true all l :: r) QA ⟨(d, v) :: L, H, nx⟩) ⟨argL (apA fst (apA az cap)) 0, (nx, .fr X.dp (svL L Kp)) :: H, nx + 1⟩) :
    JK X (.ops true all (⟨some d, .call { callee := .value fo, args := args, argTypes := tys }, ty, ps, af, none⟩ :: l) :: r) QA ⟨L, H, nx⟩ :=
  JL.inl (s := ⟨L, H, nx⟩) Kp rfl rfl hu ha hc hf hb hcall hn (ltB_lt hd) h
def blkF (id : Nat) : Code → Option Code
  | .block j c => if j = id then some (.block j c) else blkF id c
  | .seq a b => match blkF id a with | some r => some r | none => blkF id b
  | .loop c | .scope c => blkF id c
  | .cond _ a b => match blkF id a with | some r => some r | none => blkF id b
  | .rangeFunc _ _ a b => match blkF id a with | some r => some r | none => blkF id b
  | _ => none
theorem subH.cons {n m : Nat} {o : HO} (h : subH H H') (hb : bdH n H') (hm : n ≤ m) : subH ((m, o) :: H) H' := fun j q hj => by
  simp only [lk]
  rw [if_neg (fun e => by subst e; have := (bdH_spec hb _ _ (lk_mem hj)).1; omega)]
  exact h j q hj
theorem JK.pickT {r : List Fr} {c x y : Operand} {b : Bool} {cs1 cs2 : List Prop} {d : Nat} {v : AV} {ty : TypeId} {ps : String} {af : Array Edge} (hc : opd L c = some (cs1, .val .bool b)) (hb : b = true) (hx : opd L x = some (cs2, v)) (hd : ltB d X.n = true) (h1 : allP cs1) (h2 : allP cs2) (k : JK X (.ops true all l :: r) QA ⟨(d, v) :: L, H, nx⟩) :
    JK X (.ops true all (⟨some d, .pick c x y, ty, ps, af, none⟩ :: l) :: r) QA ⟨L, H, nx⟩ := JL.pickT hc hb hx hd h1 h2 k
theorem JK.pickF {r : List Fr} {c x y : Operand} {b : Bool} {cs1 cs2 : List Prop} {d : Nat} {v : AV} {ty : TypeId} {ps : String} {af : Array Edge} (hc : opd L c = some (cs1, .val .bool b)) (hb : b = false) (hy : opd L y = some (cs2, v)) (hd : ltB d X.n = true) (h1 : allP cs1) (h2 : allP cs2) (k : JK X (.ops true all l :: r) QA ⟨(d, v) :: L, H, nx⟩) :
    JK X (.ops true all (⟨some d, .pick c x y, ty, ps, af, none⟩ :: l) :: r) QA ⟨L, H, nx⟩ := JL.pickF hc hb hy hd h1 h2 k
theorem JK.rangeG {r : List Fr} (Kp : List Nat) {g : Operand} {ps : Array Tmp} {assign body : Code} {f : FuncId} {fn : Func} {c : Code} {cap : AV} {cs : List Prop} (hrd : X.rd = none) (hdp : X.dp = 0) (hu : opd s.L g = some (cs, .fn f .anil cap))
    (hf : X.P.funcs[f]? = some fn) (hb : fn.body = some c) (hcall : ∀ az w, (callFunc f az).run X.P w = .ok (.enter f az) w) (hn : argN (.acons .anil cap) ≤ fn.ntmps) (hc : allP cs)
    (h : ∀ M up az bd, az = assign → bd = body → JK (X.sub M fn.ntmps none up) [.code c] (rngQ X fn.results.toList (qq X r QA))
      ⟨argL (.acons (.lf (.yld s.nx)) cap) 0, (s.nx + 1, .fr X.dp ((X.n, .lf (.yld s.nx)) :: svL s.L Kp)) :: (s.nx, .loop .ready none ps az bd X.n (svL s.L Kp)) :: s.H, s.nx + 2⟩) : JK X (.code (.rangeFunc g ps assign body) :: r) QA s :=
  JK.rangeF Kp hrd hdp hu hf hb hcall hn hc fun M up => h M up _ _ rfl rfl
theorem JK.codeEq {r : List Fr} {c c' : Code} (h : c = c') (k : JK X (.code c' :: r) QA s) : JK X (.code c :: r) QA s := by subst h; exact k
def lpF : Code → Option Code
  | .loop c => some (.loop c)
  | .block _ c | .scope c => lpF c
  | .seq a b => match lpF a with | some r => some r | none => lpF b
  | .cond _ a b => match lpF a with | some r => some r | none => lpF b
  | .rangeFunc _ _ a b => match lpF a with | some r => some r | none => lpF b
  | _ => none
def lpC (c : Option Code) : Code := match c with | some c => (lpF c).getD .skip | none => .skip
def rgsF : Code → List (Code × Code)
  | .rangeFunc _ _ a b => (a, b) :: (rgsF a ++ rgsF b)
  | .seq a b => rgsF a ++ rgsF b
  | .block _ c | .loop c | .scope c => rgsF c
  | .cond _ a b => rgsF a ++ rgsF b
  | _ => []
def rgsA (k : Nat) (c : Option Code) : Code := match c with | some c => ((rgsF c).getD k (.skip, .skip)).1 | none => .skip
def rgsB (k : Nat) (c : Option Code) : Code := match c with | some c => ((rgsF c).getD k (.skip, .skip)).2 | none => .skip
def blkC (id : Nat) (c : Option Code) : Code := match c with | some c => (blkF id c).getD .skip | none => .skip
end Ox

namespace Ox
open Go Go.RowKit
variable {X : Ctx} {s : S} {M : Mem} {ρ : Env} {a : Act} {w w' : World} {QA : Exit → S → Prop} {all l : List Oper} {P : Program}
variable {L : List (Nat × AV)} {H : List (Nat × HO)} {nx d n : Nat} {rr : List Fr} {c1 c2 : List Prop} {ty ty2 : TypeId} {ps ps2 : String} {af af2 : Array Edge} {md : Bool}
def mapB (P : Program) (t : TypeId) : Bool := match P.info? t with
  | some i => (match i.zero with | some (Value.map none) => true | _ => false) && (i.size == 1) && (match P.underlying t with | some (.map ..) => true | _ => false)
  | none => false
structure MpT (P : Program) (t : TypeId) : Prop where
  zero : ∀ w, (zeroValue t).run P w = .ok (Value.map none) w
  size : ∀ w, (Go.sizeOf t).run P w = .ok 1 w
  agg : ∀ w, (isAgg t).run P w = .ok false w
theorem MpT.of {P : Program} {t : TypeId} (h : mapB P t = true) : MpT P t := by
  unfold mapB at h
  cases hi : P.info? t with
  | none => rw [hi] at h; cases h
  | some i =>
    rw [hi] at h
    simp only [Bool.and_eq_true, beq_iff_eq] at h
    obtain ⟨⟨h1, h2⟩, h3⟩ := h
    refine ⟨fun w => ?_, fun w => ?_, fun w => ?_⟩
    · split at h1
      · rename_i hz; simp [zeroValue, typeInfo, hi, hz]
      · cases h1
    · simp [Go.sizeOf, typeInfo, hi, h2]
    · split at h3
      · rename_i hu; simp [isAgg, run_underlying hu]
      · cases h3
def AV.mpB : AV → Bool
  | .lf (.mp _) => true
  | _ => false
end Ox

namespace Ox
open Go Go.RowKit
variable {X : Ctx} {s : S} {M : Mem} {ρ : Env} {a : Act} {w w' : World} {QA : Exit → S → Prop} {all l : List Oper} {P : Program}
variable {L : List (Nat × AV)} {H : List (Nat × HO)} {nx d m : Nat} {rr : List Fr} {c1 c2 : List Prop} {ty ty2 : TypeId} {ps ps2 : String} {af af2 : Array Edge} {md : Bool}
def Qi (eid : TypeId) (xs : List Int) (v : Value) (cur : Array Value) (t : TypeId) : Prop :=
  t = eid ∧ ∃ g off cap, v = .slice (some ⟨g, off, none⟩) xs.length cap ∧ xs.length ≤ cap ∧ off + cap ≤ cur.size ∧ (cur.toList.drop off).take xs.length = xs.map (Value.int .i64)
section
variable {x : Operand} {t : TypeId} {xs : List Int} {eid : TypeId} {e : Ty}
end
section
variable {kt vt : Ty} {t kid vid : TypeId} {es : List (Ent kt vt)} {clk n : Nat} {x : kt.den} {om ok ov : Operand} {c3 : List Prop} {o : Oper}
theorem JL.mUpd (hT : MapT X.P kt vt t kid vid) (hu : opd L om = some (c1, .lf (.mp n))) (hl : lk H n = some (.map kt vt es clk)) (hv : opd L ok = some (c2, .val kt x)) {y : vt.den} (hy : opd L ov = some (c3, .val vt y)) (hc : allP (c1 ++ (c2 ++ c3)))
    (k : JL X true all QA l ⟨L, updH H n (.map kt vt (mPut es clk x y) (mClk es clk x)), nx⟩) : JL X true all QA (⟨none, .mapUpdate t om ok ov, ty, ps, af, none⟩ :: l) ⟨L, H, nx⟩ := by
  rw [allP_append, allP_append] at hc
  refine JL.did rfl rfl trivial (v := .undef) (s' := ⟨L, updH H n (.map kt vt (mPut es clk x y) (mClk es clk x)), nx⟩) (fun M ρ a w h1 h2 => ?_) k
  obtain ⟨ms, hb, hm⟩ := own_map h1 hl
  obtain ⟨cx, hx, hxe⟩ := opd_val hv hc.2.1 h2
  obtain ⟨cy, hy', hye⟩ := opd_val hy hc.2.2 h2
  obtain ⟨ms', r1, r2⟩ := run_put hT hb hm hx hy'
  refine ⟨ρ, _, _, ?_, Env.upTo.refl _ _, Nat.le_refl _, rfl, h1.setMap hl r1, trivial, .inr ⟨rfl, rfl⟩⟩
  simp only [execOp, opd_map hu hc.1 h2, hxe, hye, Sem.run_bind, r2, Result.andThen_ok, Sem.run_pure]
theorem JK.mUpd {r : List Fr} (hT : MapT X.P kt vt t kid vid) (hu : opd L om = some (c1, .lf (.mp n))) (hl : lk H n = some (.map kt vt es clk)) (hv : opd L ok = some (c2, .val kt x)) {y : vt.den} (hy : opd L ov = some (c3, .val vt y)) (hc : allP (c1 ++ (c2 ++ c3)))
    (k : JK X (.ops true all l :: r) QA ⟨L, updH H n (.map kt vt (mPut es clk x y) (mClk es clk x)), nx⟩) : JK X (.ops true all (⟨none, .mapUpdate t om ok ov, ty, ps, af, none⟩ :: l) :: r) QA ⟨L, H, nx⟩ := JL.mUpd hT hu hl hv hy hc k
end
end Ox

namespace Go.Proofs.Ytinehlphcckkmaa
open Go Go.RowKit Ox
def tys : List (Nat × Ty) := [
  (2, (.int .i64)),
  (3, (.int .i64)),
  (4, .bool),
  (5, (.int .u8)),
  (6, (.int .u8)),
  (7, (.cons (.int .i64) (.cons (.int .i64) (.cons .bool (.cons (.int .u8) .nil))))),
  (8, (.cons (.int .i64) (.cons (.int .i64) (.cons .bool (.cons (.int .u8) .nil))))),
  (12, (.int .u64)),
  (21, (.int .i32)),
  (22, (.slice (.cons (.int .i64) (.cons (.int .i64) .nil)))),
  (23, (.cons (.int .i64) (.cons (.slice (.cons (.int .i64) (.cons (.int .i64) .nil))) .nil))),
  (24, (.cons (.int .i64) (.cons (.slice (.cons (.int .i64) (.cons (.int .i64) .nil))) .nil))),
  (25, (.slice (.int .i64))),
  (26, (.slice (.int .i64))),
  (29, (.int .i64)),
  (48, (.slice (.slice (.int .i64)))),
  (61, (.slice (.int .u8))),
  (66, (.int .u16)),
  (69, (.cons (.int .i64) (.cons (.int .i64) .nil))),
  (70, (.cons (.int .i64) (.cons (.int .i64) .nil))),
  (72, (.arr 2 (.int .u8))),
  (76, (.slice (.int .u16))),
  (84, (.ptr (.cons (.cons (.int .i64) (.cons (.slice (.cons (.int .i64) (.cons (.int .i64) .nil))) .nil)) (.cons (.arr 1000 (.int .i64)) (.cons (.int .i64) (.cons (.arr 1000 (.int .i64)) .nil)))))),
  (91, (.arr 1000 (.int .i64))),
  (92, (.arr 1000 (.int .i64))),
  (93, (.arr 1000 (.int .i64))),
  (94, (.cons (.cons (.int .i64) (.cons (.slice (.cons (.int .i64) (.cons (.int .i64) .nil))) .nil)) (.cons (.arr 1000 (.int .i64)) (.cons (.int .i64) (.cons (.arr 1000 (.int .i64)) .nil))))),
  (95, (.cons (.cons (.int .i64) (.cons (.slice (.cons (.int .i64) (.cons (.int .i64) .nil))) .nil)) (.cons (.arr 1000 (.int .i64)) (.cons (.int .i64) (.cons (.arr 1000 (.int .i64)) .nil))))),
  (122, (.arr 8 (.int .i64))),
  (128, (.cons (.int .i64) (.cons (.int .i64) .nil))),
  (129, (.cons (.int .i64) (.cons (.int .i64) .nil))),
  (131, (.cons (.int .i64) (.cons (.int .i64) (.cons (.int .i64) .nil)))),
  (132, (.cons (.int .i64) (.cons (.int .i64) (.cons (.int .i64) .nil)))),
  (148, (.int .u32)),
  (149, (.int .u8)),
  (150, (.int .u8)),
  (152, (.ptr (.int .u8))),
  (153, (.int .i32)),
  (154, (.int .i32))]
def ets : List (Nat × Nat) := [(22, 70), (25, 2), (26, 3), (48, 26), (61, 5), (76, 66)]
def mts : List (Nat × (Nat × Nat)) := [(124, (129, 132))]
theorem tab : tabB Try.prog tys ets mts = true := by decide +kernel
theorem xok {X : Ctx} (h1 : X.P = Try.prog) (h2 : X.T = tys) (h3 : X.ET = ets) (h4 : X.MT = mts) : XOK X := XOK.of_tab tab h1 h2 h3 h4
theorem xk {E : World} {M0 : Mem} {n : Nat} {rd : Option Nat} {up : Nat → Nat → Value} {dp : Nat} : XOK ⟨Try.prog, tys, ets, mts, E, M0, n, rd, up, dp⟩ := xok rfl rfl rfl rfl
theorem fun134 : funB Try.prog 134 = true := by decide +kernel
end Go.Proofs.Ytinehlphcckkmaa

namespace Go.Proofs.Ytinehlphcckkmaa
open Go Go.RowKit Ox
variable {E : World} {M0 : Mem} {n : Nat} {rd : Option Nat} {up : Nat → Nat → Value} {dp : Nat} {QA : Exit → S → Prop} {st st' r : List Fr} {s s' : S} {cs : List Prop} {md : Bool} {all l : List Oper} {d : Nat} {op : Op} {ty : TypeId} {ps : String} {af : Array Edge} {g : Bool} {gg : Nat × Bool} {v : AV}
  {f : FuncId} {args : AV} {L : List (Nat × AV)} {H : List (Nat × HO)} {nx : Nat} {kt vt : Ty} {t kid vid : TypeId} {es : List (Ent kt vt)} {clk m : Nat} {x y : kt.den} {c1 c2 c3 : List Prop} {om ok ov : Operand}
theorem zs (h : stepC tys ets n false st s = some (cs, st', s')) (k : JK ⟨Try.prog, tys, ets, mts, E, M0, n, rd, up, dp⟩ st' QA s') (hc : allP cs := by (first | exact trivial | (try dsimp only [allP, inK, idxC, loC, lohiC, fullC, underG, List.append, List.nil_append, List.cons_append, Ty.den, Ty.dflt, Int.toNat_natCast, List.length_cons, List.length_nil] at *); first | omega | ((repeat' (first | exact trivial | assumption | refine And.intro ?_ ?_ | exact fun h => h | (intro hpk; first | exact hpk | simp only [wantB, hpk, Bool.not_false, Bool.not_true]))) <;> omega) | fail)) : JK ⟨Try.prog, tys, ets, mts, E, M0, n, rd, up, dp⟩ st QA s := JK.step xk h k hc
theorem zu (h : stepC tys ets n true st s = some (cs, st', s')) (k : JK ⟨Try.prog, tys, ets, mts, E, M0, n, rd, up, dp⟩ st' QA s') (hc : allP cs := by (first | exact trivial | (try dsimp only [allP, inK, idxC, loC, lohiC, fullC, underG, List.append, List.nil_append, List.cons_append, Ty.den, Ty.dflt, Int.toNat_natCast, List.length_cons, List.length_nil] at *); first | omega | ((repeat' (first | exact trivial | assumption | refine And.intro ?_ ?_ | exact fun h => h | (intro hpk; first | exact hpk | simp only [wantB, hpk, Bool.not_false, Bool.not_true]))) <;> omega) | fail)) : JK ⟨Try.prog, tys, ets, mts, E, M0, n, rd, up, dp⟩ st QA s := JK.step xk h k hc
theorem zg (hg : gOf all L (some gg) = some g) (h : evb tys op ⟨L, H, nx⟩ = some (cs, v)) (hd : ltB d n = true) (k : JK ⟨Try.prog, tys, ets, mts, E, M0, n, rd, up, dp⟩ (.ops md all l :: r) QA ⟨(d, .gd g v) :: L, H, nx⟩)
    (hc : g = true → allP cs := by (first | (exact fun _ => trivial) | (exact fun hgd => hgd) | (intro hgd; first | exact trivial | exact hgd | (have hge := hgd; (try simp only [wantB, Bool.not_not, Bool.not_eq_true', decide_eq_true_eq, decide_eq_false_iff_not, beq_iff_eq, bne_iff_ne, bne_eq_false_iff_eq, ne_eq, beq_eq_false_iff_ne] at hge); (try dsimp only [allP, inK, idxC, loC, lohiC, fullC, underG, List.append, List.nil_append, List.cons_append, Ty.den, Ty.dflt, Int.toNat_natCast, List.length_cons, List.length_nil] at *); first | omega | ((repeat' (first | exact hgd | exact trivial | refine And.intro ?_ ?_)) <;> omega) | ((repeat' (first | exact trivial | assumption | refine And.intro ?_ ?_ | exact fun h => h | (intro hpk; first | exact hpk | simp only [wantB, hpk, Bool.not_false, Bool.not_true]))) <;> omega) | fail)) | (exact fun hgd => And.intro hgd (fun hpk => Bool.and_eq_true_iff.2 ⟨hgd, by rw [hpk]; rfl⟩)) | (intro hgd; have hge := hgd; simp only [wantB, Bool.and_eq_true, Bool.or_eq_true, Bool.not_not, Bool.not_eq_true', decide_eq_true_eq, decide_eq_false_iff_not, beq_iff_eq, bne_iff_ne, bne_eq_false_iff_eq, ne_eq, beq_eq_false_iff_ne] at hge; (try dsimp only [allP, inK, idxC, loC, lohiC, fullC, underG, List.append, List.nil_append, List.cons_append, Ty.den, Ty.dflt, Int.toNat_natCast, List.length_cons, List.length_nil] at *); first | omega | ((repeat' (first | exact trivial | assumption | refine And.intro ?_ ?_)) <;> omega)))) :
    JK ⟨Try.prog, tys, ets, mts, E, M0, n, rd, up, dp⟩ (.ops md all (⟨some d, op, ty, ps, af, some gg⟩ :: l) :: r) QA ⟨L, H, nx⟩ := JK.gd xk hg h hd k hc
theorem zd {id : Nat} {ops : List Oper} (k : JK ⟨Try.prog, tys, ets, mts, E, M0, n, rd, up, dp⟩ (.ops false ops ops :: r) QA s) (hB : (Region.lexB .any ops.toArray && ndAll ops) = true := by decide +kernel) : JK ⟨Try.prog, tys, ets, mts, E, M0, n, rd, up, dp⟩ (.code (.region id ⟨ops⟩ true) :: r) QA s := JK.draw xk k hB
theorem zc (h : callA tys op ⟨L, H, nx⟩ = some (cs, f, args)) (hf : Ox.Fn Try.prog f args (· = v)) (hr : v.scal = true) (hd : ltB d n = true) (k : JK ⟨Try.prog, tys, ets, mts, E, M0, n, rd, up, dp⟩ (.ops md all l :: r) QA ⟨(d, v) :: L, H, nx⟩) (hc : allP cs := by (first | exact trivial | (try dsimp only [allP, inK, idxC, loC, lohiC, fullC, underG, List.append, List.nil_append, List.cons_append, Ty.den, Ty.dflt, Int.toNat_natCast, List.length_cons, List.length_nil] at *); first | omega | ((repeat' (first | exact trivial | assumption | refine And.intro ?_ ?_ | exact fun h => h | (intro hpk; first | exact hpk | simp only [wantB, hpk, Bool.not_false, Bool.not_true]))) <;> omega) | fail)) :
    JK ⟨Try.prog, tys, ets, mts, E, M0, n, rd, up, dp⟩ (.ops md all (⟨some d, op, ty, ps, af, none⟩ :: l) :: r) QA ⟨L, H, nx⟩ := JK.sc h hf hr hd k hc
theorem zk (hg : gOf all L (some gg) = some g) (h : callA tys op ⟨L, H, nx⟩ = some (cs, f, args)) (hf : g = true → Ox.Fn Try.prog f args (· = v)) (hr : v.scal = true) (hd : ltB d n = true) (k : JK ⟨Try.prog, tys, ets, mts, E, M0, n, rd, up, dp⟩ (.ops md all l :: r) QA ⟨(d, .gd g v) :: L, H, nx⟩)
    (hc : g = true → allP cs := by (first | (exact fun _ => trivial) | (exact fun hgd => hgd) | (intro hgd; first | exact trivial | exact hgd | (have hge := hgd; (try simp only [wantB, Bool.not_not, Bool.not_eq_true', decide_eq_true_eq, decide_eq_false_iff_not, beq_iff_eq, bne_iff_ne, bne_eq_false_iff_eq, ne_eq, beq_eq_false_iff_ne] at hge); (try dsimp only [allP, inK, idxC, loC, lohiC, fullC, underG, List.append, List.nil_append, List.cons_append, Ty.den, Ty.dflt, Int.toNat_natCast, List.length_cons, List.length_nil] at *); first | omega | ((repeat' (first | exact hgd | exact trivial | refine And.intro ?_ ?_)) <;> omega) | ((repeat' (first | exact trivial | assumption | refine And.intro ?_ ?_ | exact fun h => h | (intro hpk; first | exact hpk | simp only [wantB, hpk, Bool.not_false, Bool.not_true]))) <;> omega) | fail)) | (intro hgd; have hge := hgd; simp only [wantB, Bool.and_eq_true, Bool.or_eq_true, Bool.not_not, Bool.not_eq_true', decide_eq_true_eq, decide_eq_false_iff_not, beq_iff_eq, bne_iff_ne, bne_eq_false_iff_eq, ne_eq, beq_eq_false_iff_ne] at hge; (try dsimp only [allP, inK, idxC, loC, lohiC, fullC, underG, List.append, List.nil_append, List.cons_append, Ty.den, Ty.dflt, Int.toNat_natCast, List.length_cons, List.length_nil] at *); first | omega | ((repeat' (first | exact trivial | assumption | refine And.intro ?_ ?_)) <;> omega)))) : JK ⟨Try.prog, tys, ets, mts, E, M0, n, rd, up, dp⟩ (.ops md all (⟨some d, op, ty, ps, af, some gg⟩ :: l) :: r) QA ⟨L, H, nx⟩ := JK.scg hg h hf hr hd k hc
theorem ze (h : callA tys op ⟨L, [], nx⟩ = some (cs, f, args)) (hf : Ox.Fn Try.prog f args (· = v)) (hd : ltB d n = true) (k : JK ⟨Try.prog, tys, ets, mts, E, M0, n, rd, up, dp⟩ (.ops true all l :: r) QA ⟨(d, v) :: L, H, nx⟩) (hc : allP cs := by (first | exact trivial | (try dsimp only [allP, inK, idxC, loC, lohiC, fullC, underG, List.append, List.nil_append, List.cons_append, Ty.den, Ty.dflt, Int.toNat_natCast, List.length_cons, List.length_nil] at *); first | omega | ((repeat' (first | exact trivial | assumption | refine And.intro ?_ ?_ | exact fun h => h | (intro hpk; first | exact hpk | simp only [wantB, hpk, Bool.not_false, Bool.not_true]))) <;> omega) | fail)) :
    JK ⟨Try.prog, tys, ets, mts, E, M0, n, rd, up, dp⟩ (.ops true all (⟨some d, op, ty, ps, af, none⟩ :: l) :: r) QA ⟨L, H, nx⟩ := JK.ce h hf hd k hc
theorem zt (hg : gOf all L (some gg) = some g) (hgt : g = true) {dd : Option Nat} (k : JK ⟨Try.prog, tys, ets, mts, E, M0, n, rd, up, dp⟩ (.ops true all (⟨dd, op, ty, ps, af, none⟩ :: l) :: r) QA ⟨L, H, nx⟩) : JK ⟨Try.prog, tys, ets, mts, E, M0, n, rd, up, dp⟩ (.ops true all (⟨dd, op, ty, ps, af, some gg⟩ :: l) :: r) QA ⟨L, H, nx⟩ := JK.gT hg hgt k
theorem zfl (hg : gOf all L (some gg) = some g) (hgf : g = false) (hd : ltB d n = true) (k : JK ⟨Try.prog, tys, ets, mts, E, M0, n, rd, up, dp⟩ (.ops true all l :: r) QA ⟨(d, .undef) :: L, H, nx⟩) : JK ⟨Try.prog, tys, ets, mts, E, M0, n, rd, up, dp⟩ (.ops true all (⟨some d, op, ty, ps, af, some gg⟩ :: l) :: r) QA ⟨L, H, nx⟩ := JK.gF hg hgf hd k
theorem znf (k : JK ⟨Try.prog, tys, ets, mts, E, M0, n, rd, up, dp⟩ (.ops true all l :: r) QA ⟨del L d, H, nx⟩) : JK ⟨Try.prog, tys, ets, mts, E, M0, n, rd, up, dp⟩ (.ops true all (⟨some d, .assign (.const .nilFunc), ty, ps, af, none⟩ :: l) :: r) QA ⟨L, H, nx⟩ := JK.nilF k
theorem zml (hT : MapT Try.prog kt vt t kid vid) (hu : opd L om = some (c1, .lf (.mp m))) (hl : lk H m = some (.map kt vt es clk)) (hv : opd L ok = some (c2, .val kt x)) (hd : ltB d n = true)
    (k : JK ⟨Try.prog, tys, ets, mts, E, M0, n, rd, up, dp⟩ (.ops true all l :: r) QA ⟨(d, .val vt (mGet es x vt.dflt)) :: L, H, nx⟩) (hc : allP (c1 ++ c2) := by (first | exact trivial | (try dsimp only [allP, inK, idxC, loC, lohiC, fullC, underG, List.append, List.nil_append, List.cons_append, Ty.den, Ty.dflt, Int.toNat_natCast, List.length_cons, List.length_nil] at *); first | omega | ((repeat' (first | exact trivial | assumption | refine And.intro ?_ ?_ | exact fun h => h | (intro hpk; first | exact hpk | simp only [wantB, hpk, Bool.not_false, Bool.not_true]))) <;> omega) | fail)) : JK ⟨Try.prog, tys, ets, mts, E, M0, n, rd, up, dp⟩ (.ops true all (⟨some d, .lookup t om ok false, ty, ps, af, none⟩ :: l) :: r) QA ⟨L, H, nx⟩ := JL.mLook (X := ⟨Try.prog, tys, ets, mts, E, M0, n, rd, up, dp⟩)  hT hu hl hv hd hc k
theorem zmi (hT : MapT Try.prog kt vt t kid vid) (hu : opd L om = some (c1, .lf (.mp m))) (hl : lk H m = some (.map kt vt es clk)) (hv : opd L ok = some (c2, .val kt x)) {y : vt.den} (hy : opd L ov = some (c3, .val vt y))
    (k : JK ⟨Try.prog, tys, ets, mts, E, M0, n, rd, up, dp⟩ (.ops true all l :: r) QA ⟨L, updH H m (.map kt vt (mPut es clk x y) (mClk es clk x)), nx⟩) (hc : allP (c1 ++ (c2 ++ c3)) := by (first | exact trivial | (try dsimp only [allP, inK, idxC, loC, lohiC, fullC, underG, List.append, List.nil_append, List.cons_append, Ty.den, Ty.dflt, Int.toNat_natCast, List.length_cons, List.length_nil] at *); first | omega | ((repeat' (first | exact trivial | assumption | refine And.intro ?_ ?_ | exact fun h => h | (intro hpk; first | exact hpk | simp only [wantB, hpk, Bool.not_false, Bool.not_true]))) <;> omega) | fail)) : JK ⟨Try.prog, tys, ets, mts, E, M0, n, rd, up, dp⟩ (.ops true all (⟨none, .insert t om ok ov, ty, ps, af, none⟩ :: l) :: r) QA ⟨L, H, nx⟩ := JL.mIns (X := ⟨Try.prog, tys, ets, mts, E, M0, n, rd, up, dp⟩)  hT hu hl hv hy hc k
theorem zmu (hT : MapT Try.prog kt vt t kid vid) (hu : opd L om = some (c1, .lf (.mp m))) (hl : lk H m = some (.map kt vt es clk)) (hv : opd L ok = some (c2, .val kt x)) {y : vt.den} (hy : opd L ov = some (c3, .val vt y))
    (k : JK ⟨Try.prog, tys, ets, mts, E, M0, n, rd, up, dp⟩ (.ops true all l :: r) QA ⟨L, updH H m (.map kt vt (mPut es clk x y) (mClk es clk x)), nx⟩) (hc : allP (c1 ++ (c2 ++ c3)) := by (first | exact trivial | (try dsimp only [allP, inK, idxC, loC, lohiC, fullC, underG, List.append, List.nil_append, List.cons_append, Ty.den, Ty.dflt, Int.toNat_natCast, List.length_cons, List.length_nil] at *); first | omega | ((repeat' (first | exact trivial | assumption | refine And.intro ?_ ?_ | exact fun h => h | (intro hpk; first | exact hpk | simp only [wantB, hpk, Bool.not_false, Bool.not_true]))) <;> omega) | fail)) : JK ⟨Try.prog, tys, ets, mts, E, M0, n, rd, up, dp⟩ (.ops true all (⟨none, .mapUpdate t om ok ov, ty, ps, af, none⟩ :: l) :: r) QA ⟨L, H, nx⟩ := JL.mUpd (X := ⟨Try.prog, tys, ets, mts, E, M0, n, rd, up, dp⟩)  hT hu hl hv hy hc k
theorem zmd (hT : MapT Try.prog kt vt t kid vid) {ta : TypeId} (hu : opd L om = some (c1, .lf (.mp m))) (hl : lk H m = some (.map kt vt es clk)) (hv : opd L ok = some (c2, .val kt x))
    (k : JK ⟨Try.prog, tys, ets, mts, E, M0, n, rd, up, dp⟩ (.ops true all l :: r) QA ⟨L, updH H m (.map kt vt (Ox.mDel es x) clk), nx⟩) (hc : allP (c1 ++ c2) := by (first | exact trivial | (try dsimp only [allP, inK, idxC, loC, lohiC, fullC, underG, List.append, List.nil_append, List.cons_append, Ty.den, Ty.dflt, Int.toNat_natCast, List.length_cons, List.length_nil] at *); first | omega | ((repeat' (first | exact trivial | assumption | refine And.intro ?_ ?_ | exact fun h => h | (intro hpk; first | exact hpk | simp only [wantB, hpk, Bool.not_false, Bool.not_true]))) <;> omega) | fail)) : JK ⟨Try.prog, tys, ets, mts, E, M0, n, rd, up, dp⟩ (.ops true all (⟨none, .call { callee := .builtin .delete, args := #[om, ok], argTypes := #[t, ta] }, ty, ps, af, none⟩ :: l) :: r) QA ⟨L, H, nx⟩ := JL.mDel (X := ⟨Try.prog, tys, ets, mts, E, M0, n, rd, up, dp⟩)  hT hu hl hv hc k
theorem zmr (hT : MapT Try.prog kt vt t kid vid) (hu : opd L om = some (c1, .lf (.mp m))) (hl : lk H m = some (.map kt vt es clk)) (hd : ltB d n = true)
    (k : JK ⟨Try.prog, tys, ets, mts, E, M0, n, rd, up, dp⟩ (.ops true all l :: r) QA ⟨(d, .lf (.itr nx)) :: L, (nx, .iter m clk [] clk) :: H, nx + 1⟩) (hc : allP c1 := by (first | exact trivial | (try dsimp only [allP, inK, idxC, loC, lohiC, fullC, underG, List.append, List.nil_append, List.cons_append, Ty.den, Ty.dflt, Int.toNat_natCast, List.length_cons, List.length_nil] at *); first | omega | ((repeat' (first | exact trivial | assumption | refine And.intro ?_ ?_ | exact fun h => h | (intro hpk; first | exact hpk | simp only [wantB, hpk, Bool.not_false, Bool.not_true]))) <;> omega) | fail)) : JK ⟨Try.prog, tys, ets, mts, E, M0, n, rd, up, dp⟩ (.ops true all (⟨some d, .range t om, ty, ps, af, none⟩ :: l) :: r) QA ⟨L, H, nx⟩ := JL.mRange (X := ⟨Try.prog, tys, ets, mts, E, M0, n, rd, up, dp⟩)  hT hu hl hd hc k
theorem zmm (hT : MapT Try.prog kt vt t kid vid) (hd : ltB d n = true)
    (k : JK ⟨Try.prog, tys, ets, mts, E, M0, n, rd, up, dp⟩ (.ops true all l :: r) QA ⟨(d, .lf (.mp nx)) :: L, (nx, .map kt vt [] 0) :: H, nx + 1⟩) : JK ⟨Try.prog, tys, ets, mts, E, M0, n, rd, up, dp⟩ (.ops true all (⟨some d, .makeMap t none, ty, ps, af, none⟩ :: l) :: r) QA ⟨L, H, nx⟩ := JL.mMake (X := ⟨Try.prog, tys, ets, mts, E, M0, n, rd, up, dp⟩)  hT hd k
theorem zeq (hK : EqT Try.prog kt t) (hu : opd L om = some (c1, .val kt x)) (hv : opd L ok = some (c2, .val kt y)) (hd : ltB d n = true) {tt : TypeId}
    (k : JK ⟨Try.prog, tys, ets, mts, E, M0, n, rd, up, dp⟩ (.ops md all l :: r) QA ⟨(d, .val .bool (kt.eqB x y)) :: L, H, nx⟩) (hc : allP (c1 ++ c2) := by (first | exact trivial | (try dsimp only [allP, inK, idxC, loC, lohiC, fullC, underG, List.append, List.nil_append, List.cons_append, Ty.den, Ty.dflt, Int.toNat_natCast, List.length_cons, List.length_nil] at *); first | omega | ((repeat' (first | exact trivial | assumption | refine And.intro ?_ ?_ | exact fun h => h | (intro hpk; first | exact hpk | simp only [wantB, hpk, Bool.not_false, Bool.not_true]))) <;> omega) | fail)) : JK ⟨Try.prog, tys, ets, mts, E, M0, n, rd, up, dp⟩ (.ops md all (⟨some d, .binOp .eql t om ok tt, ty, ps, af, none⟩ :: l) :: r) QA ⟨L, H, nx⟩ := JL.eqQ (X := ⟨Try.prog, tys, ets, mts, E, M0, n, rd, up, dp⟩)  hK.key hK.ag hK.gt hu hv hd hc k
theorem zne (hK : EqT Try.prog kt t) (hu : opd L om = some (c1, .val kt x)) (hv : opd L ok = some (c2, .val kt y)) (hd : ltB d n = true) {tt : TypeId}
    (k : JK ⟨Try.prog, tys, ets, mts, E, M0, n, rd, up, dp⟩ (.ops md all l :: r) QA ⟨(d, .val .bool (!kt.eqB x y)) :: L, H, nx⟩) (hc : allP (c1 ++ c2) := by (first | exact trivial | (try dsimp only [allP, inK, idxC, loC, lohiC, fullC, underG, List.append, List.nil_append, List.cons_append, Ty.den, Ty.dflt, Int.toNat_natCast, List.length_cons, List.length_nil] at *); first | omega | ((repeat' (first | exact trivial | assumption | refine And.intro ?_ ?_ | exact fun h => h | (intro hpk; first | exact hpk | simp only [wantB, hpk, Bool.not_false, Bool.not_true]))) <;> omega) | fail)) : JK ⟨Try.prog, tys, ets, mts, E, M0, n, rd, up, dp⟩ (.ops md all (⟨some d, .binOp .neq t om ok tt, ty, ps, af, none⟩ :: l) :: r) QA ⟨L, H, nx⟩ := JL.neQ (X := ⟨Try.prog, tys, ets, mts, E, M0, n, rd, up, dp⟩)  hK.key hK.ag hK.gt hu hv hd hc k
theorem zeqg {kt : Ty} {t : TypeId} {x y : kt.den} {c1 c2 : List Prop} {om ok : Operand} (hK : EqT Try.prog kt t) (hg : gOf all L (some gg) = some g) (hu : opd L om = some (c1, .val kt x)) (hv : opd L ok = some (c2, .val kt y)) (hd : ltB d n = true) {tt : TypeId}
    (k : JK ⟨Try.prog, tys, ets, mts, E, M0, n, rd, up, dp⟩ (.ops md all l :: r) QA ⟨(d, .gd g (.val .bool (kt.eqB x y))) :: L, H, nx⟩) (hc : g = true → allP (c1 ++ c2) := by (first | (exact fun _ => trivial) | (exact fun hgd => hgd) | (intro hgd; first | exact trivial | exact hgd | (have hge := hgd; (try simp only [wantB, Bool.not_not, Bool.not_eq_true', decide_eq_true_eq, decide_eq_false_iff_not, beq_iff_eq, bne_iff_ne, bne_eq_false_iff_eq, ne_eq, beq_eq_false_iff_ne] at hge); (try dsimp only [allP, inK, idxC, loC, lohiC, fullC, underG, List.append, List.nil_append, List.cons_append, Ty.den, Ty.dflt, Int.toNat_natCast, List.length_cons, List.length_nil] at *); first | omega | ((repeat' (first | exact hgd | exact trivial | refine And.intro ?_ ?_)) <;> omega) | ((repeat' (first | exact trivial | assumption | refine And.intro ?_ ?_ | exact fun h => h | (intro hpk; first | exact hpk | simp only [wantB, hpk, Bool.not_false, Bool.not_true]))) <;> omega) | fail)) | (intro hgd; have hge := hgd; simp only [wantB, Bool.and_eq_true, Bool.or_eq_true, Bool.not_not, Bool.not_eq_true', decide_eq_true_eq, decide_eq_false_iff_not, beq_iff_eq, bne_iff_ne, bne_eq_false_iff_eq, ne_eq, beq_eq_false_iff_ne] at hge; (try dsimp only [allP, inK, idxC, loC, lohiC, fullC, underG, List.append, List.nil_append, List.cons_append, Ty.den, Ty.dflt, Int.toNat_natCast, List.length_cons, List.length_nil] at *); first | omega | ((repeat' (first | exact trivial | assumption | refine And.intro ?_ ?_)) <;> omega)))) : JK ⟨Try.prog, tys, ets, mts, E, M0, n, rd, up, dp⟩ (.ops md all (⟨some d, .binOp .eql t om ok tt, ty, ps, af, some gg⟩ :: l) :: r) QA ⟨L, H, nx⟩ := JK.eqQg (X := ⟨Try.prog, tys, ets, mts, E, M0, n, rd, up, dp⟩) hK hg hu hv hd hc k
theorem zneg {kt : Ty} {t : TypeId} {x y : kt.den} {c1 c2 : List Prop} {om ok : Operand} (hK : EqT Try.prog kt t) (hg : gOf all L (some gg) = some g) (hu : opd L om = some (c1, .val kt x)) (hv : opd L ok = some (c2, .val kt y)) (hd : ltB d n = true) {tt : TypeId}
    (k : JK ⟨Try.prog, tys, ets, mts, E, M0, n, rd, up, dp⟩ (.ops md all l :: r) QA ⟨(d, .gd g (.val .bool (!kt.eqB x y))) :: L, H, nx⟩) (hc : g = true → allP (c1 ++ c2) := by (first | (exact fun _ => trivial) | (exact fun hgd => hgd) | (intro hgd; first | exact trivial | exact hgd | (have hge := hgd; (try simp only [wantB, Bool.not_not, Bool.not_eq_true', decide_eq_true_eq, decide_eq_false_iff_not, beq_iff_eq, bne_iff_ne, bne_eq_false_iff_eq, ne_eq, beq_eq_false_iff_ne] at hge); (try dsimp only [allP, inK, idxC, loC, lohiC, fullC, underG, List.append, List.nil_append, List.cons_append, Ty.den, Ty.dflt, Int.toNat_natCast, List.length_cons, List.length_nil] at *); first | omega | ((repeat' (first | exact hgd | exact trivial | refine And.intro ?_ ?_)) <;> omega) | ((repeat' (first | exact trivial | assumption | refine And.intro ?_ ?_ | exact fun h => h | (intro hpk; first | exact hpk | simp only [wantB, hpk, Bool.not_false, Bool.not_true]))) <;> omega) | fail)) | (intro hgd; have hge := hgd; simp only [wantB, Bool.and_eq_true, Bool.or_eq_true, Bool.not_not, Bool.not_eq_true', decide_eq_true_eq, decide_eq_false_iff_not, beq_iff_eq, bne_iff_ne, bne_eq_false_iff_eq, ne_eq, beq_eq_false_iff_ne] at hge; (try dsimp only [allP, inK, idxC, loC, lohiC, fullC, underG, List.append, List.nil_append, List.cons_append, Ty.den, Ty.dflt, Int.toNat_natCast, List.length_cons, List.length_nil] at *); first | omega | ((repeat' (first | exact trivial | assumption | refine And.intro ?_ ?_)) <;> omega)))) : JK ⟨Try.prog, tys, ets, mts, E, M0, n, rd, up, dp⟩ (.ops md all (⟨some d, .binOp .neq t om ok tt, ty, ps, af, some gg⟩ :: l) :: r) QA ⟨L, H, nx⟩ := JK.neQg (X := ⟨Try.prog, tys, ets, mts, E, M0, n, rd, up, dp⟩) hK hg hu hv hd hc k
theorem zlf {x : Operand} {ty2 : TypeId} {ps2 : String} {af2 : Array Edge} (hF : funB Try.prog t = true) (hu : opd (del L d) x = some (cs, v)) (hv : v.fnB = true) (hd : ltB d n = true) (k : JK ⟨Try.prog, tys, ets, mts, E, M0, n, rd, up, dp⟩ (.ops true all l :: r) QA ⟨(d, .pfn v) :: L, H, nx⟩) (hc : allP cs := by (first | exact trivial | (try dsimp only [allP, inK, idxC, loC, lohiC, fullC, underG, List.append, List.nil_append, List.cons_append, Ty.den, Ty.dflt, Int.toNat_natCast, List.length_cons, List.length_nil] at *); first | omega | ((repeat' (first | exact trivial | assumption | refine And.intro ?_ ?_ | exact fun h => h | (intro hpk; first | exact hpk | simp only [wantB, hpk, Bool.not_false, Bool.not_true]))) <;> omega) | fail)) :
    JK ⟨Try.prog, tys, ets, mts, E, M0, n, rd, up, dp⟩ (.ops true all (⟨some d, .alloc t, ty, ps, af, none⟩ :: ⟨none, .store t (.tmp d) x, ty2, ps2, af2, none⟩ :: l) :: r) QA ⟨L, H, nx⟩ := JK.layF (X := ⟨Try.prog, tys, ets, mts, E, M0, n, rd, up, dp⟩) hF hu hv hd hc k
theorem zdf {x : Operand} (hF : funB Try.prog t = true) (hu : opd L x = some (cs, .pfn v)) (hd : ltB d n = true) (k : JK ⟨Try.prog, tys, ets, mts, E, M0, n, rd, up, dp⟩ (.ops md all l :: r) QA ⟨(d, v) :: L, H, nx⟩) (hc : allP cs := by (first | exact trivial | (try dsimp only [allP, inK, idxC, loC, lohiC, fullC, underG, List.append, List.nil_append, List.cons_append, Ty.den, Ty.dflt, Int.toNat_natCast, List.length_cons, List.length_nil] at *); first | omega | ((repeat' (first | exact trivial | assumption | refine And.intro ?_ ?_ | exact fun h => h | (intro hpk; first | exact hpk | simp only [wantB, hpk, Bool.not_false, Bool.not_true]))) <;> omega) | fail)) :
    JK ⟨Try.prog, tys, ets, mts, E, M0, n, rd, up, dp⟩ (.ops md all (⟨some d, .load t x, ty, ps, af, none⟩ :: l) :: r) QA ⟨L, H, nx⟩ := JK.ldF (X := ⟨Try.prog, tys, ets, mts, E, M0, n, rd, up, dp⟩) hF hu hd hc k
theorem zdg {x : Operand} (hF : funB Try.prog t = true) (hg : gOf all L (some gg) = some g) (hu : opd L x = some (cs, .pfn v)) (hd : ltB d n = true) (k : JK ⟨Try.prog, tys, ets, mts, E, M0, n, rd, up, dp⟩ (.ops md all l :: r) QA ⟨(d, .gd g v) :: L, H, nx⟩) (hc : g = true → allP cs := by (first | (exact fun _ => trivial) | (exact fun hgd => hgd) | (intro hgd; first | exact trivial | exact hgd | (have hge := hgd; (try simp only [wantB, Bool.not_not, Bool.not_eq_true', decide_eq_true_eq, decide_eq_false_iff_not, beq_iff_eq, bne_iff_ne, bne_eq_false_iff_eq, ne_eq, beq_eq_false_iff_ne] at hge); (try dsimp only [allP, inK, idxC, loC, lohiC, fullC, underG, List.append, List.nil_append, List.cons_append, Ty.den, Ty.dflt, Int.toNat_natCast, List.length_cons, List.length_nil] at *); first | omega | ((repeat' (first | exact hgd | exact trivial | refine And.intro ?_ ?_)) <;> omega) | ((repeat' (first | exact trivial | assumption | refine And.intro ?_ ?_ | exact fun h => h | (intro hpk; first | exact hpk | simp only [wantB, hpk, Bool.not_false, Bool.not_true]))) <;> omega) | fail)) | (intro hgd; have hge := hgd; simp only [wantB, Bool.and_eq_true, Bool.or_eq_true, Bool.not_not, Bool.not_eq_true', decide_eq_true_eq, decide_eq_false_iff_not, beq_iff_eq, bne_iff_ne, bne_eq_false_iff_eq, ne_eq, beq_eq_false_iff_ne] at hge; (try dsimp only [allP, inK, idxC, loC, lohiC, fullC, underG, List.append, List.nil_append, List.cons_append, Ty.den, Ty.dflt, Int.toNat_natCast, List.length_cons, List.length_nil] at *); first | omega | ((repeat' (first | exact trivial | assumption | refine And.intro ?_ ?_)) <;> omega)))) :
    JK ⟨Try.prog, tys, ets, mts, E, M0, n, rd, up, dp⟩ (.ops md all (⟨some d, .load t x, ty, ps, af, some gg⟩ :: l) :: r) QA ⟨L, H, nx⟩ := JK.ldFg (X := ⟨Try.prog, tys, ets, mts, E, M0, n, rd, up, dp⟩) hF hg hu hd hc k
theorem zmo (hT : MapT Try.prog kt vt t kid vid) (hu : opd L om = some (c1, .lf (.mp m))) (hl : lk H m = some (.map kt vt es clk)) (hv : opd L ok = some (c2, .val kt x)) (hd : ltB d n = true)
    (k : JK ⟨Try.prog, tys, ets, mts, E, M0, n, rd, up, dp⟩ (.ops true all l :: r) QA ⟨(d, .tup (.acons (.val vt (mGet es x vt.dflt)) (.acons (.val .bool (mHas es x)) .anil))) :: L, H, nx⟩) (hc : allP (c1 ++ c2) := by (first | exact trivial | (try dsimp only [allP, inK, idxC, loC, lohiC, fullC, underG, List.append, List.nil_append, List.cons_append, Ty.den, Ty.dflt, Int.toNat_natCast, List.length_cons, List.length_nil] at *); first | omega | ((repeat' (first | exact trivial | assumption | refine And.intro ?_ ?_ | exact fun h => h | (intro hpk; first | exact hpk | simp only [wantB, hpk, Bool.not_false, Bool.not_true]))) <;> omega) | fail)) :
    JK ⟨Try.prog, tys, ets, mts, E, M0, n, rd, up, dp⟩ (.ops true all (⟨some d, .lookup t om ok true, ty, ps, af, none⟩ :: l) :: r) QA ⟨L, H, nx⟩ := JK.mLookOk (X := ⟨Try.prog, tys, ets, mts, E, M0, n, rd, up, dp⟩) hT hu hl hv hd k hc
end Go.Proofs.Ytinehlphcckkmaa

namespace Ox.Two
abbrev Ev := List (Int × Int × Unit)
def isSay (n : Nat) (s : Int) : Prop := (1 ≤ s ∧ s ≤ n) ∨ (-(n : Int) ≤ s ∧ s ≤ -1)
def valid (n : Nat) (ev : Ev) : Prop := ∀ x ∈ ev, isSay n x.1 ∧ isSay n x.2.1
def holds (v : Nat → Bool) (s : Int) : Bool := if s < 0 then !v (-1 - s).toNat else v (s - 1).toNat
def Sat (ev : Ev) (v : Nat → Bool) : Prop := ∀ x ∈ ev, holds v x.1 = true ∨ holds v x.2.1 = true
def Step (ev : Ev) (a b : Int) : Prop := ∃ x ∈ ev, (x.1 = -a ∧ x.2.1 = b) ∨ (x.2.1 = -a ∧ x.1 = b)
inductive Ch (ev : Ev) : Nat → Int → Int → Prop
  | nil (a : Int) : Ch ev 0 a a
  | snoc {k : Nat} {a b c : Int} : Ch ev k a b → Step ev b c → Ch ev (k + 1) a c
def Reach (ev : Ev) (a b : Int) : Prop := ∃ k, Ch ev k a b
theorem isSay.neg {n : Nat} {s : Int} (h : isSay n s) : isSay n (-s) := by unfold isSay at *; omega
theorem Step.skew {ev : Ev} {a b : Int} (h : Step ev a b) : Step ev (-b) (-a) := by
  obtain ⟨x, hx, h | h⟩ := h
  · exact ⟨x, hx, .inr ⟨by omega, h.1⟩⟩
  · exact ⟨x, hx, .inl ⟨by omega, h.1⟩⟩
theorem Step.say {n : Nat} {ev : Ev} (hv : valid n ev) {a b : Int} (h : Step ev a b) : isSay n a ∧ isSay n b := by
  obtain ⟨x, hx, h | h⟩ := h
  · have := hv x hx; rw [h.1, h.2] at this; exact ⟨by have := this.1.neg; rwa [Int.neg_neg] at this, this.2⟩
  · have := hv x hx; rw [h.1, h.2] at this; exact ⟨by have := this.2.neg; rwa [Int.neg_neg] at this, this.1⟩
theorem Ch.cons {ev : Ev} {a b : Int} (h : Step ev a b) : ∀ {k : Nat} {c : Int}, Ch ev k b c → Ch ev (k + 1) a c
  | _, _, .nil _ => .snoc (.nil a) h
  | _, _, .snoc h1 h2 => .snoc (Ch.cons h h1) h2
theorem Ch.trans {ev : Ev} {a b c : Int} {k : Nat} (h : Ch ev k a b) : ∀ {m : Nat}, Ch ev m b c → Ch ev (k + m) a c
  | _, .nil _ => h
  | _, .snoc h1 h2 => .snoc (Ch.trans h h1) h2
theorem Ch.skew {ev : Ev} {a : Int} : ∀ {k : Nat} {b : Int}, Ch ev k a b → Ch ev k (-b) (-a)
  | _, _, .nil _ => .nil _
  | _, _, .snoc h1 h2 => Ch.cons h2.skew (Ch.skew h1)
theorem Ch.say {n : Nat} {ev : Ev} (hv : valid n ev) {a : Int} (ha : isSay n a) : ∀ {k : Nat} {b : Int}, Ch ev k a b → isSay n b
  | _, _, .nil _ => ha
  | _, _, .snoc _ h2 => (h2.say hv).2
theorem Reach.refl (ev : Ev) (a : Int) : Reach ev a a := ⟨0, .nil a⟩
theorem Reach.trans {ev : Ev} {a b c : Int} (h : Reach ev a b) (k : Reach ev b c) : Reach ev a c := by
  obtain ⟨i, h⟩ := h; obtain ⟨j, k⟩ := k; exact ⟨i + j, h.trans k⟩
theorem Reach.skew {ev : Ev} {a b : Int} (h : Reach ev a b) : Reach ev (-b) (-a) := by
  obtain ⟨i, h⟩ := h; exact ⟨i, h.skew⟩
theorem Reach.snoc {ev : Ev} {a b c : Int} (h : Reach ev a b) (k : Step ev b c) : Reach ev a c := by
  obtain ⟨i, h⟩ := h; exact ⟨i + 1, h.snoc k⟩
theorem holds_neg {n : Nat} (v : Nat → Bool) {s : Int} (h : isSay n s) : holds v (-s) = !holds v s := by
  unfold holds
  unfold isSay at h
  by_cases hs : s < 0
  · rw [if_neg (by omega), if_pos hs, Bool.not_not]; congr 1; omega
  · rw [if_pos (by omega), if_neg hs]; congr 2; omega
theorem Sat.step {n : Nat} {ev : Ev} {v : Nat → Bool} (hv : valid n ev) (h : Sat ev v) {a b : Int} (hs : Step ev a b) (ha : holds v a = true) : holds v b = true := by
  have hsa := (hs.say hv).1
  have hn := holds_neg v hsa
  rw [ha] at hn
  obtain ⟨x, hx, e | e⟩ := hs
  · have := h x hx
    rw [e.1, e.2, hn] at this
    simpa using this
  · have := h x hx
    rw [e.1, e.2, hn] at this
    simpa using this
def Clash (n : Nat) (ev : Ev) : Prop := ∃ k : Nat, k < n ∧ Reach ev ((k : Int) + 1) (-((k : Int) + 1)) ∧ Reach ev (-((k : Int) + 1)) ((k : Int) + 1)
theorem no_clash {n : Nat} {ev : Ev} (hc : ¬ Clash n ev) {s : Int} (hs : isSay n s) : ¬ (Reach ev s (-s) ∧ Reach ev (-s) s) := by
  rintro ⟨h1, h2⟩
  apply hc
  unfold isSay at hs
  by_cases h : s < 0
  · refine ⟨(-1 - s).toNat, by omega, ?_, ?_⟩
    · rw [show (((-1 - s).toNat : Nat) : Int) + 1 = -s by omega, Int.neg_neg]; exact h2
    · rw [show (((-1 - s).toNat : Nat) : Int) + 1 = -s by omega, Int.neg_neg]; exact h1
  · refine ⟨(s - 1).toNat, by omega, ?_, ?_⟩
    · rw [show (((s - 1).toNat : Nat) : Int) + 1 = s by omega]; exact h1
    · rw [show (((s - 1).toNat : Nat) : Int) + 1 = s by omega]; exact h2
def Agree (ev : Ev) (A : List Int) : Prop := ∀ x ∈ A, ∀ y ∈ A, ¬ Reach ev x (-y)
theorem grow {n : Nat} {ev : Ev} (hc : ¬ Clash n ev) {A : List Int} (hA : Agree ev A) : ∀ k, k ≤ n → ∃ B : List Int, (∀ x ∈ A, x ∈ B) ∧ Agree ev B ∧ ∀ j : Nat, j < k → ∃ x ∈ B, Reach ev x ((j : Int) + 1) ∨ Reach ev x (-((j : Int) + 1))
  | 0, _ => ⟨A, fun _ h => h, hA, fun j hj => by omega⟩
  | k + 1, hk => by
    obtain ⟨B, b1, b2, b3⟩ := grow hc hA k (by omega)
    have hsay : isSay n ((k : Int) + 1) := by unfold isSay; omega
    by_cases hd : ∃ x ∈ B, Reach ev x ((k : Int) + 1) ∨ Reach ev x (-((k : Int) + 1))
    · refine ⟨B, b1, b2, fun j hj => ?_⟩
      by_cases e : j = k
      · subst e; exact hd
      · exact b3 j (by omega)
    · have hno : ∀ x ∈ B, ¬ Reach ev x ((k : Int) + 1) ∧ ¬ Reach ev x (-((k : Int) + 1)) := fun x hx => ⟨fun h => hd ⟨x, hx, .inl h⟩, fun h => hd ⟨x, hx, .inr h⟩⟩
      obtain ⟨s, hs, hss, hsB⟩ : ∃ s, (s = (k : Int) + 1 ∨ s = -((k : Int) + 1)) ∧ ¬ Reach ev s (-s) ∧ ∀ x ∈ B, ¬ Reach ev x (-s) := by
        have hcl := no_clash hc hsay
        by_cases h1 : Reach ev ((k : Int) + 1) (-((k : Int) + 1))
        · refine ⟨-((k : Int) + 1), .inr rfl, ?_, fun x hx => ?_⟩
          · rw [Int.neg_neg]; exact fun h2 => hcl ⟨h1, h2⟩
          · rw [Int.neg_neg]; exact (hno x hx).1
        · exact ⟨(k : Int) + 1, .inl rfl, h1, fun x hx => (hno x hx).2⟩
      refine ⟨s :: B, fun x hx => List.mem_cons_of_mem _ (b1 x hx), ?_, fun j hj => ?_⟩
      · intro x hx y hy hr
        rcases List.mem_cons.1 hx with rfl | hx' <;> rcases List.mem_cons.1 hy with rfl | hy'
        · exact hss hr
        · have := hr.skew
          rw [Int.neg_neg] at this
          exact hsB y hy' this
        · exact hsB x hx' hr
        · exact b2 x hx' y hy' hr
      · by_cases e : j = k
        · subst e
          rcases hs with rfl | rfl
          · exact ⟨_, List.mem_cons_self, .inl (Reach.refl _ _)⟩
          · exact ⟨_, List.mem_cons_self, .inr (Reach.refl _ _)⟩
        · obtain ⟨x, hx, h⟩ := b3 j (by omega)
          exact ⟨x, List.mem_cons_of_mem _ hx, h⟩
def maj (a b c : Nat → Bool) (k : Nat) : Bool := (a k && b k) || (a k && c k) || (b k && c k)
theorem holds_maj (a b c : Nat → Bool) (s : Int) : holds (maj a b c) s = ((holds a s && holds b s) || (holds a s && holds c s) || (holds b s && holds c s)) := by
  unfold holds
  by_cases h : s < 0
  · simp only [if_pos h, maj]
    cases a (-1 - s).toNat <;> cases b (-1 - s).toNat <;> cases c (-1 - s).toNat <;> rfl
  · simp only [if_neg h, maj]
theorem Sat.maj {ev : Ev} {a b c : Nat → Bool} (ha : Sat ev a) (hb : Sat ev b) (hc : Sat ev c) : Sat ev (maj a b c) := by
  intro x hx
  have h1 := ha x hx
  have h2 := hb x hx
  have h3 := hc x hx
  rw [holds_maj, holds_maj]
  revert h1 h2 h3
  cases holds a x.1 <;> cases holds b x.1 <;> cases holds c x.1 <;> cases holds a x.2.1 <;> cases holds b x.2.1 <;> cases holds c x.2.1 <;> simp
end Ox.Two

namespace Ox.Sh
open Ox
abbrev Sh := Int × Int × Int × Unit
abbrev da (s : Sh) : Int := s.1
abbrev dr (s : Sh) : Int := s.2.1
abbrev dp (s : Sh) : Int := s.2.2.1
abbrev z0 : Sh := (0, 0, 0, ())
def nx (l : List Sh) (p : Int × Int) (n : Nat) : Int × Int := (p.1 + da (l.getD n z0), Max.max (p.1 + da (l.getD n z0) + dr (l.getD n z0)) p.2 + dp (l.getD n z0))
def endP (l : List Sh) (p : Int × Int) (o : List Nat) : Int × Int := o.foldl (nx l) p
def endS (l : List Sh) (p : Int × Int) (o : List Nat) : Int := (endP l p o).2
def al (s : Sh) : Int := da s + dr s
def be (s : Sh) : Int := dr s + dp s
def rankS (s : Sh) : Int := if da s ≤ dp s then al s else 1048576 - be s
def okS (s : Sh) : Prop := 0 ≤ da s ∧ da s ≤ 1000 ∧ 0 ≤ dr s ∧ dr s ≤ 1000 ∧ 0 ≤ dp s ∧ dp s ≤ 1000
def okD (l : List Sh) : Prop := ∀ s ∈ l, okS s
theorem okD.get {l : List Sh} (h : okD l) (n : Nat) : okS (l.getD n z0) := by
  by_cases hn : n < l.length
  · rw [List.getD_eq_getElem?_getD, List.getElem?_eq_getElem hn]; exact h _ (List.getElem_mem hn)
  · rw [List.getD_eq_getElem?_getD, List.getElem?_eq_none (by omega)]; exact ⟨by decide, by decide, by decide, by decide, by decide, by decide⟩
def rk (l : List Sh) (n : Nat) : Int := rankS (l.getD n z0)
def leastG {α : Type} (f : α → Int) (b : α) : List α → α
  | [] => b
  | x :: r => leastG f (if f x < f b then x else b) r
def ruleF (l : List Sh) : Nat → List Nat → List Nat
  | 0, _ => []
  | _ + 1, [] => []
  | f + 1, b :: r => leastG (rk l) b r :: ruleF l f ((b :: r).filter fun k => decide (k ≠ leastG (rk l) b r))
theorem filter_perm {n : Nat} : ∀ {a : List Nat}, a.Nodup → n ∈ a → List.Perm a (n :: a.filter fun k => decide (k ≠ n))
  | b :: r, hn, h => by
    obtain ⟨h1, h2⟩ := List.nodup_cons.1 hn
    by_cases e : b = n
    · subst e
      have e : (r.filter fun k => decide (k ≠ b)) = r := List.filter_eq_self.2 fun k hk => decide_eq_true fun e : k = b => h1 (by rw [← e]; exact hk)
      rw [List.filter_cons_of_neg (by simp), e]
    · rw [List.filter_cons_of_pos (by simpa using e)]
      have := filter_perm h2 ((List.mem_cons.1 h).resolve_left fun e' => e e'.symm)
      exact (this.cons b).trans (List.Perm.swap n b _)
end Ox.Sh

namespace Ox.Sh
open Ox
abbrev aN (l : List Sh) (n : Nat) : Int := da (l.getD n z0)
abbrev rN (l : List Sh) (n : Nat) : Int := dr (l.getD n z0)
abbrev cN (l : List Sh) (n : Nat) : Int := dp (l.getD n z0)
def sm (f : Nat → Int) (o : List Nat) : Int := (o.map f).sum
theorem sm_cons (f : Nat → Int) (n : Nat) (o : List Nat) : sm f (n :: o) = f n + sm f o := by simp [sm]
theorem sm_app (f : Nat → Int) (a b : List Nat) : sm f (a ++ b) = sm f a + sm f b := by simp [sm]
theorem sm_perm {f : Nat → Int} {a b : List Nat} (h : List.Perm a b) : sm f a = sm f b := by
  induction h with
  | nil => rfl
  | cons x _ ih => rw [sm_cons, sm_cons, ih]
  | swap x y l => rw [sm_cons, sm_cons, sm_cons, sm_cons]; omega
  | trans _ _ h1 h2 => exact h1.trans h2
def rowU (l : List Sh) (u : List Nat) (n : Nat) (v : List Nat) : Int := sm (aN l) u + aN l n + rN l n + cN l n + sm (cN l) v
def wF (l : List Sh) (own : Nat → Bool) (front : Bool) (n : Nat) : Int := if own n = true then (if front = true then cN l n else aN l n) else Min.min (aN l n) (cN l n)
def wait (l : List Sh) (front : Bool) (n : Nat) : Int := if front = true then al (l.getD n z0) else be (l.getD n z0)
section
variable {l : List Sh} {m n : Nat} (hm : okS (l.getD m z0)) (hn : okS (l.getD n z0))
include hm hn
end
end Ox.Sh

namespace Ox.Sh
open Ox
def freeL (N : Nat) (row : List Nat) : List Nat := (List.range N).filter fun n => decide (n ∉ row)
theorem mem_freeL {N n : Nat} {row : List Nat} : n ∈ freeL N row ↔ n < N ∧ n ∉ row := by unfold freeL; rw [List.mem_filter, List.mem_range, decide_eq_true_eq]
def dfsL (N : Nat) : Nat → List Nat → List (List Nat)
  | 0, row => [row]
  | f + 1, row => (freeL N row).flatMap fun n => dfsL N f (row ++ [n])
theorem mem_dfsL {N : Nat} {o : List Nat} : ∀ {f : Nat} {row : List Nat}, o ∈ dfsL N f row ↔ ∃ z, o = row ++ z ∧ z.length = f ∧ z.Nodup ∧ ∀ x ∈ z, x < N ∧ x ∉ row
  | 0, row => by
    rw [dfsL, List.mem_singleton]
    constructor
    · rintro rfl; exact ⟨[], by simp, rfl, List.nodup_nil, fun x hx => by cases hx⟩
    · rintro ⟨z, rfl, h, _⟩; rw [List.length_eq_zero_iff.1 h, List.append_nil]
  | f + 1, row => by
    rw [dfsL, List.mem_flatMap]
    constructor
    · rintro ⟨n, hn, ho⟩
      obtain ⟨z, h1, h2, h3, h4⟩ := mem_dfsL.1 ho
      have hn' := mem_freeL.1 hn
      refine ⟨n :: z, by rw [h1, List.append_assoc]; rfl, by simp [h2], List.nodup_cons.2 ⟨fun hz => ?_, h3⟩, fun x hx => ?_⟩
      · exact (h4 n hz).2 (by simp)
      · rcases List.mem_cons.1 hx with rfl | hx
        · exact hn'
        · exact ⟨(h4 x hx).1, fun hr => (h4 x hx).2 (List.mem_append_left _ hr)⟩
    · rintro ⟨z, rfl, h2, h3, h4⟩
      cases z with
      | nil => simp at h2
      | cons n z =>
        obtain ⟨k1, k2⟩ := List.nodup_cons.1 h3
        refine ⟨n, mem_freeL.2 (h4 n List.mem_cons_self), mem_dfsL.2 ⟨z, by simp, by simpa using h2, k2, fun x hx => ⟨(h4 x (List.mem_cons_of_mem _ hx)).1, fun hr => ?_⟩⟩⟩
        rcases List.mem_append.1 hr with hr | hr
        · exact (h4 x (List.mem_cons_of_mem _ hx)).2 hr
        · rw [List.mem_singleton.1 hr] at hx; exact k1 hx
theorem perm_sub : ∀ {z a : List Nat}, z.Nodup → a.Nodup → (∀ x ∈ z, x ∈ a) → a.length ≤ z.length → List.Perm z a
  | [], a, _, _, _, h => by rw [List.length_eq_zero_iff.1 (Nat.le_zero.1 h)]
  | n :: z, a, hz, ha, hs, h => by
    obtain ⟨h1, h2⟩ := List.nodup_cons.1 hz
    have hp := filter_perm ha (hs n List.mem_cons_self)
    have hl := hp.length_eq
    refine List.Perm.trans ?_ hp.symm
    refine List.Perm.cons n (perm_sub h2 (ha.filter _) (fun x hx => ?_) (by simp only [List.length_cons] at hl h; omega))
    rw [List.mem_filter]
    exact ⟨hs x (List.mem_cons_of_mem _ hx), decide_eq_true fun e => h1 (e ▸ hx)⟩
def lvl (N : Nat) : Nat → List (List Nat)
  | 0 => [[]]
  | k + 1 => (lvl N k).flatMap fun row => (freeL N row).map fun n => row ++ [n]
def greedy (l : List Sh) (N : Nat) (least : Int) : Nat → List Nat → Int × Int → List Nat
  | 0, row, _ => row
  | f + 1, row, p => match (freeL N row).find? fun n => decide (endS l (nx l p n) (ruleF l N (freeL N (row ++ [n]))) ≤ least) with
    | some n => greedy l N least f (row ++ [n]) (nx l p n)
    | none => row
end Ox.Sh

namespace Ox.Se
open Ox
variable {E A : Nat → Int}
def pa (E A : Nat → Int) : Nat → List Nat → Prop
  | _, [] => True
  | i, j :: r => E i ≤ A j ∧ pa E A j r
def lst : Nat → List Nat → Nat
  | i, [] => i
  | _, j :: r => lst j r
theorem pa_app : ∀ (u : List Nat) (h x : Nat) (v : List Nat), pa E A h (u ++ x :: v) ↔ pa E A h (u ++ [x]) ∧ pa E A x v
  | [], h, x, v => by simp [pa]
  | y :: u, h, x, v => by
    simp only [List.cons_append, pa]
    rw [pa_app u y x v, and_assoc]
theorem pa_last : ∀ (t : List Nat) (h x : Nat), pa E A h (t ++ [x]) ↔ pa E A h t ∧ E (lst h t) ≤ A x
  | [], h, x => by simp [pa, lst]
  | y :: t, h, x => by
    simp only [List.cons_append, pa, lst]
    rw [pa_last t y x, and_assoc]
theorem lst_app : ∀ (u : List Nat) (h x : Nat) (v : List Nat), lst h (u ++ x :: v) = lst x v
  | [], _, _, _ => rfl
  | _ :: u, _, x, v => lst_app u _ x v
def Cy (E A : Nat → Int) (c : Nat × List Nat) : Prop := pa E A c.1 (c.2 ++ [c.1])
abbrev ps (c : Nat × List Nat) : List Nat := c.1 :: c.2
abbrev flat (L : List (Nat × List Nat)) : List Nat := L.flatMap ps
def arc (c : Nat × List Nat) (i j : Nat) : Prop := (∃ u v, c.2 ++ [c.1] = u ++ j :: v ∧ lst c.1 u = i)
def cA (A : Nat → Int) (l : List Nat) (x : Int) : Nat := l.countP fun i => decide (A i ≤ x)
theorem cA_perm {l m : List Nat} (h : l.Perm m) (x : Int) : cA A l x = cA A m x := h.countP_eq _
theorem cA_le (l : List Nat) (x : Int) : cA A l x ≤ l.length := List.countP_le_length
theorem cA_cons (i : Nat) (l : List Nat) (x : Int) : cA A (i :: l) x = cA A l x + if A i ≤ x then 1 else 0 := by
  unfold cA
  rw [List.countP_cons]
  simp
theorem cA_all {l : List Nat} {x : Int} : cA A l x = l.length ↔ ∀ i ∈ l, A i ≤ x := by
  unfold cA
  rw [List.countP_eq_length]
  simp
theorem max_ex (f : (Nat × List Nat) → Int) : ∀ L : List (Nat × List Nat), L ≠ [] → ∃ c ∈ L, ∀ d ∈ L, f d ≤ f c
  | [], h => absurd rfl h
  | [c], _ => ⟨c, List.mem_singleton.2 rfl, fun d hd => by rw [List.mem_singleton.1 hd]; exact Int.le_refl _⟩
  | c :: d :: L, _ => by
    obtain ⟨b, hb, hm⟩ := max_ex f (d :: L) (by simp)
    by_cases h : f b ≤ f c
    · refine ⟨c, List.mem_cons_self, fun x hx => ?_⟩
      rcases List.mem_cons.1 hx with rfl | hx
      · exact Int.le_refl _
      · have := hm x hx; omega
    · refine ⟨b, List.mem_cons_of_mem _ hb, fun x hx => ?_⟩
      rcases List.mem_cons.1 hx with rfl | hx
      · omega
      · exact hm x hx
def heads (Q : List (Nat × List Nat)) : List Nat := Q.map fun q => q.1
def lasts (Q : List (Nat × List Nat)) : List Nat := Q.map fun q => lst q.1 q.2
theorem heads_cons (q : Nat × List Nat) (Q : List (Nat × List Nat)) : heads (q :: Q) = q.1 :: heads Q := rfl
theorem lasts_cons (q : Nat × List Nat) (Q : List (Nat × List Nat)) : lasts (q :: Q) = lst q.1 q.2 :: lasts Q := rfl
theorem heads_len (Q : List (Nat × List Nat)) : (heads Q).length = Q.length := List.length_map _
theorem lasts_len (Q : List (Nat × List Nat)) : (lasts Q).length = Q.length := List.length_map _
theorem heads_perm {Q R : List (Nat × List Nat)} (h : Q.Perm R) : (heads Q).Perm (heads R) := h.map _
theorem lasts_perm {Q R : List (Nat × List Nat)} (h : Q.Perm R) : (lasts Q).Perm (lasts R) := h.map _
theorem mem_heads {Q : List (Nat × List Nat)} {i : Nat} : i ∈ heads Q ↔ ∃ d ∈ Q, d.1 = i := List.mem_map
theorem mem_lasts {Q : List (Nat × List Nat)} {i : Nat} : i ∈ lasts Q ↔ ∃ d ∈ Q, lst d.1 d.2 = i := List.mem_map
theorem cover_ex : ∀ (n : Nat) (Q : List (Nat × List Nat)), Q.length = n → (∀ q ∈ Q, pa E A q.1 q.2) → (∀ x, cA A (heads Q) x ≤ cA E (lasts Q) x) →
    ∃ L : List (Nat × List Nat), (∀ c ∈ L, Cy E A c) ∧ (flat L).Perm (flat Q)
  | 0, Q, hn, _, _ => ⟨[], (fun c hc => by cases hc), by rw [List.length_eq_zero_iff.1 hn]⟩
  | n + 1, Q, hn, hp, hx => by
    have hne : Q ≠ [] := fun e => by rw [e] at hn; cases hn
    obtain ⟨q, hq, hqm⟩ := max_ex (fun c => A c.1) Q hne
    obtain ⟨p, hpQ, hpm⟩ := max_ex (fun c => E (lst c.1 c.2)) Q hne
    have hall : ∀ x, A q.1 ≤ x → ∀ d ∈ Q, E (lst d.1 d.2) ≤ x := fun x hqx => by
      have h1 : cA A (heads Q) x = (heads Q).length := cA_all.2 fun i hi => by
        obtain ⟨d, hd, rfl⟩ := mem_heads.1 hi
        have := hqm d hd; omega
      have h2 := hx x
      rw [h1, heads_len] at h2
      have h3 := cA_le (A := E) (lasts Q) x
      rw [lasts_len] at h3
      have h4 : cA E (lasts Q) x = (lasts Q).length := by rw [lasts_len]; omega
      intro d hd
      exact cA_all.1 h4 _ (mem_lasts.2 ⟨d, hd, rfl⟩)
    have hpq := hall _ (Int.le_refl _) p hpQ
    by_cases hpe : p = q
    · subst hpe
      obtain ⟨u, v, rfl⟩ := List.append_of_mem hpQ
      have hpm' : List.Perm (u ++ p :: v) (p :: (u ++ v)) := List.perm_middle
      have hR : ∀ d ∈ u ++ v, d ∈ u ++ p :: v := fun d hd => hpm'.mem_iff.2 (List.mem_cons_of_mem _ hd)
      obtain ⟨L, hL1, hL2⟩ := cover_ex n (u ++ v) (by have := hpm'.length_eq; simp only [List.length_cons] at this; omega) (fun d hd => hp d (hR d hd)) fun x => by
        have e1 := hx x
        rw [cA_perm (heads_perm hpm'), cA_perm (A := E) (lasts_perm hpm'), heads_cons, lasts_cons, cA_cons, cA_cons] at e1
        by_cases hxx : E (lst p.1 p.2) ≤ x
        · have : cA E (lasts (u ++ v)) x = (lasts (u ++ v)).length := cA_all.2 fun i hi => by
            obtain ⟨d, hd, rfl⟩ := mem_lasts.1 hi
            have := hpm d (hR d hd); omega
          rw [this]
          have := cA_le (A := A) (heads (u ++ v)) x
          rw [heads_len] at this
          rw [lasts_len]
          exact this
        · rw [if_neg hxx] at e1
          split at e1 <;> omega
      refine ⟨p :: L, fun c hc => ?_, ?_⟩
      · rcases List.mem_cons.1 hc with rfl | hc
        · exact (pa_last _ _ _).2 ⟨hp _ hpQ, hpq⟩
        · exact hL1 c hc
      · exact (List.Perm.append_left (ps p) hL2).trans ((List.Perm.flatMap_right ps hpm').symm)
    · obtain ⟨u, v, rfl⟩ := List.append_of_mem hq
      have hqm' : List.Perm (u ++ q :: v) (q :: (u ++ v)) := List.perm_middle
      have hp' : p ∈ u ++ v := (List.mem_cons.1 (hqm'.mem_iff.1 hpQ)).resolve_left hpe
      obtain ⟨u', v', e⟩ := List.append_of_mem hp'
      have hm2 : List.Perm (u ++ q :: v) (q :: p :: (u' ++ v')) := hqm'.trans (List.Perm.cons q (by rw [e]; exact List.perm_middle))
      have hR : ∀ d ∈ u' ++ v', d ∈ u ++ q :: v := fun d hd => hm2.mem_iff.2 (List.mem_cons_of_mem _ (List.mem_cons_of_mem _ hd))
      obtain ⟨L, hL1, hL2⟩ := cover_ex n ((p.1, p.2 ++ q.1 :: q.2) :: (u' ++ v')) (by have := hm2.length_eq; simp only [List.length_cons] at this ⊢; omega) (fun d hd => by
          rcases List.mem_cons.1 hd with rfl | hd
          · exact (pa_app _ _ _ _).2 ⟨(pa_last _ _ _).2 ⟨hp _ hpQ, hpq⟩, hp _ hq⟩
          · exact hp d (hR d hd)) fun x => by
        have e1 := hx x
        rw [cA_perm (heads_perm hm2), cA_perm (A := E) (lasts_perm hm2), heads_cons, heads_cons, lasts_cons, lasts_cons, cA_cons, cA_cons, cA_cons, cA_cons] at e1
        rw [heads_cons, lasts_cons, cA_cons, cA_cons]
        dsimp only
        rw [lst_app]
        by_cases hxx : E (lst p.1 p.2) ≤ x
        · have : cA E (lasts (u' ++ v')) x = (lasts (u' ++ v')).length := cA_all.2 fun i hi => by
            obtain ⟨d, hd, rfl⟩ := mem_lasts.1 hi
            have := hpm d (hR d hd); omega
          rw [this]
          have h2 := cA_le (A := A) (heads (u' ++ v')) x
          have h3 := hpm q hq
          rw [heads_len] at h2
          rw [lasts_len]
          rw [if_pos (by omega : E (lst q.1 q.2) ≤ x)]
          by_cases hpx : A p.1 ≤ x
          · rw [if_pos hpx]; omega
          · rw [if_neg hpx]; omega
        · have hqx : ¬ A q.1 ≤ x := fun h => hxx (hall x h p hpQ)
          rw [if_neg hxx, if_neg hqx] at e1
          omega
      refine ⟨L, hL1, hL2.trans ?_⟩
      refine List.Perm.trans ?_ ((List.Perm.flatMap_right ps hm2).symm)
      show (p.1 :: (p.2 ++ q.1 :: q.2) ++ flat (u' ++ v')).Perm (ps q ++ (ps p ++ flat (u' ++ v')))
      rw [← List.append_assoc]
      refine List.Perm.append_right _ ?_
      show ((p.1 :: p.2) ++ (q.1 :: q.2)).Perm (ps q ++ ps p)
      exact List.perm_append_comm
theorem cover {l : List Nat} (hx : ∀ x, cA A l x ≤ cA E l x) : ∃ L : List (Nat × List Nat), (∀ c ∈ L, Cy E A c) ∧ (flat L).Perm l := by
  obtain ⟨L, h1, h2⟩ := cover_ex (E := E) (A := A) l.length (l.map fun i => (i, [])) (by simp) (fun q hq => by obtain ⟨i, _, rfl⟩ := List.mem_map.1 hq; trivial) fun x => by
    have e1 : heads (l.map fun i => (i, ([] : List Nat))) = l := by unfold heads; rw [List.map_map]; exact List.map_id'' (fun _ => rfl) l
    have e2 : lasts (l.map fun i => (i, ([] : List Nat))) = l := by unfold lasts; rw [List.map_map]; exact List.map_id'' (fun _ => rfl) l
    rw [e1, e2]; exact hx x
  refine ⟨L, h1, h2.trans ?_⟩
  have : flat (l.map fun i => (i, ([] : List Nat))) = l := by
    unfold flat
    rw [List.flatMap_map]
    exact List.flatMap_singleton' l
  rw [this]
end Ox.Se

namespace Ox.Se
open Ox
variable {E A : Nat → Int}
def touch (E A : Nat → Int) (l : List Nat) (i k : Nat) : Prop := ∃ x y, (x = A i ∨ x = E i) ∧ (y = A k ∨ y = E k) ∧ ∀ z, Min.min x y ≤ z → z < Max.max x y → cA A l z < cA E l z
theorem row_ex : ∀ (n : Nat) (L : List (Nat × List Nat)), L.length = n + 1 → (∀ c ∈ L, Cy E A c) → ∃ c : Nat × List Nat, (ps c).Perm (flat L) ∧ pa E A c.1 c.2 ∧ ∃ d ∈ L, E (lst c.1 c.2) ≤ A d.1
  | 0, [c], _, hy => by
    have h := hy c (List.mem_singleton.2 rfl)
    unfold Cy at h
    rw [pa_last] at h
    exact ⟨c, by simp [flat], h.1, c, List.mem_singleton.2 rfl, h.2⟩
  | n + 1, L, hlen, hy => by
    obtain ⟨c, hcm, hmax⟩ := max_ex (fun c => A c.1) L (fun e => by rw [e] at hlen; cases hlen)
    obtain ⟨u, v, rfl⟩ := List.append_of_mem hcm
    have hpm : List.Perm (u ++ c :: v) (c :: (u ++ v)) := List.perm_middle
    have hR : ∀ d ∈ u ++ v, d ∈ u ++ c :: v := fun d hd => hpm.mem_iff.2 (List.mem_cons_of_mem _ hd)
    obtain ⟨b, b1, b2, d, hd, b3⟩ := row_ex n (u ++ v) (by have := hpm.length_eq; simp only [List.length_cons] at this; omega) fun d hd => hy d (hR d hd)
    have hcy := hy c hcm
    unfold Cy at hcy
    rw [pa_last] at hcy
    have hdm := hmax d (hR d hd)
    have hbc : E (lst b.1 b.2) ≤ A c.1 := by omega
    refine ⟨(b.1, b.2 ++ c.1 :: c.2), ?_, (pa_app _ _ _ _).2 ⟨(pa_last _ _ _).2 ⟨b2, hbc⟩, hcy.1⟩, c, hcm, ?_⟩
    · refine List.Perm.trans ?_ (List.Perm.flatMap_right ps hpm).symm
      show ((b.1 :: b.2) ++ (c.1 :: c.2)).Perm (ps c ++ flat (u ++ v))
      exact List.perm_append_comm.trans (List.Perm.append_left _ b1)
    · dsimp only
      rw [lst_app]
      exact hcy.2
theorem one_row {l : List Nat} (hne : l ≠ []) (hx : ∀ x, cA A l x ≤ cA E l x) : ∃ c : Nat × List Nat, (ps c).Perm l ∧ pa E A c.1 c.2 := by
  obtain ⟨L, h1, h2⟩ := cover hx
  cases L with
  | nil => exact absurd (h2.symm.eq_nil) hne
  | cons c L =>
    obtain ⟨d, d1, d2, _⟩ := row_ex L.length (c :: L) rfl h1
    exact ⟨d, d1.trans h2, d2⟩
end Ox.Se

namespace Ox.Se
open Ox Ox.Sh
abbrev Pt := Int × Int × Unit
abbrev zP : Pt := (0, 0, ())
def aT (l : List Pt) (n : Nat) : Int := (l.getD n zP).1
def lO (l : List Pt) (n : Nat) : Int := (l.getD n zP).2.1
def eN (P : Int) (l : List Pt) (n : Nat) : Int := (aT l n + lO l n) % P
def gp (P : Int) (l : List Pt) (i j : Nat) : Int := (aT l j - eN P l i) % P
def wst (P : Int) (l : List Pt) : Nat → List Nat → Int
  | _, [] => 0
  | i, j :: r => gp P l i j + wst P l j r
def tot (P : Int) (l : List Pt) (h : Nat) (t : List Nat) : Int := sm (lO l) (h :: t) + wst P l h (t ++ [h])
def ov1 (P : Int) (l : List Pt) (u : Int) (n : Nat) : Int := lO l n / P + if (u - aT l n) % P < lO l n % P then 1 else 0
def ov (P : Int) (l : List Pt) (u : Int) : Int := sm (ov1 P l u) (List.range l.length)
variable {P : Int} {l : List Pt} {c : Int}
def LA (P : Int) (l : List Pt) (c : Int) (n : Nat) : Int := (aT l n - c - 1) % P
def LE (P : Int) (l : List Pt) (c : Int) (n : Nat) : Int := (eN P l n - c - 1) % P
def pW (P : Int) (l : List Pt) (c : Int) (n : Nat) : Int := (LA P l c n + lO l n) / P
def wr (P : Int) (l : List Pt) (c : Int) : Nat → List Nat → Int
  | _, [] => 0
  | i, j :: r => (if LA P l c j < LE P l c i then 1 else 0) + wr P l c j r
theorem mod_bd (hP : 1 ≤ P) (a : Int) : 0 ≤ a % P ∧ a % P < P := ⟨Int.emod_nonneg _ (by omega), Int.emod_lt_of_pos _ (by omega)⟩
theorem LE_eq (hP : 1 ≤ P) (n : Nat) : LE P l c n = (LA P l c n + lO l n) % P := by
  unfold LE LA eN
  rw [Int.add_emod ((aT l n - c - 1) % P), Int.emod_emod_of_dvd _ (Int.dvd_refl P), ← Int.add_emod]
  have e : (aT l n + lO l n) % P - c - 1 = (aT l n + lO l n) % P - (c + 1) := by omega
  rw [e, Int.sub_emod, Int.emod_emod_of_dvd _ (Int.dvd_refl P), ← Int.sub_emod]
  congr 1; omega
theorem lO_eq (hP : 1 ≤ P) (n : Nat) : lO l n = LE P l c n - LA P l c n + P * pW P l c n := by
  have h := Int.emod_add_mul_ediv (LA P l c n + lO l n) P
  rw [← LE_eq hP] at h
  unfold pW
  omega
theorem gp_bd (hP : 1 ≤ P) (i j : Nat) : 0 ≤ gp P l i j ∧ gp P l i j < P := mod_bd hP _
theorem gp_eq (hP : 1 ≤ P) (i j : Nat) : gp P l i j = LA P l c j - LE P l c i + if LA P l c j < LE P l c i then P else 0 := by
  have e : (LA P l c j - LE P l c i) % P = gp P l i j := by
    unfold LA LE gp
    rw [← Int.sub_emod]
    congr 1; omega
  have a : 0 ≤ LA P l c j ∧ LA P l c j < P := mod_bd hP _
  have b : 0 ≤ LE P l c i ∧ LE P l c i < P := mod_bd hP _
  rw [← e]
  generalize LA P l c j = x at *
  generalize LE P l c i = y at *
  by_cases h : x < y
  · rw [if_pos h, ← Int.add_emod_right, Int.emod_eq_of_lt (by omega) (by omega)]
  · rw [if_neg h, Int.emod_eq_of_lt (by omega) (by omega)]; omega
theorem wst_lin (hP : 1 ≤ P) : ∀ (t : List Nat) (h y : Nat), wst P l h (t ++ [y]) = sm (LA P l c) (t ++ [y]) - sm (LE P l c) (h :: t) + P * wr P l c h (t ++ [y])
  | [], h, y => by
    simp only [List.nil_append, wst, wr, sm_cons]
    have e : ∀ f, sm f [] = 0 := fun _ => rfl
    rw [e, e, gp_eq (c := c) hP]
    split
    · rw [Int.add_zero (1 : Int), Int.mul_one]; omega
    · rw [Int.add_zero (0 : Int), Int.mul_zero]; omega
  | z :: t, h, y => by
    simp only [List.cons_append, wst, wr]
    rw [wst_lin hP t z y, sm_cons (LA P l c) z, sm_cons (LE P l c) h, gp_eq (c := c) hP, Int.mul_add]
    split
    · rw [Int.mul_one]; omega
    · rw [Int.mul_zero]; omega
theorem sm_sub (f g : Nat → Int) : ∀ o : List Nat, sm (fun n => f n - g n) o = sm f o - sm g o
  | [] => rfl
  | n :: o => by rw [sm_cons, sm_cons, sm_cons, sm_sub f g o]; omega
theorem sm_add (f g : Nat → Int) : ∀ o : List Nat, sm (fun n => f n + g n) o = sm f o + sm g o
  | [] => rfl
  | n :: o => by rw [sm_cons, sm_cons, sm_cons, sm_add f g o]; omega
theorem sm_mul (k : Int) (f : Nat → Int) : ∀ o : List Nat, sm (fun n => k * f n) o = k * sm f o
  | [] => by simp [sm]
  | n :: o => by rw [sm_cons, sm_cons, sm_mul k f o, Int.mul_add]
theorem sm_ext {f g : Nat → Int} (h : ∀ n, f n = g n) (o : List Nat) : sm f o = sm g o := by rw [show f = g from funext h]
theorem tot_lin (hP : 1 ≤ P) (h : Nat) (t : List Nat) : tot P l h t = P * (sm (pW P l c) (h :: t) + wr P l c h (t ++ [h])) := by
  unfold tot
  rw [wst_lin (c := c) hP, sm_perm (List.perm_append_singleton h t), sm_ext (lO_eq (l := l) (c := c) hP), sm_add, sm_sub, sm_mul, Int.mul_add]
  omega
theorem cA_sm (A : Nat → Int) (z : Int) : ∀ o : List Nat, sm (fun n => if A n ≤ z then 1 else 0) o = (cA A o z : Nat)
  | [] => rfl
  | n :: o => by
    rw [sm_cons, cA_cons, cA_sm A z o]
    split <;> (push_cast; omega)
theorem pass (hP : 1 ≤ P) {z A L : Int} (hz : 0 ≤ z ∧ z < P) (hA : 0 ≤ A ∧ A < P) : L / P + (if (z - A) % P < L % P then 1 else 0) = (A + L) / P + (if A ≤ z then 1 else 0) - if (A + L) % P ≤ z then 1 else 0 := by
  have h1 := Int.emod_add_mul_ediv L P
  have h2 := mod_bd hP L
  generalize L / P = q at *
  generalize L % P = r at *
  have h3 : A + L = (A + r) + P * q := by omega
  rw [h3, Int.add_mul_emod_self_left, Int.add_mul_ediv_left _ _ (by omega : P ≠ 0)]
  have h4 : (z - A) % P = if A ≤ z then z - A else z - A + P := by
    by_cases h : A ≤ z
    · rw [if_pos h, Int.emod_eq_of_lt (by omega) (by omega)]
    · rw [if_neg h, ← Int.add_emod_right, Int.emod_eq_of_lt (by omega) (by omega)]
  rw [h4]
  by_cases h : A + r < P
  · rw [Int.emod_eq_of_lt (by omega) h, Int.ediv_eq_zero_of_lt (by omega) h]
    by_cases k : A ≤ z
    · rw [if_pos k, if_pos k]
      by_cases m : z - A < r
      · rw [if_pos m, if_neg (by omega)]; omega
      · rw [if_neg m, if_pos (by omega)]; omega
    · rw [if_neg k, if_neg k, if_neg (by omega), if_neg (by omega)]; omega
  · have e1 : (A + r) % P = A + r - P := by
      rw [← Int.sub_emod_right, Int.emod_eq_of_lt (by omega) (by omega)]
    have e2 : (A + r) / P = 1 := by
      have : A + r = (A + r - P) + P * 1 := by omega
      rw [this, Int.add_mul_ediv_left _ _ (by omega : P ≠ 0), Int.ediv_eq_zero_of_lt (by omega) (by omega)]; rfl
    rw [e1, e2]
    by_cases k : A ≤ z
    · rw [if_pos k, if_pos k, if_pos (by omega), if_pos (by omega)]; omega
    · rw [if_neg k, if_neg k]
      by_cases m : z - A + P < r
      · rw [if_pos m, if_neg (by omega)]; omega
      · rw [if_neg m, if_pos (by omega)]; omega
theorem ov_lin (hP : 1 ≤ P) (u : Int) : ov P l u = sm (pW P l c) (List.range l.length) + (cA (LA P l c) (List.range l.length) ((u - c - 1) % P) : Nat) - (cA (LE P l c) (List.range l.length) ((u - c - 1) % P) : Nat) := by
  unfold ov
  have e : ∀ n, ov1 P l u n = (pW P l c n + (if LA P l c n ≤ (u - c - 1) % P then 1 else 0)) - if LE P l c n ≤ (u - c - 1) % P then 1 else 0 := fun n => by
    unfold ov1
    have h1 : (u - aT l n) % P = ((u - c - 1) % P - LA P l c n) % P := by
      unfold LA
      rw [← Int.sub_emod]
      congr 1; omega
    rw [h1, pass (z := (u - c - 1) % P) (A := LA P l c n) (L := lO l n) hP (mod_bd hP _) (mod_bd hP _), LE_eq hP]
    rfl
  rw [sm_ext e, sm_sub, sm_add, cA_sm, cA_sm]
theorem cA_zero {A : Nat → Int} {o : List Nat} {z : Int} (h : ∀ i ∈ o, z < A i) : cA A o z = 0 := by
  unfold cA
  rw [List.countP_eq_zero]
  intro i hi hd
  have := of_decide_eq_true hd
  have := h i hi
  omega
theorem ov_cut (hP : 1 ≤ P) : ov P l c = sm (pW P l c) (List.range l.length) := by
  have h := ov_lin (l := l) (c := c) hP c
  have e : (c - c - 1) % P = P - 1 := by
    rw [show c - c - 1 = -1 by omega, ← Int.add_emod_right, Int.emod_eq_of_lt (by omega) (by omega)]; omega
  rw [e] at h
  have h1 : cA (LA P l c) (List.range l.length) (P - 1) = (List.range l.length).length := cA_all.2 fun i _ => by have : LA P l c i < P := (mod_bd hP _).2; omega
  have h2 : cA (LE P l c) (List.range l.length) (P - 1) = (List.range l.length).length := cA_all.2 fun i _ => by have : LE P l c i < P := (mod_bd hP _).2; omega
  rw [h1, h2] at h
  omega
def rd (P : Int) (l : List Pt) (h : Nat) (t : List Nat) : Int := tot P l h t / P
abbrev isO (l : List Pt) (h : Nat) (t : List Nat) : Prop := (h :: t).Perm (List.range l.length)
theorem rd_cut (hP : 1 ≤ P) {h : Nat} {t : List Nat} (ho : isO l h t) (c : Int) : rd P l h t = ov P l c + wr P l c h (t ++ [h]) := by
  unfold rd
  rw [tot_lin (c := c) hP, Int.mul_ediv_cancel_left _ (by omega), ov_cut hP, sm_perm ho]
theorem tot_rd (hP : 1 ≤ P) {h : Nat} {t : List Nat} (ho : isO l h t) : tot P l h t = P * rd P l h t := by
  rw [rd_cut hP ho 0, tot_lin (c := 0) hP, ov_cut hP, sm_perm ho]
theorem wr_nn (c : Int) : ∀ (t : List Nat) (h : Nat), 0 ≤ wr P l c h t
  | [], _ => Int.le_refl _
  | y :: t, h => by
    have := wr_nn c t y
    unfold wr
    split <;> omega
theorem wr_zero : ∀ (t : List Nat) (h : Nat), wr P l c h t = 0 ↔ pa (LE P l c) (LA P l c) h t
  | [], _ => by simp [wr, pa]
  | y :: t, h => by
    have h1 := wr_nn (P := P) (l := l) c t y
    have h2 := wr_zero t y
    unfold wr pa
    rw [← h2]
    split <;> omega
theorem rd_ge (hP : 1 ≤ P) {h : Nat} {t : List Nat} (ho : isO l h t) (u : Int) : ov P l u ≤ rd P l h t := by
  rw [rd_cut hP ho u]
  have := wr_nn (P := P) (l := l) u (t ++ [h]) h
  omega
def isFull (P : Int) (l : List Pt) (c : Int) : Prop := (0 ≤ c ∧ c < P) ∧ ∀ u, 0 ≤ u → u < P → ov P l u ≤ ov P l c
theorem back (hP : 1 ≤ P) {z : Int} (hz : 0 ≤ z ∧ z < P) (c : Int) : ((z + c + 1) % P - c - 1) % P = z := by
  rw [show (z + c + 1) % P - c - 1 = (z + c + 1) % P - (c + 1) by omega, Int.sub_emod, Int.emod_emod_of_dvd _ (Int.dvd_refl P), ← Int.sub_emod]
  rw [show z + c + 1 - (c + 1) = z by omega, Int.emod_eq_of_lt hz.1 hz.2]
theorem le_full (hP : 1 ≤ P) (hf : isFull P l c) (z : Int) : cA (LA P l c) (List.range l.length) z ≤ cA (LE P l c) (List.range l.length) z := by
  by_cases h0 : z < 0
  · rw [cA_zero fun i _ => by have : 0 ≤ LA P l c i := (mod_bd hP _).1; omega]
    exact Nat.zero_le _
  · by_cases h1 : P ≤ z
    · have h2 : cA (LE P l c) (List.range l.length) z = (List.range l.length).length := cA_all.2 fun i _ => by have : LE P l c i < P := (mod_bd hP _).2; omega
      rw [h2]
      exact cA_le _ _
    · have h := ov_lin (l := l) (c := c) hP ((z + c + 1) % P)
      rw [back hP (by omega), ← ov_cut hP] at h
      have b := mod_bd hP (z + c + 1)
      have := hf.2 ((z + c + 1) % P) b.1 b.2
      omega
theorem wr_snoc (y : Nat) : ∀ (t : List Nat) (h : Nat), wr P l c h (t ++ [y]) = wr P l c h t + if LA P l c y < LE P l c (lst h t) then 1 else 0
  | [], h => by
    simp only [List.nil_append, wr, lst]
    rw [Int.add_zero, Int.zero_add]
    first | rfl | (split <;> split <;> first | rfl | omega)
  | z :: t, h => by
    simp only [List.cons_append, wr, lst]
    rw [wr_snoc y t z]; omega
theorem range_ne (hne : l ≠ []) : List.range l.length ≠ [] := fun e => hne (List.length_eq_zero_iff.1 (by simpa using congrArg List.length e))
theorem rd_one (hP : 1 ≤ P) (hne : l ≠ []) (hf : isFull P l c) : ∃ b : Nat × List Nat, (ps b).Perm (List.range l.length) ∧ rd P l b.1 b.2 ≤ ov P l c + 1 := by
  obtain ⟨b, b1, b2⟩ := one_row (range_ne hne) (le_full hP hf)
  refine ⟨b, b1, ?_⟩
  rw [rd_cut hP b1 c, wr_snoc, (wr_zero _ _).2 b2]
  split <;> omega
def opn (P : Int) (l : List Pt) (c z : Int) : Prop := ov P l ((z + c + 1) % P) < ov P l c
def tch (P : Int) (l : List Pt) (c : Int) (i k : Nat) : Prop :=
  ∃ x y, (x = LA P l c i ∨ x = LE P l c i) ∧ (y = LA P l c k ∨ y = LE P l c k) ∧ ∀ z, Min.min x y ≤ z → z < Max.max x y → opn P l c z
def held (P : Int) (l : List Pt) (c : Int) : Prop := ∀ S : Nat → Prop, (∃ i, i < l.length ∧ S i) → (∃ k, k < l.length ∧ ¬ S k) → ∃ i k, i < l.length ∧ k < l.length ∧ S i ∧ ¬ S k ∧ tch P l c i k
end Ox.Se

namespace Ox.Se
open Ox Ox.Sh
variable {P : Int} {l : List Pt} {c : Int}
theorem wst_app (x : Nat) (v : List Nat) : ∀ (u : List Nat) (h : Nat), wst P l h (u ++ x :: v) = wst P l h (u ++ [x]) + wst P l x v
  | [], h => by simp [wst]
  | y :: u, h => by
    simp only [List.cons_append, wst]
    rw [wst_app x v u y]; omega
theorem wst_nn (hP : 1 ≤ P) : ∀ (t : List Nat) (h : Nat), 0 ≤ wst P l h t
  | [], _ => Int.le_refl _
  | y :: t, h => by
    have := wst_nn hP t y
    have := (gp_bd (l := l) hP h y).1
    unfold wst; omega
theorem rot_perm (h x : Nat) (u v : List Nat) : (x :: (v ++ h :: u)).Perm (h :: (u ++ x :: v)) := by
  have a : (x :: (v ++ h :: u)) = (x :: v) ++ (h :: u) := rfl
  have b : (h :: (u ++ x :: v)) = (h :: u) ++ (x :: v) := rfl
  rw [a, b]
  exact List.perm_append_comm
theorem tot_rot (h x : Nat) (u v : List Nat) : tot P l x (v ++ h :: u) = tot P l h (u ++ x :: v) := by
  unfold tot
  have a := wst_app (P := P) (l := l) h (u ++ [x]) v x
  have b := wst_app (P := P) (l := l) x (v ++ [h]) u h
  rw [sm_perm (rot_perm h x u v), List.append_assoc, List.append_assoc, List.cons_append, List.cons_append, a, b]
  omega
theorem rot0 (hne : l ≠ []) {b : Nat × List Nat} (hb : (ps b).Perm (List.range l.length)) : ∃ z, isO l 0 z ∧ rd P l 0 z = rd P l b.1 b.2 := by
  have h0 : 0 ∈ ps b := hb.mem_iff.2 (List.mem_range.2 (List.length_pos_iff.2 hne))
  obtain ⟨h, t⟩ := b
  rcases List.mem_cons.1 h0 with e | h0
  · dsimp only at e; subst e
    exact ⟨t, hb, rfl⟩
  · obtain ⟨u, v, rfl⟩ := List.append_of_mem h0
    exact ⟨v ++ h :: u, (rot_perm h 0 u v).trans hb, by unfold rd; rw [tot_rot]⟩
def allO (N : Nat) : List (List Nat) := dfsL N (N - 1) [0]
theorem mem_allO {N : Nat} (hN : 1 ≤ N) {o : List Nat} : o ∈ allO N ↔ ∃ z, o = 0 :: z ∧ (0 :: z).Perm (List.range N) := by
  unfold allO
  rw [mem_dfsL]
  constructor
  · rintro ⟨z, rfl, h1, h2, h3⟩
    refine ⟨z, rfl, perm_sub (List.nodup_cons.2 ⟨fun h => (h3 0 h).2 (List.mem_singleton.2 rfl), h2⟩) List.nodup_range (fun x hx => ?_) (by rw [List.length_range, List.length_cons]; omega)⟩
    rcases List.mem_cons.1 hx with rfl | hx
    · exact List.mem_range.2 (by omega)
    · exact List.mem_range.2 (h3 x hx).1
  · rintro ⟨z, rfl, hp⟩
    have hn := hp.nodup_iff.2 List.nodup_range
    obtain ⟨n1, n2⟩ := List.nodup_cons.1 hn
    refine ⟨z, rfl, by have := hp.length_eq; rw [List.length_range, List.length_cons] at this; omega, n2, fun x hx => ⟨List.mem_range.1 (hp.mem_iff.1 (List.mem_cons_of_mem _ hx)), fun h => ?_⟩⟩
    rw [List.mem_singleton] at h
    exact n1 (h ▸ hx)
def rdL (P : Int) (l : List Pt) : List Nat → Int
  | [] => 0
  | h :: t => rd P l h t
theorem fold_min : ∀ (L : List Int) (a : Int), L.foldl Min.min a ≤ a ∧ (∀ x ∈ L, L.foldl Min.min a ≤ x) ∧ (L.foldl Min.min a = a ∨ L.foldl Min.min a ∈ L)
  | [], a => ⟨Int.le_refl _, (fun x h => by cases h), Or.inl rfl⟩
  | y :: L, a => by
    rw [List.foldl_cons]
    obtain ⟨h1, h2, h3⟩ := fold_min L (Min.min a y)
    generalize L.foldl Min.min (Min.min a y) = m at *
    refine ⟨by omega, fun x hx => ?_, ?_⟩
    · rcases List.mem_cons.1 hx with rfl | hx
      · omega
      · exact h2 x hx
    · rcases h3 with h3 | h3
      · rcases Int.le_total a y with h | h
        · exact Or.inl (by omega)
        · exact Or.inr (List.mem_cons.2 (Or.inl (by omega)))
      · exact Or.inr (List.mem_cons_of_mem _ h3)
def leR (P : Int) (l : List Pt) : Int := ((allO l.length).map (rdL P l)).foldl Min.min (rdL P l (List.range l.length))
theorem range_all {N : Nat} (hN : 1 ≤ N) : List.range N ∈ allO N := by
  obtain ⟨M, rfl⟩ : ∃ M, N = M + 1 := ⟨N - 1, by omega⟩
  refine (mem_allO hN).2 ⟨(List.range M).map Nat.succ, ?_, ?_⟩
  · rw [List.range_succ_eq_map]
  · rw [List.range_succ_eq_map]
theorem leR_all {o : List Nat} (h : o ∈ allO l.length) : leR P l ≤ rdL P l o := (fold_min _ _).2.1 _ (List.mem_map_of_mem h)
theorem leR_mem (hne : l ≠ []) : ∃ o ∈ allO l.length, rdL P l o = leR P l := by
  have hN : 1 ≤ l.length := List.length_pos_iff.2 hne
  rcases (fold_min ((allO l.length).map (rdL P l)) (rdL P l (List.range l.length))).2.2 with h | h
  · exact ⟨_, range_all hN, h.symm⟩
  · obtain ⟨o, ho, he⟩ := List.mem_map.1 h
    exact ⟨o, ho, he⟩
theorem leR_le (hne : l ≠ []) {b : Nat × List Nat} (hb : (ps b).Perm (List.range l.length)) : leR P l ≤ rd P l b.1 b.2 := by
  have hN : 1 ≤ l.length := List.length_pos_iff.2 hne
  obtain ⟨z, hz, he⟩ := rot0 (P := P) hne hb
  have := leR_all (P := P) ((mem_allO hN).2 ⟨z, rfl, hz⟩)
  rw [← he]
  exact this
theorem leR_ex (hne : l ≠ []) : ∃ z, isO l 0 z ∧ rd P l 0 z = leR P l := by
  have hN : 1 ≤ l.length := List.length_pos_iff.2 hne
  obtain ⟨o, ho, he⟩ := leR_mem (P := P) hne
  obtain ⟨z, rfl, hp⟩ := (mem_allO hN).1 ho
  exact ⟨z, hp, he⟩
theorem leR_ge (hP : 1 ≤ P) (hne : l ≠ []) (u : Int) : ov P l u ≤ leR P l := by
  obtain ⟨z, hz, he⟩ := leR_ex (P := P) hne
  rw [← he]
  exact rd_ge hP hz u
theorem leR_top (hP : 1 ≤ P) (hne : l ≠ []) (hf : isFull P l c) : leR P l ≤ ov P l c + 1 := by
  obtain ⟨b, b1, b2⟩ := rd_one hP hne hf
  exact Int.le_trans (leR_le hne b1) b2
def amx (f : Nat → Int) : Nat → Nat
  | 0 => 0
  | k + 1 => if f (amx f k) < f (k + 1) then k + 1 else amx f k
theorem amx_spec (f : Nat → Int) : ∀ k, amx f k ≤ k ∧ (∀ i, i ≤ k → f i ≤ f (amx f k)) ∧ ∀ i, i < amx f k → f i < f (amx f k)
  | 0 => ⟨Nat.le_refl _, (fun i h => by rw [Nat.le_zero.1 h]; exact Int.le_refl _), fun i h => absurd h (Nat.not_lt_zero _)⟩
  | k + 1 => by
    obtain ⟨h1, h2, h3⟩ := amx_spec f k
    rw [amx]
    split
    · rename_i h
      refine ⟨Nat.le_refl _, fun i hi => ?_, fun i hi => ?_⟩
      · rcases Nat.lt_or_ge k i with e | e
        · rw [show i = k + 1 by omega]; exact Int.le_refl _
        · have := h2 i e; omega
      · have := h2 i (by omega); omega
    · rename_i h
      refine ⟨by omega, fun i hi => ?_, h3⟩
      rcases Nat.lt_or_ge k i with e | e
      · rw [show i = k + 1 by omega]; omega
      · exact h2 i e
def pkA (P : Int) (l : List Pt) : Nat := amx (fun u => ov P l (u : Int)) (P.toNat - 1)
def pkV (P : Int) (l : List Pt) : Int := ov P l (pkA P l : Int)
theorem pk_full (hP : 1 ≤ P) : isFull P l (pkA P l : Int) := by
  obtain ⟨h1, h2, h3⟩ := amx_spec (fun u : Nat => ov P l (u : Int)) (P.toNat - 1)
  refine ⟨⟨by omega, by unfold pkA; omega⟩, fun u h0 h4 => ?_⟩
  have := h2 u.toNat (by omega)
  rw [Int.toNat_of_nonneg h0] at this
  exact this
theorem pk_first (u : Nat) (h : u < pkA P l) : ov P l (u : Int) < pkV P l := (amx_spec (fun u : Nat => ov P l (u : Int)) (P.toNat - 1)).2.2 u h
theorem pk_le (hP : 1 ≤ P) {u : Nat} (h : (u : Int) < P) : ov P l (u : Int) ≤ pkV P l := (pk_full hP).2 _ (by omega) h
def flB (P : Int) (l : List Pt) (u : Nat) : Bool := decide (ov P l (u : Int) = pkV P l)
def fcn (P : Int) (l : List Pt) (u : Nat) : Nat := (List.range u).countP (flB P l)
theorem fcn_succ (u : Nat) : fcn P l (u + 1) = fcn P l u + if flB P l u = true then 1 else 0 := by
  unfold fcn
  rw [List.range_succ, List.countP_append, List.countP_cons, List.countP_nil]
  simp
theorem fcn_mono {u : Nat} : ∀ (k : Nat), fcn P l u ≤ fcn P l (u + k)
  | 0 => Nat.le_refl _
  | k + 1 => by
    have := fcn_mono (u := u) k
    rw [← Nat.add_assoc, fcn_succ]; omega
theorem fcn_le {u v : Nat} (h : u ≤ v) : fcn P l u ≤ fcn P l v := by
  have := fcn_mono (P := P) (l := l) (u := u) (v - u)
  rwa [show u + (v - u) = v by omega] at this
theorem fcn_eq {u : Nat} : ∀ (k : Nat), fcn P l u = fcn P l (u + k) ↔ ∀ w, u ≤ w → w < u + k → flB P l w = false
  | 0 => ⟨fun _ w h1 h2 => by omega, fun _ => rfl⟩
  | k + 1 => by
    have h1 := fcn_mono (P := P) (l := l) (u := u) k
    have h2 := fcn_eq (u := u) k
    rw [← Nat.add_assoc, fcn_succ]
    constructor
    · intro h w a b
      cases hw : flB P l (u + k) with
      | true => rw [hw, if_pos rfl] at h; omega
      | false =>
        rw [hw] at h
        simp at h
        rcases Nat.lt_or_ge w (u + k) with e | e
        · exact (h2.1 (by omega)) w a e
        · rw [show w = u + k by omega]; exact hw
    · intro h
      rw [h (u + k) (by omega) (by omega)]
      have := h2.2 fun w a b => h w a (by omega)
      simp
      omega
theorem fcn_zero {u : Nat} (h : u ≤ pkA P l) : fcn P l u = 0 := by
  unfold fcn
  rw [List.countP_eq_zero]
  intro w hw hf
  have h1 := pk_first (P := P) (l := l) w (by have := List.mem_range.1 hw; omega)
  have := of_decide_eq_true hf
  omega
theorem fl_pk : flB P l (pkA P l) = true := decide_eq_true rfl
theorem fcn_pos {u : Nat} (h : pkA P l < u) : 1 ≤ fcn P l u := by
  have h1 := fcn_le (P := P) (l := l) (u := pkA P l + 1) (v := u) h
  rw [fcn_succ, fl_pk, if_pos rfl] at h1
  omega
def stN (P : Int) (l : List Pt) (u : Nat) : Nat := if fcn P l u = fcn P l P.toNat then 0 else fcn P l u
theorem opn_fl (hP : 1 ≤ P) {w : Nat} (hw : (w : Int) < P) : ov P l (w : Int) < ov P l (pkA P l : Int) ↔ flB P l w = false := by
  unfold flB
  have := pk_le (l := l) hP hw
  rw [decide_eq_false_iff_not]
  unfold pkV at *
  omega
theorem btw_le (hP : 1 ≤ P) {p q : Nat} (hp : (p : Int) < P) (hq : (q : Int) < P) (hxy : ((p : Int) - pkA P l - 1) % P ≤ ((q : Int) - pkA P l - 1) % P) :
    (∀ z, ((p : Int) - pkA P l - 1) % P ≤ z → z < ((q : Int) - pkA P l - 1) % P → opn P l (pkA P l : Int) z) ↔ stN P l p = stN P l q := by
  have hc := (pk_full (l := l) hP).1
  have hN : 1 ≤ fcn P l P.toNat := fcn_pos (by omega)
  have key : ∀ u : Nat, (u : Int) < P → ((u : Int) - pkA P l - 1) % P = if u ≤ pkA P l then (u : Int) - pkA P l - 1 + P else (u : Int) - pkA P l - 1 := fun u hu => by
    split
    · rw [← Int.add_emod_right, Int.emod_eq_of_lt (by omega) (by omega)]
    · rw [Int.emod_eq_of_lt (by omega) (by omega)]
  rw [key p hp, key q hq] at hxy ⊢
  have hzw : ∀ z : Int, 0 ≤ z → z < P → (z + pkA P l + 1) % P = if z + pkA P l + 1 < P then z + pkA P l + 1 else z + pkA P l + 1 - P := fun z h0 h1 => by
    split
    · rw [Int.emod_eq_of_lt (by omega) (by omega)]
    · rw [← Int.sub_emod_right, Int.emod_eq_of_lt (by omega) (by omega)]
  by_cases c1 : p ≤ pkA P l
  · by_cases c2 : q ≤ pkA P l
    · rw [if_pos c1, if_pos c2] at hxy ⊢
      have e1 : stN P l p = stN P l q := by unfold stN; rw [fcn_zero c1, fcn_zero c2]
      refine ⟨fun _ => e1, fun _ z h1 h2 => ?_⟩
      unfold opn
      rw [hzw z (by omega) (by omega), if_neg (by omega)]
      have h3 := pk_first (P := P) (l := l) (z + pkA P l + 1 - P).toNat (by omega)
      rw [Int.toNat_of_nonneg (by omega)] at h3
      exact h3
    · rw [if_pos c1, if_neg c2] at hxy
      exact absurd hxy (by omega)
  · by_cases c2 : q ≤ pkA P l
    · rw [if_neg c1, if_pos c2] at hxy ⊢
      have e2 : stN P l q = 0 := by unfold stN; rw [fcn_zero c2, if_neg (by omega)]
      have e1 : stN P l p = 0 ↔ fcn P l p = fcn P l P.toNat := by
        unfold stN
        have := fcn_pos (P := P) (l := l) (u := p) (by omega)
        split
        · rename_i h; exact ⟨fun _ => h, fun _ => rfl⟩
        · rename_i h; exact ⟨fun h' => by omega, fun h' => absurd h' h⟩
      rw [e2, e1]
      have e3 := fcn_eq (P := P) (l := l) (u := p) (P.toNat - p)
      rw [show p + (P.toNat - p) = P.toNat by omega] at e3
      rw [e3]
      constructor
      · intro h w h1 h2
        have h3 := h ((w : Int) - pkA P l - 1) (by omega) (by omega)
        unfold opn at h3
        rw [hzw _ (by omega) (by omega), if_pos (by omega), show (w : Int) - pkA P l - 1 + pkA P l + 1 = w by omega] at h3
        exact (opn_fl hP (by omega)).1 h3
      · intro h z h1 h2
        unfold opn
        rw [hzw z (by omega) (by omega)]
        split
        · have h3 := (opn_fl (l := l) hP (w := (z + pkA P l + 1).toNat) (by omega)).2 (h _ (by omega) (by omega))
          rw [Int.toNat_of_nonneg (by omega)] at h3
          exact h3
        · have h3 := pk_first (P := P) (l := l) (z + pkA P l + 1 - P).toNat (by omega)
          rw [Int.toNat_of_nonneg (by omega)] at h3
          exact h3
    · rw [if_neg c1, if_neg c2] at hxy ⊢
      have hpq : p ≤ q := by omega
      have a1 := fcn_pos (P := P) (l := l) (u := p) (by omega)
      have a2 := fcn_pos (P := P) (l := l) (u := q) (by omega)
      have e1 : stN P l p = stN P l q ↔ fcn P l p = fcn P l q := by
        unfold stN
        split <;> split <;> omega
      rw [e1]
      have e3 := fcn_eq (P := P) (l := l) (u := p) (q - p)
      rw [show p + (q - p) = q by omega] at e3
      rw [e3]
      constructor
      · intro h w h1 h2
        have h3 := h ((w : Int) - pkA P l - 1) (by omega) (by omega)
        unfold opn at h3
        rw [hzw _ (by omega) (by omega), if_pos (by omega), show (w : Int) - pkA P l - 1 + pkA P l + 1 = w by omega] at h3
        exact (opn_fl hP (by omega)).1 h3
      · intro h z h1 h2
        unfold opn
        rw [hzw z (by omega) (by omega), if_pos (by omega)]
        have h3 := (opn_fl (l := l) hP (w := (z + pkA P l + 1).toNat) (by omega)).2 (h _ (by omega) (by omega))
        rw [Int.toNat_of_nonneg (by omega)] at h3
        exact h3
theorem btw (hP : 1 ≤ P) {p q : Nat} (hp : (p : Int) < P) (hq : (q : Int) < P) :
    (∀ z, Min.min (((p : Int) - pkA P l - 1) % P) (((q : Int) - pkA P l - 1) % P) ≤ z → z < Max.max (((p : Int) - pkA P l - 1) % P) (((q : Int) - pkA P l - 1) % P) → opn P l (pkA P l : Int) z) ↔ stN P l p = stN P l q := by
  rcases Int.le_total (((p : Int) - pkA P l - 1) % P) (((q : Int) - pkA P l - 1) % P) with h | h
  · rw [Int.min_eq_left h, Int.max_eq_right h]
    exact btw_le hP hp hq h
  · rw [Int.min_eq_right h, Int.max_eq_left h, btw_le hP hq hp h]
    exact eq_comm
def okP (P : Int) (l : List Pt) : Prop := ∀ s ∈ l, (0 ≤ s.1 ∧ s.1 < P) ∧ 1 ≤ s.2.1 ∧ s.2.1 ≤ 10000
theorem okP.get (h : okP P l) {n : Nat} (hn : n < l.length) : (0 ≤ aT l n ∧ aT l n < P) ∧ 1 ≤ lO l n ∧ lO l n ≤ 10000 := by
  unfold aT lO
  rw [List.getD_eq_getElem?_getD, List.getElem?_eq_getElem hn]
  exact h _ (List.getElem_mem hn)
def sA (P : Int) (l : List Pt) (n : Nat) : Nat := stN P l (aT l n).toNat
def sE (P : Int) (l : List Pt) (n : Nat) : Nat := stN P l (eN P l n).toNat
theorem tch_st (hP : 1 ≤ P) (hl : okP P l) {i k : Nat} (hi : i < l.length) (hk : k < l.length) :
    tch P l (pkA P l : Int) i k ↔ (sA P l i = sA P l k ∨ sA P l i = sE P l k ∨ sE P l i = sA P l k ∨ sE P l i = sE P l k) := by
  have key : ∀ {x y : Int}, (0 ≤ x ∧ x < P) → (0 ≤ y ∧ y < P) → ((∀ z, Min.min ((x - pkA P l - 1) % P) ((y - pkA P l - 1) % P) ≤ z → z < Max.max ((x - pkA P l - 1) % P) ((y - pkA P l - 1) % P) → opn P l (pkA P l : Int) z) ↔ stN P l x.toNat = stN P l y.toNat) := fun {x y} hx hy => by
    have := btw (l := l) hP (p := x.toNat) (q := y.toNat) (by omega) (by omega)
    rwa [Int.toNat_of_nonneg hx.1, Int.toNat_of_nonneg hy.1] at this
  have ai := (hl.get hi).1
  have ak := (hl.get hk).1
  have ei : 0 ≤ eN P l i ∧ eN P l i < P := mod_bd hP _
  have ek : 0 ≤ eN P l k ∧ eN P l k < P := mod_bd hP _
  unfold tch sA sE
  rw [← key ai ak, ← key ai ek, ← key ei ak, ← key ei ek]
  constructor
  · rintro ⟨x, y, rfl | rfl, rfl | rfl, h⟩
    · exact Or.inl h
    · exact Or.inr (Or.inl h)
    · exact Or.inr (Or.inr (Or.inl h))
    · exact Or.inr (Or.inr (Or.inr h))
  · rintro (h | h | h | h)
    · exact ⟨_, _, Or.inl rfl, Or.inl rfl, h⟩
    · exact ⟨_, _, Or.inl rfl, Or.inr rfl, h⟩
    · exact ⟨_, _, Or.inr rfl, Or.inl rfl, h⟩
    · exact ⟨_, _, Or.inr rfl, Or.inr rfl, h⟩
end Ox.Se

namespace Ox
open Go Go.RowKit
variable {X : Ctx} {s : S} {M : Mem} {ρ : Env} {a : Act} {w w' : World} {QA : Exit → S → Prop} {all l : List Oper} {o : Oper}
structure FnRow (P : Program) (f : FuncId) (args : AV) (eid : TypeId) (e : Ty) (xs : List e.den) : Prop where
  call : ∀ az w, (callFunc f az).run P w = .ok (.enter f az) w
  run : ∀ M ρ w vs, MemIn M w → args.rvs M ρ vs → args.bd 0 → Calls P f vs.toArray w fun en w' => ∃ v cs M', en = Ending.returned v ∧ w'.ownsRow w.heap.size eid e.size v xs.length cs ∧ RL M' e xs cs ∧ Below w.heap.size w w' ∧ M.le M' ∧ MemIn M' w' ∧ (∀ b, b < w.heap.size → M' b = M b) ∧ ∀ b, v.ownBlock = some b → M' b = none
def rowQ (fn : Func) (eid : TypeId) (e : Ty) (xs : List e.den) (ex : Exit) (s : S) : Prop :=
  (ex = .ret ∨ ex = .normal) ∧ ∃ d m, fn.results.toList = [.tmp d] ∧ lk s.L d = some (.lf (.osl m)) ∧ lk s.H m = some (.sl eid e xs)
theorem FnRow.intro {P : Program} {T : List (Nat × Ty)} {ET : List (Nat × Nat)} {MT : List (Nat × (Nat × Nat))} {f : FuncId} {fn : Func} {c : Code} {args : AV} {eid : TypeId} {e : Ty} {xs : List e.den} (hf : P.funcs[f]? = some fn) (hb : fn.body = some c)
    (hcall : ∀ az w, (callFunc f az).run P w = .ok (.enter f az) w) (hn : argN args ≤ fn.ntmps) (h : ∀ E M0 up, JC ⟨P, T, ET, MT, E, M0, fn.ntmps, none, up, 0⟩ c (rowQ fn eid e xs) ⟨argL args 0, [], 0⟩) : FnRow P f args eid e xs := by
  refine ⟨hcall, fun M ρ w vs hM hvs hbd => (callsIn_wide (n := 0)).1 (callsIn_of_wp_marks hf hb trivial ?_ rfl)⟩
  let up0 : Nat → Nat → Value := fun _ _ => Go.undef
  have hsat : SAT ⟨P, T, ET, MT, w, M, fn.ntmps, none, up0, 0⟩ M ρ ⟨argL args 0, [], 0⟩ w :=
    ⟨Below.refl _ _, fun _ _ h => h, fun _ _ => rfl, hM, fun l o h => by simp [lk] at h, fun l l' o o' b h => by simp [lk] at h, fun l o b h => by simp [lk] at h⟩
  have hreg : REG ⟨P, T, ET, MT, w, M, fn.ntmps, none, up0, 0⟩ M ρ ⟨argL args 0, [], 0⟩ { tmps := vs.toArray ++ Array.replicate (fn.ntmps - vs.toArray.size) Go.undef, defers := [] } := REG.args hvs hbd rfl hn
  refine wpIn_mono (h w M up0 M ρ _ w hsat hreg) ?_
  rintro ex a1 w1 ⟨M2, ρ1, s1, k1', k2', hex, d, m, hr1, hr2, hr3⟩
  obtain ⟨Ds, hds, hnd, hDs, _⟩ := k2'.defers
  have fin : LeavesInM Fence.wide 0 P fn a1.tmps (fun en w' => ∃ v cs M', en = Ending.returned v ∧ w'.ownsRow w.heap.size eid e.size v xs.length cs ∧ RL M' e xs cs ∧ Below w.heap.size w w' ∧ M.le M' ∧ MemIn M' w' ∧ (∀ b, b < w.heap.size → M' b = M b) ∧ ∀ b, v.ownBlock = some b → M' b = none) a1.defers .returning w1 := by
    rw [hds]
    refine takeAll hnd (fun D hD => k1'.mem _ _ (hDs D hD).2) fun w' hbel hkeep => ?_
    obtain ⟨hle, k1⟩ := k1'.taken (fun D hD => by
      show M D = none
      cases hMD : M D with
      | none => rfl
      | some o => have h1 := (Array.getElem?_eq_some_iff.1 (hM D o hMD)).1; have h2 : w.heap.size ≤ D := (hDs D hD).1; omega) hDs hbel hkeep
    have hown := (k1.own m _ hr3).2.2
    simp only [HO.ok] at hown
    obtain ⟨_, cs, hrow, hrl⟩ := hown
    have hv := (k2'.reg d _ hr2).2
    rw [rv_lf] at hv
    simp only [Leaf.at, Option.some.injEq] at hv
    refine ⟨ρ1.sv m, ?_, ρ1.sv m, cs, M2.without Ds, rfl, hrow, hrl, k1.below, fun b c ty fz hm => k1.msub b _ hm, k1.mem, fun b hlt => k1.mnew b hlt, fun b hb => k1.notM m _ b hr3 hb⟩
    have hrs : (fn.results.toList.mapM (resOne a1.tmps)).run P w' = .ok [ρ1.sv m] w' := by
      rw [hr1]
      simp only [List.mapM_cons, List.mapM_nil, resOne, Sem.run_bind, Sem.run_pure, Result.andThen_ok, hv.1]
    have := results_run hrs
    simpa using this
  rcases hex with rfl | rfl
  · exact fin
  · exact fin
end Ox

namespace Ox
open Go Go.RowKit
variable {X : Ctx} {s : S} {M : Mem} {ρ : Env} {a : Act} {w w' : World} {QA : Exit → S → Prop} {all l : List Oper} {md : Bool}
variable {L : List (Nat × AV)} {H : List (Nat × HO)} {nx m lo hi : Nat} {t : TypeId} {e : Ty} {eid : TypeId} {xs : List e.den} {c1 : List Prop} {x : Operand} {ty : TypeId} {ps : String} {af : Array Edge} {f : Bool}
end Ox

namespace Ox
open Go Go.RowKit
variable {X : Ctx} {s : S} {QA : Exit → S → Prop}
end Ox

namespace Go.Proofs.Ytinehlphcckkmaa
open Go Go.RowKit Ox Ox.Sh Ox.Se
attribute [local irreducible] JC JL JK JW
abbrev vI (n : Int) : AV := .val (.int .i64) n
abbrev vB (b : Bool) : AV := .val .bool b
abbrev vL (xs : List Int) : AV := .val (.slice (.int .i64)) xs
abbrev vLL (xs : List (List Int)) : AV := .val (.slice (.slice (.int .i64))) xs
abbrev ptT : Ty := .cons (.int .i64) (.cons (.int .i64) .nil)
abbrev vP (z : Pt) : AV := .val ptT z
abbrev vD (l : List Pt) : AV := .val (.slice ptT) l
abbrev seT : Ty := .cons (.int .i64) (.cons (.slice ptT) .nil)
abbrev mkS (P : Int) (l : List Pt) : seT.den := (P, l, ())
abbrev vS (P : Int) (l : List Pt) : AV := .val seT (mkS P l)
abbrev pI (n : Int) : AV := .val (.ptr (.int .i64)) (some n)
abbrev vT2 (a b : Int) : AV := .tup (.acons (vI a) (.acons (vI b) .anil))
theorem getD_nat {α : Type} (xs : List α) {i : Nat} (h : i < xs.length) (d : α) : xs.getD i d = xs[i] := by
  simp [List.getD_eq_getElem?_getD, List.getElem?_eq_getElem h]
theorem fn86 (x lo hi : Int) : Ox.Fn Try.prog 86 (.acons (vI x) (.acons (pI lo) (.acons (pI hi) .anil))) (· = vB (decide (x < lo ∨ x > hi))) := by
  refine Ox.Fn.intro xok Try.func86 rfl Try.call86 (Nat.le_of_ble_eq_true rfl) (fun E M0 up => ?_)
  refine JK.start ?_
  (repeat (first | refine zs rfl ?_ | refine zg rfl rfl rfl ?_ | refine zd ?_ | refine JK.fin ?_ | refine JK.ret ?_))
  refine ⟨.inl rfl, _, _, rfl, trivial, ?_⟩
  by_cases h : x < lo <;> simp [h]
def idxB {α : Type} (p : α → Bool) : List α → Nat → Int
  | [], _ => -1
  | x :: r, i => if p x then (i : Int) else idxB p r (i + 1)
theorem idxB_nonneg {α : Type} {p : α → Bool} : ∀ {xs : List α} {i : Nat}, (0 ≤ idxB p xs i) ↔ xs.any p = true
  | [], i => by simp [idxB]
  | x :: r, i => by
    simp only [idxB, List.any_cons, Bool.or_eq_true]
    by_cases h : p x = true
    · simp [h]
    · rw [if_neg h, idxB_nonneg]; simp [h]
theorem fn104 {f : FuncId} {t1 t2 : Ty} {x1 : t1.den} {x2 : t2.den} (xs : List Int) (p : Int → Bool) (h : ∀ x ∈ xs, Ox.Fn Try.prog f (.acons (vI x) (.acons (.val t1 x1) (.acons (.val t2 x2) .anil))) (· = vB (p x))) :
    Ox.Fn Try.prog 104 (.acons (vL xs) (.acons (.fn f .anil (.acons (.val t1 x1) (.acons (.val t2 x2) .anil))) .anil)) (· = vI (idxB p xs 0)) := by
  refine Ox.Fn.intro xok Try.func104 rfl Try.call104 (Nat.le_of_ble_eq_true rfl) (fun E M0 up => ?_)
  refine JK.start ?_
  refine JK.lenOf 0 rfl fun hlen => ?_
  replace hlen : xs.length ≤ 9223372036854775807 := hlen.1
  (repeat (first | refine zs rfl ?_ | refine zg rfl rfl rfl ?_ | refine zd ?_ | refine JK.fin ?_ | refine JK.ret ?_))
  refine JK.loop (fun i : Nat => ⟨[(0, vL xs), (1, .fn f .anil (.acons (.val t1 x1) (.acons (.val t2 x2) .anil))), (7, vI xs.length), (8, vI (i : Int))], [], 0⟩) (fun i => i ≤ xs.length ∧ idxB p xs 0 = idxB p (xs.drop i) i) (fun i => xs.length - i) 0 (by simp) (by (exact JW.Auto (by conv => lhs; reduce))) fun i ⟨hi, hn⟩ => ?_
  (repeat (first | refine zs rfl ?_ | refine zg rfl rfl rfl ?_ | refine zd ?_ | refine JK.fin ?_ | refine JK.ret ?_))
  refine JK.cond rfl (fun hc => ?_) (fun hc => ?_)
  · (simp only [↓cdL] at hc; try simp only [Ty.dflt, Int.toNat_natCast] at hc)
    have hi' : i < xs.length := by omega
    have hx := h (xs.getD i 0) (by rw [getD_nat xs hi']; exact List.getElem_mem hi')
    (repeat (first | refine zs rfl ?_ | refine zg rfl rfl rfl ?_ | refine zd ?_ | refine JK.fin ?_ | refine JK.ret ?_ | refine zc rfl (hx) rfl rfl ?_ | refine ze rfl (hx) rfl ?_ | refine zk rfl rfl (fun _ => hx) rfl rfl ?_))
    refine JK.cond rfl (fun hd => ?_) (fun hd => ?_)
    · (repeat (first | refine zs rfl ?_ | refine zg rfl rfl rfl ?_ | refine zd ?_ | refine JK.fin ?_ | refine JK.ret ?_))
      refine ⟨.inl rfl, _, _, rfl, trivial, ?_⟩
      rw [getD_nat xs hi'] at hd
      rw [hn, List.drop_eq_getElem_cons hi', idxB, if_pos hd]
    · (repeat (first | refine zs rfl ?_ | refine zg rfl rfl rfl ?_ | refine zd ?_ | refine JK.fin ?_ | refine JK.ret ?_))
      rw [getD_nat xs hi'] at hd
      refine ⟨i + 1, by (exact JW.Auto (by conv => lhs; reduce)), ⟨by omega, ?_⟩, by omega⟩
      rw [hn, List.drop_eq_getElem_cons hi', idxB, if_neg (by rw [hd]; simp)]
  · (simp only [↓cdL] at hc; try simp only [Ty.dflt, Int.toNat_natCast] at hc)
    (repeat (first | refine zs rfl ?_ | refine zg rfl rfl rfl ?_ | refine zd ?_ | refine JK.fin ?_ | refine JK.ret ?_))
    refine ⟨.inl rfl, _, _, rfl, trivial, ?_⟩
    obtain rfl : i = xs.length := by omega
    rw [hn, List.drop_length]; rfl
theorem fn85 {f : FuncId} {t1 t2 : Ty} {x1 : t1.den} {x2 : t2.den} (xs : List Int) (p : Int → Bool) (h : ∀ x ∈ xs, Ox.Fn Try.prog f (.acons (vI x) (.acons (.val t1 x1) (.acons (.val t2 x2) .anil))) (· = vB (p x))) :
    Ox.Fn Try.prog 85 (.acons (vL xs) (.acons (.fn f .anil (.acons (.val t1 x1) (.acons (.val t2 x2) .anil))) .anil)) (· = vB (xs.any p)) := by
  refine Ox.Fn.intro xok Try.func85 rfl Try.call85 (Nat.le_of_ble_eq_true rfl) (fun E M0 up => ?_)
  refine JK.start ?_
  (repeat (first | refine zs rfl ?_ | refine zg rfl rfl rfl ?_ | refine zd ?_ | refine JK.fin ?_ | refine JK.ret ?_ | refine zc rfl (fn104 xs p h) rfl rfl ?_ | refine ze rfl (fn104 xs p h) rfl ?_ | refine zk rfl rfl (fun _ => fn104 xs p h) rfl rfl ?_))
  refine ⟨.inl rfl, _, _, rfl, trivial, ?_⟩
  refine congrArg vB ?_
  rw [Bool.eq_iff_iff, ← idxB_nonneg (p := p) (i := 0)]
  simp
theorem fn58 (lo hi : Int) (xs : List Int) : Ox.Fn Try.prog 58 (.acons (vI lo) (.acons (vI hi) (.acons (vL xs) .anil))) (· = vB (decide (∀ x ∈ xs, lo ≤ x ∧ x ≤ hi))) := by
  refine Ox.Fn.intro xok Try.func58 rfl Try.call58 (Nat.le_of_ble_eq_true rfl) (fun E M0 up => ?_)
  refine JK.start ?_
  (repeat (first | refine zs rfl ?_ | refine zg rfl rfl rfl ?_ | refine zd ?_ | refine JK.fin ?_ | refine JK.ret ?_ | refine zc rfl (fn85 xs (fun x => decide (x < lo ∨ x > hi)) (fun x _ => fn86 x lo hi)) rfl rfl ?_ | refine ze rfl (fn85 xs (fun x => decide (x < lo ∨ x > hi)) (fun x _ => fn86 x lo hi)) rfl ?_ | refine zk rfl rfl (fun _ => fn85 xs (fun x => decide (x < lo ∨ x > hi)) (fun x _ => fn86 x lo hi)) rfl rfl ?_))
  refine ⟨.inl rfl, _, _, rfl, trivial, ?_⟩
  refine congrArg vB ?_
  rw [Bool.eq_iff_iff]
  simp only [Bool.not_eq_true', List.any_eq_false, decide_eq_true_eq]
  refine ⟨fun h x hx => ?_, fun h x hx => ?_⟩
  · have := h x hx; omega
  · have := h x hx; omega
theorem fn42 (xs ys : List Int) : Ox.Fn Try.prog 42 (.acons (vL xs) (.acons (vL ys) .anil)) (· = vB (decide (xs = ys))) := by
  refine Ox.Fn.intro xok Try.func42 rfl Try.call42 (Nat.le_of_ble_eq_true rfl) (fun E M0 up => ?_)
  refine JK.start ?_
  refine JK.lenOf 0 rfl fun hlen => ?_
  replace hlen : xs.length ≤ 9223372036854775807 := hlen.1
  (repeat (first | refine zs rfl ?_ | refine zg rfl rfl rfl ?_ | refine zd ?_ | refine JK.fin ?_ | refine JK.ret ?_))
  refine JK.cond rfl (fun hc => ?_) (fun hc => ?_)
  · (simp only [↓cdL] at hc; try simp only [Ty.dflt, Int.toNat_natCast] at hc)
    (repeat (first | refine zs rfl ?_ | refine zg rfl rfl rfl ?_ | refine zd ?_ | refine JK.fin ?_ | refine JK.ret ?_))
    refine ⟨.inl rfl, _, _, rfl, trivial, ?_⟩
    have : xs ≠ ys := by rintro rfl; simp at hc
    simp [this]
  · (simp only [↓cdL] at hc; try simp only [Ty.dflt, Int.toNat_natCast] at hc)
    have hl : xs.length = ys.length := by omega
    (repeat (first | refine zs rfl ?_ | refine zg rfl rfl rfl ?_ | refine zd ?_ | refine JK.fin ?_ | refine JK.ret ?_))
    refine JK.loop (fun i : Nat => ⟨[(0, vL xs), (1, vL ys), (5, vI (i : Int))], [], 0⟩) (fun i => i ≤ xs.length ∧ xs.take i = ys.take i) (fun i => xs.length - i) 0 (by simp) (by (exact JW.Auto (by conv => lhs; reduce))) fun i ⟨hi, hn⟩ => ?_
    (repeat (first | refine zs rfl ?_ | refine zg rfl rfl rfl ?_ | refine zd ?_ | refine JK.fin ?_ | refine JK.ret ?_))
    refine JK.cond rfl (fun hc => ?_) (fun hc => ?_)
    · (simp only [↓cdL] at hc; try simp only [Ty.dflt, Int.toNat_natCast] at hc)
      have hi' : i < xs.length := by omega
      have hj' : i < ys.length := by omega
      (repeat (first | refine zs rfl ?_ | refine zg rfl rfl rfl ?_ | refine zd ?_ | refine JK.fin ?_ | refine JK.ret ?_))
      refine JK.cond rfl (fun hd => ?_) (fun hd => ?_)
      · (simp only [↓cdL] at hd; try simp only [Ty.dflt, Int.toNat_natCast] at hd)
        (repeat (first | refine zs rfl ?_ | refine zg rfl rfl rfl ?_ | refine zd ?_ | refine JK.fin ?_ | refine JK.ret ?_))
        refine ⟨.inl rfl, _, _, rfl, trivial, ?_⟩
        rw [getD_nat xs hi', getD_nat ys hj'] at hd
        have : xs ≠ ys := by rintro rfl; exact hd rfl
        simp [this]
      · (simp only [↓cdL] at hd; try simp only [Ty.dflt, Int.toNat_natCast] at hd)
        (repeat (first | refine zs rfl ?_ | refine zg rfl rfl rfl ?_ | refine zd ?_ | refine JK.fin ?_ | refine JK.ret ?_))
        rw [getD_nat xs hi', getD_nat ys hj'] at hd
        refine ⟨i + 1, by (exact JW.Auto (by conv => lhs; reduce)), ⟨by omega, ?_⟩, by omega⟩
        rw [List.take_succ, List.take_succ, List.getElem?_eq_getElem hi', List.getElem?_eq_getElem hj', hn, hd]
    · (simp only [↓cdL] at hc; try simp only [Ty.dflt, Int.toNat_natCast] at hc)
      (repeat (first | refine zs rfl ?_ | refine zg rfl rfl rfl ?_ | refine zd ?_ | refine JK.fin ?_ | refine JK.ret ?_))
      refine ⟨.inl rfl, _, _, rfl, trivial, ?_⟩
      have : i = xs.length := by omega
      subst this
      rw [List.take_length, hl, List.take_length] at hn
      simp [hn]
theorem fn34 (xs ys : List Int) : Ox.Fn Try.prog 34 (.acons (vL xs) (.acons (vL ys) .anil)) (· = vB (decide (xs = ys))) := by
  refine Ox.Fn.intro xok Try.func34 rfl Try.call34 (Nat.le_of_ble_eq_true rfl) (fun E M0 up => ?_)
  refine JK.start ?_
  refine JK.lenOf 0 rfl fun hlen => ?_
  replace hlen : xs.length ≤ 9223372036854775807 := hlen.1
  (repeat (first | refine zs rfl ?_ | refine zg rfl rfl rfl ?_ | refine zd ?_ | refine JK.fin ?_ | refine JK.ret ?_))
  refine JK.cond rfl (fun hc => ?_) (fun hc => ?_)
  · (simp only [↓cdL] at hc; try simp only [Ty.dflt, Int.toNat_natCast] at hc)
    (repeat (first | refine zs rfl ?_ | refine zg rfl rfl rfl ?_ | refine zd ?_ | refine JK.fin ?_ | refine JK.ret ?_))
    refine ⟨.inl rfl, _, _, rfl, trivial, ?_⟩
    have : xs ≠ ys := by rintro rfl; simp at hc
    simp [this]
  · (simp only [↓cdL] at hc; try simp only [Ty.dflt, Int.toNat_natCast] at hc)
    have hl : xs.length = ys.length := by omega
    (repeat (first | refine zs rfl ?_ | refine zg rfl rfl rfl ?_ | refine zd ?_ | refine JK.fin ?_ | refine JK.ret ?_))
    refine JK.loop (fun i : Nat => ⟨[(0, vL xs), (1, vL ys), (5, vI (i : Int))], [], 0⟩) (fun i => i ≤ xs.length ∧ xs.take i = ys.take i) (fun i => xs.length - i) 0 (by simp) (by (exact JW.Auto (by conv => lhs; reduce))) fun i ⟨hi, hn⟩ => ?_
    (repeat (first | refine zs rfl ?_ | refine zg rfl rfl rfl ?_ | refine zd ?_ | refine JK.fin ?_ | refine JK.ret ?_))
    refine JK.cond rfl (fun hc => ?_) (fun hc => ?_)
    · (simp only [↓cdL] at hc; try simp only [Ty.dflt, Int.toNat_natCast] at hc)
      have hi' : i < xs.length := by omega
      have hj' : i < ys.length := by omega
      (repeat (first | refine zs rfl ?_ | refine zg rfl rfl rfl ?_ | refine zd ?_ | refine JK.fin ?_ | refine JK.ret ?_))
      refine JK.cond rfl (fun hd => ?_) (fun hd => ?_)
      · (simp only [↓cdL] at hd; try simp only [Ty.dflt, Int.toNat_natCast] at hd)
        (repeat (first | refine zs rfl ?_ | refine zg rfl rfl rfl ?_ | refine zd ?_ | refine JK.fin ?_ | refine JK.ret ?_))
        refine ⟨.inl rfl, _, _, rfl, trivial, ?_⟩
        rw [getD_nat xs hi', getD_nat ys hj'] at hd
        have : xs ≠ ys := by rintro rfl; exact hd rfl
        simp [this]
      · (simp only [↓cdL] at hd; try simp only [Ty.dflt, Int.toNat_natCast] at hd)
        (repeat (first | refine zs rfl ?_ | refine zg rfl rfl rfl ?_ | refine zd ?_ | refine JK.fin ?_ | refine JK.ret ?_))
        rw [getD_nat xs hi', getD_nat ys hj'] at hd
        refine ⟨i + 1, by (exact JW.Auto (by conv => lhs; reduce)), ⟨by omega, ?_⟩, by omega⟩
        rw [List.take_succ, List.take_succ, List.getElem?_eq_getElem hi', List.getElem?_eq_getElem hj', hn, hd]
    · (simp only [↓cdL] at hc; try simp only [Ty.dflt, Int.toNat_natCast] at hc)
      (repeat (first | refine zs rfl ?_ | refine zg rfl rfl rfl ?_ | refine zd ?_ | refine JK.fin ?_ | refine JK.ret ?_))
      refine ⟨.inl rfl, _, _, rfl, trivial, ?_⟩
      have : i = xs.length := by omega
      subst this
      rw [List.take_length, hl, List.take_length] at hn
      simp [hn]
theorem fn83 (xs : List Int) (b : Int) : Ox.Fn Try.prog 83 (.acons (vL xs) (.acons (vI b) .anil)) (· = vI (idxB (fun x => decide (b = x)) xs 0)) := by
  refine Ox.Fn.intro xok Try.func83 rfl Try.call83 (Nat.le_of_ble_eq_true rfl) (fun E M0 up => ?_)
  refine JK.start ?_
  refine JK.lenOf 0 rfl fun hlen => ?_
  replace hlen : xs.length ≤ 9223372036854775807 := hlen.1
  (repeat (first | refine zs rfl ?_ | refine zg rfl rfl rfl ?_ | refine zd ?_ | refine JK.fin ?_ | refine JK.ret ?_))
  refine JK.loop (fun i : Nat => ⟨[(0, vL xs), (1, vI b), (7, vI xs.length), (8, vI (i : Int))], [], 0⟩) (fun i => i ≤ xs.length ∧ idxB (fun x => decide (b = x)) xs 0 = idxB (fun x => decide (b = x)) (xs.drop i) i) (fun i => xs.length - i) 0 (by simp) (by (exact JW.Auto (by conv => lhs; reduce))) fun i ⟨hi, hn⟩ => ?_
  (repeat (first | refine zs rfl ?_ | refine zg rfl rfl rfl ?_ | refine zd ?_ | refine JK.fin ?_ | refine JK.ret ?_))
  refine JK.cond rfl (fun hc => ?_) (fun hc => ?_)
  · (simp only [↓cdL] at hc; try simp only [Ty.dflt, Int.toNat_natCast] at hc)
    have hi' : i < xs.length := by omega
    (repeat (first | refine zs rfl ?_ | refine zg rfl rfl rfl ?_ | refine zd ?_ | refine JK.fin ?_ | refine JK.ret ?_))
    refine JK.cond rfl (fun hd => ?_) (fun hd => ?_)
    · (simp only [↓cdL] at hd; try simp only [Ty.dflt, Int.toNat_natCast] at hd)
      (repeat (first | refine zs rfl ?_ | refine zg rfl rfl rfl ?_ | refine zd ?_ | refine JK.fin ?_ | refine JK.ret ?_))
      refine ⟨.inl rfl, _, _, rfl, trivial, ?_⟩
      rw [getD_nat xs hi'] at hd
      rw [hn, List.drop_eq_getElem_cons hi', idxB, if_pos (by simpa using hd)]
    · (simp only [↓cdL] at hd; try simp only [Ty.dflt, Int.toNat_natCast] at hd)
      (repeat (first | refine zs rfl ?_ | refine zg rfl rfl rfl ?_ | refine zd ?_ | refine JK.fin ?_ | refine JK.ret ?_))
      rw [getD_nat xs hi'] at hd
      refine ⟨i + 1, by (exact JW.Auto (by conv => lhs; reduce)), ⟨by omega, ?_⟩, by omega⟩
      rw [hn, List.drop_eq_getElem_cons hi', idxB, if_neg (by simpa using hd)]
  · (simp only [↓cdL] at hc; try simp only [Ty.dflt, Int.toNat_natCast] at hc)
    (repeat (first | refine zs rfl ?_ | refine zg rfl rfl rfl ?_ | refine zd ?_ | refine JK.fin ?_ | refine JK.ret ?_))
    refine ⟨.inl rfl, _, _, rfl, trivial, ?_⟩
    obtain rfl : i = xs.length := by omega
    rw [hn, List.drop_length]; rfl
theorem fn107 (xs : List Int) (b : Int) : Ox.Fn Try.prog 107 (.acons (vL xs) (.acons (vI b) .anil)) (· = vB (decide (b ∈ xs))) := by
  refine Ox.Fn.intro xok Try.func107 rfl Try.call107 (Nat.le_of_ble_eq_true rfl) (fun E M0 up => ?_)
  refine JK.start ?_
  (repeat (first | refine zs rfl ?_ | refine zg rfl rfl rfl ?_ | refine zd ?_ | refine JK.fin ?_ | refine JK.ret ?_ | refine zc rfl (fn83 xs b) rfl rfl ?_ | refine ze rfl (fn83 xs b) rfl ?_ | refine zk rfl rfl (fun _ => fn83 xs b) rfl rfl ?_))
  refine ⟨.inl rfl, _, _, rfl, trivial, ?_⟩
  refine congrArg vB ?_
  rw [Bool.eq_iff_iff]
  simp only [decide_eq_true_eq]
  refine (idxB_nonneg (p := fun x => decide (b = x)) (i := 0)).trans ?_
  simp
def maxL : List Int → Int
  | [] => 0
  | x :: r => r.foldl Max.max x
theorem maxL_snoc {xs : List Int} (h : xs ≠ []) (x : Int) : maxL (xs ++ [x]) = Max.max (maxL xs) x := by
  cases xs with
  | nil => exact absurd rfl h
  | cons y r => rw [List.cons_append, maxL, maxL, List.foldl_append]; rfl
theorem fn92 (xs : List Int) (h : 1 ≤ xs.length) : Ox.Fn Try.prog 92 (.acons (vL xs) .anil) (· = vI (maxL xs)) := by
  refine Ox.Fn.intro xok Try.func92 rfl Try.call92 (Nat.le_of_ble_eq_true rfl) (fun E M0 up => ?_)
  refine JK.start ?_
  refine JK.lenOf 0 rfl fun hlen => ?_
  replace hlen : xs.length ≤ 9223372036854775807 := hlen.1
  (repeat (first | refine zs rfl ?_ | refine zg rfl rfl rfl ?_ | refine zd ?_ | refine JK.fin ?_ | refine JK.ret ?_))
  refine JK.cond rfl (fun hc => ?_) (fun hc => ?_)
  · (simp only [↓cdL] at hc; try simp only [Ty.dflt, Int.toNat_natCast] at hc)
    omega
  · (repeat (first | refine zs rfl ?_ | refine zg rfl rfl rfl ?_ | refine zd ?_ | refine JK.fin ?_ | refine JK.ret ?_))
    refine JK.loop (fun k : Nat => ⟨[(0, vL xs), (3, vI (maxL (xs.take k))), (4, vI (k : Int))], [], 0⟩) (fun k => 1 ≤ k ∧ k ≤ xs.length) (fun k => xs.length - k) 1 ⟨Nat.le_refl _, h⟩ ?_ fun k ⟨hk1, hk⟩ => ?_
    · have e : maxL (xs.take 1) = xs.getD 0 0 := by
        cases xs with
        | nil => simp at h
        | cons x r => rfl
      rw [e]
      (exact JW.Auto (by conv => lhs; reduce))
    · have hnx : k < xs.length → maxL (xs.take (k + 1)) = Max.max (maxL (xs.take k)) (xs.getD k 0) := fun hlt => by
        rw [List.take_succ, List.getElem?_eq_getElem hlt, getD_nat xs hlt]
        exact maxL_snoc (by intro e; have := congrArg List.length e; rw [List.length_take, List.length_nil] at this; omega) _
      (repeat (first | refine zs rfl ?_ | refine zg rfl rfl rfl ?_ | refine zd ?_ | refine JK.fin ?_ | refine JK.ret ?_))
      refine JK.cond rfl (fun hd => ?_) (fun hd => ?_)
      · (simp only [↓cdL] at hd; try simp only [Ty.dflt, Int.toNat_natCast] at hd)
        (repeat (first | refine zs rfl ?_ | refine zg rfl rfl rfl ?_ | refine zd ?_ | refine JK.fin ?_ | refine JK.ret ?_))
        refine ⟨k + 1, ?_, ⟨by omega, by omega⟩, by omega⟩
        rw [hnx (by omega)]
        (exact JW.Auto (by conv => lhs; reduce))
      · (simp only [↓cdL] at hd; try simp only [Ty.dflt, Int.toNat_natCast] at hd)
        (repeat (first | refine zs rfl ?_ | refine zg rfl rfl rfl ?_ | refine zd ?_ | refine JK.fin ?_ | refine JK.ret ?_))
        refine ⟨.inl rfl, _, _, rfl, trivial, ?_⟩
        rw [List.take_of_length_le (by omega)]
theorem fn106 (xs : List Int) (h : 1 ≤ xs.length) : Ox.Fn Try.prog 106 (.acons (vL xs) .anil) (· = vI (maxL xs)) := by
  refine Ox.Fn.intro xok Try.func106 rfl Try.call106 (Nat.le_of_ble_eq_true rfl) (fun E M0 up => ?_)
  refine JK.start ?_
  refine JK.lenOf 0 rfl fun hlen => ?_
  replace hlen : xs.length ≤ 9223372036854775807 := hlen.1
  (repeat (first | refine zs rfl ?_ | refine zg rfl rfl rfl ?_ | refine zd ?_ | refine JK.fin ?_ | refine JK.ret ?_))
  refine JK.cond rfl (fun hc => ?_) (fun hc => ?_)
  · (simp only [↓cdL] at hc; try simp only [Ty.dflt, Int.toNat_natCast] at hc)
    omega
  · (repeat (first | refine zs rfl ?_ | refine zg rfl rfl rfl ?_ | refine zd ?_ | refine JK.fin ?_ | refine JK.ret ?_))
    refine JK.loop (fun k : Nat => ⟨[(0, vL xs), (3, vI (maxL (xs.take k))), (4, vI (k : Int))], [], 0⟩) (fun k => 1 ≤ k ∧ k ≤ xs.length) (fun k => xs.length - k) 1 ⟨Nat.le_refl _, h⟩ ?_ fun k ⟨hk1, hk⟩ => ?_
    · have e : maxL (xs.take 1) = xs.getD 0 0 := by
        cases xs with
        | nil => simp at h
        | cons x r => rfl
      rw [e]
      (exact JW.Auto (by conv => lhs; reduce))
    · have hnx : k < xs.length → maxL (xs.take (k + 1)) = Max.max (maxL (xs.take k)) (xs.getD k 0) := fun hlt => by
        rw [List.take_succ, List.getElem?_eq_getElem hlt, getD_nat xs hlt]
        exact maxL_snoc (by intro e; have := congrArg List.length e; rw [List.length_take, List.length_nil] at this; omega) _
      (repeat (first | refine zs rfl ?_ | refine zg rfl rfl rfl ?_ | refine zd ?_ | refine JK.fin ?_ | refine JK.ret ?_))
      refine JK.cond rfl (fun hd => ?_) (fun hd => ?_)
      · (simp only [↓cdL] at hd; try simp only [Ty.dflt, Int.toNat_natCast] at hd)
        (repeat (first | refine zs rfl ?_ | refine zg rfl rfl rfl ?_ | refine zd ?_ | refine JK.fin ?_ | refine JK.ret ?_))
        refine ⟨k + 1, ?_, ⟨by omega, by omega⟩, by omega⟩
        rw [hnx (by omega)]
        (exact JW.Auto (by conv => lhs; reduce))
      · (simp only [↓cdL] at hd; try simp only [Ty.dflt, Int.toNat_natCast] at hd)
        (repeat (first | refine zs rfl ?_ | refine zg rfl rfl rfl ?_ | refine zd ?_ | refine JK.fin ?_ | refine JK.ret ?_))
        refine ⟨.inl rfl, _, _, rfl, trivial, ?_⟩
        rw [List.take_of_length_le (by omega)]
end Go.Proofs.Ytinehlphcckkmaa

namespace Go.Proofs.Ytinehlphcckkmaa
open Go Go.RowKit Ox Ox.Sh Ox.Se
attribute [local irreducible] JC JL JK JW
def okPt (P : Int) (s : Pt) : Prop := (0 ≤ s.1 ∧ s.1 < P) ∧ 1 ≤ s.2.1 ∧ s.2.1 ≤ 10000
instance (P : Int) : DecidablePred (okPt P) := fun s => by unfold okPt; infer_instance
theorem fn87 (s : Pt) (P : Int) (hP : 1 ≤ P ∧ P ≤ 1000) : Ox.Fn Try.prog 87 (.acons (vP s) (.acons (pI P) .anil)) (· = vB (!decide (okPt P s))) := by
  obtain ⟨a, b, _⟩ := s
  refine Ox.Fn.intro xok Try.func87 rfl Try.call87 (Nat.le_of_ble_eq_true rfl) (fun E M0 up => ?_)
  refine JK.start ?_
  have h1 := fn58 0 (P - 1) (a :: List.nil)
  have h2 := fn58 1 10000 (b :: List.nil)
  have e1 : (∀ x ∈ [a], 0 ≤ x ∧ x ≤ P - 1) ↔ (0 ≤ a ∧ a < P) := by simp; omega
  have e2 : (∀ x ∈ [b], 1 ≤ x ∧ x ≤ 10000) ↔ (1 ≤ b ∧ b ≤ 10000) := by simp
  rw [decide_eq_decide.2 e1] at h1
  rw [decide_eq_decide.2 e2] at h2
  have e3 : okPt P (a, b, ()) ↔ (0 ≤ a ∧ a < P) ∧ 1 ≤ b ∧ b ≤ 10000 := Iff.rfl
  by_cases c1 : 0 ≤ a ∧ a < P
  · rw [decide_eq_true c1] at h1
    (repeat (first | refine zt rfl rfl ?_ | refine zs rfl ?_ | refine zg rfl rfl rfl ?_ | refine zd ?_ | refine JK.fin ?_ | refine JK.ret ?_ | refine zc rfl (h1) rfl rfl ?_ | refine ze rfl (h1) rfl ?_ | refine zk rfl rfl (fun _ => h1) rfl rfl ?_ | refine zc rfl (h2) rfl rfl ?_ | refine ze rfl (h2) rfl ?_ | refine zk rfl rfl (fun _ => h2) rfl rfl ?_))
    refine ⟨.inl rfl, _, _, rfl, trivial, ?_⟩
    refine congrArg vB ?_
    by_cases c2 : 1 ≤ b ∧ b ≤ 10000
    · have : okPt P (a, b, ()) := ⟨c1, c2⟩
      rw [decide_eq_true this, decide_eq_true c2]; rfl
    · have : ¬ okPt P (a, b, ()) := fun h => c2 h.2
      rw [decide_eq_false this, decide_eq_false c2]; rfl
  · rw [decide_eq_false c1] at h1
    (repeat (first | refine zs rfl ?_ | refine zg rfl rfl rfl ?_ | refine zd ?_ | refine JK.fin ?_ | refine JK.ret ?_ | refine zc rfl (h1) rfl rfl ?_ | refine ze rfl (h1) rfl ?_ | refine zk rfl rfl (fun _ => h1) rfl rfl ?_))
    (repeat (first | refine zfl rfl rfl rfl ?_ | refine JK.pickT rfl rfl rfl rfl (by (first | exact trivial | (try dsimp only [allP, inK, idxC, loC, lohiC, fullC, underG, List.append, List.nil_append, List.cons_append, Ty.den, Ty.dflt, Int.toNat_natCast, List.length_cons, List.length_nil] at *); first | omega | ((repeat' (first | exact trivial | assumption | refine And.intro ?_ ?_ | exact fun h => h | (intro hpk; first | exact hpk | simp only [wantB, hpk, Bool.not_false, Bool.not_true]))) <;> omega) | fail)) (by (first | exact trivial | (try dsimp only [allP, inK, idxC, loC, lohiC, fullC, underG, List.append, List.nil_append, List.cons_append, Ty.den, Ty.dflt, Int.toNat_natCast, List.length_cons, List.length_nil] at *); first | omega | ((repeat' (first | exact trivial | assumption | refine And.intro ?_ ?_ | exact fun h => h | (intro hpk; first | exact hpk | simp only [wantB, hpk, Bool.not_false, Bool.not_true]))) <;> omega) | fail)) ?_ | refine zs rfl ?_ | refine JK.ret ?_))
    refine ⟨.inl rfl, _, _, rfl, trivial, ?_⟩
    refine congrArg vB ?_
    have : ¬ okPt P (a, b, ()) := fun h => c1 h.1
    rw [decide_eq_false this]; rfl
theorem fn105 {f : FuncId} {t1 : Ty} {x1 : t1.den} (xs : List Pt) (p : Pt → Bool) (h : ∀ x ∈ xs, Ox.Fn Try.prog f (.acons (vP x) (.acons (.val t1 x1) .anil)) (· = vB (p x))) :
    Ox.Fn Try.prog 105 (.acons (vD xs) (.acons (.fn f .anil (.acons (.val t1 x1) .anil)) .anil)) (· = vI (idxB p xs 0)) := by
  refine Ox.Fn.intro xok Try.func105 rfl Try.call105 (Nat.le_of_ble_eq_true rfl) (fun E M0 up => ?_)
  refine JK.start ?_
  refine JK.lenOf 0 rfl fun hlen => ?_
  replace hlen : xs.length ≤ 9223372036854775807 := hlen.1
  (repeat (first | refine zs rfl ?_ | refine zg rfl rfl rfl ?_ | refine zd ?_ | refine JK.fin ?_ | refine JK.ret ?_))
  refine JK.loop (fun i : Nat => ⟨[(0, vD xs), (1, .fn f .anil (.acons (.val t1 x1) .anil)), (7, vI xs.length), (8, vI (i : Int))], [], 0⟩) (fun i => i ≤ xs.length ∧ idxB p xs 0 = idxB p (xs.drop i) i) (fun i => xs.length - i) 0 (by simp) (by (exact JW.Auto (by conv => lhs; reduce))) fun i ⟨hi, hn⟩ => ?_
  (repeat (first | refine zs rfl ?_ | refine zg rfl rfl rfl ?_ | refine zd ?_ | refine JK.fin ?_ | refine JK.ret ?_))
  refine JK.cond rfl (fun hc => ?_) (fun hc => ?_)
  · (simp only [↓cdL] at hc; try simp only [Ty.dflt, Int.toNat_natCast] at hc)
    have hi' : i < xs.length := by omega
    have hx := h (xs.getD i zP) (by rw [getD_nat xs hi']; exact List.getElem_mem hi')
    (repeat (first | refine zs rfl ?_ | refine zg rfl rfl rfl ?_ | refine zd ?_ | refine JK.fin ?_ | refine JK.ret ?_ | refine zc rfl (hx) rfl rfl ?_ | refine ze rfl (hx) rfl ?_ | refine zk rfl rfl (fun _ => hx) rfl rfl ?_))
    refine JK.cond rfl (fun hd => ?_) (fun hd => ?_)
    · (repeat (first | refine zs rfl ?_ | refine zg rfl rfl rfl ?_ | refine zd ?_ | refine JK.fin ?_ | refine JK.ret ?_))
      refine ⟨.inl rfl, _, _, rfl, trivial, ?_⟩
      rw [getD_nat xs hi'] at hd
      rw [hn, List.drop_eq_getElem_cons hi', idxB, if_pos hd]
    · (repeat (first | refine zs rfl ?_ | refine zg rfl rfl rfl ?_ | refine zd ?_ | refine JK.fin ?_ | refine JK.ret ?_))
      rw [getD_nat xs hi'] at hd
      refine ⟨i + 1, by (exact JW.Auto (by conv => lhs; reduce)), ⟨by omega, ?_⟩, by omega⟩
      rw [hn, List.drop_eq_getElem_cons hi', idxB, if_neg (by rw [hd]; simp)]
  · (simp only [↓cdL] at hc; try simp only [Ty.dflt, Int.toNat_natCast] at hc)
    (repeat (first | refine zs rfl ?_ | refine zg rfl rfl rfl ?_ | refine zd ?_ | refine JK.fin ?_ | refine JK.ret ?_))
    refine ⟨.inl rfl, _, _, rfl, trivial, ?_⟩
    obtain rfl : i = xs.length := by omega
    rw [hn, List.drop_length]; rfl
theorem fn88 {f : FuncId} {t1 : Ty} {x1 : t1.den} (xs : List Pt) (p : Pt → Bool) (h : ∀ x ∈ xs, Ox.Fn Try.prog f (.acons (vP x) (.acons (.val t1 x1) .anil)) (· = vB (p x))) :
    Ox.Fn Try.prog 88 (.acons (vD xs) (.acons (.fn f .anil (.acons (.val t1 x1) .anil)) .anil)) (· = vB (xs.any p)) := by
  refine Ox.Fn.intro xok Try.func88 rfl Try.call88 (Nat.le_of_ble_eq_true rfl) (fun E M0 up => ?_)
  refine JK.start ?_
  (repeat (first | refine zs rfl ?_ | refine zg rfl rfl rfl ?_ | refine zd ?_ | refine JK.fin ?_ | refine JK.ret ?_ | refine zc rfl (fn105 xs p h) rfl rfl ?_ | refine ze rfl (fn105 xs p h) rfl ?_ | refine zk rfl rfl (fun _ => fn105 xs p h) rfl rfl ?_))
  refine ⟨.inl rfl, _, _, rfl, trivial, ?_⟩
  refine congrArg vB ?_
  rw [Bool.eq_iff_iff, ← idxB_nonneg (p := p) (i := 0)]
  simp
theorem fn90 {f : FuncId} {t1 : Ty} {x1 : t1.den} (xs : List Int) (p : Int → Bool) (h : ∀ x ∈ xs, Ox.Fn Try.prog f (.acons (vI x) (.acons (.val t1 x1) .anil)) (· = vB (p x))) :
    Ox.Fn Try.prog 90 (.acons (vL xs) (.acons (.fn f .anil (.acons (.val t1 x1) .anil)) .anil)) (· = vI (idxB p xs 0)) := by
  refine Ox.Fn.intro xok Try.func90 rfl Try.call90 (Nat.le_of_ble_eq_true rfl) (fun E M0 up => ?_)
  refine JK.start ?_
  refine JK.lenOf 0 rfl fun hlen => ?_
  replace hlen : xs.length ≤ 9223372036854775807 := hlen.1
  (repeat (first | refine zs rfl ?_ | refine zg rfl rfl rfl ?_ | refine zd ?_ | refine JK.fin ?_ | refine JK.ret ?_))
  refine JK.loop (fun i : Nat => ⟨[(0, vL xs), (1, .fn f .anil (.acons (.val t1 x1) .anil)), (7, vI xs.length), (8, vI (i : Int))], [], 0⟩) (fun i => i ≤ xs.length ∧ idxB p xs 0 = idxB p (xs.drop i) i) (fun i => xs.length - i) 0 (by simp) (by (exact JW.Auto (by conv => lhs; reduce))) fun i ⟨hi, hn⟩ => ?_
  (repeat (first | refine zs rfl ?_ | refine zg rfl rfl rfl ?_ | refine zd ?_ | refine JK.fin ?_ | refine JK.ret ?_))
  refine JK.cond rfl (fun hc => ?_) (fun hc => ?_)
  · (simp only [↓cdL] at hc; try simp only [Ty.dflt, Int.toNat_natCast] at hc)
    have hi' : i < xs.length := by omega
    have hx := h (xs.getD i 0) (by rw [getD_nat xs hi']; exact List.getElem_mem hi')
    (repeat (first | refine zs rfl ?_ | refine zg rfl rfl rfl ?_ | refine zd ?_ | refine JK.fin ?_ | refine JK.ret ?_ | refine zc rfl (hx) rfl rfl ?_ | refine ze rfl (hx) rfl ?_ | refine zk rfl rfl (fun _ => hx) rfl rfl ?_))
    refine JK.cond rfl (fun hd => ?_) (fun hd => ?_)
    · (repeat (first | refine zs rfl ?_ | refine zg rfl rfl rfl ?_ | refine zd ?_ | refine JK.fin ?_ | refine JK.ret ?_))
      refine ⟨.inl rfl, _, _, rfl, trivial, ?_⟩
      rw [getD_nat xs hi'] at hd
      rw [hn, List.drop_eq_getElem_cons hi', idxB, if_pos hd]
    · (repeat (first | refine zs rfl ?_ | refine zg rfl rfl rfl ?_ | refine zd ?_ | refine JK.fin ?_ | refine JK.ret ?_))
      rw [getD_nat xs hi'] at hd
      refine ⟨i + 1, by (exact JW.Auto (by conv => lhs; reduce)), ⟨by omega, ?_⟩, by omega⟩
      rw [hn, List.drop_eq_getElem_cons hi', idxB, if_neg (by rw [hd]; simp)]
  · (simp only [↓cdL] at hc; try simp only [Ty.dflt, Int.toNat_natCast] at hc)
    (repeat (first | refine zs rfl ?_ | refine zg rfl rfl rfl ?_ | refine zd ?_ | refine JK.fin ?_ | refine JK.ret ?_))
    refine ⟨.inl rfl, _, _, rfl, trivial, ?_⟩
    obtain rfl : i = xs.length := by omega
    rw [hn, List.drop_length]; rfl
theorem fn62 {f : FuncId} {t1 : Ty} {x1 : t1.den} (xs : List Int) (p : Int → Bool) (h : ∀ x ∈ xs, Ox.Fn Try.prog f (.acons (vI x) (.acons (.val t1 x1) .anil)) (· = vB (p x))) :
    Ox.Fn Try.prog 62 (.acons (vL xs) (.acons (.fn f .anil (.acons (.val t1 x1) .anil)) .anil)) (· = vB (xs.any p)) := by
  refine Ox.Fn.intro xok Try.func62 rfl Try.call62 (Nat.le_of_ble_eq_true rfl) (fun E M0 up => ?_)
  refine JK.start ?_
  (repeat (first | refine zs rfl ?_ | refine zg rfl rfl rfl ?_ | refine zd ?_ | refine JK.fin ?_ | refine JK.ret ?_ | refine zc rfl (fn90 xs p h) rfl rfl ?_ | refine ze rfl (fn90 xs p h) rfl ?_ | refine zk rfl rfl (fun _ => fn90 xs p h) rfl rfl ?_))
  refine ⟨.inl rfl, _, _, rfl, trivial, ?_⟩
  refine congrArg vB ?_
  rw [Bool.eq_iff_iff, ← idxB_nonneg (p := p) (i := 0)]
  simp
def seE (P : Int) (l : List Pt) : Int := if ¬ (1 ≤ P ∧ P ≤ 1000) then 2 else if l.length < 1 ∨ l.length > 8 then 6 else if l.any (fun s => !decide (okPt P s)) = true then 3 else 0
theorem se_ok {P : Int} {l : List Pt} : seE P l = 0 ↔ (1 ≤ P ∧ P ≤ 1000) ∧ 1 ≤ l.length ∧ l.length ≤ 8 ∧ okP P l := by
  have e : l.any (fun s => !decide (okPt P s)) = true ↔ ¬ okP P l := by
    rw [List.any_eq_true]
    constructor
    · rintro ⟨s, hs, h⟩ ho
      have := ho s hs
      have : okPt P s := this
      simp [this] at h
    · intro h
      refine Classical.byContradiction fun hn => h fun s hs => ?_
      refine Classical.byContradiction fun hb => hn ⟨s, hs, ?_⟩
      have : ¬ okPt P s := hb
      simp [this]
  unfold seE
  split
  · rename_i h; exact ⟨fun h' => absurd h' (by decide), fun h' => absurd h'.1 h⟩
  · rename_i h
    split
    · rename_i h2; exact ⟨fun h' => absurd h' (by decide), fun h' => absurd h2 (by omega)⟩
    · rename_i h2
      split
      · rename_i h3; exact ⟨fun h' => absurd h' (by decide), fun h' => absurd h'.2.2.2 (e.1 h3)⟩
      · rename_i h3
        refine ⟨fun _ => ⟨Classical.not_not.1 h, by omega, by omega, Classical.byContradiction fun hb => h3 (e.2 hb)⟩, fun _ => rfl⟩
theorem fn59 (P : Int) (l : List Pt) : Ox.Fn Try.prog 59 (.acons (vI P) (.acons (vD l) .anil)) (· = vI (seE P l)) := by
  refine Ox.Fn.intro xok Try.func59 rfl Try.call59 (Nat.le_of_ble_eq_true rfl) (fun E M0 up => ?_)
  refine JK.start ?_
  refine JK.lenOf 1 rfl fun hlen => ?_
  replace hlen : l.length ≤ 9223372036854775807 := hlen.1
  have h1 := fn58 1 1000 (P :: List.nil)
  have e1 : decide (∀ x ∈ (P :: List.nil), 1 ≤ x ∧ x ≤ 1000) = decide (1 ≤ P ∧ P ≤ 1000) := decide_eq_decide.2 (by simp)
  rw [e1] at h1
  (repeat (first | refine zs rfl ?_ | refine zg rfl rfl rfl ?_ | refine zd ?_ | refine JK.fin ?_ | refine JK.ret ?_ | refine zc rfl (h1) rfl rfl ?_ | refine ze rfl (h1) rfl ?_ | refine zk rfl rfl (fun _ => h1) rfl rfl ?_))
  refine JK.cond rfl (fun hc => ?_) (fun hc => ?_)
  · (simp only [↓cdL] at hc; try simp only [Ty.dflt, Int.toNat_natCast] at hc)
    (repeat (first | refine zs rfl ?_ | refine zg rfl rfl rfl ?_ | refine zd ?_ | refine JK.fin ?_ | refine JK.ret ?_))
    refine ⟨.inl rfl, _, _, rfl, trivial, ?_⟩
    unfold seE; rw [if_pos hc]
  · (simp only [↓cdL] at hc; try simp only [Ty.dflt, Int.toNat_natCast] at hc)
    have hP : 1 ≤ P ∧ P ≤ 1000 := hc
    (repeat (first | refine zs rfl ?_ | refine zg rfl rfl rfl ?_ | refine zd ?_ | refine JK.fin ?_ | refine JK.ret ?_))
    refine JK.cond rfl (fun hd => ?_) (fun hd => ?_)
    · (simp only [↓cdL] at hd; try simp only [Ty.dflt, Int.toNat_natCast] at hd)
      (repeat (first | refine zs rfl ?_ | refine zg rfl rfl rfl ?_ | refine zd ?_ | refine JK.fin ?_ | refine JK.ret ?_))
      refine ⟨.inl rfl, _, _, rfl, trivial, ?_⟩
      unfold seE; rw [if_neg (by omega), if_pos (by omega)]
    · (simp only [↓cdL] at hd; try simp only [Ty.dflt, Int.toNat_natCast] at hd)
      have h2 := fn88 l (fun s => !decide (okPt P s)) (fun s _ => fn87 s P hP)
      (repeat (first | refine zs rfl ?_ | refine zg rfl rfl rfl ?_ | refine zd ?_ | refine JK.fin ?_ | refine JK.ret ?_ | refine zc rfl (h2) rfl rfl ?_ | refine ze rfl (h2) rfl ?_ | refine zk rfl rfl (fun _ => h2) rfl rfl ?_))
      refine JK.cond rfl (fun he => ?_) (fun he => ?_)
      · (repeat (first | refine zs rfl ?_ | refine zg rfl rfl rfl ?_ | refine zd ?_ | refine JK.fin ?_ | refine JK.ret ?_))
        refine ⟨.inl rfl, _, _, rfl, trivial, ?_⟩
        unfold seE; rw [if_neg (by omega), if_neg (by omega), if_pos he]
      · (repeat (first | refine zs rfl ?_ | refine zg rfl rfl rfl ?_ | refine zd ?_ | refine JK.fin ?_ | refine JK.ret ?_))
        refine ⟨.inl rfl, _, _, rfl, trivial, ?_⟩
        unfold seE; rw [if_neg (by omega), if_neg (by omega), if_neg (by rw [he]; simp)]
theorem fn21 (P : Int) (l : List Pt) : Ox.Fn Try.prog 21 (.acons (vS P l) .anil) (· = vI (seE P l)) := by
  refine Ox.Fn.intro xok Try.func21 rfl Try.call21 (Nat.le_of_ble_eq_true rfl) (fun E M0 up => ?_)
  refine JK.start ?_
  (repeat (first | refine zs rfl ?_ | refine zg rfl rfl rfl ?_ | refine zd ?_ | refine JK.fin ?_ | refine JK.ret ?_ | refine zc rfl (fn59 P l) rfl rfl ?_ | refine ze rfl (fn59 P l) rfl ?_ | refine zk rfl rfl (fun _ => fn59 P l) rfl rfl ?_))
  refine ⟨.inl rfl, _, _, rfl, trivial, ?_⟩
  rfl
theorem fn60 (P : Int) (s : Pt) : Ox.Fn Try.prog 60 (.acons (vI P) (.acons (vP s) .anil)) (· = vB (decide (okPt P s))) := by
  obtain ⟨a, b, _⟩ := s
  refine Ox.Fn.intro xok Try.func60 rfl Try.call60 (Nat.le_of_ble_eq_true rfl) (fun E M0 up => ?_)
  refine JK.start ?_
  (repeat (first | refine zs rfl ?_ | refine zg rfl rfl rfl ?_ | refine zd ?_ | refine JK.fin ?_ | refine JK.ret ?_))
  refine ⟨.inl rfl, _, _, rfl, trivial, ?_⟩
  refine congrArg vB ?_
  unfold okPt
  by_cases c1 : 0 ≤ a <;> by_cases c2 : a < P <;> by_cases c3 : 1 ≤ b <;> by_cases c4 : b ≤ 10000 <;> simp [c1, c2, c3, c4]
theorem fn17 (P : Int) (l : List Pt) : Ox.Fn Try.prog 17 (.acons (vS P l) .anil) (· = vB (decide (l.length > 15))) := by
  refine Ox.Fn.intro xok Try.func17 rfl Try.call17 (Nat.le_of_ble_eq_true rfl) (fun E M0 up => ?_)
  refine JK.start ?_
  refine JK.lenOf 0 rfl fun hlen => ?_
  replace hlen : l.length ≤ 9223372036854775807 := hlen.2.1.1
  (repeat (first | refine zs rfl ?_ | refine zg rfl rfl rfl ?_ | refine zd ?_ | refine JK.fin ?_ | refine JK.ret ?_))
  refine ⟨.inl rfl, _, _, rfl, trivial, ?_⟩
  simp; omega
theorem fn22 (P : Int) (l : List Pt) : Ox.Fn Try.prog 22 (.acons (vS P l) .anil) (· = vI (seE P l)) := by
  refine Ox.Fn.intro xok Try.func22 rfl Try.call22 (Nat.le_of_ble_eq_true rfl) (fun E M0 up => ?_)
  refine JK.start ?_
  refine JK.lenOf 0 rfl fun hlen => ?_
  replace hlen : l.length ≤ 9223372036854775807 := hlen.2.1.1
  (repeat (first | refine zs rfl ?_ | refine zg rfl rfl rfl ?_ | refine zd ?_ | refine JK.fin ?_ | refine JK.ret ?_))
  refine JK.cond rfl (fun hc => ?_) (fun hc => ?_)
  · (simp only [↓cdL] at hc; try simp only [Ty.dflt, Int.toNat_natCast] at hc)
    (repeat (first | refine zs rfl ?_ | refine zg rfl rfl rfl ?_ | refine zd ?_ | refine JK.fin ?_ | refine JK.ret ?_))
    refine ⟨.inl rfl, _, _, rfl, trivial, ?_⟩
    unfold seE; rw [if_pos (by omega)]
  · (simp only [↓cdL] at hc; try simp only [Ty.dflt, Int.toNat_natCast] at hc)
    (repeat (first | refine zs rfl ?_ | refine zg rfl rfl rfl ?_ | refine zd ?_ | refine JK.fin ?_ | refine JK.ret ?_))
    refine JK.cond rfl (fun hc2 => ?_) (fun hc2 => ?_)
    · (simp only [↓cdL] at hc2; try simp only [Ty.dflt, Int.toNat_natCast] at hc2)
      (repeat (first | refine zs rfl ?_ | refine zg rfl rfl rfl ?_ | refine zd ?_ | refine JK.fin ?_ | refine JK.ret ?_))
      refine ⟨.inl rfl, _, _, rfl, trivial, ?_⟩
      unfold seE; rw [if_neg (by omega), if_pos (by omega)]
    · (simp only [↓cdL] at hc2; try simp only [Ty.dflt, Int.toNat_natCast] at hc2)
      (repeat (first | refine zs rfl ?_ | refine zg rfl rfl rfl ?_ | refine zd ?_ | refine JK.fin ?_ | refine JK.ret ?_))
      refine JK.loop (fun i : Nat => ⟨[(1, .lf (.optr 0 [])), (3, vI (i : Int))], [(0, .cell seT (vS P l))], 1⟩) (fun i => i ≤ l.length ∧ ∀ s ∈ l.take i, okPt P s) (fun i => l.length - i) 0 (by simp) (by (exact JW.Auto (by conv => lhs; reduce))) fun i ⟨hi, hn⟩ => ?_
      (repeat (first | refine zs rfl ?_ | refine zg rfl rfl rfl ?_ | refine zd ?_ | refine JK.fin ?_ | refine JK.ret ?_))
      refine JK.cond rfl (fun hd => ?_) (fun hd => ?_)
      · (simp only [↓cdL] at hd; try simp only [Ty.dflt, Int.toNat_natCast] at hd)
        have hi' : i < l.length := by omega
        have e1 := fn60 P (l.getD i zP)
        have hmem : l.getD i zP ∈ l := by rw [getD_nat l hi']; exact List.getElem_mem hi'
        have htk : l.take (i + 1) = l.take i ++ [l.getD i zP] := by rw [List.take_succ, List.getElem?_eq_getElem hi', getD_nat l hi']; rfl
        (repeat (first | refine zs rfl ?_ | refine zg rfl rfl rfl ?_ | refine zd ?_ | refine JK.fin ?_ | refine JK.ret ?_ | refine zc rfl (e1) rfl rfl ?_ | refine ze rfl (e1) rfl ?_ | refine zk rfl rfl (fun _ => e1) rfl rfl ?_))
        refine JK.cond rfl (fun he => ?_) (fun he => ?_)
        · (simp only [↓cdL] at he; try simp only [Ty.dflt, Int.toNat_natCast] at he)
          (repeat (first | refine zs rfl ?_ | refine zg rfl rfl rfl ?_ | refine zd ?_ | refine JK.fin ?_ | refine JK.ret ?_))
          refine ⟨.inl rfl, _, _, rfl, trivial, ?_⟩
          unfold seE
          rw [if_neg (by omega), if_neg (by omega), if_pos]
          rw [List.any_eq_true]
          exact ⟨_, hmem, by simpa using he⟩
        · (simp only [↓cdL] at he; try simp only [Ty.dflt, Int.toNat_natCast] at he)
          (repeat (first | refine zs rfl ?_ | refine zg rfl rfl rfl ?_ | refine zd ?_ | refine JK.fin ?_ | refine JK.ret ?_))
          refine ⟨i + 1, by (exact JW.Auto (by conv => lhs; reduce)), ⟨by omega, fun s hs => ?_⟩, by omega⟩
          rw [htk] at hs
          rcases List.mem_append.1 hs with hs | hs
          · exact hn s hs
          · rw [List.mem_singleton.1 hs]; exact he
      · (simp only [↓cdL] at hd; try simp only [Ty.dflt, Int.toNat_natCast] at hd)
        (repeat (first | refine zs rfl ?_ | refine zg rfl rfl rfl ?_ | refine zd ?_ | refine JK.fin ?_ | refine JK.ret ?_))
        refine ⟨.inl rfl, _, _, rfl, trivial, ?_⟩
        obtain rfl : i = l.length := by omega
        rw [List.take_length] at hn
        exact congrArg vI (se_ok.2 ⟨by omega, by omega, by omega, hn⟩).symm
theorem fn35 (P : Int) (l : List Pt) : Ox.Fn Try.prog 35 (.acons (vS P l) .anil) (· = vB (decide (seE P l = 0 ∧ l.length > 6))) := by
  refine Ox.Fn.intro xok Try.func35 rfl Try.call35 (Nat.le_of_ble_eq_true rfl) (fun E M0 up => ?_)
  refine JK.start ?_
  refine JK.lenOf 0 rfl fun hlen => ?_
  replace hlen : l.length ≤ 9223372036854775807 := hlen.2.1.1
  (repeat (first | refine zs rfl ?_ | refine zg rfl rfl rfl ?_ | refine zd ?_ | refine JK.fin ?_ | refine JK.ret ?_ | refine zc rfl (fn22 P l) rfl rfl ?_ | refine ze rfl (fn22 P l) rfl ?_ | refine zk rfl rfl (fun _ => fn22 P l) rfl rfl ?_))
  refine ⟨.inl rfl, _, _, rfl, trivial, ?_⟩
  refine congrArg vB ?_
  rw [Bool.eq_iff_iff]
  by_cases h : seE P l = 0 <;> simp [h]
  omega
theorem fn50 (P : Int) (l : List Pt) : Ox.Fn Try.prog 50 (.acons (vS P l) .anil) (· = vB (decide (seE P l = 0))) := by
  refine Ox.Fn.intro xok Try.func50 rfl Try.call50 (Nat.le_of_ble_eq_true rfl) (fun E M0 up => ?_)
  refine JK.start ?_
  (repeat (first | refine zs rfl ?_ | refine zg rfl rfl rfl ?_ | refine zd ?_ | refine JK.fin ?_ | refine JK.ret ?_ | refine zc rfl (fn17 P l) rfl rfl ?_ | refine ze rfl (fn17 P l) rfl ?_ | refine zk rfl rfl (fun _ => fn17 P l) rfl rfl ?_ | refine zc rfl (fn22 P l) rfl rfl ?_ | refine ze rfl (fn22 P l) rfl ?_ | refine zk rfl rfl (fun _ => fn22 P l) rfl rfl ?_))
  refine ⟨.inl rfl, _, _, rfl, trivial, ?_⟩
  refine congrArg vB ?_
  rw [Bool.eq_iff_iff]
  by_cases h : seE P l = 0
  · have := (se_ok.1 h).2.2.1
    have h15 : ¬ l.length > 15 := by omega
    simp [h, h15]
  · simp [h]
theorem pt_bd {P : Int} {l : List Pt} (hl : okP P l) {n : Nat} (hn : n < l.length) : (0 ≤ (l.getD n (0, 0, ())).1 ∧ (l.getD n (0, 0, ())).1 < P) ∧ 1 ≤ (l.getD n (0, 0, ())).2.1 ∧ (l.getD n (0, 0, ())).2.1 ≤ 10000 := hl.get hn
theorem fn54 (P : Int) (l : List Pt) (n : Nat) (hP : 1 ≤ P ∧ P ≤ 1000) (hl : okP P l) (hn : n < l.length) : Ox.Fn Try.prog 54 (.acons (vS P l) (.acons (vI n) .anil)) (· = vI (eN P l n)) := by
  obtain ⟨h1, h2⟩ := pt_bd hl hn
  refine Ox.Fn.intro xok Try.func54 rfl Try.call54 (Nat.le_of_ble_eq_true rfl) (fun E M0 up => ?_)
  refine JK.start ?_
  (repeat (first | refine zs rfl ?_ | refine zg rfl rfl rfl ?_ | refine zd ?_ | refine JK.fin ?_ | refine JK.ret ?_))
  refine ⟨.inl rfl, _, _, rfl, trivial, ?_⟩
  rfl
theorem fn66 (P : Int) (l : List Pt) (n : Int) : Ox.Fn Try.prog 66 (.acons (vS P l) (.acons (vI n) .anil)) (· = vB (decide (0 ≤ n ∧ n < (l.length : Int)))) := by
  refine Ox.Fn.intro xok Try.func66 rfl Try.call66 (Nat.le_of_ble_eq_true rfl) (fun E M0 up => ?_)
  refine JK.start ?_
  refine JK.lenOf 0 rfl fun hlen => ?_
  replace hlen : l.length ≤ 9223372036854775807 := hlen.2.1.1
  (repeat (first | refine zs rfl ?_ | refine zg rfl rfl rfl ?_ | refine zd ?_ | refine JK.fin ?_ | refine JK.ret ?_))
  refine ⟨.inl rfl, _, _, rfl, trivial, ?_⟩
  by_cases h : 0 ≤ n <;> simp [h]
end Go.Proofs.Ytinehlphcckkmaa

namespace Go.Proofs.Ytinehlphcckkmaa
open Go Go.RowKit Ox Ox.Sh Ox.Se
abbrev arT : Ty := .arr 1000 (.int .i64)
abbrev shT : Ty := .cons seT (.cons arT (.cons (.int .i64) (.cons arT .nil)))
abbrev shW (P : Int) (l : List Pt) (ov : List Int) (pk : Int) (st : List Int) : shT.den := (mkS P l, ov, pk, st, ())
abbrev vHo (P : Int) (l : List Pt) (ov : List Int) (pk : Int) (st : List Int) : AV := .val (.ptr shT) (some (shW P l ov pk st))
abbrev ZA : List Int := arT.dflt
theorem ZA_eq : ZA = List.replicate 1000 0 := rfl
def tabL (f : Nat → Int) : List Int := (List.range 1000).map f
theorem tab_len (f : Nat → Int) : (tabL f).length = 1000 := by simp [tabL]
theorem tab_get (f : Nat → Int) {k : Nat} (h : k < 1000) : (tabL f).getD k 0 = f k := by
  unfold tabL
  rw [List.getD_eq_getElem?_getD, List.getElem?_map, List.getElem?_range h]; rfl
theorem tab_ext {f g : Nat → Int} (h : ∀ k, k < 1000 → f k = g k) : tabL f = tabL g := by
  unfold tabL
  exact List.map_congr_left fun k hk => h k (List.mem_range.1 hk)
theorem tab_set (f : Nat → Int) (k : Nat) (x : Int) : (tabL f).set k x = tabL fun v => if v = k then x else f v := by
  refine List.ext_getElem (by simp [tabL]) fun n h1 h2 => ?_
  rw [List.getElem_set]
  simp only [tabL, List.getElem_map, List.getElem_range]
  by_cases e : n = k
  · subst e; simp
  · rw [if_neg e, if_neg (fun h => e h.symm)]
theorem map_zero (N : Nat) : (List.range N).map (fun _ => (0 : Int)) = List.replicate N 0 := by
  refine List.ext_getElem (by simp) fun n h1 h2 => ?_
  simp
theorem tab_zero : tabL (fun _ => 0) = ZA := (map_zero 1000).trans ZA_eq.symm
theorem tab_ne {f : Nat → Int} : tabL f = ZA ↔ ∀ k, k < 1000 → f k = 0 := by
  constructor
  · intro h k hk
    have h2 : tabL f = tabL fun _ => 0 := h.trans tab_zero.symm
    have := congrArg (fun l => l.getD k 0) h2
    simp only [tab_get _ hk] at this
    exact this
  · exact fun h => (tab_ext h).trans tab_zero
theorem getD_setI {t : List Int} {i : Nat} (hi : i < t.length) (x : Int) (k : Nat) : (t.set i x).getD k 0 = if k = i then x else t.getD k 0 := by
  rw [List.getD_eq_getElem?_getD, List.getD_eq_getElem?_getD, List.getElem?_set]
  by_cases h : k = i
  · subst h; rw [if_pos rfl, if_pos rfl, if_pos hi]; rfl
  · rw [if_neg (fun e => h e.symm), if_neg h]
theorem tab_take (f : Nat → Int) {P : Nat} (hP : P ≤ 1000) : (tabL f).take P = (List.range P).map f := by
  unfold tabL
  rw [← List.map_take, List.take_range, Nat.min_eq_left hP]
section
variable {P : Int} {l : List Pt}
def cg (P : Int) (l : List Pt) (i : Nat) (v : Nat) : Int := if lO l i % P = 0 then 0 else (if aT l i = v then 1 else 0) - if eN P l i = v then 1 else 0
def chg (P : Int) (l : List Pt) (k : Nat) (v : Nat) : Int := sm (fun i => cg P l i v) (List.range k)
def o0 (P : Int) (l : List Pt) (k : Nat) : Int := sm (pW P l (-1)) (List.range k)
theorem sm_range (g : Nat → Int) (k : Nat) : sm g (List.range (k + 1)) = sm g (List.range k) + g k := by
  rw [List.range_succ, sm_app]; simp [sm]
theorem chg_succ (k v : Nat) : chg P l (k + 1) v = chg P l k v + cg P l k v := sm_range _ _
theorem o0_succ (k : Nat) : o0 P l (k + 1) = o0 P l k + pW P l (-1) k := sm_range _ _
theorem cg_bd (i v : Nat) : -1 ≤ cg P l i v ∧ cg P l i v ≤ 1 := by
  unfold cg
  split
  · omega
  · split <;> split <;> omega
theorem chg_bd (v : Nat) : ∀ k : Nat, -(k : Int) ≤ chg P l k v ∧ chg P l k v ≤ k
  | 0 => by have : chg P l 0 v = 0 := rfl; omega
  | k + 1 => by
    have h1 := chg_bd v k
    have h2 := cg_bd (P := P) (l := l) k v
    rw [chg_succ]
    push_cast
    omega
theorem LA1 (hP : 1 ≤ P) (hl : okP P l) {i : Nat} (hi : i < l.length) : LA P l (-1) i = aT l i := by
  have := (hl.get hi).1
  unfold LA
  rw [show aT l i - -1 - 1 = aT l i by omega, Int.emod_eq_of_lt (by omega) (by omega)]
theorem LE1 (hP : 1 ≤ P) (i : Nat) : Se.LE P l (-1) i = eN P l i := by
  have : 0 ≤ eN P l i ∧ eN P l i < P := mod_bd hP _
  unfold Se.LE
  rw [show eN P l i - -1 - 1 = eN P l i by omega, Int.emod_eq_of_lt (by omega) (by omega)]
theorem pW1 (hP : 1 ≤ P) (hl : okP P l) {i : Nat} (hi : i < l.length) : pW P l (-1) i = lO l i / P + if lO l i % P ≠ 0 ∧ eN P l i < aT l i then 1 else 0 := by
  have ha := (hl.get hi).1
  have h1 := Int.emod_add_mul_ediv (lO l i) P
  have h2 := mod_bd hP (lO l i)
  unfold pW eN
  rw [LA1 hP hl hi]
  generalize aT l i = A at *
  generalize lO l i / P = q at *
  generalize lO l i % P = r at *
  have h3 : A + lO l i = (A + r) + P * q := by omega
  rw [h3, Int.add_mul_ediv_left _ _ (by omega : P ≠ 0), Int.add_mul_emod_self_left]
  by_cases h : A + r < P
  · rw [Int.ediv_eq_zero_of_lt (by omega) h, Int.emod_eq_of_lt (by omega) h, if_neg (by omega)]; omega
  · have e1 : (A + r) % P = A + r - P := by
      rw [← Int.sub_emod_right, Int.emod_eq_of_lt (by omega) (by omega)]
    have e2 : (A + r) / P = 1 := by
      have : A + r = (A + r - P) + P * 1 := by omega
      rw [this, Int.add_mul_ediv_left _ _ (by omega : P ≠ 0), Int.ediv_eq_zero_of_lt (by omega) (by omega)]; rfl
    rw [e1, e2, if_pos (by omega)]; omega
theorem same_end (hP : 1 ≤ P) (hl : okP P l) {i : Nat} (hi : i < l.length) (h : lO l i % P = 0) : eN P l i = aT l i := by
  have ha := (hl.get hi).1
  unfold eN
  rw [Int.add_emod, h, Int.add_zero, Int.emod_emod_of_dvd _ (Int.dvd_refl P), Int.emod_eq_of_lt ha.1 ha.2]
theorem pW_bd (hP : 1 ≤ P) (hl : okP P l) {i : Nat} (hi : i < l.length) : 0 ≤ pW P l (-1) i ∧ pW P l (-1) i ≤ 10001 := by
  rw [pW1 hP hl hi]
  have h1 := (hl.get hi).2
  have h2 : 0 ≤ lO l i / P := Int.ediv_nonneg (by omega) (by omega)
  have h3 : lO l i / P ≤ lO l i := Int.ediv_le_self _ (by omega)
  split <;> omega
theorem o0_bd (hP : 1 ≤ P) (hl : okP P l) : ∀ k : Nat, k ≤ l.length → 0 ≤ o0 P l k ∧ o0 P l k ≤ 10001 * k
  | 0, _ => by have : o0 P l 0 = 0 := rfl; omega
  | k + 1, h => by
    have h1 := o0_bd hP hl k (by omega)
    have h2 := pW_bd hP hl (i := k) (by omega)
    rw [o0_succ]
    push_cast
    omega
def nw (P : Int) (l : List Pt) (u : Nat) : Int := o0 P l l.length + sm (fun i => (if aT l i < u then 1 else 0) - if eN P l i < u then 1 else 0) (List.range l.length)
theorem sm_cong {f g : Nat → Int} {o : List Nat} (h : ∀ n ∈ o, f n = g n) : sm f o = sm g o := by
  unfold sm; rw [List.map_congr_left h]
theorem nw_zero (hP : 1 ≤ P) (hl : okP P l) : nw P l 0 = o0 P l l.length := by
  unfold nw
  have e : sm (fun i => (if aT l i < ((0 : Nat) : Int) then (1 : Int) else 0) - if eN P l i < ((0 : Nat) : Int) then 1 else 0) (List.range l.length) = sm (fun _ => 0) (List.range l.length) := sm_cong fun i hi => by
    have h1 := (hl.get (List.mem_range.1 hi)).1
    have h2 : 0 ≤ eN P l i ∧ eN P l i < P := mod_bd hP _
    rw [if_neg (by omega), if_neg (by omega)]; rfl
  rw [e]
  have : ∀ o : List Nat, sm (fun _ => 0) o = 0 := fun o => by induction o with
    | nil => rfl
    | cons a o ih => rw [sm_cons, ih]; rfl
  rw [this]; omega
theorem nw_succ (hP : 1 ≤ P) (hl : okP P l) (u : Nat) : nw P l (u + 1) = nw P l u + chg P l l.length u := by
  unfold nw chg
  rw [Int.add_assoc, ← sm_add]
  congr 1
  refine sm_cong fun i hi => ?_
  unfold cg
  by_cases hr : lO l i % P = 0
  · rw [if_pos hr, same_end hP hl (List.mem_range.1 hi) hr]
    split <;> split <;> omega
  · rw [if_neg hr]
    push_cast
    split <;> split <;> split <;> split <;> (try split) <;> (try split) <;> omega
theorem nw_ov (hP : 1 ≤ P) (hl : okP P l) {u : Nat} (hu : (u : Int) < P) : nw P l (u + 1) = ov P l (u : Int) := by
  rw [ov_lin (c := -1) hP, show (u : Int) - -1 - 1 = u by omega, Int.emod_eq_of_lt (by omega) hu, ← cA_sm, ← cA_sm]
  unfold nw o0
  rw [sm_sub]
  have e1 : sm (fun i => if aT l i < ((u + 1 : Nat) : Int) then (1 : Int) else 0) (List.range l.length) = sm (fun n => if LA P l (-1) n ≤ (u : Int) then 1 else 0) (List.range l.length) := sm_cong fun i hi => by
    rw [LA1 hP hl (List.mem_range.1 hi)]
    push_cast
    split <;> split <;> omega
  have e2 : sm (fun i => if eN P l i < ((u + 1 : Nat) : Int) then (1 : Int) else 0) (List.range l.length) = sm (fun n => if Se.LE P l (-1) n ≤ (u : Int) then 1 else 0) (List.range l.length) := sm_cong fun i hi => by
    rw [LE1 hP]
    push_cast
    split <;> split <;> omega
  rw [e1, e2]
  omega
theorem ov_bd (hP : 1 ≤ P) (hl : okP P l) (u : Int) : 0 ≤ ov P l u ∧ ov P l u ≤ 10001 * l.length := by
  have key : ∀ k : Nat, k ≤ l.length → 0 ≤ sm (ov1 P l u) (List.range k) ∧ sm (ov1 P l u) (List.range k) ≤ 10001 * k := by
    intro k
    induction k with
    | zero => intro _; have : sm (ov1 P l u) (List.range 0) = 0 := rfl; omega
    | succ k ih =>
      intro h
      have h0 := ih (by omega)
      have h1 := (hl.get (n := k) (by omega)).2
      have h2 : 0 ≤ lO l k / P := Int.ediv_nonneg (by omega) (by omega)
      have h3 : lO l k / P ≤ lO l k := Int.ediv_le_self _ (by omega)
      rw [sm_range]
      unfold ov1 at h0 ⊢
      push_cast
      split <;> omega
  exact key l.length (Nat.le_refl _)
theorem nw_bd (hP : 1 ≤ P) (hl : okP P l) {u : Nat} (hu : (u : Int) ≤ P) : 0 ≤ nw P l u ∧ nw P l u ≤ 10001 * l.length := by
  cases u with
  | zero =>
    rw [nw_zero hP hl]
    exact o0_bd hP hl _ (Nat.le_refl _)
  | succ u =>
    rw [nw_ov hP hl (by omega)]
    exact ov_bd hP hl _
def ovS (P : Int) (l : List Pt) (u : Nat) : List Int := tabL fun v => if v < u then ov P l (v : Int) else if v = 0 then o0 P l l.length else 0
def ovA (P : Int) (l : List Pt) : List Int := tabL fun v => if (v : Int) < P then ov P l (v : Int) else 0
theorem ovS_zero : ovS P l 0 = ZA.set 0 (o0 P l l.length) := by
  have h : (tabL fun _ => 0).set 0 (o0 P l l.length) = ZA.set 0 (o0 P l l.length) := congrArg (fun L => List.set L 0 (o0 P l l.length)) tab_zero
  refine Eq.trans ?_ h
  rw [tab_set]
  exact tab_ext fun k _ => by simp
theorem ovS_succ (hP : 1 ≤ P) (hl : okP P l) {u : Nat} (hu : (u : Int) < P) : ovS P l (u + 1) = (ovS P l u).set u (nw P l (u + 1)) := by
  unfold ovS
  rw [tab_set, nw_ov hP hl hu]
  refine tab_ext fun k _ => ?_
  by_cases e : k = u
  · subst e; rw [if_pos (by omega), if_pos rfl]
  · rw [if_neg e]
    by_cases h : k < u
    · rw [if_pos (by omega), if_pos h]
    · rw [if_neg (by omega), if_neg h]
theorem ovS_end (hP : 1 ≤ P) : ovS P l P.toNat = ovA P l := tab_ext fun k _ => by
  by_cases h : (k : Int) < P
  · rw [if_pos (by omega), if_pos h]
  · rw [if_neg (by omega), if_neg h, if_neg (by omega)]
def chgL (P : Int) (l : List Pt) (k : Nat) : List Int := tabL (chg P l k)
theorem chgL_zero : chgL P l 0 = ZA := (tab_ext fun k _ => rfl).trans tab_zero
theorem chgL_step (hP : 1 ≤ P) (hP2 : P ≤ 1000) (hl : okP P l) {i : Nat} (hi : i < l.length) (hr : lO l i % P ≠ 0) {X : List Int} (hX : X = (chgL P l i).set (aT l i).toNat (chg P l i (aT l i).toNat + 1)) :
    X.set (eN P l i).toNat (X.getD (eN P l i).toNat 0 - 1) = chgL P l (i + 1) := by
  have ha := (hl.get hi).1
  have he : 0 ≤ eN P l i ∧ eN P l i < P := mod_bd hP _
  rw [hX]
  unfold chgL
  rw [tab_set, tab_get _ (by omega), tab_set]
  refine tab_ext fun k hk => ?_
  rw [chg_succ]
  unfold cg
  rw [if_neg hr]
  by_cases h1 : k = (eN P l i).toNat
  · rw [if_pos h1]
    by_cases h2 : (eN P l i).toNat = (aT l i).toNat
    · rw [if_pos h2, if_pos (by omega), if_pos (by omega), h1, h2]; omega
    · rw [if_neg h2, if_neg (by omega), if_pos (by omega), h1]; omega
  · rw [if_neg h1]
    by_cases h2 : k = (aT l i).toNat
    · rw [if_pos h2, if_pos (by omega), if_neg (by omega), h2]; omega
    · rw [if_neg h2, if_neg (by omega), if_neg (by omega)]; omega
theorem chgL_same {i : Nat} (hr : lO l i % P = 0) : chgL P l (i + 1) = chgL P l i := tab_ext fun k _ => by
  rw [chg_succ]; unfold cg; rw [if_pos hr]; omega
theorem fold_max : ∀ (L : List Int) (a : Int), a ≤ L.foldl Max.max a ∧ (∀ x ∈ L, x ≤ L.foldl Max.max a) ∧ (L.foldl Max.max a = a ∨ L.foldl Max.max a ∈ L)
  | [], a => ⟨Int.le_refl _, (fun x h => by cases h), Or.inl rfl⟩
  | y :: L, a => by
    rw [List.foldl_cons]
    obtain ⟨h1, h2, h3⟩ := fold_max L (Max.max a y)
    generalize L.foldl Max.max (Max.max a y) = m at *
    refine ⟨by omega, fun x hx => ?_, ?_⟩
    · rcases List.mem_cons.1 hx with rfl | hx
      · omega
      · exact h2 x hx
    · rcases h3 with h3 | h3
      · rcases Int.le_total a y with h | h
        · exact Or.inr (List.mem_cons.2 (Or.inl (by omega)))
        · exact Or.inl (by omega)
      · exact Or.inr (List.mem_cons_of_mem _ h3)
theorem maxL_spec {xs : List Int} (h : xs ≠ []) : maxL xs ∈ xs ∧ ∀ x ∈ xs, x ≤ maxL xs := by
  cases xs with
  | nil => exact absurd rfl h
  | cons a r =>
    obtain ⟨h1, h2, h3⟩ := fold_max r a
    refine ⟨?_, fun x hx => ?_⟩
    · rcases h3 with h3 | h3
      · exact List.mem_cons.2 (Or.inl h3)
      · exact List.mem_cons_of_mem _ h3
    · rcases List.mem_cons.1 hx with rfl | hx
      · exact h1
      · exact h2 x hx
theorem peak_eq (hP : 1 ≤ P) (hP2 : P ≤ 1000) : maxL ((ovA P l).take P.toNat) = pkV P l := by
  unfold ovA
  rw [tab_take _ (by omega)]
  have hne : (List.range P.toNat).map (fun v : Nat => if (v : Int) < P then ov P l (v : Int) else 0) ≠ [] := by
    intro h
    have := congrArg List.length h
    simp at this
    omega
  obtain ⟨h1, h2⟩ := maxL_spec hne
  generalize maxL ((List.range P.toNat).map (fun v : Nat => if (v : Int) < P then ov P l (v : Int) else 0)) = m at h1 h2 ⊢
  obtain ⟨v, hv, rfl⟩ := List.mem_map.1 h1
  have hv' := List.mem_range.1 hv
  rw [if_pos (by omega)] at h2 ⊢
  have hf := pk_full (l := l) hP
  have h3 := h2 (ov P l (pkA P l : Int)) (List.mem_map.2 ⟨pkA P l, List.mem_range.2 (by have := hf.1; omega), by rw [if_pos hf.1.2]⟩)
  have h4 := hf.2 v (by omega) (by omega)
  unfold pkV
  omega
theorem peak_zero (hP : 1 ≤ P) (hP2 : P ≤ 1000) (h : ovA P l = ZA) : pkV P l = 0 := by
  have hf := (pk_full (l := l) hP).1
  have := tab_ne.1 h (pkA P l) (by omega)
  rwa [if_pos hf.2] at this
def stS (P : Int) (l : List Pt) (u : Nat) : List Int := tabL fun v => if v < u then (fcn P l v : Int) else 0
def stT (P : Int) (l : List Pt) (u : Nat) : List Int := tabL fun v => if (v : Int) < P then (if v < u then (stN P l v : Int) else fcn P l v) else 0
def stA (P : Int) (l : List Pt) : List Int := tabL fun v => if (v : Int) < P then (stN P l v : Int) else 0
theorem stS_zero : stS P l 0 = ZA := (tab_ext fun k _ => by simp).trans tab_zero
theorem stS_succ (u : Nat) : stS P l (u + 1) = (stS P l u).set u (fcn P l u : Int) := by
  unfold stS
  rw [tab_set]
  refine tab_ext fun k _ => ?_
  by_cases e : k = u
  · subst e; rw [if_pos (by omega), if_pos rfl]
  · rw [if_neg e]
    by_cases h : k < u
    · rw [if_pos (by omega), if_pos h]
    · rw [if_neg (by omega), if_neg h]
theorem stT_zero (hP : 1 ≤ P) : stS P l P.toNat = stT P l 0 := tab_ext fun k _ => by
  by_cases h : (k : Int) < P
  · rw [if_pos (by omega), if_pos h, if_neg (by omega)]
  · rw [if_neg (by omega), if_neg h]
theorem stT_get {u : Nat} (hu : (u : Int) < P) (hP2 : P ≤ 1000) : (stT P l u).getD u 0 = fcn P l u := by
  unfold stT
  rw [tab_get _ (by omega), if_pos hu, if_neg (by omega)]
theorem stT_hit {u : Nat} (hu : (u : Int) < P) (h : fcn P l u = fcn P l P.toNat) : stT P l (u + 1) = (stT P l u).set u 0 := by
  unfold stT
  rw [tab_set]
  refine tab_ext fun k _ => ?_
  by_cases e : k = u
  · subst e; rw [if_pos hu, if_pos (by omega), if_pos rfl]; unfold stN; rw [if_pos h]; rfl
  · rw [if_neg e]
    by_cases h : (k : Int) < P
    · rw [if_pos h, if_pos h]
      by_cases h2 : k < u
      · rw [if_pos (by omega), if_pos h2]
      · rw [if_neg (by omega), if_neg h2]
    · rw [if_neg h, if_neg h]
theorem stT_miss {u : Nat} (h : fcn P l u ≠ fcn P l P.toNat) : stT P l (u + 1) = stT P l u := tab_ext fun k _ => by
  by_cases h1 : (k : Int) < P
  · rw [if_pos h1, if_pos h1]
    by_cases e : k = u
    · subst e; rw [if_pos (by omega), if_neg (by omega)]; unfold stN; rw [if_neg h]
    · by_cases h2 : k < u
      · rw [if_pos (by omega), if_pos h2]
      · rw [if_neg (by omega), if_neg h2]
  · rw [if_neg h1, if_neg h1]
theorem stT_end (hP : 1 ≤ P) : stT P l P.toNat = stA P l := tab_ext fun k _ => by
  by_cases h : (k : Int) < P
  · rw [if_pos h, if_pos h, if_pos (by omega)]
  · rw [if_neg h, if_neg h]
theorem fcn_bd (u : Nat) : fcn P l u ≤ u := by
  have := List.countP_le_length (p := flB P l) (l := List.range u)
  rw [List.length_range] at this
  exact this
theorem pkV_def : ov P l (pkA P l : Int) = pkV P l := rfl
theorem o0_zero : o0 P l 0 = 0 := rfl
theorem chgL_get (k : Nat) {v : Nat} (h : v < 1000) : (chgL P l k).getD v 0 = chg P l k v := tab_get _ h
theorem chgL_len (k : Nat) : (chgL P l k).length = 1000 := tab_len _
theorem ovS_len (u : Nat) : (ovS P l u).length = 1000 := tab_len _
theorem ovA_len : (ovA P l).length = 1000 := tab_len _
theorem ovA_get {v : Nat} (h : v < 1000) : (ovA P l).getD v 0 = if (v : Int) < P then ov P l (v : Int) else 0 := tab_get _ h
theorem stS_len (u : Nat) : (stS P l u).length = 1000 := tab_len _
theorem stT_len (u : Nat) : (stT P l u).length = 1000 := tab_len _
theorem stA_len : (stA P l).length = 1000 := tab_len _
theorem stA_get {v : Nat} (h : v < 1000) : (stA P l).getD v 0 = if (v : Int) < P then (stN P l v : Int) else 0 := tab_get _ h
abbrev shV (P : Int) (l : List Pt) : shT.den := shW P l (ovA P l) (pkV P l) (stA P l)
abbrev vH (P : Int) (l : List Pt) : AV := .val (.ptr shT) (some (shV P l))
end
end Go.Proofs.Ytinehlphcckkmaa

namespace Go.Proofs.Ytinehlphcckkmaa
open Go Go.RowKit Ox Ox.Sh Ox.Se
attribute [local irreducible] JC JL JK JW
attribute [local irreducible] ovS ovA chgL stS stT stA tabL nw o0 chg
theorem eqA : EqT Try.prog arT 92 := .of (by decide +kernel)
theorem fn91 (P : Int) (l : List Pt) (ov : List Int) (pk : Int) (st : List Int) (n : Nat) (hP : 1 ≤ P ∧ P ≤ 1000) (hl : okP P l) (hn : n < l.length) : Ox.Fn Try.prog 91 (.acons (vHo P l ov pk st) (.acons (vI n) .anil)) (· = vI (eN P l n)) := by
  obtain ⟨h1, h2⟩ := pt_bd hl hn
  refine Ox.Fn.intro xok Try.func91 rfl Try.call91 (Nat.le_of_ble_eq_true rfl) (fun E M0 up => ?_)
  refine JK.start ?_
  (repeat (first | refine zs rfl ?_ | refine zg rfl rfl rfl ?_ | refine zd ?_ | refine JK.fin ?_ | refine JK.ret ?_ | refine zeq eqA rfl rfl rfl ?_ | refine zne eqA rfl rfl rfl ?_ | refine zeqg eqA rfl rfl rfl rfl ?_ | refine zneg eqA rfl rfl rfl rfl ?_))
  refine ⟨.inl rfl, _, _, rfl, trivial, ?_⟩
  rfl
set_option maxHeartbeats 4000000 in
theorem fn89 (P : Int) (l : List Pt) (hz : seE P l = 0) : Ox.Fn Try.prog 89 (.acons (vS P l) .anil) (· = vH P l) := by
  obtain ⟨hP, h1, h8, hl⟩ := se_ok.1 hz
  refine Ox.Fn.intro xok Try.func89 rfl Try.call89 (Nat.le_of_ble_eq_true rfl) (fun E M0 up => ?_)
  refine JK.start ?_
  (repeat (first | refine zs rfl ?_ | refine zg rfl rfl rfl ?_ | refine zd ?_ | refine JK.fin ?_ | refine JK.ret ?_ | refine zeq eqA rfl rfl rfl ?_ | refine zne eqA rfl rfl rfl ?_ | refine zeqg eqA rfl rfl rfl rfl ?_ | refine zneg eqA rfl rfl rfl rfl ?_))
  refine JK.loop (fun i : Nat => ⟨[(1, .lf (.optr 0 [])), (3, .lf (.optr 1 [])), (4, .lf (.optr 2 [])), (5, .lf (.optr 3 [])), (19, vD l), (20, vI l.length), (21, vI (i : Int))], [(0, .cell seT (vS P l)), (1, .cell shT (.val shT (shW P l (ZA.set 0 (o0 P l i)) 0 ZA))), (2, .cell arT (.val arT ZA)), (3, .cell arT (.val arT (chgL P l i)))], 4⟩)
    (fun i => i ≤ l.length) (fun i => l.length - i) 0 (Nat.zero_le _) ?_ fun i hi => ?_
  · have e1 : ZA.set 0 (o0 P l 0) = ZA := (congrArg (fun z => ZA.set 0 z) o0_zero).trans <| (congrArg (fun L => List.set L 0 (0 : Int)) tab_zero.symm).trans ((tab_set _ _ _).trans ((tab_ext fun k _ => by simp).trans tab_zero))
    rw [e1, chgL_zero]
    (exact JW.Auto (by conv => lhs; reduce))
  · have hob := o0_bd hP.1 hl i hi
    have hcb := fun v => chg_bd (P := P) (l := l) v i
    have hg : ∀ v : Nat, v < 1000 → (chgL P l i).getD v 0 = chg P l i v := fun v hv => chgL_get i hv
    have hcl : (chgL P l i).length = 1000 := chgL_len i
    have hz0 : (ZA.set 0 (o0 P l i)).getD 0 0 = o0 P l i := rfl
    have hz0b : (ZA.set 0 (o0 P l i)).getD (Int.toNat 0) 0 = o0 P l i := rfl
    have hstep := fun (h : i < l.length) (hr : lO l i % P ≠ 0) => chgL_step (X := (chgL P l i).set (aT l i).toNat (chg P l i (aT l i).toNat + 1)) hP.1 hP.2 hl h hr rfl
    have hsame := fun (hr : lO l i % P = 0) => chgL_same (P := P) (l := l) (i := i) hr
    have hos := fun (h : i < l.length) => (o0_succ (P := P) (l := l) i).trans (congrArg (fun z => o0 P l i + z) (pW1 hP.1 hl h))
    (repeat (first | refine zs rfl ?_ | refine zg rfl rfl rfl ?_ | refine zd ?_ | refine JK.fin ?_ | refine JK.ret ?_ | refine zeq eqA rfl rfl rfl ?_ | refine zne eqA rfl rfl rfl ?_ | refine zeqg eqA rfl rfl rfl rfl ?_ | refine zneg eqA rfl rfl rfl rfl ?_))
    refine JK.cond rfl (fun hc => ?_) (fun hc => ?_)
    · (simp only [↓cdL] at hc; try simp only [Ty.dflt, Int.toNat_natCast] at hc)
      have hi' : i < l.length := by omega
      obtain ⟨b1, b2⟩ := pt_bd hl hi'
      have c91 := fn91 P l (ZA.set 0 (o0 P l i)) 0 ZA i hP hl hi'
      have hre : eN P l i = ((l.getD i (0, 0, ())).1 + (l.getD i (0, 0, ())).2.1) % P := rfl
      have heb : 0 ≤ eN P l i ∧ eN P l i < P := mod_bd hP.1 _
      have hzs : ∀ y, (ZA.set 0 (o0 P l i)).set 0 y = ZA.set 0 y := fun y => List.set_set ..
      have hzl : (ZA.set 0 (o0 P l i)).length = 1000 := by rw [List.length_set]; exact (congrArg List.length tab_zero.symm).trans (tab_len _)
      generalize ZA.set 0 (o0 P l i) = X at c91 hz0 hz0b hzs hzl ⊢
      generalize chgL P l i = C at hg hcl hstep hsame ⊢
      replace hos := hos hi'
      replace hstep := hstep hi'
      have ea : aT l i = (l.getD i (0, 0, ())).1 := rfl
      have eb : lO l i = (l.getD i (0, 0, ())).2.1 := rfl
      rw [ea, eb] at hstep hos
      rw [eb] at hsame
      (repeat (first | refine zs rfl ?_ | refine zg rfl rfl rfl ?_ | refine JK.fin ?_ | refine JK.ret ?_ | refine zeq eqA rfl rfl rfl ?_ | refine zne eqA rfl rfl rfl ?_ | refine zeqg eqA rfl rfl rfl rfl ?_ | refine zneg eqA rfl rfl rfl rfl ?_ | refine zc rfl (c91) rfl rfl ?_ | refine ze rfl (c91) rfl ?_ | refine zk rfl rfl (fun _ => c91) rfl rfl ?_))
      refine JK.weak (s' := ⟨[(1, .lf (.optr 0 [])), (3, .lf (.optr 1 [])), (4, .lf (.optr 2 [])), (5, .lf (.optr 3 [])), (7, .lf (.optr 4 [])), (8, vI (eN P l i)), (19, vD l), (20, vI l.length), (21, vI (i : Int))], [(0, .cell seT (vS P l)), (1, .cell shT (.val shT (shW P l X 0 ZA))), (2, .cell arT (.val arT ZA)), (3, .cell arT (.val arT C)), (4, .cell ptT (vP (l.getD i (0, 0, ()))))], 5⟩) (by (exact JW.Auto (by conv => lhs; reduce))) ?_
      generalize l.getD i (0, 0, ()) = s at b1 b2 hre hstep hsame hos ⊢
      obtain ⟨a, b, _⟩ := s
      dsimp only at b1 b2 hre hstep hsame hos ⊢
      have hbp : 0 ≤ b / P := Int.ediv_nonneg (by omega) (by omega)
      have hbp2 : b / P ≤ b := Int.ediv_le_self _ (by omega)
      refine JK.drawTo xk (Try.f89.body.getD .skip) ⟨[(1, .lf (.optr 0 [])), (3, .lf (.optr 1 [])), (4, .lf (.optr 2 [])), (5, .lf (.optr 3 [])), (7, .lf (.optr 4 [])), (8, vI (eN P l i)), (19, vD l), (20, vI l.length), (21, vI (i : Int))], [(0, .cell seT (vS P l)), (1, .cell shT (.val shT (shW P l (X.set 0 (X.getD 0 0 + b / P)) 0 ZA))), (2, .cell arT (.val arT ZA)), (3, .cell arT (.val arT C)), (4, .cell ptT (vP (a, b, ())))], 5⟩ rfl 15 rfl ?_ ?_
      · (refine JF.First 0 xk rfl rfl ?_; refine JF.First 1 xk rfl rfl ?_; refine JF.First 2 xk rfl rfl ?_; refine JF.First 3 xk rfl rfl ?_; refine JF.First 5 xk rfl rfl ?_; refine JF.First 7 xk rfl rfl ?_; refine JF.First 11 xk rfl rfl ?_; refine JF.First 12 xk rfl rfl ?_; refine JF.Float 4 xk rfl rfl ?_; refine JF.Float 6 xk rfl rfl ?_; refine JF.Float 8 xk rfl rfl ?_; refine JF.Float 9 xk rfl rfl ?_; refine JF.Float 10 xk rfl rfl ?_; refine JF.Float 13 xk rfl rfl ?_; refine JF.Branch 14 [] xk ?_ ?_; (focus (repeat (first | exact StF.nil | refine StF.One rfl rfl rfl ?_))); refine (BrF.one rfl rfl ?_ BrF.nil); (· (first | refine JL.Q1 xk rfl rfl ?_ | refine JL.G1 xk rfl rfl rfl ?_ | refine JL.M1 xk rfl rfl ?_ | refine JL.M0 xk rfl ?_ | refine JL.Q0 xk rfl ?_ | refine JL.EqQ eqA rfl rfl rfl ?_ | refine JL.NeQ eqA rfl rfl rfl ?_); refine JL.finN ?_; refine JF.Done xk StF.nil ?_; ((exact JW.Auto (by conv => lhs; reduce)))))
      · rw [hzs, hz0]
        (repeat (first | refine zs rfl ?_ | refine zg rfl rfl rfl ?_ | refine zd ?_ | refine JK.fin ?_ | refine JK.ret ?_ | refine zeq eqA rfl rfl rfl ?_ | refine zne eqA rfl rfl rfl ?_ | refine zeqg eqA rfl rfl rfl rfl ?_ | refine zneg eqA rfl rfl rfl rfl ?_))
        refine JK.cond rfl (fun hr => ?_) (fun hr => ?_)
        · (simp only [↓cdL] at hr; try simp only [Ty.dflt, Int.toNat_natCast] at hr)
          (repeat (first | refine zs rfl ?_ | refine zg rfl rfl rfl ?_ | refine zd ?_ | refine JK.fin ?_ | refine JK.ret ?_ | refine zeq eqA rfl rfl rfl ?_ | refine zne eqA rfl rfl rfl ?_ | refine zeqg eqA rfl rfl rfl rfl ?_ | refine zneg eqA rfl rfl rfl rfl ?_))
          refine ⟨i + 1, ?_, by omega, by omega⟩
          rw [hsame hr, hos, if_neg (by omega), Int.add_zero]
          (exact JW.Auto (by conv => lhs; reduce))
        · (simp only [↓cdL] at hr; try simp only [Ty.dflt, Int.toNat_natCast] at hr)
          replace hstep := hstep hr
          rw [← hg _ (by omega)] at hstep
          have hga := hg a.toNat (by omega)
          have hba := hcb a.toNat
          have hbe := hcb (eN P l i).toNat
          have hge : ((C.set a.toNat (C.getD a.toNat 0 + 1)).getD (eN P l i).toNat 0) = if (eN P l i).toNat = a.toNat then chg P l i a.toNat + 1 else chg P l i (eN P l i).toNat := by
            rw [getD_setI (by omega), hga, hg _ (by omega)]
          have hle : (C.set a.toNat (C.getD a.toNat 0 + 1)).length = 1000 := by rw [List.length_set]; exact hcl
          have hgb : -9 ≤ (C.set a.toNat (C.getD a.toNat 0 + 1)).getD (eN P l i).toNat 0 ∧ (C.set a.toNat (C.getD a.toNat 0 + 1)).getD (eN P l i).toNat 0 ≤ 9 := by
            rw [hge]; split <;> omega
          clear hge
          generalize eN P l i = e at *
          (repeat (first | refine zs rfl ?_ | refine zg rfl rfl rfl ?_ | refine zd ?_ | refine JK.fin ?_ | refine JK.ret ?_ | refine zeq eqA rfl rfl rfl ?_ | refine zne eqA rfl rfl rfl ?_ | refine zeqg eqA rfl rfl rfl rfl ?_ | refine zneg eqA rfl rfl rfl rfl ?_))
          refine JK.cond rfl (fun he => ?_) (fun he => ?_)
          · (simp only [↓cdL] at he; try simp only [Ty.dflt, Int.toNat_natCast] at he)
            rw [if_pos ⟨hr, he⟩] at hos
            refine JK.weak (s' := ⟨[(1, .lf (.optr 0 [])), (3, .lf (.optr 1 [])), (4, .lf (.optr 2 [])), (5, .lf (.optr 3 [])), (19, vD l), (20, vI l.length), (21, vI (i : Int))], [(0, .cell seT (vS P l)), (1, .cell shT (.val shT (shW P l (ZA.set 0 (o0 P l i + b / P)) 0 ZA))), (2, .cell arT (.val arT ZA)), (3, .cell arT (.val arT ((C.set a.toNat (C.getD a.toNat 0 + 1)).set e.toNat ((C.set a.toNat (C.getD a.toNat 0 + 1)).getD e.toNat 0 - 1))))], 4⟩) (by (exact JW.Auto (by conv => lhs; reduce))) ?_
            rw [hstep]
            have hy0 : (ZA.set 0 (o0 P l i + b / P)).getD (Int.toNat 0) 0 = o0 P l i + b / P := rfl
            have hys : ∀ y, (ZA.set 0 (o0 P l i + b / P)).set 0 y = ZA.set 0 y := fun y => List.set_set ..
            have hyl : (ZA.set 0 (o0 P l i + b / P)).length = 1000 := by rw [← hzs]; rw [List.length_set]; exact hzl
            generalize ZA.set 0 (o0 P l i + b / P) = Y at hy0 hys hyl ⊢
            refine JK.drawB xk (Try.f89.body.getD .skip) ⟨[(1, .lf (.optr 0 [])), (3, .lf (.optr 1 [])), (4, .lf (.optr 2 [])), (5, .lf (.optr 3 [])), (19, vD l), (20, vI l.length), (21, vI (i : Int))], [(0, .cell seT (vS P l)), (1, .cell shT (.val shT (shW P l (Y.set 0 (Y.getD 0 0 + 1)) 0 ZA))), (2, .cell arT (.val arT ZA)), (3, .cell arT (.val arT (chgL P l (i + 1))))], 4⟩ rfl 10 rfl ?_ ?_
            · (refine JF.First 0 xk rfl rfl ?_; refine JF.First 1 xk rfl rfl ?_; refine JF.First 2 xk rfl rfl ?_; refine JF.First 3 xk rfl rfl ?_; refine JF.First 6 xk rfl rfl ?_; refine JF.First 7 xk rfl rfl ?_; refine JF.Float 4 xk rfl rfl ?_; refine JF.Float 5 xk rfl rfl ?_; refine JF.Float 8 xk rfl rfl ?_; refine JF.Branch 9 [] xk ?_ ?_; (focus (repeat (first | exact StF.nil | refine StF.One rfl rfl rfl ?_))); refine (BrF.one rfl rfl ?_ BrF.nil); (· (first | refine JL.Q1 xk rfl rfl ?_ | refine JL.G1 xk rfl rfl rfl ?_ | refine JL.M1 xk rfl rfl ?_ | refine JL.M0 xk rfl ?_ | refine JL.Q0 xk rfl ?_ | refine JL.EqQ eqA rfl rfl rfl ?_ | refine JL.NeQ eqA rfl rfl rfl ?_); refine JL.finN ?_; refine JF.Done xk StF.nil ?_; ((exact JW.Auto (by conv => lhs; reduce)))))
            · have e2 : Y.getD 0 0 = o0 P l i + b / P := hy0
              rw [hys, e2, Int.add_assoc, ← hos]
              (repeat (first | refine zs rfl ?_ | refine zg rfl rfl rfl ?_ | refine zd ?_ | refine JK.fin ?_ | refine JK.ret ?_ | refine zeq eqA rfl rfl rfl ?_ | refine zne eqA rfl rfl rfl ?_ | refine zeqg eqA rfl rfl rfl rfl ?_ | refine zneg eqA rfl rfl rfl rfl ?_))
              exact ⟨i + 1, by (exact JW.Auto (by conv => lhs; reduce)), by omega, by omega⟩
          · (simp only [↓cdL] at he; try simp only [Ty.dflt, Int.toNat_natCast] at he)
            rw [if_neg (fun h => he h.2), Int.add_zero] at hos
            refine JK.weak (s' := ⟨[(1, .lf (.optr 0 [])), (3, .lf (.optr 1 [])), (4, .lf (.optr 2 [])), (5, .lf (.optr 3 [])), (19, vD l), (20, vI l.length), (21, vI (i : Int))], [(0, .cell seT (vS P l)), (1, .cell shT (.val shT (shW P l (ZA.set 0 (o0 P l i + b / P)) 0 ZA))), (2, .cell arT (.val arT ZA)), (3, .cell arT (.val arT ((C.set a.toNat (C.getD a.toNat 0 + 1)).set e.toNat ((C.set a.toNat (C.getD a.toNat 0 + 1)).getD e.toNat 0 - 1))))], 4⟩) (by (exact JW.Auto (by conv => lhs; reduce))) ?_
            rw [hstep, ← hos]
            (repeat (first | refine zs rfl ?_ | refine zg rfl rfl rfl ?_ | refine zd ?_ | refine JK.fin ?_ | refine JK.ret ?_ | refine zeq eqA rfl rfl rfl ?_ | refine zne eqA rfl rfl rfl ?_ | refine zeqg eqA rfl rfl rfl rfl ?_ | refine zneg eqA rfl rfl rfl rfl ?_))
            exact ⟨i + 1, by (exact JW.Auto (by conv => lhs; reduce)), by omega, by omega⟩
    · (simp only [↓cdL] at hc; try simp only [Ty.dflt, Int.toNat_natCast] at hc)
      have hil : i = l.length := by omega
      clear hg hcl hz0 hz0b hstep hsame hos hcb hc
      rw [hil]
      have hz1 : ZA.set 0 (o0 P l l.length) = ovS P l 0 := ovS_zero.symm
      have hz2 : (ZA.set 0 (o0 P l l.length)).getD 0 0 = nw P l 0 := (nw_zero hP.1 hl).symm
      rw [hz1] at hz2 ⊢
      (repeat (first | refine zs rfl ?_ | refine zg rfl rfl rfl ?_ | refine zd ?_ | refine JK.fin ?_ | refine JK.ret ?_ | refine zeq eqA rfl rfl rfl ?_ | refine zne eqA rfl rfl rfl ?_ | refine zeqg eqA rfl rfl rfl rfl ?_ | refine zneg eqA rfl rfl rfl rfl ?_))
      refine JK.loop (fun u : Nat => ⟨[(1, .lf (.optr 0 [])), (3, .lf (.optr 1 [])), (4, .lf (.optr 2 [])), (5, .lf (.optr 3 [])), (9, vI (nw P l u)), (80, vI P), (81, vI (u : Int))], [(0, .cell seT (vS P l)), (1, .cell shT (.val shT (shW P l (ovS P l u) 0 ZA))), (2, .cell arT (.val arT ZA)), (3, .cell arT (.val arT (chgL P l l.length)))], 4⟩)
        (fun u => (u : Int) ≤ P) (fun u => P.toNat - u) 0 (by omega) ?_ fun u hu => ?_
      · rw [← hz2]; (exact JW.Auto (by conv => lhs; reduce))
      · have hb1 := nw_bd hP.1 hl hu
        have hb2 := chg_bd (P := P) (l := l) u l.length
        have hg : u < 1000 → (chgL P l l.length).getD u 0 = chg P l l.length u := fun hv => chgL_get _ hv
        have hcl : (chgL P l l.length).length = 1000 := chgL_len _
        have hol : (ovS P l u).length = 1000 := ovS_len u
        have hns := nw_succ hP.1 hl u
        have hos := fun h => ovS_succ hP.1 hl (u := u) h
        (repeat (first | refine zs rfl ?_ | refine zg rfl rfl rfl ?_ | refine zd ?_ | refine JK.fin ?_ | refine JK.ret ?_ | refine zeq eqA rfl rfl rfl ?_ | refine zne eqA rfl rfl rfl ?_ | refine zeqg eqA rfl rfl rfl rfl ?_ | refine zneg eqA rfl rfl rfl rfl ?_))
        refine JK.cond rfl (fun hd => ?_) (fun hd => ?_)
        · (simp only [↓cdL] at hd; try simp only [Ty.dflt, Int.toNat_natCast] at hd)
          have hgu := hg (by omega)
          replace hos := hos hd
          rw [hns, ← hgu] at hos
          rw [← hgu] at hns hb2
          (repeat (first | refine zs rfl ?_ | refine zg rfl rfl rfl ?_ | refine zd ?_ | refine JK.fin ?_ | refine JK.ret ?_ | refine zeq eqA rfl rfl rfl ?_ | refine zne eqA rfl rfl rfl ?_ | refine zeqg eqA rfl rfl rfl rfl ?_ | refine zneg eqA rfl rfl rfl rfl ?_))
          refine ⟨u + 1, ?_, by push_cast; omega, by omega⟩
          rw [hos, hns]
          (exact JW.Auto (by conv => lhs; reduce))
        · (simp only [↓cdL] at hd; try simp only [Ty.dflt, Int.toNat_natCast] at hd)
          have hup : u = P.toNat := by omega
          rw [hup, ovS_end hP.1]
          clear hg hcl hns hos hb1 hb2 hol
          refine JK.weak (s' := ⟨[(1, .lf (.optr 0 [])), (3, .lf (.optr 1 [])), (4, .lf (.optr 2 [])), (80, vI P)], [(0, .cell seT (vS P l)), (1, .cell shT (.val shT (shW P l (ovA P l) 0 ZA))), (2, .cell arT (.val arT ZA))], 3⟩) (by (exact JW.Auto (by conv => lhs; reduce))) ?_
          (repeat (first | refine zu rfl ?_ | refine zg rfl rfl rfl ?_ | refine zd ?_ | refine JK.fin ?_ | refine JK.ret ?_ | refine zeq eqA rfl rfl rfl ?_ | refine zne eqA rfl rfl rfl ?_ | refine zeqg eqA rfl rfl rfl rfl ?_ | refine zneg eqA rfl rfl rfl rfl ?_))
          refine JK.cut (σ := Unit) (fun _ => ⟨[(1, .lf (.optr 0 [])), (3, .lf (.optr 1 []))], [(0, .cell seT (vS P l)), (1, .cell shT (.val shT (shW P l (ovA P l) (pkV P l) ZA)))], 2⟩) (fun _ => True) ?_ (fun _ _ => ?_)
          · have c106 := fn106 ((ovA P l).take P.toNat) (by rw [List.length_take, ovA_len]; omega)
            rw [peak_eq hP.1 hP.2] at c106
            (repeat (first | refine zs rfl ?_ | refine zg rfl rfl rfl ?_ | refine zd ?_ | refine JK.fin ?_ | refine JK.ret ?_ | refine zeq eqA rfl rfl rfl ?_ | refine zne eqA rfl rfl rfl ?_ | refine zeqg eqA rfl rfl rfl rfl ?_ | refine zneg eqA rfl rfl rfl rfl ?_))
            refine JK.cond rfl (fun hf => ?_) (fun hf => ?_)
            · refine JK.drawP xk (Try.f89.body.getD .skip) rfl 11 rfl ?_
              (refine JF.First 0 xk rfl rfl ?_; refine JF.First 1 xk rfl rfl ?_; refine JF.First 2 xk rfl rfl ?_; refine JF.First 3 xk rfl rfl ?_; refine JF.First 4 xk rfl rfl ?_; refine JF.Float 5 xk rfl rfl ?_; refine JF.Float 6 xk rfl rfl ?_; refine JF.Branch 7 [] xk ?_ ?_; (focus (repeat (first | exact StF.nil | refine StF.One rfl rfl rfl ?_))); refine (BrF.one rfl rfl ?_ BrF.nil); (· (first | refine JL.Q1 xk rfl rfl ?_ | refine JL.G1 xk rfl rfl rfl ?_ | refine JL.M1 xk rfl rfl ?_ | refine JL.M0 xk rfl ?_ | refine JL.Q0 xk rfl ?_ | refine JL.EqQ eqA rfl rfl rfl ?_ | refine JL.NeQ eqA rfl rfl rfl ?_ | refine JL.S1 rfl (c106) rfl trivial rfl ?_ | refine JL.T1 rfl (c106) rfl rfl ?_ | refine JL.C1 rfl (c106) rfl (fun r hr => ?_); subst hr | refine JL.S1g rfl rfl (fun hgd => c106) rfl trivial rfl ?_); refine JL.finN ?_; refine JF.Float 8 xk rfl rfl ?_; refine JF.Float 9 xk rfl rfl ?_; refine JF.Branch 10 [] xk ?_ ?_; (focus (repeat (first | exact StF.nil | refine StF.One rfl rfl rfl ?_))); refine (BrF.one rfl rfl ?_ BrF.nil); (· (first | refine JL.Q1 xk rfl rfl ?_ | refine JL.G1 xk rfl rfl rfl ?_ | refine JL.M1 xk rfl rfl ?_ | refine JL.M0 xk rfl ?_ | refine JL.Q0 xk rfl ?_ | refine JL.EqQ eqA rfl rfl rfl ?_ | refine JL.NeQ eqA rfl rfl rfl ?_ | refine JL.S1 rfl (c106) rfl trivial rfl ?_ | refine JL.T1 rfl (c106) rfl rfl ?_ | refine JL.C1 rfl (c106) rfl (fun r hr => ?_); subst hr | refine JL.S1g rfl rfl (fun hgd => c106) rfl trivial rfl ?_); refine JL.finN ?_; refine JF.Done xk ?_ ?_; (focus (repeat (first | exact StF.nil | refine StF.One rfl rfl rfl ?_))); ((refine JK.fin ?_; exact ⟨(), by (exact JW.Auto (by conv => lhs; reduce)), trivial⟩)))))
            · have hz : ovA P l = ZA := by
                have h2 : arT.eqB (ovA P l) ZA = true := by simpa using hf
                exact Ty.eqB_iff.1 h2
              rw [peak_zero hP.1 hP.2 hz]
              (repeat (first | refine zs rfl ?_ | refine zg rfl rfl rfl ?_ | refine zd ?_ | refine JK.fin ?_ | refine JK.ret ?_ | refine zeq eqA rfl rfl rfl ?_ | refine zne eqA rfl rfl rfl ?_ | refine zeqg eqA rfl rfl rfl rfl ?_ | refine zneg eqA rfl rfl rfl rfl ?_))
              exact ⟨(), by (exact JW.Auto (by conv => lhs; reduce)), trivial⟩
          · have hol := ovA_len (P := P) (l := l)
            (repeat (first | refine zs rfl ?_ | refine zg rfl rfl rfl ?_ | refine zd ?_ | refine JK.fin ?_ | refine JK.ret ?_ | refine zeq eqA rfl rfl rfl ?_ | refine zne eqA rfl rfl rfl ?_ | refine zeqg eqA rfl rfl rfl rfl ?_ | refine zneg eqA rfl rfl rfl rfl ?_))
            refine JK.loop (fun u : Nat => ⟨[(1, .lf (.optr 0 [])), (3, .lf (.optr 1 [])), (11, vI (fcn P l u : Nat)), (113, vI P), (114, vI (u : Int))], [(0, .cell seT (vS P l)), (1, .cell shT (.val shT (shW P l (ovA P l) (pkV P l) (stS P l u))))], 2⟩)
              (fun u => (u : Int) ≤ P) (fun u => P.toNat - u) 0 (by omega) ?_ fun u hu => ?_
            · rw [stS_zero, show fcn P l 0 = 0 from rfl]; (exact JW.Auto (by conv => lhs; reduce))
            · have hsl := stS_len (P := P) (l := l) u
              have hfb := fcn_bd (P := P) (l := l) u
              have hss := stS_succ (P := P) (l := l) u
              have hfs := fcn_succ (P := P) (l := l) u
              have hog := fun h => ovA_get (P := P) (l := l) (v := u) h
              (repeat (first | refine zs rfl ?_ | refine zg rfl rfl rfl ?_ | refine zd ?_ | refine JK.fin ?_ | refine JK.ret ?_ | refine zeq eqA rfl rfl rfl ?_ | refine zne eqA rfl rfl rfl ?_ | refine zeqg eqA rfl rfl rfl rfl ?_ | refine zneg eqA rfl rfl rfl rfl ?_))
              refine JK.cond rfl (fun hd => ?_) (fun hd => ?_)
              · (simp only [↓cdL] at hd; try simp only [Ty.dflt, Int.toNat_natCast] at hd)
                replace hog := hog (by omega)
                rw [if_pos hd] at hog
                have hfl : flB P l u = decide ((ovA P l).getD u 0 = pkV P l) := by rw [hog]; rfl
                (repeat (first | refine zs rfl ?_ | refine zg rfl rfl rfl ?_ | refine zd ?_ | refine JK.fin ?_ | refine JK.ret ?_ | refine zeq eqA rfl rfl rfl ?_ | refine zne eqA rfl rfl rfl ?_ | refine zeqg eqA rfl rfl rfl rfl ?_ | refine zneg eqA rfl rfl rfl rfl ?_))
                refine JK.cond rfl (fun hf => ?_) (fun hf => ?_)
                · (simp only [↓cdL] at hf; try simp only [Ty.dflt, Int.toNat_natCast] at hf)
                  rw [hfl, if_pos (decide_eq_true hf)] at hfs
                  (repeat (first | refine zs rfl ?_ | refine zg rfl rfl rfl ?_ | refine zd ?_ | refine JK.fin ?_ | refine JK.ret ?_ | refine zeq eqA rfl rfl rfl ?_ | refine zne eqA rfl rfl rfl ?_ | refine zeqg eqA rfl rfl rfl rfl ?_ | refine zneg eqA rfl rfl rfl rfl ?_))
                  refine ⟨u + 1, ?_, by push_cast; omega, by omega⟩
                  rw [hss, hfs]
                  (exact JW.Auto (by conv => lhs; reduce))
                · (simp only [↓cdL] at hf; try simp only [Ty.dflt, Int.toNat_natCast] at hf)
                  rw [hfl, decide_eq_false hf, if_neg (by decide), Nat.add_zero] at hfs
                  (repeat (first | refine zs rfl ?_ | refine zg rfl rfl rfl ?_ | refine zd ?_ | refine JK.fin ?_ | refine JK.ret ?_ | refine zeq eqA rfl rfl rfl ?_ | refine zne eqA rfl rfl rfl ?_ | refine zeqg eqA rfl rfl rfl rfl ?_ | refine zneg eqA rfl rfl rfl rfl ?_))
                  refine ⟨u + 1, ?_, by push_cast; omega, by omega⟩
                  rw [hss, hfs]
                  (exact JW.Auto (by conv => lhs; reduce))
              · (simp only [↓cdL] at hd; try simp only [Ty.dflt, Int.toNat_natCast] at hd)
                have hup2 : u = P.toNat := by omega
                rw [hup2, stT_zero hP.1]
                clear hsl hfb hss hfs hog
                have hN := fcn_bd (P := P) (l := l) P.toNat
                (repeat (first | refine zs rfl ?_ | refine zg rfl rfl rfl ?_ | refine zd ?_ | refine JK.fin ?_ | refine JK.ret ?_ | refine zeq eqA rfl rfl rfl ?_ | refine zne eqA rfl rfl rfl ?_ | refine zeqg eqA rfl rfl rfl rfl ?_ | refine zneg eqA rfl rfl rfl rfl ?_))
                refine JK.loop (fun u : Nat => ⟨[(1, .lf (.optr 0 [])), (3, .lf (.optr 1 [])), (11, vI (fcn P l P.toNat : Nat)), (138, vI P), (139, vI (u : Int))], [(0, .cell seT (vS P l)), (1, .cell shT (.val shT (shW P l (ovA P l) (pkV P l) (stT P l u))))], 2⟩)
                  (fun u => (u : Int) ≤ P) (fun u => P.toNat - u) 0 (by omega) (by (exact JW.Auto (by conv => lhs; reduce))) fun u hu => ?_
                have hsl := stT_len (P := P) (l := l) u
                have hfb := fcn_bd (P := P) (l := l) u
                have hsg := fun h => stT_get (P := P) (l := l) (u := u) h hP.2
                have hst := fun h => stT_hit (P := P) (l := l) (u := u) h
                have hsm := fun h => stT_miss (P := P) (l := l) (u := u) h
                (repeat (first | refine zs rfl ?_ | refine zg rfl rfl rfl ?_ | refine zd ?_ | refine JK.fin ?_ | refine JK.ret ?_ | refine zeq eqA rfl rfl rfl ?_ | refine zne eqA rfl rfl rfl ?_ | refine zeqg eqA rfl rfl rfl rfl ?_ | refine zneg eqA rfl rfl rfl rfl ?_))
                refine JK.cond rfl (fun hd => ?_) (fun hd => ?_)
                · (simp only [↓cdL] at hd; try simp only [Ty.dflt, Int.toNat_natCast] at hd)
                  replace hsg := hsg hd
                  have hsgb : -1 ≤ (stT P l u).getD u 0 := by rw [hsg]; omega
                  (repeat (first | refine zs rfl ?_ | refine zg rfl rfl rfl ?_ | refine zd ?_ | refine JK.fin ?_ | refine JK.ret ?_ | refine zeq eqA rfl rfl rfl ?_ | refine zne eqA rfl rfl rfl ?_ | refine zeqg eqA rfl rfl rfl rfl ?_ | refine zneg eqA rfl rfl rfl rfl ?_))
                  refine JK.cond rfl (fun hf => ?_) (fun hf => ?_)
                  · (simp only [↓cdL] at hf; try simp only [Ty.dflt, Int.toNat_natCast] at hf)
                    rw [hsg] at hf
                    (repeat (first | refine zs rfl ?_ | refine zg rfl rfl rfl ?_ | refine zd ?_ | refine JK.fin ?_ | refine JK.ret ?_ | refine zeq eqA rfl rfl rfl ?_ | refine zne eqA rfl rfl rfl ?_ | refine zeqg eqA rfl rfl rfl rfl ?_ | refine zneg eqA rfl rfl rfl rfl ?_))
                    refine ⟨u + 1, ?_, by push_cast; omega, by omega⟩
                    rw [hst hd (by omega)]
                    (exact JW.Auto (by conv => lhs; reduce))
                  · (simp only [↓cdL] at hf; try simp only [Ty.dflt, Int.toNat_natCast] at hf)
                    rw [hsg] at hf
                    (repeat (first | refine zs rfl ?_ | refine zg rfl rfl rfl ?_ | refine zd ?_ | refine JK.fin ?_ | refine JK.ret ?_ | refine zeq eqA rfl rfl rfl ?_ | refine zne eqA rfl rfl rfl ?_ | refine zeqg eqA rfl rfl rfl rfl ?_ | refine zneg eqA rfl rfl rfl rfl ?_))
                    refine ⟨u + 1, ?_, by push_cast; omega, by omega⟩
                    rw [hsm (by omega)]
                    (exact JW.Auto (by conv => lhs; reduce))
                · (simp only [↓cdL] at hd; try simp only [Ty.dflt, Int.toNat_natCast] at hd)
                  have hup3 : u = P.toNat := by omega
                  rw [hup3, stT_end hP.1]
                  (repeat (first | refine zs rfl ?_ | refine zg rfl rfl rfl ?_ | refine zd ?_ | refine JK.fin ?_ | refine JK.ret ?_ | refine zeq eqA rfl rfl rfl ?_ | refine zne eqA rfl rfl rfl ?_ | refine zeqg eqA rfl rfl rfl rfl ?_ | refine zneg eqA rfl rfl rfl rfl ?_))
                  refine ⟨.inl rfl, _, _, rfl, trivial, ?_⟩
                  rfl
end Go.Proofs.Ytinehlphcckkmaa

namespace Go.Proofs.Ytinehlphcckkmaa
open Go Go.RowKit Ox Ox.Sh Ox.Se
attribute [local irreducible] JC JL JK JW
attribute [local irreducible] ovA stA pkV
abbrev vOp (P : Int) (l : List Pt) : AV := .tup (.acons (.val (.ptr shT) (if seE P l = 0 then some (shV P l) else none)) (.acons (vI (seE P l)) .anil))
theorem fn61 (P : Int) (l : List Pt) : Ox.Fn Try.prog 61 (.acons (vS P l) .anil) (· = vOp P l) := by
  refine Ox.Fn.intro xok Try.func61 rfl Try.call61 (Nat.le_of_ble_eq_true rfl) (fun E M0 up => ?_)
  refine JK.start ?_
  (repeat (first | refine zs rfl ?_ | refine zg rfl rfl rfl ?_ | refine zd ?_ | refine JK.fin ?_ | refine JK.ret ?_ | refine zc rfl (fn21 P l) rfl rfl ?_ | refine ze rfl (fn21 P l) rfl ?_ | refine zk rfl rfl (fun _ => fn21 P l) rfl rfl ?_))
  refine JK.cond rfl (fun hc => ?_) (fun hc => ?_)
  · (simp only [↓cdL] at hc; try simp only [Ty.dflt, Int.toNat_natCast] at hc)
    (repeat (first | refine zs rfl ?_ | refine zg rfl rfl rfl ?_ | refine zd ?_ | refine JK.fin ?_ | refine JK.ret ?_))
    refine ⟨.inl rfl, _, _, rfl, trivial, ?_⟩
    unfold vOp
    rw [if_neg hc]
  · (simp only [↓cdL] at hc; try simp only [Ty.dflt, Int.toNat_natCast] at hc)
    have hz : seE P l = 0 := by omega
    (repeat (first | refine zs rfl ?_ | refine zg rfl rfl rfl ?_ | refine zd ?_ | refine JK.fin ?_ | refine JK.ret ?_ | refine zc rfl (fn89 P l hz) rfl rfl ?_ | refine ze rfl (fn89 P l hz) rfl ?_ | refine zk rfl rfl (fun _ => fn89 P l hz) rfl rfl ?_))
    refine ⟨.inl rfl, _, _, rfl, trivial, ?_⟩
    unfold vOp
    rw [if_pos hz, hz]
theorem fn64 (P : Int) (l : List Pt) (n : Int) : Ox.Fn Try.prog 64 (.acons (vH P l) (.acons (vI n) .anil)) (· = vB (decide (0 ≤ n ∧ n < (l.length : Int)))) := by
  refine Ox.Fn.intro xok Try.func64 rfl Try.call64 (Nat.le_of_ble_eq_true rfl) (fun E M0 up => ?_)
  refine JK.start ?_
  refine JK.lenOf 0 rfl fun hlen => ?_
  replace hlen : l.length ≤ 9223372036854775807 := hlen.1.2.1.1
  (repeat (first | refine zs rfl ?_ | refine zg rfl rfl rfl ?_ | refine zd ?_ | refine JK.fin ?_ | refine JK.ret ?_))
  refine ⟨.inl rfl, _, _, rfl, trivial, ?_⟩
  by_cases h : 0 ≤ n <;> simp [h]
theorem gp_cases {P : Int} {l : List Pt} (hP : 1 ≤ P) (hl : okP P l) {i j : Nat} (hj : j < l.length) : gp P l i j = if (l.getD j (0, 0, ())).1 - eN P l i < 0 then (l.getD j (0, 0, ())).1 - eN P l i + P else (l.getD j (0, 0, ())).1 - eN P l i := by
  have h := gp_eq (c := -1) (l := l) hP i j
  rw [LA1 hP hl hj, LE1 hP] at h
  rw [h]
  have e : aT l j = (l.getD j (0, 0, ())).1 := rfl
  rw [e]
  split <;> split <;> omega
theorem fn65 (P : Int) (l : List Pt) (i j : Nat) (hP : 1 ≤ P ∧ P ≤ 1000) (hl : okP P l) (hi : i < l.length) (hj : j < l.length) : Ox.Fn Try.prog 65 (.acons (vH P l) (.acons (vI i) (.acons (vI j) .anil))) (· = vI (gp P l i j)) := by
  refine Ox.Fn.intro xok Try.func65 rfl Try.call65 (Nat.le_of_ble_eq_true rfl) (fun E M0 up => ?_)
  refine JK.start ?_
  have c91 := fn91 P l (ovA P l) (pkV P l) (stA P l) i hP hl hi
  have hb := (pt_bd hl hj).1
  have he : 0 ≤ eN P l i ∧ eN P l i < P := mod_bd hP.1 _
  have hg := gp_cases hP.1 hl (i := i) hj
  generalize eN P l i = e at *
  (repeat (first | refine zs rfl ?_ | refine zg rfl rfl rfl ?_ | refine zd ?_ | refine JK.fin ?_ | refine JK.ret ?_ | refine zc rfl (c91) rfl rfl ?_ | refine ze rfl (c91) rfl ?_ | refine zk rfl rfl (fun _ => c91) rfl rfl ?_))
  refine JK.cond rfl (fun hc => ?_) (fun hc => ?_)
  · (simp only [↓cdL] at hc; try simp only [Ty.dflt, Int.toNat_natCast] at hc)
    (repeat (first | refine zs rfl ?_ | refine zg rfl rfl rfl ?_ | refine zd ?_ | refine JK.fin ?_ | refine JK.ret ?_))
    refine ⟨.inl rfl, _, _, rfl, trivial, ?_⟩
    rw [hg, if_pos hc]; rfl
  · (simp only [↓cdL] at hc; try simp only [Ty.dflt, Int.toNat_natCast] at hc)
    (repeat (first | refine zs rfl ?_ | refine zg rfl rfl rfl ?_ | refine zd ?_ | refine JK.fin ?_ | refine JK.ret ?_))
    refine ⟨.inl rfl, _, _, rfl, trivial, ?_⟩
    rw [hg, if_neg hc]; rfl
theorem fn77 (P : Int) (l : List Pt) (h8 : l.length ≤ 8) : Ox.Fn Try.prog 77 (.acons (vH P l) .anil) (· = vI ((2 ^ l.length - 1 : Nat) : Int)) := by
  refine Ox.Fn.intro xok Try.func77 rfl Try.call77 (Nat.le_of_ble_eq_true rfl) (fun E M0 up => ?_)
  refine JK.start ?_
  have hpl : 1 ≤ 2 ^ l.length ∧ 2 ^ l.length ≤ 256 := ⟨Nat.one_le_two_pow, Nat.pow_le_pow_right (n := 2) (by omega) (by omega : l.length ≤ 8)⟩
  have hpw : (2 : Int) ^ l.length = ((2 ^ l.length : Nat) : Int) := by push_cast; rfl
  have hpb : 1 ≤ (2 : Int) ^ l.length ∧ (2 : Int) ^ l.length ≤ 256 := by rw [hpw]; omega
  (repeat (first | refine zs rfl ?_ | refine zg rfl rfl rfl ?_ | refine zd ?_ | refine JK.fin ?_ | refine JK.ret ?_))
  refine ⟨.inl rfl, _, _, rfl, trivial, ?_⟩
  refine congrArg vI ?_
  rw [Int.one_mul, Int.toNat_natCast, hpw]
  omega
theorem fn100 (P : Int) (l : List Pt) (n : Nat) (k : Int) (hP : 1 ≤ P ∧ P ≤ 1000) (hl : okP P l) (hn : n < l.length) : Ox.Fn Try.prog 100 (.acons (vH P l) (.acons (vI n) (.acons (vI k) .anil))) (· = vI (if k = 0 then sA P l n else sE P l n : Nat)) := by
  refine Ox.Fn.intro xok Try.func100 rfl Try.call100 (Nat.le_of_ble_eq_true rfl) (fun E M0 up => ?_)
  refine JK.start ?_
  have hb := (pt_bd hl hn).1
  have he : 0 ≤ eN P l n ∧ eN P l n < P := mod_bd hP.1 _
  have c91 := fn91 P l (ovA P l) (pkV P l) (stA P l) n hP hl hn
  have hlen := stA_len (P := P) (l := l)
  (repeat (first | refine zs rfl ?_ | refine zg rfl rfl rfl ?_ | refine zd ?_ | refine JK.fin ?_ | refine JK.ret ?_))
  refine JK.cond rfl (fun hc => ?_) (fun hc => ?_)
  · (simp only [↓cdL] at hc; try simp only [Ty.dflt, Int.toNat_natCast] at hc)
    (repeat (first | refine zs rfl ?_ | refine zg rfl rfl rfl ?_ | refine zd ?_ | refine JK.fin ?_ | refine JK.ret ?_))
    refine ⟨.inl rfl, _, _, rfl, trivial, ?_⟩
    rw [if_pos hc]
    refine congrArg vI ?_
    have := stA_get (P := P) (l := l) (v := (aT l n).toNat) (by unfold aT; show (l.getD n (0, 0, ())).1.toNat < 1000; omega)
    rw [if_pos (by unfold aT; show (((l.getD n (0, 0, ())).1.toNat : Nat) : Int) < P; omega)] at this
    exact this
  · (simp only [↓cdL] at hc; try simp only [Ty.dflt, Int.toNat_natCast] at hc)
    have hg := stA_get (P := P) (l := l) (v := (eN P l n).toNat) (by omega)
    rw [if_pos (by omega)] at hg
    (repeat (first | refine zs rfl ?_ | refine zg rfl rfl rfl ?_ | refine zd ?_ | refine JK.fin ?_ | refine JK.ret ?_ | refine zc rfl (c91) rfl rfl ?_ | refine ze rfl (c91) rfl ?_ | refine zk rfl rfl (fun _ => c91) rfl rfl ?_))
    refine ⟨.inl rfl, _, _, rfl, trivial, ?_⟩
    rw [if_neg hc]
    exact congrArg vI hg
theorem fn97 (P : Int) (l : List Pt) (n : Nat) (s : Int) (hP : 1 ≤ P ∧ P ≤ 1000) (hl : okP P l) (hn : n < l.length) : Ox.Fn Try.prog 97 (.acons (vH P l) (.acons (vI n) (.acons (vI s) .anil))) (· = vB (decide ((sA P l n : Int) = s ∨ (sE P l n : Int) = s))) := by
  refine Ox.Fn.intro xok Try.func97 rfl Try.call97 (Nat.le_of_ble_eq_true rfl) (fun E M0 up => ?_)
  refine JK.start ?_
  have c0 := fn100 P l n 0 hP hl hn
  have c1 := fn100 P l n 1 hP hl hn
  rw [if_pos rfl] at c0
  rw [if_neg (by decide)] at c1
  (repeat (first | refine zs rfl ?_ | refine zg rfl rfl rfl ?_ | refine zd ?_ | refine JK.fin ?_ | refine JK.ret ?_ | refine zc rfl (c0) rfl rfl ?_ | refine ze rfl (c0) rfl ?_ | refine zk rfl rfl (fun _ => c0) rfl rfl ?_ | refine zc rfl (c1) rfl rfl ?_ | refine ze rfl (c1) rfl ?_ | refine zk rfl rfl (fun _ => c1) rfl rfl ?_))
  refine ⟨.inl rfl, _, _, rfl, trivial, ?_⟩
  refine congrArg vB ?_
  by_cases h : (sA P l n : Int) = s
  · rw [decide_eq_true (Or.inl h), beq_iff_eq.2 h]; rfl
  · have e : decide ((sA P l n : Int) = s ∨ (sE P l n : Int) = s) = ((sE P l n : Int) == s) := by
      rw [Bool.eq_iff_iff, decide_eq_true_iff, beq_iff_eq]
      exact ⟨fun h' => h'.resolve_left h, Or.inr⟩
    rw [e, beq_eq_false_iff_ne.2 h]; rfl
theorem fn68 (P : Int) (l : List Pt) (hP : 1 ≤ P ∧ P ≤ 1000) : Ox.Fn Try.prog 68 (.acons (vH P l) .anil) (· = vI (pkA P l : Nat)) := by
  refine Ox.Fn.intro xok Try.func68 rfl Try.call68 (Nat.le_of_ble_eq_true rfl) (fun E M0 up => ?_)
  refine JK.start ?_
  have hlen := ovA_len (P := P) (l := l)
  have hf := (pk_full (l := l) hP.1).1
  (repeat (first | refine zs rfl ?_ | refine zg rfl rfl rfl ?_ | refine zd ?_ | refine JK.fin ?_ | refine JK.ret ?_))
  refine JK.loopE (σ := Nat) (τ := Unit) (fun u : Nat => ⟨[(0, vH P l), (3, vI (-1)), (9, vI P), (10, vI (u : Int))], [], 0⟩) (fun u => u ≤ pkA P l) (fun u => P.toNat - u) 0 (Nat.zero_le _) (by (exact JW.Auto (by conv => lhs; reduce))) (fun _ => ⟨[(3, vI (pkA P l : Nat))], [], 0⟩) (fun _ => True) (fun _ _ => ?_) fun u hu => ?_
  · (repeat (first | refine zs rfl ?_ | refine zg rfl rfl rfl ?_ | refine zd ?_ | refine JK.fin ?_ | refine JK.ret ?_))
    refine ⟨.inl rfl, _, _, rfl, trivial, ?_⟩
    rfl
  · have hog := fun h => ovA_get (P := P) (l := l) (v := u) h
    (repeat (first | refine zs rfl ?_ | refine zg rfl rfl rfl ?_ | refine zd ?_ | refine JK.fin ?_ | refine JK.ret ?_))
    refine JK.cond rfl (fun hd => ?_) (fun hd => ?_)
    · (simp only [↓cdL] at hd; try simp only [Ty.dflt, Int.toNat_natCast] at hd)
      replace hog := hog (by omega)
      rw [if_pos hd] at hog
      (repeat (first | refine zs rfl ?_ | refine zg rfl rfl rfl ?_ | refine zd ?_ | refine JK.fin ?_ | refine JK.ret ?_))
      refine JK.cond rfl (fun he => ?_) (fun he => ?_)
      · (simp only [↓cdL] at he; try simp only [Ty.dflt, Int.toNat_natCast] at he)
        rw [hog] at he
        have hup : u = pkA P l := by
          rcases Nat.lt_or_ge u (pkA P l) with h | h
          · have := pk_first (P := P) (l := l) u h
            rw [he] at this; omega
          · omega
        (repeat (first | refine zs rfl ?_ | refine zg rfl rfl rfl ?_ | refine zd ?_ | refine JK.fin ?_ | refine JK.ret ?_))
        exact ⟨(), by rw [← hup]; (exact JW.Auto (by conv => lhs; reduce)), trivial⟩
      · (simp only [↓cdL] at he; try simp only [Ty.dflt, Int.toNat_natCast] at he)
        rw [hog] at he
        have hlt : u < pkA P l := by
          rcases Nat.lt_or_ge u (pkA P l) with h | h
          · exact h
          · have : u = pkA P l := by omega
            exact absurd (by rw [this]; exact pkV_def) he
        (repeat (first | refine zs rfl ?_ | refine zg rfl rfl rfl ?_ | refine zd ?_ | refine JK.fin ?_ | refine JK.ret ?_))
        exact ⟨u + 1, by (exact JW.Auto (by conv => lhs; reduce)), by omega, by omega⟩
    · (simp only [↓cdL] at hd; try simp only [Ty.dflt, Int.toNat_natCast] at hd)
      omega
end Go.Proofs.Ytinehlphcckkmaa

namespace Go.Proofs.Ytinehlphcckkmaa
open Go Go.RowKit Ox Ox.Sh Ox.Se
attribute [local irreducible] JC JL JK JW
attribute [local irreducible] ovA stA pkV
abbrev iL (o : List Nat) : List Int := o.map (fun n : Nat => (n : Int))
theorem iL_snoc (o : List Nat) (k : Nat) : iL (o ++ [k]) = iL o ++ [(k : Int)] := by simp
theorem iL_getD (o : List Nat) (i : Nat) : (iL o).getD i 0 = ((o.getD i 0 : Nat) : Int) := by
  rw [List.getD_eq_getElem?_getD, List.getElem?_map, List.getD_eq_getElem?_getD]
  cases o[i]? <;> rfl
theorem iL_len (o : List Nat) : (iL o).length = o.length := List.length_map _
def orN (t : Nat) (o : List Nat) : Nat := o.foldl (fun t n => t ||| 2 ^ n) t
theorem orN_snoc (t : Nat) (o : List Nat) (n : Nat) : orN t (o ++ [n]) = orN t o ||| 2 ^ n := by unfold orN; rw [List.foldl_append]; rfl
theorem orN_bit (k : Nat) : ∀ (o : List Nat) (t : Nat), (orN t o).testBit k = (t.testBit k || decide (k ∈ o))
  | [], t => by simp [orN]
  | n :: o, t => by
    have e : orN t (n :: o) = orN (t ||| 2 ^ n) o := rfl
    rw [e, orN_bit k o, Nat.testBit_or, Nat.testBit_two_pow]
    by_cases h : n = k
    · subst h; simp
    · have h' : ¬ k = n := fun e => h e.symm
      simp [h, h']
theorem orN_lt {M : Nat} : ∀ {o : List Nat} {t : Nat}, t < 2 ^ M → (∀ n ∈ o, n < M) → orN t o < 2 ^ M
  | [], _, ht, _ => ht
  | n :: o, t, ht, h => orN_lt (o := o) (Nat.or_lt_two_pow ht (Nat.pow_lt_pow_right (by omega) (h n List.mem_cons_self))) fun k hk => h k (List.mem_cons_of_mem _ hk)
theorem and_one (b k : Nat) : (b / 2 ^ k) &&& 1 = 1 ↔ b.testBit k = true := by
  rw [Nat.testBit_eq_decide_div_mod_eq, Nat.and_one_is_mod, decide_eq_true_iff]
theorem bit_term (t k : Nat) : ((((t : Int) / 2 ^ ((k : Int)).toNat).toNat &&& ((1 : Int)).toNat : Nat) : Int) = (((t / 2 ^ k) &&& 1 : Nat) : Int) := by
  rw [Int.toNat_natCast, show ((t : Int) / 2 ^ k) = ((t / 2 ^ k : Nat) : Int) by push_cast; rfl, Int.toNat_natCast]; rfl
theorem bit_iff (t k : Nat) : (((((t : Int) / 2 ^ ((k : Int)).toNat).toNat &&& ((1 : Int)).toNat : Nat) : Int) = 1) ↔ t.testBit k = true := by
  rw [bit_term, ← and_one]
  omega
theorem div_bd (b k : Nat) (hb : b < 65536) : 0 ≤ (b : Int) / 2 ^ k ∧ (b : Int) / 2 ^ k ≤ 65536 := by
  have e : (b : Int) / 2 ^ k = ((b / 2 ^ k : Nat) : Int) := by push_cast; rfl
  rw [e]
  have := Nat.div_le_self b (2 ^ k)
  generalize b / 2 ^ k = z at this ⊢
  omega
def bitsK (b k : Nat) : List Nat := (List.range k).filter fun i => b.testBit i
abbrev bitsL (b : Nat) : List Nat := bitsK b 8
theorem mem_bits {b k i : Nat} : i ∈ bitsK b k ↔ i < k ∧ b.testBit i = true := by unfold bitsK; rw [List.mem_filter, List.mem_range]
theorem bitsK_succ (b k : Nat) : bitsK b (k + 1) = bitsK b k ++ if b.testBit k = true then [k] else [] := by
  unfold bitsK
  rw [List.range_succ, List.filter_append]
  congr 1
  cases h : b.testBit k <;> simp [h]
theorem bitsK_len (b k : Nat) : (bitsK b k).length ≤ k := by
  have := List.length_filter_le (fun i => b.testBit i) (List.range k)
  rw [List.length_range] at this
  exact this
set_option maxHeartbeats 1000000 in
theorem fn78 (b : Nat) (hb : b < 256) : Ox.Fn Try.prog 78 (.acons (vI b) .anil) (· = vL (iL (bitsL b))) := by
  refine Ox.Fn.intro xok Try.func78 rfl Try.call78 (Nat.le_of_ble_eq_true rfl) (fun E M0 up => ?_)
  refine JK.start ?_
  (repeat (first | refine zs rfl ?_ | refine zg rfl rfl rfl ?_ | refine zd ?_ | refine JK.fin ?_ | refine JK.ret ?_ | refine zlf fun134 rfl rfl rfl ?_ | refine zdf fun134 rfl rfl ?_ | refine zdg fun134 rfl rfl rfl ?_))
  refine JK.ghost 3 3 (.int .i64) rfl ?_
  (refine JK.fz [0] [0,3,5] rfl ?_)
  refine JK.loop (fun k : Nat => ⟨[(0, vI b), (3, vL (iL (bitsK b k))), (5, vI (k : Int))], [], 1⟩) (fun k => k ≤ 8) (fun k => 8 - k) 0 (Nat.zero_le _) (by (exact JW.Auto (by conv => lhs; reduce))) fun k hk => ?_
  have hs := bitsK_succ b k
  have hl := bitsK_len b k
  have hl1 : (iL (bitsK b k)).length ≤ 8 := by rw [iL_len]; omega
  have hfin : k = 8 → bitsK b k = bitsK b 8 := fun e => by rw [e]
  have hbi := bit_iff b k
  have hdv := div_bd b k (by omega)
  generalize bitsK b k = o at hs hl hl1 hfin ⊢
  (repeat (first | refine zs rfl ?_ | refine zg rfl rfl rfl ?_ | refine zd ?_ | refine JK.fin ?_ | refine JK.ret ?_ | refine zlf fun134 rfl rfl rfl ?_ | refine zdf fun134 rfl rfl ?_ | refine zdg fun134 rfl rfl rfl ?_))
  refine JK.cond rfl (fun hc => ?_) (fun hc => ?_)
  · (simp only [↓cdL] at hc; try simp only [Ty.dflt, Int.toNat_natCast] at hc)
    (repeat (first | refine zs rfl ?_ | refine zg rfl rfl rfl ?_ | refine zd ?_ | refine JK.fin ?_ | refine JK.ret ?_ | refine zlf fun134 rfl rfl rfl ?_ | refine zdf fun134 rfl rfl ?_ | refine zdg fun134 rfl rfl rfl ?_))
    refine JK.cond rfl (fun hd => ?_) (fun hd => ?_)
    · rw [if_pos (hbi.1 (beq_iff_eq.1 hd))] at hs
      have htk : (List.take (iL o).length (iL o)).length = o.length := by rw [List.take_length, iL_len]
      have ht : List.take ((iL o).length : Int).toNat (iL o) ++ [(k : Int)] = iL (bitsK b (k + 1)) := by rw [hs, Int.toNat_natCast, List.take_length, iL_snoc]
      iterate 11 (refine zs rfl ?_)
      (refine JK.fzL [2] [0,3,5] rfl ?_)
      (repeat (first | refine zs rfl ?_ | refine zg rfl rfl rfl ?_ | refine zd ?_ | refine JK.fin ?_ | refine JK.ret ?_ | refine zlf fun134 rfl rfl rfl ?_ | refine zdf fun134 rfl rfl ?_ | refine zdg fun134 rfl rfl rfl ?_))
      exact ⟨k + 1, by (refine JW.auto (by conv => lhs; reduce) ?_ ?_ ?_ ?_ rfl <;> (repeat' (first | exact trivial | exact rfl | refine And.intro ?_ ?_ | exact Nat.le_of_ble_eq_true rfl | refine HO.bdF ?_ | refine HO.bdP ?_ | (refine congrArg (fun z : Int => some (AV.val (.int .i64) z)) ?_; push_cast; omega) | exact congrArg (fun z : List Int => some (vL z)) ht))), by omega, by omega⟩
    · rw [if_neg (fun h => by rw [hbi.2 h] at hd; simp at hd), List.append_nil] at hs
      (repeat (first | refine zs rfl ?_ | refine zg rfl rfl rfl ?_ | refine zd ?_ | refine JK.fin ?_ | refine JK.ret ?_ | refine zlf fun134 rfl rfl rfl ?_ | refine zdf fun134 rfl rfl ?_ | refine zdg fun134 rfl rfl rfl ?_))
      refine ⟨k + 1, ?_, by omega, by omega⟩
      rw [hs]
      (exact JW.Auto (by conv => lhs; reduce))
  · (simp only [↓cdL] at hc; try simp only [Ty.dflt, Int.toNat_natCast] at hc)
    (repeat (first | refine zs rfl ?_ | refine zg rfl rfl rfl ?_ | refine zd ?_ | refine JK.fin ?_ | refine JK.ret ?_ | refine zlf fun134 rfl rfl rfl ?_ | refine zdf fun134 rfl rfl ?_ | refine zdg fun134 rfl rfl rfl ?_))
    refine ⟨.inl rfl, _, _, rfl, trivial, ?_⟩
    rw [hfin (by omega)]
def sdE (P : Int) (l : List Pt) (e : Nat) : Nat := if e % 2 = 0 then sA P l (e / 2) else sE P l (e / 2)
def toB (P : Int) (l : List Pt) (m e : Nat) : Bool := decide (sA P l m = sdE P l e ∨ sE P l m = sdE P l e)
abbrev ppH (P : Int) (l : List Pt) : AV := .val (.ptr (.ptr shT)) (some (some (shV P l)))
abbrev meT (P : Int) (l : List Pt) : AV := .fn 97 (.acons (vH P l) .anil) .anil
abbrev tF (P : Int) (l : List Pt) (n k : Int) : AV := .fn 99 .anil (.acons (.pfn (meT P l)) (.acons (ppH P l) (.acons (pI n) (.acons (pI k) .anil))))
theorem sd_eq (P : Int) (l : List Pt) (n k : Nat) (hk : k < 2) : sdE P l (2 * n + k) = if (k : Int) = 0 then sA P l n else sE P l n := by
  unfold sdE
  have h1 : (2 * n + k) / 2 = n := by omega
  have h2 : (2 * n + k) % 2 = k := by omega
  rw [h1, h2]
  by_cases h : k = 0
  · rw [if_pos h, if_pos (by omega)]
  · rw [if_neg h, if_neg (by omega)]
theorem fn99 (P : Int) (l : List Pt) (m n k : Nat) (hP : 1 ≤ P ∧ P ≤ 1000) (hl : okP P l) (hm : m < l.length) (hn : n < l.length) (hk : k < 2) :
    Ox.Fn Try.prog 99 (.acons (vI m) (.acons (.pfn (meT P l)) (.acons (ppH P l) (.acons (pI n) (.acons (pI k) .anil))))) (· = vB (toB P l m (2 * n + k))) := by
  refine Ox.Fn.intro xok Try.func99 rfl Try.call99 (Nat.le_of_ble_eq_true rfl) (fun E M0 up => ?_)
  refine JK.start ?_
  have c1 := fn100 P l n k hP hl hn
  have c2 := fn97 P l m (if (k : Int) = 0 then sA P l n else sE P l n : Nat) hP hl hm
  have e : toB P l m (2 * n + k) = decide ((sA P l m : Int) = ((if (k : Int) = 0 then sA P l n else sE P l n : Nat) : Int) ∨ (sE P l m : Int) = ((if (k : Int) = 0 then sA P l n else sE P l n : Nat) : Int)) := by
    unfold toB
    rw [sd_eq P l n k hk]
    refine decide_eq_decide.2 ?_
    rw [Int.ofNat_inj, Int.ofNat_inj]
  rw [e]
  generalize (if (k : Int) = 0 then sA P l n else sE P l n : Nat) = w at c1 c2 ⊢
  (repeat (first | refine zs rfl ?_ | refine zg rfl rfl rfl ?_ | refine zd ?_ | refine JK.fin ?_ | refine JK.ret ?_ | refine zlf fun134 rfl rfl rfl ?_ | refine zdf fun134 rfl rfl ?_ | refine zdg fun134 rfl rfl rfl ?_ | refine zc rfl (c1) rfl rfl ?_ | refine ze rfl (c1) rfl ?_ | refine zk rfl rfl (fun _ => c1) rfl rfl ?_ | refine zc rfl (c2) rfl rfl ?_ | refine ze rfl (c2) rfl ?_ | refine zk rfl rfl (fun _ => c2) rfl rfl ?_))
  refine ⟨.inl rfl, _, _, rfl, trivial, ?_⟩
  rfl
theorem fn98 (P : Int) (l : List Pt) (xs : List Nat) (n k : Nat) (hP : 1 ≤ P ∧ P ≤ 1000) (hl : okP P l) (hx : ∀ m ∈ xs, m < l.length) (hn : n < l.length) (hk : k < 2) :
    Ox.Fn Try.prog 98 (.acons (vL (iL xs)) (.acons (tF P l n k) .anil)) (· = vI (idxB (fun m => toB P l m (2 * n + k)) xs 0)) := by
  refine Ox.Fn.intro xok Try.func98 rfl Try.call98 (Nat.le_of_ble_eq_true rfl) (fun E M0 up => ?_)
  refine JK.start ?_
  refine JK.lenOf 0 rfl fun hlen => ?_
  replace hlen : (iL xs).length ≤ 9223372036854775807 := hlen.1
  have hil : (iL xs).length = xs.length := iL_len xs
  (repeat (first | refine zs rfl ?_ | refine zg rfl rfl rfl ?_ | refine zd ?_ | refine JK.fin ?_ | refine JK.ret ?_ | refine zlf fun134 rfl rfl rfl ?_ | refine zdf fun134 rfl rfl ?_ | refine zdg fun134 rfl rfl rfl ?_))
  refine JK.loop (fun i : Nat => ⟨[(1, tF P l n k), (7, vL (iL xs)), (8, vI (iL xs).length), (9, vI (i : Int))], [], 0⟩) (fun i => i ≤ xs.length ∧ idxB (fun m => toB P l m (2 * n + k)) xs 0 = idxB (fun m => toB P l m (2 * n + k)) (xs.drop i) i) (fun i => xs.length - i) 0 (by simp) (by (exact JW.Auto (by conv => lhs; reduce))) fun i ⟨hi, hd⟩ => ?_
  (repeat (first | refine zs rfl ?_ | refine zg rfl rfl rfl ?_ | refine zd ?_ | refine JK.fin ?_ | refine JK.ret ?_ | refine zlf fun134 rfl rfl rfl ?_ | refine zdf fun134 rfl rfl ?_ | refine zdg fun134 rfl rfl rfl ?_))
  refine JK.cond rfl (fun hc => ?_) (fun hc => ?_)
  · (simp only [↓cdL] at hc; try simp only [Ty.dflt, Int.toNat_natCast] at hc)
    have hi' : i < xs.length := by omega
    have e1 : (iL xs).getD i 0 = ((xs.getD i 0 : Nat) : Int) := iL_getD xs i
    have hm : xs.getD i 0 < l.length := by rw [getD_nat xs hi']; exact hx _ (List.getElem_mem hi')
    have c := fn99 P l (xs.getD i 0) n k hP hl hm hn hk
    rw [← e1] at c
    (repeat (first | refine zs rfl ?_ | refine zg rfl rfl rfl ?_ | refine zd ?_ | refine JK.fin ?_ | refine JK.ret ?_ | refine zlf fun134 rfl rfl rfl ?_ | refine zdf fun134 rfl rfl ?_ | refine zdg fun134 rfl rfl rfl ?_ | refine zc rfl (c) rfl rfl ?_ | refine ze rfl (c) rfl ?_ | refine zk rfl rfl (fun _ => c) rfl rfl ?_))
    refine JK.cond rfl (fun hb => ?_) (fun hb => ?_)
    · (repeat (first | refine zs rfl ?_ | refine zg rfl rfl rfl ?_ | refine zd ?_ | refine JK.fin ?_ | refine JK.ret ?_ | refine zlf fun134 rfl rfl rfl ?_ | refine zdf fun134 rfl rfl ?_ | refine zdg fun134 rfl rfl rfl ?_))
      refine ⟨.inl rfl, _, _, rfl, trivial, ?_⟩
      rw [getD_nat xs hi'] at hb
      rw [hd, List.drop_eq_getElem_cons hi', idxB, if_pos hb]
    · (repeat (first | refine zs rfl ?_ | refine zg rfl rfl rfl ?_ | refine zd ?_ | refine JK.fin ?_ | refine JK.ret ?_ | refine zlf fun134 rfl rfl rfl ?_ | refine zdf fun134 rfl rfl ?_ | refine zdg fun134 rfl rfl rfl ?_))
      rw [getD_nat xs hi'] at hb
      refine ⟨i + 1, by (exact JW.Auto (by conv => lhs; reduce)), ⟨by omega, ?_⟩, by omega⟩
      rw [hd, List.drop_eq_getElem_cons hi', idxB, if_neg (by rw [hb]; simp)]
  · (simp only [↓cdL] at hc; try simp only [Ty.dflt, Int.toNat_natCast] at hc)
    (repeat (first | refine zs rfl ?_ | refine zg rfl rfl rfl ?_ | refine zd ?_ | refine JK.fin ?_ | refine JK.ret ?_ | refine zlf fun134 rfl rfl rfl ?_ | refine zdf fun134 rfl rfl ?_ | refine zdg fun134 rfl rfl rfl ?_))
    refine ⟨.inl rfl, _, _, rfl, trivial, ?_⟩
    obtain rfl : i = xs.length := by omega
    rw [hd, List.drop_length]; rfl
def tcB (P : Int) (l : List Pt) (p e : Nat) : Bool := (bitsL p).any fun m => toB P l m e
def tcN (P : Int) (l : List Pt) (p k : Nat) : Nat := orN 0 ((List.range k).filter (tcB P l p))
theorem tcN_succ (P : Int) (l : List Pt) (p k : Nat) : tcN P l p (k + 1) = if tcB P l p k = true then tcN P l p k ||| 2 ^ k else tcN P l p k := by
  unfold tcN
  rw [List.range_succ, List.filter_append]
  by_cases h : tcB P l p k = true
  · rw [List.filter_cons_of_pos h, if_pos h]
    exact orN_snoc _ _ _
  · rw [List.filter_cons_of_neg h, if_neg h]
    simp
theorem tcN_bit (P : Int) (l : List Pt) (p k e : Nat) : (tcN P l p k).testBit e = (decide (e < k) && tcB P l p e) := by
  unfold tcN
  rw [orN_bit, Nat.zero_testBit, Bool.false_or, Bool.eq_iff_iff, decide_eq_true_iff, List.mem_filter, List.mem_range, Bool.and_eq_true, decide_eq_true_iff]
theorem tcN_lt (P : Int) (l : List Pt) (p : Nat) {k : Nat} (hk : k ≤ 16) : tcN P l p k < 65536 := by
  unfold tcN
  refine orN_lt (M := 16) (by decide) fun n hn => ?_
  have := List.mem_range.1 (List.mem_filter.1 hn).1
  omega
set_option maxHeartbeats 4000000 in
theorem fn80 (P : Int) (l : List Pt) (p : Nat) (hP : 1 ≤ P ∧ P ≤ 1000) (hl : okP P l) (h8 : l.length ≤ 8) (hp : p < 2 ^ l.length) :
    Ox.Fn Try.prog 80 (.acons (vH P l) (.acons (vI p) .anil)) (· = vI (tcN P l p (2 * l.length) : Nat)) := by
  refine Ox.Fn.intro xok Try.func80 rfl Try.call80 (Nat.le_of_ble_eq_true rfl) (fun E M0 up => ?_)
  refine JK.start ?_
  have hp256 : p < 256 := Nat.lt_of_lt_of_le hp (Nat.pow_le_pow_right (n := 2) (by omega) h8)
  have hbm : ∀ m ∈ bitsL p, m < l.length := fun m hm => by
    have h1 := (mem_bits.1 hm).2
    refine Nat.lt_of_not_le fun hle => ?_
    rw [Nat.testBit_lt_two_pow (Nat.lt_of_lt_of_le hp (Nat.pow_le_pow_right (by omega) hle))] at h1
    cases h1
  have c78 := fn78 p hp256
  (repeat (first | refine zs rfl ?_ | refine zg rfl rfl rfl ?_ | refine zd ?_ | refine JK.fin ?_ | refine JK.ret ?_ | refine zlf fun134 rfl rfl rfl ?_ | refine zdf fun134 rfl rfl ?_ | refine zdg fun134 rfl rfl rfl ?_))
  refine JK.loop (fun n : Nat => ⟨[(1, vI p), (2, .lf (.optr 0 [])), (5, vI (tcN P l p (2 * n) : Nat)), (6, .pfn (meT P l)), (17, vI l.length), (18, vI (n : Int))], [(0, .cell (.ptr shT) (vH P l))], 1⟩)
    (fun n => n ≤ l.length) (fun n => l.length - n) 0 (Nat.zero_le _) (by (exact JW.Auto (by conv => lhs; reduce))) fun n hn => ?_
  have hfin : n = l.length → tcN P l p (2 * n) = tcN P l p (2 * l.length) := fun e => by rw [e]
  (repeat (first | refine zs rfl ?_ | refine zg rfl rfl rfl ?_ | refine zd ?_ | refine JK.fin ?_ | refine JK.ret ?_ | refine zlf fun134 rfl rfl rfl ?_ | refine zdf fun134 rfl rfl ?_ | refine zdg fun134 rfl rfl rfl ?_))
  refine JK.cond rfl (fun hc => ?_) (fun hc => ?_)
  · (simp only [↓cdL] at hc; try simp only [Ty.dflt, Int.toNat_natCast] at hc)
    have hn' : n < l.length := by omega
    (repeat (first | refine zs rfl ?_ | refine zg rfl rfl rfl ?_ | refine zd ?_ | refine JK.fin ?_ | refine JK.ret ?_ | refine zlf fun134 rfl rfl rfl ?_ | refine zdf fun134 rfl rfl ?_ | refine zdg fun134 rfl rfl rfl ?_))
    refine JK.loop (fun k : Nat => ⟨[(1, vI p), (2, .lf (.optr 0 [])), (5, vI (tcN P l p (2 * n + k) : Nat)), (6, .pfn (meT P l)), (7, .lf (.optr 1 [])), (17, vI l.length), (18, vI (n : Int)), (21, vI (k : Int))], [(0, .cell (.ptr shT) (vH P l)), (1, .cell (.int .i64) (vI (n : Int)))], 2⟩)
      (fun k => k ≤ 2) (fun k => 2 - k) 0 (Nat.zero_le _) (by (exact JW.Auto (by conv => lhs; reduce))) fun k hk => ?_
    have hts := tcN_succ P l p (2 * n + k)
    have htl := tcN_lt P l p (k := 2 * n + k) (by omega)
    have hfk : k = 2 → tcN P l p (2 * n + k) = tcN P l p (2 * (n + 1)) := fun e => by rw [e]; rfl
    generalize tcN P l p (2 * n + k) = T at hts htl hfk ⊢
    (repeat (first | refine zs rfl ?_ | refine zg rfl rfl rfl ?_ | refine zd ?_ | refine JK.fin ?_ | refine JK.ret ?_ | refine zlf fun134 rfl rfl rfl ?_ | refine zdf fun134 rfl rfl ?_ | refine zdg fun134 rfl rfl rfl ?_))
    refine JK.cond rfl (fun hd => ?_) (fun hd => ?_)
    · (simp only [↓cdL] at hd; try simp only [Ty.dflt, Int.toNat_natCast] at hd)
      have c98 := fn98 P l (bitsL p) n k hP hl hbm hn' (by omega)
      have hid : (0 ≤ idxB (fun m => toB P l m (2 * n + k)) (bitsL p) 0) ↔ tcB P l p (2 * n + k) = true := idxB_nonneg
      generalize idxB (fun m => toB P l m (2 * n + k)) (bitsL p) 0 = ix at c98 hid
      have he : (2 * (n : Int) + (k : Int)).toNat = 2 * n + k := by omega
      have hpl : 2 ^ (2 * n + k) < 65536 := Nat.pow_lt_pow_right (a := 2) (by omega) (by omega : 2 * n + k < 16)
      have hpw : (2 : Int) ^ (2 * (n : Int) + (k : Int)).toNat = ((2 ^ (2 * n + k) : Nat) : Int) := by rw [he]; push_cast; rfl
      have hpb : 0 ≤ (2 : Int) ^ (2 * (n : Int) + (k : Int)).toNat ∧ (2 : Int) ^ (2 * (n : Int) + (k : Int)).toNat ≤ 65536 := by rw [hpw]; exact ⟨Int.natCast_nonneg _, Int.ofNat_le.2 (Nat.le_of_lt hpl)⟩
      have hor : (((T : Int).toNat ||| ((1 : Int) * 2 ^ (2 * (n : Int) + (k : Int)).toNat).toNat : Nat) : Int) = ((T ||| 2 ^ (2 * n + k) : Nat) : Int) := by
        rw [Int.toNat_natCast, Int.one_mul, hpw, Int.toNat_natCast]
      have hol : T ||| 2 ^ (2 * n + k) < 65536 := Nat.or_lt_two_pow (n := 16) htl hpl
      clear hpw
      (repeat (first | refine zs rfl ?_ | refine zg rfl rfl rfl ?_ | refine zd ?_ | refine JK.fin ?_ | refine JK.ret ?_ | refine zlf fun134 rfl rfl rfl ?_ | refine zdf fun134 rfl rfl ?_ | refine zdg fun134 rfl rfl rfl ?_ | refine zc rfl (c78) rfl rfl ?_ | refine ze rfl (c78) rfl ?_ | refine zk rfl rfl (fun _ => c78) rfl rfl ?_ | refine zc rfl (c98) rfl rfl ?_ | refine ze rfl (c98) rfl ?_ | refine zk rfl rfl (fun _ => c98) rfl rfl ?_))
      refine JK.cond rfl (fun hg => ?_) (fun hg => ?_)
      · (simp only [↓cdL] at hg; try simp only [Ty.dflt, Int.toNat_natCast] at hg)
        rw [if_pos (hid.1 hg)] at hts
        (repeat (first | refine zs rfl ?_ | refine zg rfl rfl rfl ?_ | refine zd ?_ | refine JK.fin ?_ | refine JK.ret ?_ | refine zlf fun134 rfl rfl rfl ?_ | refine zdf fun134 rfl rfl ?_ | refine zdg fun134 rfl rfl rfl ?_))
        refine ⟨k + 1, ?_, by omega, by omega⟩
        rw [show 2 * n + (k + 1) = 2 * n + k + 1 by omega, hts, ← hor]
        (exact JW.Auto (by conv => lhs; reduce))
      · (simp only [↓cdL] at hg; try simp only [Ty.dflt, Int.toNat_natCast] at hg)
        rw [if_neg (fun h => hg (hid.2 h))] at hts
        (repeat (first | refine zs rfl ?_ | refine zg rfl rfl rfl ?_ | refine zd ?_ | refine JK.fin ?_ | refine JK.ret ?_ | refine zlf fun134 rfl rfl rfl ?_ | refine zdf fun134 rfl rfl ?_ | refine zdg fun134 rfl rfl rfl ?_))
        refine ⟨k + 1, ?_, by omega, by omega⟩
        rw [show 2 * n + (k + 1) = 2 * n + k + 1 by omega, hts]
        (exact JW.Auto (by conv => lhs; reduce))
    · (simp only [↓cdL] at hd; try simp only [Ty.dflt, Int.toNat_natCast] at hd)
      rw [hfk (by omega)]
      (repeat (first | refine zs rfl ?_ | refine zg rfl rfl rfl ?_ | refine zd ?_ | refine JK.fin ?_ | refine JK.ret ?_ | refine zlf fun134 rfl rfl rfl ?_ | refine zdf fun134 rfl rfl ?_ | refine zdg fun134 rfl rfl rfl ?_))
      exact ⟨n + 1, by (exact JW.Auto (by conv => lhs; reduce)), by omega, by omega⟩
  · (simp only [↓cdL] at hc; try simp only [Ty.dflt, Int.toNat_natCast] at hc)
    (repeat (first | refine zs rfl ?_ | refine zg rfl rfl rfl ?_ | refine zd ?_ | refine JK.fin ?_ | refine JK.ret ?_ | refine zlf fun134 rfl rfl rfl ?_ | refine zdf fun134 rfl rfl ?_ | refine zdg fun134 rfl rfl rfl ?_))
    refine ⟨.inl rfl, _, _, rfl, trivial, ?_⟩
    rw [hfin (by omega)]
def tM (P : Int) (l : List Pt) (p m : Nat) : Bool := tcB P l p (2 * m) || tcB P l p (2 * m + 1)
def grN (P : Int) (l : List Pt) (p k : Nat) : Nat := orN p ((List.range k).filter (tM P l p))
theorem grN_succ (P : Int) (l : List Pt) (p k : Nat) : grN P l p (k + 1) = if tM P l p k = true then grN P l p k ||| 2 ^ k else grN P l p k := by
  unfold grN
  rw [List.range_succ, List.filter_append]
  by_cases h : tM P l p k = true
  · rw [List.filter_cons_of_pos h, if_pos h]
    exact orN_snoc _ _ _
  · rw [List.filter_cons_of_neg h, if_neg h]
    simp
theorem grN_bit (P : Int) (l : List Pt) (p k m : Nat) : (grN P l p k).testBit m = (p.testBit m || (decide (m < k) && tM P l p m)) := by
  unfold grN
  rw [orN_bit]
  congr 1
  rw [Bool.eq_iff_iff, decide_eq_true_iff, List.mem_filter, List.mem_range, Bool.and_eq_true, decide_eq_true_iff]
theorem grN_lt {P : Int} {l : List Pt} {p k M : Nat} (hp : p < 2 ^ M) (hk : k ≤ M) : grN P l p k < 2 ^ M := by
  unfold grN
  refine orN_lt hp fun n hn => ?_
  have := List.mem_range.1 (List.mem_filter.1 hn).1
  omega
theorem grN_ge (P : Int) (l : List Pt) (p k : Nat) : p ≤ grN P l p k := by
  have h : p ||| grN P l p k = grN P l p k := Nat.eq_of_testBit_eq fun i => by
    rw [Nat.testBit_or, grN_bit]; cases p.testBit i <;> simp
  rw [← h]
  exact Nat.left_le_or
theorem three_bit (t m : Nat) : t &&& (3 * 2 ^ (2 * m)) = 0 ↔ (t.testBit (2 * m) || t.testBit (2 * m + 1)) = false := by
  have e : (3 * 2 ^ (2 * m)) = 2 ^ (2 * m) ||| 2 ^ (2 * m + 1) := by
    refine Nat.eq_of_testBit_eq fun i => ?_
    rw [Nat.testBit_or, Nat.testBit_two_pow, Nat.testBit_two_pow, Nat.mul_comm, Nat.testBit_two_pow_mul]
    rcases Nat.lt_or_ge i (2 * m) with h | h
    · have h1 : ¬ 2 * m = i := by omega
      have h2 : ¬ 2 * m + 1 = i := by omega
      simp [h1, h2, Nat.not_le.2 h]
    · obtain ⟨j, rfl⟩ : ∃ j, i = 2 * m + j := ⟨i - 2 * m, by omega⟩
      have h3 : 2 * m + j - 2 * m = j := by omega
      rw [h3]
      match j with
      | 0 => simp
      | 1 =>
        have h4 : Nat.testBit 3 1 = true := by decide
        simp [h4]
      | j + 2 =>
        have h1 : ¬ 2 * m = 2 * m + (j + 2) := by omega
        have h2 : ¬ 2 * m + 1 = 2 * m + (j + 2) := by omega
        have h4 : Nat.testBit 3 (j + 2) = false := Nat.testBit_lt_two_pow (Nat.lt_of_lt_of_le (by decide : 3 < 2 ^ 2) (Nat.pow_le_pow_right (by omega) (by omega)))
        simp [h1, h2, h4]
  rw [e]
  constructor
  · intro h
    have a := congrArg (fun z => z.testBit (2 * m)) h
    have b := congrArg (fun z => z.testBit (2 * m + 1)) h
    simp only [Nat.testBit_and, Nat.testBit_or, Nat.testBit_two_pow, Nat.zero_testBit] at a b
    simp at a b
    rw [a, b]; rfl
  · intro h
    rw [Bool.or_eq_false_iff] at h
    refine Nat.eq_of_testBit_eq fun i => ?_
    rw [Nat.testBit_and, Nat.testBit_or, Nat.testBit_two_pow, Nat.testBit_two_pow, Nat.zero_testBit]
    by_cases h1 : 2 * m = i
    · rw [← h1, h.1]; rfl
    · by_cases h2 : 2 * m + 1 = i
      · rw [← h2, h.2]; rfl
      · simp [h1, h2]
def grF (P : Int) (l : List Pt) : Nat → Nat → Nat
  | 0, p => p
  | f + 1, p => if grN P l p l.length = p then p else grF P l f (grN P l p l.length)
def grp (P : Int) (l : List Pt) (n : Nat) : Nat := grF P l 256 (2 ^ n)
set_option maxHeartbeats 4000000 in
theorem fn76 (P : Int) (l : List Pt) (n : Nat) (hP : 1 ≤ P ∧ P ≤ 1000) (hl : okP P l) (h8 : l.length ≤ 8) (hn : n < l.length) :
    Ox.Fn Try.prog 76 (.acons (vH P l) (.acons (vI n) .anil)) (· = vI (grp P l n : Nat)) := by
  refine Ox.Fn.intro xok Try.func76 rfl Try.call76 (Nat.le_of_ble_eq_true rfl) (fun E M0 up => ?_)
  refine JK.start ?_
  have hlp : 2 ^ l.length ≤ 256 := Nat.pow_le_pow_right (n := 2) (by omega) h8
  have hnp : 2 ^ n < 2 ^ l.length := Nat.pow_lt_pow_right (by omega) hn
  have hnw : (2 : Int) ^ n = ((2 ^ n : Nat) : Int) := by push_cast; rfl
  have hnb : 0 ≤ (2 : Int) ^ n ∧ (2 : Int) ^ n ≤ 65536 := by rw [hnw]; exact ⟨Int.natCast_nonneg _, Int.ofNat_le.2 (show 2 ^ n ≤ 65536 from Nat.le_trans (Nat.le_of_lt hnp) (Nat.le_trans hlp (by decide)))⟩
  have e0 : ((2 ^ n : Nat) : Int) = 1 * 2 ^ ((n : Int)).toNat := by rw [Int.one_mul, Int.toNat_natCast, hnw]
  refine JK.weak (s' := ⟨[(0, vH P l), (1, vI n)], [], 0⟩) (by (exact JW.Auto (by conv => lhs; reduce))) ?_
  (repeat (first | refine zs rfl ?_ | refine zg rfl rfl rfl ?_ | refine zd ?_ | refine JK.fin ?_ | refine JK.ret ?_ | refine zlf fun134 rfl rfl rfl ?_ | refine zdf fun134 rfl rfl ?_ | refine zdg fun134 rfl rfl rfl ?_))
  refine JK.loop (σ := Nat × Nat) (fun q => ⟨[(0, vH P l), (5, vI (q.2 : Nat))], [], 0⟩)
    (fun q => grp P l n = grF P l q.1 q.2 ∧ q.2 < 2 ^ l.length ∧ 256 ≤ q.1 + q.2) (fun q => q.1) (256, 2 ^ n) ⟨rfl, hnp, by omega⟩ ?_ fun q hq => ?_
  · dsimp only; rw [e0]; (exact JW.Auto (by conv => lhs; reduce))
  obtain ⟨f, p⟩ := q
  obtain ⟨q1, q2, q3⟩ := hq
  dsimp only at q1 q2 q3 ⊢
  have hp256 : p < 256 := by omega
  have c80 := fn80 P l p hP hl h8 q2
  have htl := tcN_lt P l p (k := 2 * l.length) (by omega)
  have htb := fun e => tcN_bit P l p (2 * l.length) e
  (repeat (first | refine zs rfl ?_ | refine zg rfl rfl rfl ?_ | refine zd ?_ | refine JK.fin ?_ | refine JK.ret ?_ | refine zlf fun134 rfl rfl rfl ?_ | refine zdf fun134 rfl rfl ?_ | refine zdg fun134 rfl rfl rfl ?_))
  refine JK.loop (fun k : Nat => ⟨[(0, vH P l), (5, vI (p : Nat)), (6, vI (grN P l p k : Nat)), (16, vI l.length), (17, vI (k : Int))], [], 0⟩)
    (fun k => k ≤ l.length) (fun k => l.length - k) 0 (Nat.zero_le _) (by (exact JW.Auto (by conv => lhs; reduce))) fun k hk => ?_
  have hgs := grN_succ P l p k
  have hgl := grN_lt (P := P) (l := l) (k := k) q2 hk
  have hgf : k = l.length → grN P l p k = grN P l p l.length := fun e => by rw [e]
  generalize grN P l p k = G at hgs hgl hgf ⊢
  (repeat (first | refine zs rfl ?_ | refine zg rfl rfl rfl ?_ | refine zd ?_ | refine JK.fin ?_ | refine JK.ret ?_ | refine zlf fun134 rfl rfl rfl ?_ | refine zdf fun134 rfl rfl ?_ | refine zdg fun134 rfl rfl rfl ?_))
  refine JK.cond rfl (fun hc => ?_) (fun hc => ?_)
  · (simp only [↓cdL] at hc; try simp only [Ty.dflt, Int.toNat_natCast] at hc)
    have hk8 : k < l.length := by omega
    have e1 : (2 * (k : Int)).toNat = 2 * k := by omega
    have hpl : 3 * 2 ^ (2 * k) < 65536 := by
      have : 2 ^ (2 * k) ≤ 2 ^ 14 := Nat.pow_le_pow_right (by omega) (by omega)
      have e : (2 : Nat) ^ 14 = 16384 := by decide
      omega
    have hpw : (3 : Int) * 2 ^ (2 * (k : Int)).toNat = ((3 * 2 ^ (2 * k) : Nat) : Int) := by rw [e1]; push_cast; rfl
    have hpb : 0 ≤ (3 : Int) * 2 ^ (2 * (k : Int)).toNat ∧ (3 : Int) * 2 ^ (2 * (k : Int)).toNat ≤ 65536 := by rw [hpw]; exact ⟨Int.natCast_nonneg _, Int.ofNat_le.2 (Nat.le_of_lt hpl)⟩
    have hqb : 0 ≤ (2 : Int) ^ (2 * (k : Int)).toNat ∧ (2 : Int) ^ (2 * (k : Int)).toNat ≤ 65536 := by omega
    have hwp : 2 ^ k < 2 ^ l.length := Nat.pow_lt_pow_right (by omega) hk8
    have hww : (2 : Int) ^ k = ((2 ^ k : Nat) : Int) := by push_cast; rfl
    have hwb : 0 ≤ (2 : Int) ^ k ∧ (2 : Int) ^ k ≤ 65536 := by rw [hww]; exact ⟨Int.natCast_nonneg _, Int.ofNat_le.2 (show 2 ^ k ≤ 65536 from Nat.le_trans (Nat.le_of_lt hwp) (Nat.le_trans hlp (by decide)))⟩
    have hor : (((G : Int).toNat ||| ((1 : Int) * 2 ^ ((k : Int)).toNat).toNat : Nat) : Int) = ((G ||| 2 ^ k : Nat) : Int) := by
      rw [Int.toNat_natCast, Int.toNat_natCast, Int.one_mul, hww, Int.toNat_natCast]
    have hgo : G ||| 2 ^ k < 2 ^ l.length := Nat.or_lt_two_pow hgl hwp
    have hcnd : ((((tcN P l p (2 * l.length) : Nat) : Int).toNat &&& ((3 : Int) * 2 ^ (2 * (k : Int)).toNat).toNat : Nat) : Int) ≠ 0 ↔ tM P l p k = true := by
      rw [Int.toNat_natCast, hpw, Int.toNat_natCast]
      have h3 := three_bit (tcN P l p (2 * l.length)) k
      rw [htb, htb, decide_eq_true (by omega), decide_eq_true (by omega), Bool.true_and, Bool.true_and] at h3
      show ((tcN P l p (2 * l.length) &&& 3 * 2 ^ (2 * k) : Nat) : Int) ≠ ((0 : Nat) : Int) ↔ _
      rw [ne_eq, Int.ofNat_inj, h3]
      unfold tM
      rw [Bool.not_eq_false]
    have hgG : G < 256 := by omega
    clear hww hpw
    generalize tcN P l p (2 * l.length) = T at c80 htl hcnd
    (repeat (first | refine zs rfl ?_ | refine zg rfl rfl rfl ?_ | refine zd ?_ | refine JK.fin ?_ | refine JK.ret ?_ | refine zlf fun134 rfl rfl rfl ?_ | refine zdf fun134 rfl rfl ?_ | refine zdg fun134 rfl rfl rfl ?_ | refine zc rfl (c80) rfl rfl ?_ | refine ze rfl (c80) rfl ?_ | refine zk rfl rfl (fun _ => c80) rfl rfl ?_))
    refine JK.cond rfl (fun hd => ?_) (fun hd => ?_)
    · (simp only [↓cdL] at hd; try simp only [Ty.dflt, Int.toNat_natCast] at hd)
      rw [if_pos (hcnd.1 hd)] at hgs
      (repeat (first | refine zs rfl ?_ | refine zg rfl rfl rfl ?_ | refine zd ?_ | refine JK.fin ?_ | refine JK.ret ?_ | refine zlf fun134 rfl rfl rfl ?_ | refine zdf fun134 rfl rfl ?_ | refine zdg fun134 rfl rfl rfl ?_))
      refine ⟨k + 1, ?_, by omega, by omega⟩
      rw [hgs, ← hor]
      (exact JW.Auto (by conv => lhs; reduce))
    · (simp only [↓cdL] at hd; try simp only [Ty.dflt, Int.toNat_natCast] at hd)
      rw [if_neg (fun h => (hcnd.2 h) hd)] at hgs
      (repeat (first | refine zs rfl ?_ | refine zg rfl rfl rfl ?_ | refine zd ?_ | refine JK.fin ?_ | refine JK.ret ?_ | refine zlf fun134 rfl rfl rfl ?_ | refine zdf fun134 rfl rfl ?_ | refine zdg fun134 rfl rfl rfl ?_))
      refine ⟨k + 1, ?_, by omega, by omega⟩
      rw [hgs]
      (exact JW.Auto (by conv => lhs; reduce))
  · (simp only [↓cdL] at hc; try simp only [Ty.dflt, Int.toNat_natCast] at hc)
    rw [hgf (by omega)]
    have hge := grN_ge P l p l.length
    have hlt := grN_lt (P := P) (l := l) (k := l.length) q2 (Nat.le_refl _)
    have hst : 0 < f := by
      rcases Nat.eq_zero_or_pos f with e | e
      · omega
      · exact e
    obtain ⟨f', rfl⟩ : ∃ f', f = f' + 1 := ⟨f - 1, by omega⟩
    rw [grF] at q1
    generalize grN P l p l.length = Q at q1 hge hlt ⊢
    (repeat (first | refine zs rfl ?_ | refine zg rfl rfl rfl ?_ | refine zd ?_ | refine JK.fin ?_ | refine JK.ret ?_ | refine zlf fun134 rfl rfl rfl ?_ | refine zdf fun134 rfl rfl ?_ | refine zdg fun134 rfl rfl rfl ?_))
    refine JK.cond rfl (fun hd => ?_) (fun hd => ?_)
    · (simp only [↓cdL] at hd; try simp only [Ty.dflt, Int.toNat_natCast] at hd)
      have hd' : Q = p := Int.ofNat_inj.1 hd
      rw [if_pos hd'] at q1
      (repeat (first | refine zs rfl ?_ | refine zg rfl rfl rfl ?_ | refine zd ?_ | refine JK.fin ?_ | refine JK.ret ?_ | refine zlf fun134 rfl rfl rfl ?_ | refine zdf fun134 rfl rfl ?_ | refine zdg fun134 rfl rfl rfl ?_))
      refine ⟨.inl rfl, _, _, rfl, trivial, ?_⟩
      rw [q1]
    · (simp only [↓cdL] at hd; try simp only [Ty.dflt, Int.toNat_natCast] at hd)
      have hd' : Q ≠ p := fun h => hd (by rw [h])
      rw [if_neg hd'] at q1
      (repeat (first | refine zs rfl ?_ | refine zg rfl rfl rfl ?_ | refine zd ?_ | refine JK.fin ?_ | refine JK.ret ?_ | refine zlf fun134 rfl rfl rfl ?_ | refine zdf fun134 rfl rfl ?_ | refine zdg fun134 rfl rfl rfl ?_))
      exact ⟨(f', Q), by dsimp only; (exact JW.Auto (by conv => lhs; reduce)), ⟨q1, hlt, by dsimp only; omega⟩, Nat.lt_succ_self _⟩
end Go.Proofs.Ytinehlphcckkmaa

namespace Go.Proofs.Ytinehlphcckkmaa
open Go Go.RowKit Ox Ox.Sh Ox.Se
attribute [local irreducible] JC JL JK JW
attribute [local irreducible] ovA stA pkV
def pkS (P : Int) (l : List Pt) : Nat → Int × Nat
  | 0 => (-1, 0)
  | k + 1 => if (pkS P l k).1 < ov P l (k : Int) then (ov P l (k : Int), k) else pkS P l k
theorem fn73 (P : Int) (l : List Pt) (i j : Nat) (hz : seE P l = 0) (hi : i < l.length) (hj : j < l.length) : Ox.Fn Try.prog 73 (.acons (vS P l) (.acons (vI i) (.acons (vI j) .anil))) (· = vI (gp P l i j)) := by
  obtain ⟨hP, h1, h8, hl⟩ := se_ok.1 hz
  refine Ox.Fn.intro xok Try.func73 rfl Try.call73 (Nat.le_of_ble_eq_true rfl) (fun E M0 up => ?_)
  refine JK.start ?_
  have c54 := fn54 P l i hP hl hi
  have hb := (pt_bd hl hj).1
  have he : 0 ≤ eN P l i ∧ eN P l i < P := mod_bd hP.1 _
  have hg : gp P l i j = ((l.getD j (0, 0, ())).1 + P - eN P l i) % P := by
    show ((l.getD j (0, 0, ())).1 - eN P l i) % P = _
    rw [← Int.add_emod_right]
    congr 1; omega
  generalize eN P l i = e at *
  (repeat (first | refine zs rfl ?_ | refine zg rfl rfl rfl ?_ | refine zd ?_ | refine JK.fin ?_ | refine JK.ret ?_ | refine zc rfl (c54) rfl rfl ?_ | refine ze rfl (c54) rfl ?_ | refine zk rfl rfl (fun _ => c54) rfl rfl ?_))
  refine ⟨.inl rfl, _, _, rfl, trivial, ?_⟩
  rw [hg]; rfl
def overE (P : Int) (l : List Pt) (u : Int) : Int := if seE P l ≠ 0 then seE P l else if 0 ≤ u ∧ u < P then 0 else 3
def overI (P : Int) (l : List Pt) (u : Int) : Int := if overE P l u = 0 then ov P l u else 0
theorem over_ok {P : Int} {l : List Pt} {u : Int} : overE P l u = 0 ↔ seE P l = 0 ∧ 0 ≤ u ∧ u < P := by
  unfold overE
  split
  · rename_i h; exact ⟨fun h' => absurd h' h, fun h' => absurd h'.1 h⟩
  · rename_i h
    split
    · rename_i h'; exact ⟨fun _ => ⟨Classical.not_not.1 h, h'⟩, fun _ => rfl⟩
    · rename_i h'; exact ⟨fun e => by omega, fun e => absurd e.2 h'⟩
theorem fn26 (P : Int) (l : List Pt) (u : Int) : Ox.Fn Try.prog 26 (.acons (vS P l) (.acons (vI u) .anil)) (· = vT2 (overI P l u) (overE P l u)) := by
  refine Ox.Fn.intro xok Try.func26 rfl Try.call26 (Nat.le_of_ble_eq_true rfl) (fun E M0 up => ?_)
  refine JK.start ?_
  have c61 := fn61 P l
  by_cases hz : seE P l = 0
  · obtain ⟨hP, h1, h8, hl⟩ := se_ok.1 hz
    have c58 := fn58 0 (P - 1) (u :: List.nil)
    have e1 : (∀ x ∈ (u :: List.nil), 0 ≤ x ∧ x ≤ P - 1) ↔ (0 ≤ u ∧ u < P) := by simp; omega
    have e1' : decide (∀ x ∈ (u :: List.nil), 0 ≤ x ∧ x ≤ P - 1) = decide (0 ≤ u ∧ u < P) := decide_eq_decide.2 e1
    rw [e1'] at c58
    unfold vOp at c61
    rw [if_pos hz, hz] at c61
    have hlen := ovA_len (P := P) (l := l)
    (repeat (first | refine zs rfl ?_ | refine zg rfl rfl rfl ?_ | refine zd ?_ | refine JK.fin ?_ | refine JK.ret ?_ | refine zc rfl (c61) rfl rfl ?_ | refine ze rfl (c61) rfl ?_ | refine zk rfl rfl (fun _ => c61) rfl rfl ?_ | refine zc rfl (c58) rfl rfl ?_ | refine ze rfl (c58) rfl ?_ | refine zk rfl rfl (fun _ => c58) rfl rfl ?_))
    refine JK.cond rfl (fun h => absurd h (by decide)) (fun _ => ?_)
    (repeat (first | refine zs rfl ?_ | refine zg rfl rfl rfl ?_ | refine zd ?_ | refine JK.fin ?_ | refine JK.ret ?_ | refine zc rfl (c58) rfl rfl ?_ | refine ze rfl (c58) rfl ?_ | refine zk rfl rfl (fun _ => c58) rfl rfl ?_))
    refine JK.cond rfl (fun hd => ?_) (fun hd => ?_)
    · (simp only [↓cdL] at hd; try simp only [Ty.dflt, Int.toNat_natCast] at hd)
      (repeat (first | refine zs rfl ?_ | refine zg rfl rfl rfl ?_ | refine zd ?_ | refine JK.fin ?_ | refine JK.ret ?_))
      refine ⟨.inl rfl, _, _, rfl, trivial, ?_⟩
      have e : overE P l u = 3 := by unfold overE; rw [if_neg (by omega), if_neg hd]
      unfold overI; rw [e, if_neg (by decide)]
    · (simp only [↓cdL] at hd; try simp only [Ty.dflt, Int.toNat_natCast] at hd)
      have hg := ovA_get (P := P) (l := l) (v := u.toNat) (by omega)
      rw [if_pos (by omega), Int.toNat_of_nonneg hd.1] at hg
      have e : overE P l u = 0 := over_ok.2 ⟨hz, hd⟩
      have e2 : overI P l u = (ovA P l).getD u.toNat 0 := by unfold overI; rw [e, if_pos rfl, hg]
      rw [e, e2]
      (repeat (first | refine zs rfl ?_ | refine zg rfl rfl rfl ?_ | refine zd ?_ | refine JK.fin ?_ | refine JK.ret ?_))
      refine ⟨.inl rfl, _, _, rfl, trivial, ?_⟩
      rfl
  · unfold vOp at c61
    rw [if_neg hz] at c61
    (repeat (first | refine zs rfl ?_ | refine zg rfl rfl rfl ?_ | refine zd ?_ | refine JK.fin ?_ | refine JK.ret ?_ | refine zc rfl (c61) rfl rfl ?_ | refine ze rfl (c61) rfl ?_ | refine zk rfl rfl (fun _ => c61) rfl rfl ?_))
    refine JK.cond rfl (fun hc => ?_) (fun hc => ?_)
    · (repeat (first | refine zs rfl ?_ | refine zg rfl rfl rfl ?_ | refine zd ?_ | refine JK.fin ?_ | refine JK.ret ?_))
      refine ⟨.inl rfl, _, _, rfl, trivial, ?_⟩
      have e : overE P l u = seE P l := by unfold overE; rw [if_pos hz]
      unfold overI; rw [e, if_neg hz]
    · (simp only [↓cdL] at hc; try simp only [Ty.dflt, Int.toNat_natCast] at hc)
      omega
def vT3 (a b c : Int) : AV := .tup (.acons (vI a) (.acons (vI b) (.acons (vI c) .anil)))
def pkI (P : Int) (l : List Pt) : Int := if seE P l = 0 then pkV P l else 0
def paI (P : Int) (l : List Pt) : Int := if seE P l = 0 then (pkA P l : Nat) else 0
theorem fn28 (P : Int) (l : List Pt) : Ox.Fn Try.prog 28 (.acons (vS P l) .anil) (· = .tup (.acons (vI (pkI P l)) (.acons (vI (paI P l)) (.acons (vI (seE P l)) .anil)))) := by
  refine Ox.Fn.intro xok Try.func28 rfl Try.call28 (Nat.le_of_ble_eq_true rfl) (fun E M0 up => ?_)
  refine JK.start ?_
  have c61 := fn61 P l
  unfold vOp at c61
  by_cases hz : seE P l = 0
  · obtain ⟨hP, h1, h8, hl⟩ := se_ok.1 hz
    have c68 := fn68 P l hP
    rw [if_pos hz, hz] at c61
    (repeat (first | refine zs rfl ?_ | refine zg rfl rfl rfl ?_ | refine zd ?_ | refine JK.fin ?_ | refine JK.ret ?_ | refine zc rfl (c61) rfl rfl ?_ | refine ze rfl (c61) rfl ?_ | refine zk rfl rfl (fun _ => c61) rfl rfl ?_ | refine zc rfl (c68) rfl rfl ?_ | refine ze rfl (c68) rfl ?_ | refine zk rfl rfl (fun _ => c68) rfl rfl ?_))
    refine JK.cond rfl (fun h => absurd h (by decide)) (fun _ => ?_)
    (repeat (first | refine zs rfl ?_ | refine zg rfl rfl rfl ?_ | refine zd ?_ | refine JK.fin ?_ | refine JK.ret ?_ | refine zc rfl (c68) rfl rfl ?_ | refine ze rfl (c68) rfl ?_ | refine zk rfl rfl (fun _ => c68) rfl rfl ?_))
    refine ⟨.inl rfl, _, _, rfl, trivial, ?_⟩
    unfold pkI paI; rw [if_pos hz, if_pos hz, hz]
  · rw [if_neg hz] at c61
    (repeat (first | refine zs rfl ?_ | refine zg rfl rfl rfl ?_ | refine zd ?_ | refine JK.fin ?_ | refine JK.ret ?_ | refine zc rfl (c61) rfl rfl ?_ | refine ze rfl (c61) rfl ?_ | refine zk rfl rfl (fun _ => c61) rfl rfl ?_))
    refine JK.cond rfl (fun hc => ?_) (fun hc => ?_)
    · (repeat (first | refine zs rfl ?_ | refine zg rfl rfl rfl ?_ | refine zd ?_ | refine JK.fin ?_ | refine JK.ret ?_))
      refine ⟨.inl rfl, _, _, rfl, trivial, ?_⟩
      unfold pkI paI; rw [if_neg hz, if_neg hz]
    · (simp only [↓cdL] at hc; try simp only [Ty.dflt, Int.toNat_natCast] at hc)
      omega
end Go.Proofs.Ytinehlphcckkmaa

namespace Go.Proofs.Ytinehlphcckkmaa
open Go Go.RowKit Ox Ox.Sh Ox.Se
attribute [local irreducible] JC JL JK JW
attribute [local irreducible] ovA stA pkV
theorem fn63 (P : Int) (l : List Pt) (n : Int) : Ox.Fn Try.prog 63 (.acons (vI n) (.acons (ppH P l) .anil)) (· = vB (!decide (0 ≤ n ∧ n < (l.length : Int)))) := by
  refine Ox.Fn.intro xok Try.func63 rfl Try.call63 (Nat.le_of_ble_eq_true rfl) (fun E M0 up => ?_)
  refine JK.start ?_
  (repeat (first | refine zs rfl ?_ | refine zg rfl rfl rfl ?_ | refine zd ?_ | refine JK.fin ?_ | refine JK.ret ?_ | refine zc rfl (fn64 P l n) rfl rfl ?_ | refine ze rfl (fn64 P l n) rfl ?_ | refine zk rfl rfl (fun _ => fn64 P l n) rfl rfl ?_))
  refine ⟨.inl rfl, _, _, rfl, trivial, ?_⟩
  rfl
def inB (l : List Pt) (xs : List Int) : Bool := !xs.any fun n => !decide (0 ≤ n ∧ n < (l.length : Int))
theorem inB_iff {l : List Pt} {xs : List Int} : inB l xs = true ↔ ∀ x ∈ xs, 0 ≤ x ∧ x < (l.length : Int) := by
  unfold inB
  rw [Bool.not_eq_true', List.any_eq_false]
  constructor
  · intro h x hx
    have := h x hx
    simpa using this
  · intro h x hx
    simpa using h x hx
def conB (P : Int) (l : List Pt) (xs : List Int) (k : Nat) : Bool := (List.range k).all fun i => decide (gp P l (xs.getD i 0).toNat (xs.getD (i + 1) 0).toNat = 0)
theorem conB_succ (P : Int) (l : List Pt) (xs : List Int) (k : Nat) : conB P l xs (k + 1) = (conB P l xs k && decide (gp P l (xs.getD k 0).toNat (xs.getD (k + 1) 0).toNat = 0)) := by
  unfold conB
  rw [List.range_succ, List.all_append]; simp
theorem conB_false {P : Int} {l : List Pt} {xs : List Int} {k m : Nat} (hk : k < m) (h : gp P l (xs.getD k 0).toNat (xs.getD (k + 1) 0).toNat ≠ 0) : conB P l xs m = false := by
  unfold conB
  rw [List.all_eq_false]
  exact ⟨k, List.mem_range.2 hk, by simpa using h⟩
def conE (P : Int) (l : List Pt) (xs : List Int) : Int := if seE P l ≠ 0 then seE P l else if inB l xs = false then 3 else if conB P l xs (xs.length - 1) = false then 20 else 0
theorem in_get {l : List Pt} {xs : List Int} (h : inB l xs = true) {i : Nat} (hi : i < xs.length) : (xs.getD i 0).toNat < l.length ∧ xs.getD i 0 = ((xs.getD i 0).toNat : Int) := by
  have := inB_iff.1 h (xs.getD i 0) (by rw [getD_nat xs hi]; exact List.getElem_mem hi)
  omega
set_option maxHeartbeats 1000000 in
theorem fn24 (P : Int) (l : List Pt) (xs : List Int) : Ox.Fn Try.prog 24 (.acons (vS P l) (.acons (vL xs) .anil)) (· = vI (conE P l xs)) := by
  refine Ox.Fn.intro xok Try.func24 rfl Try.call24 (Nat.le_of_ble_eq_true rfl) (fun E M0 up => ?_)
  refine JK.start ?_
  refine JK.lenOf 1 rfl fun hlen => ?_
  replace hlen : xs.length ≤ 9223372036854775807 := hlen.1
  have c61 := fn61 P l
  unfold vOp at c61
  by_cases hz : seE P l = 0
  · obtain ⟨hP, h1, h8, hl⟩ := se_ok.1 hz
    have c62 := fn62 xs (fun n => !decide (0 ≤ n ∧ n < (l.length : Int))) (fun x _ => fn63 P l x)
    have hib : (xs.any fun n => !decide (0 ≤ n ∧ n < (l.length : Int))) = !inB l xs := by unfold inB; rw [Bool.not_not]
    rw [hib] at c62
    rw [if_pos hz, hz] at c61
    (repeat (first | refine zs rfl ?_ | refine zg rfl rfl rfl ?_ | refine zd ?_ | refine JK.fin ?_ | refine JK.ret ?_ | refine zc rfl (c61) rfl rfl ?_ | refine ze rfl (c61) rfl ?_ | refine zk rfl rfl (fun _ => c61) rfl rfl ?_ | refine zc rfl (c62) rfl rfl ?_ | refine ze rfl (c62) rfl ?_ | refine zk rfl rfl (fun _ => c62) rfl rfl ?_))
    refine JK.cond rfl (fun h => absurd h (by decide)) (fun _ => ?_)
    (repeat (first | refine zs rfl ?_ | refine zg rfl rfl rfl ?_ | refine zd ?_ | refine JK.fin ?_ | refine JK.ret ?_ | refine zc rfl (c62) rfl rfl ?_ | refine ze rfl (c62) rfl ?_ | refine zk rfl rfl (fun _ => c62) rfl rfl ?_))
    refine JK.cond rfl (fun hd => ?_) (fun hd => ?_)
    · (simp only [↓cdL] at hd; try simp only [Ty.dflt, Int.toNat_natCast] at hd)
      (repeat (first | refine zs rfl ?_ | refine zg rfl rfl rfl ?_ | refine zd ?_ | refine JK.fin ?_ | refine JK.ret ?_))
      refine ⟨.inl rfl, _, _, rfl, trivial, ?_⟩
      unfold conE; rw [if_neg (by omega), if_pos (by simpa using hd)]
    · have hin : inB l xs = true := by simpa using hd
      (repeat (first | refine zs rfl ?_ | refine zg rfl rfl rfl ?_ | refine zd ?_ | refine JK.fin ?_ | refine JK.ret ?_))
      refine JK.loop (fun j : Nat => ⟨[(1, vL xs), (5, .lf (.optr 0 [])), (7, vI ((j : Int) + 1))], [(0, .cell (.ptr shT) (vH P l))], 1⟩) (fun j => j ≤ xs.length - 1 ∧ conB P l xs j = true) (fun j => xs.length - j) 0 ⟨Nat.zero_le _, rfl⟩ (by (exact JW.Auto (by conv => lhs; reduce))) fun j ⟨hj, hcj⟩ => ?_
      (repeat (first | refine zs rfl ?_ | refine zg rfl rfl rfl ?_ | refine zd ?_ | refine JK.fin ?_ | refine JK.ret ?_))
      refine JK.cond rfl (fun he => ?_) (fun he => ?_)
      · (simp only [↓cdL] at he; try simp only [Ty.dflt, Int.toNat_natCast] at he)
        have hj' : j + 1 < xs.length := by omega
        obtain ⟨a1, a2⟩ := in_get hin (i := j) (by omega)
        obtain ⟨b1, b2⟩ := in_get hin (i := j + 1) hj'
        have c65 := fn65 P l (xs.getD j 0).toNat (xs.getD (j + 1) 0).toNat hP hl a1 b1
        rw [← a2, ← b2] at c65
        have e1 : ((j : Int) + 1 - 1).toNat = j := by omega
        have e2 : ((j : Int) + 1).toNat = j + 1 := by omega
        have c65' : Ox.Fn Try.prog 65 (.acons (vH P l) (.acons (vI (xs.getD ((j : Int) + 1 - 1).toNat 0)) (.acons (vI (xs.getD ((j : Int) + 1).toNat 0)) .anil))) (· = vI (gp P l (xs.getD j 0).toNat (xs.getD (j + 1) 0).toNat)) := by rw [e1, e2]; exact c65
        have hgb := (gp_bd (l := l) hP.1 (xs.getD j 0).toNat (xs.getD (j + 1) 0).toNat).1
        have hcs := conB_succ P l xs j
        have hcf : gp P l (xs.getD j 0).toNat (xs.getD (j + 1) 0).toNat ≠ 0 → conB P l xs (xs.length - 1) = false := conB_false (by omega)
        rw [hcj] at hcs
        generalize gp P l (xs.getD j 0).toNat (xs.getD (j + 1) 0).toNat = g at c65' hgb hcs hcf
        (repeat (first | refine zs rfl ?_ | refine zg rfl rfl rfl ?_ | refine zd ?_ | refine JK.fin ?_ | refine JK.ret ?_ | refine zc rfl (c65') rfl rfl ?_ | refine ze rfl (c65') rfl ?_ | refine zk rfl rfl (fun _ => c65') rfl rfl ?_))
        refine JK.cond rfl (fun hg => ?_) (fun hg => ?_)
        · (simp only [↓cdL] at hg; try simp only [Ty.dflt, Int.toNat_natCast] at hg)
          (repeat (first | refine zs rfl ?_ | refine zg rfl rfl rfl ?_ | refine zd ?_ | refine JK.fin ?_ | refine JK.ret ?_))
          refine ⟨.inl rfl, _, _, rfl, trivial, ?_⟩
          unfold conE; rw [if_neg (by omega), if_neg (by rw [hin]; simp), if_pos (hcf (by omega))]
        · (simp only [↓cdL] at hg; try simp only [Ty.dflt, Int.toNat_natCast] at hg)
          (repeat (first | refine zs rfl ?_ | refine zg rfl rfl rfl ?_ | refine zd ?_ | refine JK.fin ?_ | refine JK.ret ?_))
          refine ⟨j + 1, ?_, ⟨by omega, by rw [hcs, decide_eq_true (by omega)]; rfl⟩, by omega⟩
          push_cast
          (exact JW.Auto (by conv => lhs; reduce))
      · (simp only [↓cdL] at he; try simp only [Ty.dflt, Int.toNat_natCast] at he)
        (repeat (first | refine zs rfl ?_ | refine zg rfl rfl rfl ?_ | refine zd ?_ | refine JK.fin ?_ | refine JK.ret ?_))
        refine ⟨.inl rfl, _, _, rfl, trivial, ?_⟩
        have e : xs.length - 1 = j := by omega
        unfold conE; rw [if_neg (by omega), if_neg (by rw [hin]; simp), e, hcj, if_neg (by simp)]
  · rw [if_neg hz] at c61
    (repeat (first | refine zs rfl ?_ | refine zg rfl rfl rfl ?_ | refine zd ?_ | refine JK.fin ?_ | refine JK.ret ?_ | refine zc rfl (c61) rfl rfl ?_ | refine ze rfl (c61) rfl ?_ | refine zk rfl rfl (fun _ => c61) rfl rfl ?_))
    refine JK.cond rfl (fun hc => ?_) (fun hc => ?_)
    · (repeat (first | refine zs rfl ?_ | refine zg rfl rfl rfl ?_ | refine zd ?_ | refine JK.fin ?_ | refine JK.ret ?_))
      refine ⟨.inl rfl, _, _, rfl, trivial, ?_⟩
      unfold conE; rw [if_pos hz]
    · (simp only [↓cdL] at hc; try simp only [Ty.dflt, Int.toNat_natCast] at hc)
      omega
end Go.Proofs.Ytinehlphcckkmaa
