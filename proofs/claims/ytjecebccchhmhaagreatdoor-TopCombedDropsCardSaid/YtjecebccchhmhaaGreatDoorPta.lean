/- Texts of the proof of the statement that the last text proves. -/
import Derived.WalkKit
import Derived.Deep.Quiet
import Derived.Deep.LoopGhost
import Derived.RangeFuncLeaves
import Derived.RangeFuncRecord
import Derived.TacticsIn
import Derived.OrdersIn
import Derived.Laws.AppendOwnNone
import Derived.Maps.AppendAt
import Derived.Laws.OwnMore
set_option linter.all false
set_option maxHeartbeats 2000000
variable{u v:Go.Value}{base cap i n:Nat}{fz:Nat×Nat}{x:Go.Operand}{f:Go.FuncId}{k kk yk:Go.IntKind}{cs:List Go.Value}{R:Type}{p:Prop}{hi lo mx:Option Go.Value}{ad:Option Go.Addr}{d:Option Nat}{ops:Array Go.Oper}{b:Bool}{eid t ty:Go.TypeId}{az c:Array Go.Value}{place:Nat→Option (Nat×Nat)}{rest:List Go.Oper}{P:Go.Program}
namespace Ox
def yya:=@Option.some.injEq
def yyb:=@Go.Result.andThen_ok
def yyc:=@Bool.and_eq_true
def yyd:=@Nat.le_of_ble_eq_true
def yye:=@Go.Sem.run_bind
def yyf:=@Go.Sem.run_pure
def yyg:=@Nat.eq_of_beq_eq_true
def yyh:=@List.mem_cons_self
def yyi:=@Array.getElem?_eq_some_iff
def yyj:=@List.mem_cons_of_mem
def yyk:=@List.mem_cons
def yyl:=@Nat.le_refl
def yym:=@Option.map_eq_some_iff
def yyn:=@Prod.mk.injEq
def yyo:=@Option.bind_eq_some_iff
def yyp:=@List.mem_singleton
def yyq:=@List.getD_eq_getElem?_getD
def yyr:=@Array.getD_eq_getD_getElem?
def yys:=@Bool.false_eq_true
def yyt:=@List.getElem?_eq_getElem
def yyu:=@decide_eq_true_eq
def yyv:=@Bool.not_eq_true'
def yyw:=@Nat.zero_le
def yyx:=@List.all_eq_true
def yyy:=@Bool.or_eq_true
def yyz:=@List.length_append
def yy0:=@List.map_cons
def yy1:=@Nat.mul_le_mul_right
def yy2:=@Nat.lt_succ_self
def yy3:=@List.mem_range
def yy4:=@List.getElem_mem
def yy5:=@Nat.le_succ
def yy6:=@List.getElem?_eq_some_iff
def yy7:=@List.mem_map
def yy8:=@Nat.add_mul
def yy9:=@List.not_mem_nil
def yxa:=@Nat.lt_of_lt_of_le
def yxb:=@Bool.eq_iff_iff
def yxc:=@Array.toList_map
def yxd:=@List.mem_append
def yxe:=@List.getElem?_eq_none
def yxf:=@List.drop_eq_getElem_cons
def yxg:=@Nat.pow_le_pow_right
def yxh:=@Classical.byContradiction
def yxi:=@List.getElem?_cons_succ
def yxj:=@List.append_nil
def yxk:=@List.eq_nil_of_length_eq_zero
def yxl:=@List.append_assoc
def yxm:=@List.getElem?_take
def yxn:=@Option.map_some
def yxo:=@Array.getElem?_setIfInBounds
def yxp:=@List.getElem?_toArray
def yxq:=@Array.getElem?_setIfInBounds_self_of_lt
def yxr:=@List.length_take
def yxs:=@Array.getElem?_setIfInBounds_ne
def yxt:=@Nat.zero_add
def yxu:=@Nat.min_eq_left
def yxv:=@List.nodup_nil
def yxw:=@Array.getElem?_toList
def yxx:=@List.mem_iff_getElem
def yxy:=@List.mem_append_left
def yxz:=@List.map_append
def yx0:=@List.mem_filter
def yx1:=@List.take_append_of_le_length
def yx2:=@List.take_of_length_le
def yx3:=@Nat.testBit_and
def yx4:=@List.nodup_cons
def yx5:=@List.length_map
def yx6:=@List.take_length
def yx7:=@List.length_filter_le
def yx8:=@List.filter_cons_of_neg
def zE(h:p:=by(intro hgd;first|exact trivial|exact hgd|(have hge:=hgd;(try simp only[wantB,Bool.not_not,yyv,yyu,decide_eq_false_iff_not,beq_iff_eq,bne_iff_ne,bne_eq_false_iff_eq,ne_eq,beq_eq_false_iff_ne] at hge);(try dsimp only[allP,inK,idxC,loC,lohiC,fullC,underG,List.append,List.nil_append,List.cons_append,Ty.den,Ty.dflt,Int.toNat_natCast,List.length_cons,List.length_nil] at *);first|omega|((repeat' (first|exact hgd|exact trivial|refine And.intro ?_ ?_))<;>omega)|((repeat' (first|exact trivial|assumption|refine And.intro ?_ ?_|exact fun h=>h|(intro hpk;first|exact hpk|simp only[wantB,hpk,Bool.not_false,Bool.not_true])))<;>omega)|(exfalso;simp[wantB,hA0] at hgd;done)|fail))):p:=h
def zF(h:p:=by(intro hgd;have hge:=hgd;simp only[wantB,yyc,yyy,Bool.not_not,yyv,yyu,decide_eq_false_iff_not,beq_iff_eq,bne_iff_ne,bne_eq_false_iff_eq,ne_eq,beq_eq_false_iff_ne] at hge;(try dsimp only[allP,inK,idxC,loC,lohiC,fullC,underG,List.append,List.nil_append,List.cons_append,Ty.den,Ty.dflt,Int.toNat_natCast,List.length_cons,List.length_nil] at *);first|omega|((repeat' (first|exact trivial|assumption|refine And.intro ?_ ?_))<;>omega))):p:=h
def zD(h:p:=by(first|exact trivial|(try dsimp only[allP,inK,idxC,loC,lohiC,fullC,underG,List.append,List.nil_append,List.cons_append,Ty.den,Ty.dflt,Int.toNat_natCast,List.length_cons,List.length_nil] at *);first|omega|((repeat' (first|exact trivial|assumption|refine And.intro ?_ ?_|exact fun h=>h|(intro hpk;first|exact hpk|simp only[wantB,hpk,Bool.not_false,Bool.not_true])))<;>omega)|fail)):p:=h
open Go Go.RowKit
inductive Ty
 |int (k:IntKind)|bool|slice (e:Ty)|ptr (e:Ty)|arr (n:Nat) (e:Ty)|nil|cons (a b:Ty)
 deriving DecidableEq
@[reducible] def Ty.den:Ty→Type
 |.int _=>Int|.bool=>Bool|.slice e=>List e.den|.ptr e=>Option e.den|.arr _ e=>List e.den|.nil=>Unit|.cons a b=>a.den×b.den
def Ty.dflt:(t:Ty)→t.den
 |.int _=>(0:Int)|.bool=>false|.slice _=>[]|.ptr _=>none|.arr n e=>List.replicate n e.dflt|.nil=>()|.cons a b=>(a.dflt,b.dflt)
def Ty.size:Ty→Nat
 |.int _|.bool|.slice _|.ptr _=>1|.arr n e=>n*e.size|.nil=>0|.cons a b=>a.size+b.size
def Ty.agg:Ty→Bool
 |.arr ..|.nil|.cons ..=>true|_=>false
def Ty.wrap(t:Ty)(cs:List Value):Value:=if t.agg then .agg cs.toArray else cs.headD undef
abbrev Mem:=Nat→Option Obj
def Rep(M:Mem):(t:Ty)→t.den→List Value→Prop
 |.int k,n,cs=>cs=[.int k n]
 |.bool,b,cs=>cs=[.bool b]
 |.slice e,l,cs=>∃ (ad:Option Addr) (cap:Nat),cs=[.slice ad (List.length l) cap]∧List.length l≤cap∧cap≤maxLen∧(ad=none→cap=0) ∧
   (List.length l=0∨∃ b off c ty fz,ad=some ⟨b,off,none⟩∧M b=some (.cells c ty fz) ∧
    ∀ i (h:i<List.length l),Rep M e (List.get l ⟨i,h⟩) ((c.toList.drop (off+i*e.size)).take e.size))
 |.ptr e,x,cs=>match x with
   |none=>cs=[.pointer none]
   |some y=>∃ b off c ty fz,cs=[.pointer (some ⟨b,off,none⟩)]∧M b=some (.cells c ty fz)∧Rep M e y ((c.toList.drop off).take e.size)
 |.arr n e,l,cs=>List.length l=n∧cs.length=n*e.size∧∀ i (h:i<List.length l),Rep M e (List.get l ⟨i,h⟩) ((cs.drop (i*e.size)).take e.size)
 |.nil,_,cs=>cs=[]
 |.cons a b,x,cs=>∃ c1 c2,cs=c1++c2∧Rep M a x.1 c1∧Rep M b x.2 c2
def Mem.le(M M':Mem):Prop:=∀ b c ty fz,M b=some (.cells c ty fz)→M' b=some (.cells c ty fz)
def Rep.length{M:Mem}:∀ {t:Ty} {x:t.den} {cs:List Value},Rep M t x cs→cs.length=t.size
 |.int _,_,_,h=>by simp only[Rep] at h;simp[h,Ty.size]
 |.bool,_,_,h=>by simp only[Rep] at h;simp[h,Ty.size]
 |.slice e,l,cs,h=>by simp only[Rep] at h;obtain⟨ad,cap,rfl,_⟩:=h;simp[Ty.size]
 |.ptr e,x,cs,h=>by
  cases x with
  |none=>simp only[Rep] at h;simp[h,Ty.size]
  |some y=>simp only[Rep] at h;obtain⟨b,off,c,ty,fz,rfl,_⟩:=h;simp[Ty.size]
 |.arr n e,l,cs,h=>by simp only[Rep] at h;simp[h.2.1,Ty.size]
 |.nil,_,cs,h=>by simp only[Rep] at h;simp[h,Ty.size]
 |.cons a b,x,cs,h=>by simp only[Rep] at h;obtain⟨c1,c2,rfl,h1,h2⟩:=h;simp[Ty.size,Rep.length h1,Rep.length h2]
def Rep.mono{M M':Mem}(hm:M.le M'):∀ {t:Ty} {x:t.den} {cs:List Value},Rep M t x cs→Rep M' t x cs
 |.int _,_,_,h=>by simp only[Rep] at h ⊢;exact h
 |.bool,_,_,h=>by simp only[Rep] at h ⊢;exact h
 |.slice e,l,cs,h=>by simp only[Rep] at h ⊢;obtain⟨ad,cap,h1,h2,h3,ha,h4⟩:=h;refine⟨ad,cap,h1,h2,h3,ha,h4.imp id ?_⟩;rintro⟨b,off,c,ty,fz,e1,e2,e3⟩;exact⟨b,off,c,ty,fz,e1,hm _ _ _ _ e2,fun i h=>Rep.mono hm (e3 i h)⟩
 |.ptr e,x,cs,h=>by
  cases x with
  |none=>simp only[Rep] at h ⊢;exact h
  |some y=>simp only[Rep] at h ⊢;obtain⟨b,off,c,ty,fz,e1,e2,e3⟩:=h;exact⟨b,off,c,ty,fz,e1,hm _ _ _ _ e2,Rep.mono hm e3⟩
 |.arr n e,l,cs,h=>by simp only[Rep] at h ⊢;exact⟨h.1,h.2.1,fun i hi=>Rep.mono hm (h.2.2 i hi)⟩
 |.nil,_,cs,h=>by simp only[Rep] at h ⊢;exact h
 |.cons a b,x,cs,h=>by simp only[Rep] at h ⊢;obtain⟨c1,c2,h0,h1,h2⟩:=h;exact⟨c1,c2,h0,Rep.mono hm h1,Rep.mono hm h2⟩
variable{e:Ty}
def q7a(hl:cs.length=n*e.size)(h:∀ i,i<n→∀ v∈(cs.drop (i*e.size)).take e.size,v.oneCell'=true) :
  ∀ v∈cs,v.oneCell'=true:=by
 intro v hv;obtain⟨j,hj,rfl⟩:=yxx.1 hv;have hs:0<e.size:=by
  rcases Nat.eq_zero_or_pos e.size with h0|h0
  ·rw[h0,Nat.mul_zero] at hl;omega
  ·exact h0
 have h1:j / e.size<n:=Nat.div_lt_of_lt_mul (by rw[Nat.mul_comm];omega);refine h (j / e.size) h1 _ ?_;have h2:=Nat.mod_lt j hs;have h3:=Nat.div_add_mod j e.size;rw[yxx];refine⟨j % e.size,?_,?_⟩
 ·simp only[yxr,List.length_drop];rw[Nat.mul_comm] at h3;omega
 ·simp only[List.getElem_take,List.getElem_drop];congr 1;rw[Nat.mul_comm];exact h3
def Rep.one{M:Mem}:∀ {t:Ty} {x:t.den} {cs:List Value},Rep M t x cs→∀ v∈cs,v.oneCell'=true
 |.int _,_,_,h=>by simp only[Rep] at h;subst h;simp[Value.oneCell']
 |.bool,_,_,h=>by simp only[Rep] at h;subst h;simp[Value.oneCell']
 |.slice e,l,cs,h=>by simp only[Rep] at h;obtain⟨ad,cap,rfl,_⟩:=h;simp[Value.oneCell']
 |.ptr e,x,cs,h=>by
  cases x with
  |none=>simp only[Rep] at h;subst h;simp[Value.oneCell']
  |some y=>simp only[Rep] at h;obtain⟨b,off,c,ty,fz,rfl,_⟩:=h;simp[Value.oneCell']
 |.arr n e,l,cs,h=>by simp only[Rep] at h;exact q7a h.2.1 fun i hi=>Rep.one (h.2.2 i (by rw[h.1];exact hi))
 |.nil,_,cs,h=>by simp only[Rep] at h;subst h;simp
 |.cons a b,x,cs,h=>by
  simp only[Rep] at h;obtain⟨c1,c2,rfl,h1,h2⟩:=h;intro v hv;rcases yxd.1 hv with hv|hv
  ·exact Rep.one h1 v hv
  ·exact Rep.one h2 v hv
def RL(M:Mem)(e:Ty)(l:List e.den)(cs:List Value):Prop:=cs.length=l.length*e.size∧∀ i (h:i<l.length),Rep M e (l.get ⟨i,h⟩) ((cs.drop (i*e.size)).take e.size)
variable{M:Mem}
def RL.nil:RL M e [] []:=⟨by simp,fun i h=>absurd h (by simp)⟩
def RL.mono{M M':Mem}(hm:M.le M'){e:Ty}{l:List e.den}{cs:List Value}(h:RL M e l cs):RL M' e l cs:=⟨h.1,fun i hi=>(h.2 i hi).mono hm⟩
def RL.one{M:Mem}{e:Ty}{l:List e.den}{cs:List Value}(h:RL M e l cs):∀ v∈cs,v.oneCell'=true:=q7a h.1 fun i hi=>(h.2 i hi).one
def RL.append{l m:List e.den}{cs ds:List Value}(h:RL M e l cs)(k:RL M e m ds):RL M e (l++m) (cs++ds):=by
 refine⟨by simp[h.1,k.1,yy8],fun i hi=>?_⟩;simp only[List.get_eq_getElem];rcases Nat.lt_or_ge i l.length with hl|hl
 ·rw[List.getElem_append_left hl];have h1:=h.2 i hl;have h2:(i+1)*e.size≤cs.length:=by rw[h.1];exact yy1 _ hl
  rw[yy8,Nat.one_mul] at h2;rw[List.drop_append_of_le_length (by omega),yx1 (by simp;omega)];exact h1
 ·rw[List.getElem_append_right hl];have h1:=k.2 (i-l.length) (by simp at hi;omega);have h2:i*e.size=cs.length+(i-l.length)*e.size:=by rw[h.1,← yy8];congr 1;omega
  rw[h2,List.drop_length_add_append];exact h1
def q6i{x:e.den}(h:Rep M e x cs):RL M e [x] cs:=by
 refine⟨by simp[h.length],fun i hi=>?_⟩;have:i=0:=by simp at hi;exact hi
 subst this;simpa[yx2 (Nat.le_of_eq h.length)] using h
def RL.drop{M:Mem}{e:Ty}{l:List e.den}{cs:List Value}(h:RL M e l cs)(n:Nat):RL M e (l.drop n) (cs.drop (n*e.size)):=by
 refine⟨by simp[h.1,Nat.sub_mul],fun i hi=>?_⟩;have ha:n+i<l.length:=by simp at hi;omega
 have:=h.2 (n+i) ha;simp only[List.get_eq_getElem,List.getElem_drop] at this ⊢;rw[List.drop_drop];rw[show n*e.size+i*e.size=(n+i)*e.size from(yy8 _ _ _).symm];exact this
def RL.take{M:Mem}{e:Ty}{l:List e.den}{cs:List Value}(h:RL M e l cs)(n:Nat):RL M e (l.take n) (cs.take (n*e.size)):=by
 refine⟨?_,fun i hi=>?_⟩
 ·simp only[yxr,h.1];rcases Nat.le_total n l.length with hn|hn
  ·rw[yxu hn,yxu (yy1 _ hn)]
  ·rw[Nat.min_eq_right hn,Nat.min_eq_right (yy1 _ hn)]
 ·have ha:i<n:=by simp at hi;omega
  have hb:i<l.length:=by simp at hi;omega
  have:=h.2 i hb;simp only[List.get_eq_getElem,List.getElem_take] at this ⊢;rw[List.drop_take,List.take_take];have h3:(i+1)*e.size≤n*e.size:=yy1 _ ha;rw[yy8,Nat.one_mul] at h3;rw[yxu (by omega)];exact this
def splice(cs:List Value)(off:Nat)(ds:List Value):List Value:=cs.take off++ds++cs.drop (off+ds.length)
def q1d(cs:List Value)(off:Nat)(ds:List Value)(h:off+ds.length≤cs.length):(splice cs off ds).length=cs.length:=by simp[splice];omega
def RL.set{M:Mem}{e:Ty}{l:List e.den}{cs:List Value}(h:RL M e l cs){k:Nat}{x:e.den}{ds:List Value}(hx:Rep M e x ds)(hk:k<l.length) :
  RL M e (l.set k x) (splice cs (k*e.size) ds):=by
 have h1:=(h.take k).append (q6i hx);have h2:=h1.append (h.drop (k+1));have e1:l.take k++[x]++l.drop (k+1)=l.set k x:=by rw[List.set_eq_take_append_cons_drop,if_pos hk];simp
 rw[e1] at h2;have e2:(k+1)*e.size=k*e.size+ds.length:=by rw[hx.length,yy8,Nat.one_mul]
 rw[e2] at h2;exact h2
def RL.get{l:List e.den}(h:RL M e l cs){k:Nat}(hk:k<l.length)(d:e.den):Rep M e (l.getD k d) ((cs.drop (k*e.size)).take e.size):=by have:=h.2 k hk;simp only[List.get_eq_getElem] at this;rw[yyq,yyt hk];exact this
def q16{l:List e.den}:Rep M (.arr n e) l cs↔l.length=n∧RL M e l cs:=by
 constructor
 ·intro h;simp only[Rep] at h;exact⟨h.1,by rw[h.1];exact h.2.1,h.2.2⟩
 ·rintro⟨h1,h2,h3⟩;simp only[Rep];exact⟨h1,by rw[← h1];exact h2,h3⟩
def RL.replicate{M:Mem}{e:Ty}{x:e.den}{cs:List Value}(h:Rep M e x cs):∀ n,RL M e (List.replicate n x) (List.replicate n cs).flatten
 |0=>by simpa using RL.nil
 |n+1=>by rw[List.replicate_succ,List.replicate_succ,List.flatten_cons];exact(q6i h).append (RL.replicate h n)
end Ox
namespace Ox
open Go Go.RowKit
inductive Step|fld(i:Nat)|idx (k:Nat)
def Ty.sub:Ty→List Step→Option Ty
 |t,[]=>some t
 |.cons a _,.fld 0::p=>a.sub p
 |.cons _ b,.fld (i+1)::p=>b.sub (.fld i::p)
 |.arr _ e,.idx _::p=>e.sub p
 |_,_::_=>none
def Ty.off:Ty→List Step→Nat
 |_,[]=>0
 |.cons a _,.fld 0::p=>a.off p
 |.cons a b,.fld (i+1)::p=>a.size+b.off (.fld i::p)
 |.arr _ e,.idx k::p=>k*e.size+e.off p
 |_,_::_=>0
inductive Leaf
 |nils|nilp
 |osl (l:Nat)
 |ovw (l lo hi:Nat) (full:Bool)
 |optr (l:Nat) (p:List Step)
 |oelt (l k:Nat) (p:List Step)
 |oarr (l:Nat) (p:List Step) (n c:Nat)
 |mp (l:Nat)|itr (l:Nat)|yld (l:Nat)
inductive RV
 |i (k:IntKind) (n:Int)
 |b (x:Bool)
 |np|ns|fz|nm|u
 |p (l off:Nat)
 |s (l off n c:Nat)
 |o (l e lo hi:Nat) (full:Bool) (z:Nat)
 |m (l:Nat)
 |it (l:Nat)
 |y (l:Nat)
 |f (g:FuncId) (fs cs:RV)
 |g (cs:RV)
 |t (vs:RV)
 |nil
 |cons (a r:RV)
inductive AV
 |val (t:Ty) (x:t.den)
 |mix (a b:AV)
 |lf (x:Leaf)
 |fn (f:FuncId) (first cap:AV)
 |anil
 |acons (a b:AV)
 |tup (l:AV)
 |gd (g:Bool) (v:AV)
 |undef
 |full (e:Ty) (l:List e.den)
 |pfn (g:AV)
 |raw (r:RV)
structure Env where
 blk:Nat→Nat
 ty:Nat→Ty
 sv:Nat→Value
def sview(v:Value)(size lo hi:Nat)(full:Bool):Value:=
 match v with
 |.slice a _ cap=>.slice (if (if full then hi else cap)=lo then a else a.map (·.add (lo*size))) (hi-lo) ((if full then hi else cap)-lo)
 |_=>.slice none (hi-lo) 0
def _root_.Go.Value.capN:Value→Nat
 |.slice _ _ c=>c
 |_=>0
mutual
def RV.cv(ρ:Env):RV→Value
 |.i k n=>.int k n
 |.b x=>.bool x
 |.np=>.pointer none
 |.ns=>.slice none 0 0
 |.fz=>.nilFunc
 |.nm=>.map none
 |.u=>Go.undef
 |.p l off=>.pointer (some ⟨ρ.blk l,off,none⟩)
 |.s l off n c=>.slice (some ⟨ρ.blk l,off,none⟩) n c
 |.o l e lo hi full z=>.slice (some ⟨ρ.blk l,if (if full then hi else(ρ.sv l).capN)=lo then z else lo*e,none⟩) (hi-lo) ((if full then hi else(ρ.sv l).capN)-lo)
 |.m l=>.map (some (ρ.blk l))
 |.it l=>.pointer (some ⟨ρ.blk l,0,none⟩)
 |.y l=>.func (.yield (ρ.blk l)) #[] #[]
 |.f fi a c=>.func (.func fi) (a.cl ρ).toArray (c.cl ρ).toArray
 |.g c=>.agg (c.cl ρ).toArray
 |.t c=>.tuple (c.cl ρ).toArray
 |.nil=>Go.undef
 |.cons _ _=>Go.undef
def RV.cl(ρ:Env):RV→List Value
 |.cons a r=>a.cv ρ::r.cl ρ
 |_=>[]
end
def RV.bd(n:Nat):RV→Prop
 |.p l _|.s l _ _ _|.o l _ _ _ _ _|.m l|.it l|.y l=>l<n
 |.f _ a c=>a.bd n∧c.bd n
 |.g c|.t c=>c.bd n
 |.cons a r=>a.bd n∧r.bd n
 |_=>True
def Leaf.at(ρ:Env):Leaf→Option Value
 |.nils=>some (.slice none 0 0)
 |.nilp=>some (.pointer none)
 |.osl l=>some (ρ.sv l)
 |.ovw l lo hi full=>some (sview (ρ.sv l) (ρ.ty l).size lo hi full)
 |.optr l p=>some (.pointer (some ⟨ρ.blk l,(ρ.ty l).off p,none⟩))
 |.oarr l p n c=>some (.slice (some ⟨ρ.blk l,(ρ.ty l).off p,none⟩) n c)
 |.mp l=>some (.map (some (ρ.blk l)))
 |.itr l=>some (.pointer (some ⟨ρ.blk l,0,none⟩))
 |.yld l=>some (.func (.yield (ρ.blk l)) #[] #[])
 |.oelt l k p=>(ρ.sv l).ownBlock.map fun g=>.pointer (some ⟨g,k*(ρ.ty l).size+(ρ.ty l).off p,none⟩)
def Leaf.bd(n:Nat):Leaf→Prop
 |.nils|.nilp=>True
 |.osl l|.ovw l _ _ _|.optr l _|.oelt l _ _|.oarr l _ _ _|.mp l|.itr l|.yld l=>l<n
def AV.bd(n:Nat):AV→Prop
 |.val _ _|.anil|.undef|.full _ _=>True
 |.lf x=>x.bd n
 |.mix a b|.acons a b|.fn _ a b=>a.bd n∧b.bd n
 |.tup a|.pfn a=>a.bd n
 |.gd g a=>g=true→a.bd n
 |.raw r=>r.bd n
mutual
def AV.rv(M:Mem)(ρ:Env):AV→Value→Prop
 |.val t x,v=>∃ cs,Rep M t x cs∧v=t.wrap cs
 |.mix a b,v=>∃ c1 c2,a.rc M ρ c1∧b.rc M ρ c2∧v=.agg (c1++c2).toArray
 |.lf x,v=>x.at ρ=some v∧v.oneCell'=true
 |.fn f a c,v=>∃ fs ks,a.rvs M ρ fs∧c.rvs M ρ ks∧v=.func (.func f) fs.toArray ks.toArray
 |.tup l,v=>∃ vs,l.rvs M ρ vs∧v=.tuple vs.toArray
 |.gd g a,v=>(g=true→a.rv M ρ v)∧(g=false→v=Go.undef)
 |.undef,v=>v=Go.undef
 |.full e l,v=>∃ cs ad,Rep M (.slice e) l cs∧cs=[v]∧v=.slice ad l.length l.length
 |.pfn g,v=>∃ b fv ty fz,v=.pointer (some ⟨b,0,none⟩)∧M b=some (.cells #[fv] ty fz)∧g.rv M ρ fv
 |.raw r,v=>v=r.cv ρ
 |.anil,_=>False
 |.acons _ _,_=>False
def AV.rvs(M:Mem)(ρ:Env):AV→List Value→Prop
 |.anil,vs=>vs=[]
 |.acons a b,vs=>∃ v r,a.rv M ρ v∧b.rvs M ρ r∧vs=v::r
 |_,_=>False
def AV.rc(M:Mem)(ρ:Env):AV→List Value→Prop
 |.val t x,cs=>Rep M t x cs
 |.mix a b,cs=>∃ c1 c2,a.rc M ρ c1∧b.rc M ρ c2∧cs=c1++c2
 |.lf x,cs=>∃ v,x.at ρ=some v∧v.oneCell'=true∧cs=[v]
 |.fn f a c,cs=>∃ fs ks,a.rvs M ρ fs∧c.rvs M ρ ks∧cs=[.func (.func f) fs.toArray ks.toArray]
 |_,_=>False
end
def Env.upTo(ρ ρ':Env)(n:Nat):Prop:=∀ l,l<n→ρ'.blk l=ρ.blk l∧ρ'.ty l=ρ.ty l∧ρ'.sv l=ρ.sv l
def Env.upTo.refl(ρ:Env)(n:Nat):ρ.upTo ρ n:=fun _ _=>⟨rfl,rfl,rfl⟩
def Env.upTo.trans{a b c:Env}{n m:Nat}(h:a.upTo b n)(k:b.upTo c m)(hn:n≤m):a.upTo c n:=fun l hl=>⟨(k l (by omega)).1.trans (h l hl).1,(k l (by omega)).2.1.trans (h l hl).2.1,(k l (by omega)).2.2.trans (h l hl).2.2⟩
def q7i{ρ ρ':Env}(h:ρ.upTo ρ' n){x:Leaf}(hb:x.bd n):x.at ρ'=x.at ρ:=by cases x<;>simp only[Leaf.at,Leaf.bd] at*<;>(try rfl)<;>simp[(h _ hb).1,(h _ hb).2.1,(h _ hb).2.2]
def z2w{n m:Nat}(h:n≤m){x:Leaf}(hb:x.bd n):x.bd m:=by cases x<;>simp only[Leaf.bd] at*<;>omega
mutual
def q0b{ρ ρ':Env}{n:Nat}(h:ρ.upTo ρ' n):∀ {r:RV},r.bd n→r.cv ρ'=r.cv ρ
 |.i ..,_|.b _,_|.np,_|.ns,_|.fz,_|.nm,_|.u,_|.nil,_|.cons _ _,_=>rfl
 |.p l _,hb|.s l _ _ _,hb|.m l,hb|.it l,hb|.y l,hb=>by simp only[RV.cv,(h l hb).1]
 |.o l ..,hb=>by simp only[RV.cv,(h l hb).1,(h l hb).2.2]
 |.f _ a c,hb=>by simp only[RV.cv,q3z h hb.1,q3z h hb.2]
 |.g c,hb|.t c,hb=>by simp only[RV.cv,q3z h (show c.bd n from hb)]
def q3z{ρ ρ':Env}{n:Nat}(h:ρ.upTo ρ' n):∀ {r:RV},r.bd n→r.cl ρ'=r.cl ρ
 |.cons a r,hb=>by simp only[RV.cl,q0b h hb.1,q3z h hb.2]
 |.i ..,_|.b _,_|.np,_|.ns,_|.fz,_|.nm,_|.u,_|.nil,_|.p ..,_|.s ..,_|.o ..,_|.m _,_|.it _,_|.y _,_|.f ..,_|.g _,_|.t _,_=>rfl
end
def q0w{n m:Nat}(h:n≤m){r:RV}(k:r.bd n):r.bd m:=by
 induction r with
 |p l _=>exact yxa k h
 |s l _ _ _=>exact yxa k h
 |o l _ _ _ _ _=>exact yxa k h
 |m l=>exact yxa k h
 |it l=>exact yxa k h
 |y l=>exact yxa k h
 |f _ a c iha ihc=>exact⟨iha k.1,ihc k.2⟩
 |g c ih=>exact ih k
 |t c ih=>exact ih k
 |cons a r iha ihr=>exact⟨iha k.1,ihr k.2⟩
 |_=>trivial
def j3{n m:Nat}(h:n≤m){a:AV}(k:a.bd n):a.bd m:=by
 induction a with
 |val=>trivial
 |anil=>trivial
 |undef=>trivial
 |full=>trivial
 |lf=>exact z2w h k
 |mix a b iha ihb=>exact⟨iha k.1,ihb k.2⟩
 |acons a b iha ihb=>exact⟨iha k.1,ihb k.2⟩
 |fn f a b iha ihb=>exact⟨iha k.1,ihb k.2⟩
 |tup a ih=>exact ih k
 |pfn a ih=>exact ih k
 |gd g a ih=>exact fun e=>ih (k e)
 |raw r=>exact q0w h k
mutual
def j5{M M':Mem}{ρ ρ':Env}{n:Nat}(hm:M.le M')(hr:ρ.upTo ρ' n):∀ {a:AV} {v:Value},a.bd n→a.rv M ρ v→a.rv M' ρ' v
 |.val t x,v,_,h=>by simp only[AV.rv] at h ⊢;obtain⟨cs,h1,h2⟩:=h;exact⟨cs,h1.mono hm,h2⟩
 |.mix a b,v,hb,h=>by simp only[AV.rv] at h ⊢;obtain⟨c1,c2,h1,h2,h3⟩:=h;exact⟨c1,c2,p7 hm hr hb.1 h1,p7 hm hr hb.2 h2,h3⟩
 |.lf x,v,hb,h=>by simp only[AV.rv] at h ⊢;exact⟨(q7i hr hb).trans h.1,h.2⟩
 |.fn f a c,v,hb,h=>by simp only[AV.rv] at h ⊢;obtain⟨fs,ks,h1,h2,h3⟩:=h;exact⟨fs,ks,y5 hm hr hb.1 h1,y5 hm hr hb.2 h2,h3⟩
 |.tup l,v,hb,h=>by simp only[AV.rv] at h ⊢;obtain⟨vs,h1,h2⟩:=h;exact⟨vs,y5 hm hr hb h1,h2⟩
 |.gd g a,v,hb,h=>by simp only[AV.rv] at h ⊢;exact⟨fun e=>j5 hm hr (hb e) (h.1 e),h.2⟩
 |.undef,v,_,h=>by simp only[AV.rv] at h ⊢;exact h
 |.full e l,v,_,h=>by simp only[AV.rv] at h ⊢;obtain⟨cs,ad,h1,h2⟩:=h;exact⟨cs,ad,h1.mono hm,h2⟩
 |.pfn g,v,hb,h=>by simp only[AV.rv] at h ⊢;obtain⟨b,fv,ty,fz,h1,h2,h3⟩:=h;exact⟨b,fv,ty,fz,h1,hm _ _ _ _ h2,j5 hm hr hb h3⟩
 |.raw r,v,hb,h=>by simp only[AV.rv] at h ⊢;rw[h,q0b hr hb]
 |.anil,v,_,h=>by simp only[AV.rv] at h
 |.acons _ _,v,_,h=>by simp only[AV.rv] at h
def y5{M M':Mem}{ρ ρ':Env}{n:Nat}(hm:M.le M')(hr:ρ.upTo ρ' n):∀ {a:AV} {vs:List Value},a.bd n→a.rvs M ρ vs→a.rvs M' ρ' vs
 |.anil,vs,_,h=>by simp only[AV.rvs] at h ⊢;exact h
 |.acons a b,vs,hb,h=>by simp only[AV.rvs] at h ⊢;obtain⟨v,r,h1,h2,h3⟩:=h;exact⟨v,r,j5 hm hr hb.1 h1,y5 hm hr hb.2 h2,h3⟩
 |.val _ _,vs,_,h=>by simp only[AV.rvs] at h
 |.mix _ _,vs,_,h=>by simp only[AV.rvs] at h
 |.lf _,vs,_,h=>by simp only[AV.rvs] at h
 |.fn _ _ _,vs,_,h=>by simp only[AV.rvs] at h
 |.tup _,vs,_,h=>by simp only[AV.rvs] at h
 |.gd _ _,vs,_,h=>by simp only[AV.rvs] at h
 |.undef,vs,_,h=>by simp only[AV.rvs] at h
 |.full _ _,vs,_,h=>by simp only[AV.rvs] at h
 |.pfn _,vs,_,h=>by simp only[AV.rvs] at h
 |.raw _,vs,_,h=>by simp only[AV.rvs] at h
def p7{M M':Mem}{ρ ρ':Env}{n:Nat}(hm:M.le M')(hr:ρ.upTo ρ' n):∀ {a:AV} {cs:List Value},a.bd n→a.rc M ρ cs→a.rc M' ρ' cs
 |.val t x,cs,_,h=>by simp only[AV.rc] at h ⊢;exact h.mono hm
 |.mix a b,cs,hb,h=>by simp only[AV.rc] at h ⊢;obtain⟨c1,c2,h1,h2,h3⟩:=h;exact⟨c1,c2,p7 hm hr hb.1 h1,p7 hm hr hb.2 h2,h3⟩
 |.lf x,cs,hb,h=>by simp only[AV.rc] at h ⊢;obtain⟨v,h1,h2⟩:=h;exact⟨v,(q7i hr hb).trans h1,h2⟩
 |.fn f a c,cs,hb,h=>by simp only[AV.rc] at h ⊢;obtain⟨fs,ks,h1,h2,h3⟩:=h;exact⟨fs,ks,y5 hm hr hb.1 h1,y5 hm hr hb.2 h2,h3⟩
 |.tup _,cs,_,h=>by simp only[AV.rc] at h
 |.gd _ _,cs,_,h=>by simp only[AV.rc] at h
 |.undef,cs,_,h=>by simp only[AV.rc] at h
 |.full _ _,cs,_,h=>by simp only[AV.rc] at h
 |.anil,cs,_,h=>by simp only[AV.rc] at h
 |.acons _ _,cs,_,h=>by simp only[AV.rc] at h
 |.raw _,cs,_,h=>by simp only[AV.rc] at h
end
def confB:Ty→AV→Bool
 |t,.val t' _=>decide (t'=t)
 |.cons a b,.mix x y=>confB a x&&confB b y
 |.arr (n+1) e,.mix x y=>confB e x&&confB (.arr n e) y
 |.slice _,.lf .nils|.slice _,.lf (.osl _)|.slice _,.lf (.ovw ..)=>true
 |.ptr _,.lf .nilp|.ptr _,.lf (.optr ..)|.ptr _,.lf (.oelt ..)|.ptr _,.lf (.mp _)=>true
 |_,_=>false
def k9{M:Mem}{ρ:Env}:∀ {t:Ty} {a:AV} {cs:List Value},confB t a=true→a.rc M ρ cs→cs.length=t.size
 |t,.val t' x,cs,h,k=>by simp only[confB,yyu] at h;subst h;simp only[AV.rc] at k;exact k.length
 |.cons a b,.mix x y,cs,h,k=>by simp only[confB,yyc] at h;simp only[AV.rc] at k;obtain⟨c1,c2,k1,k2,rfl⟩:=k;simp[Ty.size,k9 h.1 k1,k9 h.2 k2]
 |.arr (n+1) e,.mix x y,cs,h,k=>by simp only[confB,yyc] at h;simp only[AV.rc] at k;obtain⟨c1,c2,k1,k2,rfl⟩:=k;have e1:=k9 h.1 k1;have e2:=k9 h.2 k2;simp only[Ty.size] at e2;simp[Ty.size,e1,e2,yy8,Nat.add_comm]
 |.slice _,.lf x,cs,h,k=>by simp only[AV.rc] at k;obtain⟨v,_,_,rfl⟩:=k;simp[Ty.size]
 |.ptr _,.lf x,cs,h,k=>by simp only[AV.rc] at k;obtain⟨v,_,_,rfl⟩:=k;simp[Ty.size]
 |.int _,.mix ..,_,h,_=>by simp[confB] at h
 |.bool,.mix ..,_,h,_=>by simp[confB] at h
 |.slice _,.mix ..,_,h,_=>by simp[confB] at h
 |.ptr _,.mix ..,_,h,_=>by simp[confB] at h
 |.arr 0 _,.mix ..,_,h,_=>by simp[confB] at h
 |.nil,.mix ..,_,h,_=>by simp[confB] at h
 |.int _,.lf _,_,h,_=>by simp[confB] at h
 |.bool,.lf _,_,h,_=>by simp[confB] at h
 |.arr _ _,.lf _,_,h,_=>by simp[confB] at h
 |.nil,.lf _,_,h,_=>by simp[confB] at h
 |.cons _ _,.lf _,_,h,_=>by simp[confB] at h
 |_,.fn ..,_,h,_=>by simp[confB] at h
 |_,.tup ..,_,h,_=>by simp[confB] at h
 |_,.gd ..,_,h,_=>by simp[confB] at h
 |_,.undef,_,h,_=>by simp[confB] at h
 |_,.full _ _,_,h,_=>by simp[confB] at h
 |_,.anil,_,h,_=>by simp[confB] at h
 |_,.acons ..,_,h,_=>by simp[confB] at h
 |_,.raw _,_,h,_=>by simp[confB] at h
mutual
def q0j{M:Mem}{ρ:Env}:∀ {a:AV} {cs:List Value},a.rc M ρ cs→∀ v∈cs,v.oneCell'=true
 |.val t x,cs,h=>by simp only[AV.rc] at h;exact h.one
 |.mix a b,cs,h=>by
  simp only[AV.rc] at h;obtain⟨c1,c2,h1,h2,rfl⟩:=h;intro v hv;rcases yxd.1 hv with hv|hv
  ·exact q0j h1 v hv
  ·exact q0j h2 v hv
 |.lf x,cs,h=>by simp only[AV.rc] at h;obtain⟨v,_,h2,rfl⟩:=h;simpa using h2
 |.fn f a c,cs,h=>by simp only[AV.rc] at h;obtain⟨fs,ks,_,_,rfl⟩:=h;simp[Value.oneCell']
 |.tup _,cs,h=>by simp only[AV.rc] at h
 |.gd _ _,cs,h=>by simp only[AV.rc] at h
 |.undef,cs,h=>by simp only[AV.rc] at h
 |.full _ _,cs,h=>by simp only[AV.rc] at h
 |.anil,cs,h=>by simp only[AV.rc] at h
 |.acons _ _,cs,h=>by simp only[AV.rc] at h
 |.raw _,cs,h=>by simp only[AV.rc] at h
end
inductive HO
 |cell (t:Ty) (a:AV)
 |sl (eid:TypeId) (e:Ty) (xs:List e.den)
 |map (kt vt:Ty) (es:List (kt.den×vt.den×Nat)) (clk:Nat)
 |iter (m since:Nat) (seen:List Nat) (last:Nat)
 |cus (Q:Value→Array Value→TypeId→Prop)
 |loop (st:LoopState) (pend:Option Code) (ps:Array Tmp) (assign body:Code) (n:Nat) (L:List (Nat×AV))
 |fr (i:Nat) (L:List (Nat×AV))
 |raw (ty:TypeId) (k:Option Nat) (n:Nat) (c:Nat→RV)
 |rmap (es:List (RV×RV×Nat)) (clk:Nat)
 |riter (m since:Nat) (seen:List Nat) (last:Nat) (bk:Option Nat)
 |gl (g:Option Nat) (ty:TypeId) (n:Nat) (c:Nat→RV)
 |mrow (f:Nat→Nat) (n c:Nat)
 |dlk (A:Ty) (y:A.den) (m:Nat)
def lk{α:Type}:List (Nat×α)→Nat→Option α
 |[],_=>none
 |(k,v)::r,n=>if k=n then some v else lk r n
def del{α:Type}:List (Nat×α)→Nat→List (Nat×α)
 |[],_=>[]
 |(k,v)::r,n=>if k=n then del r n else(k,v)::del r n
def q5z{α:Type}(n m:Nat):∀ (r:List (Nat×α)),lk (del r n) m=if n=m then none else lk r m
 |[]=>by simp[del,lk]
 |(k,v)::r=>by
  have ih:=q5z n m r;unfold del;by_cases h1:k=n
  ·rw[if_pos h1,ih,lk];by_cases h2:n=m
   ·simp[h2]
   ·rw[if_neg h2,if_neg h2,if_neg (by omega)]
  ·rw[if_neg h1,lk,lk,ih];by_cases h2:n=m
   ·simp[h2,show ¬ k=m by omega]
   ·simp[h2]
structure S where
 L:List (Nat×AV)
 H:List (Nat×HO)
 nx:Nat
def HO.bd(n:Nat):HO→Prop
 |.cell _ a=>a.bd n
 |.sl ..|.map ..|.cus _=>True
 |.iter m _ _ _=>m<n
 |.loop _ _ _ _ _ _ L|.fr _ L=>∀ p∈L,p.2.bd n
 |.raw _ _ m c=>∀ i,i<m→(c i).bd n
 |.rmap es _=>∀ x∈es,x.1.bd n∧x.2.1.bd n
 |.riter m _ _ _ _=>m<n
 |.gl _ _ m c=>∀ i,i<m→(c i).bd n
 |.mrow f m _=>∀ i,i<m→f i<n
 |.dlk _ _ m=>m<n
def HO.at(ρ:Env)(l:Nat):HO→Option Nat
 |.cell ..|.map ..|.iter ..|.loop ..|.raw ..|.rmap ..|.riter ..|.mrow ..=>some (ρ.blk l)
 |.sl ..|.cus _=>(ρ.sv l).ownBlock
 |.fr ..|.gl ..|.dlk ..=>none
structure Ctx where
 P:Program
 T:List (Nat×Ty)
 ET:List (Nat×Nat)
 MT:List (Nat×(Nat×Nat))
 E:World
 M0:Mem
 n:Nat
 rd:Option Nat
 up:Nat→Nat→Value
 dp:Nat
def Ctx.fn(X:Ctx):Fence:={Fence.wide with round:=X.rd}
def EntRep(M:Mem)(kt vt:Ty)(x:kt.den×vt.den×Nat)(e:MapEntry):Prop:=(∃ kc,Rep M kt x.1 kc∧e.key=kt.wrap kc)∧(∃ vc,Rep M vt x.2.1 vc∧e.val=vt.wrap vc)∧e.born=x.2.2
def MapRep(M:Mem)(kt vt:Ty):List (kt.den×vt.den×Nat)→List MapEntry→Prop
 |[],[]=>True
 |x::r,e::s=>EntRep M kt vt x e∧MapRep M kt vt r s
 |_,_=>False
def HO.ok(X:Ctx)(M:Mem)(ρ:Env)(l:Nat)(w:World):HO→Prop
 |.cell t a=>ρ.ty l=t∧confB t a=true∧X.E.heap.size≤ρ.blk l∧∃ c ty,w.heap[ρ.blk l]?=some (.cells c ty (0,0))∧a.rc M ρ c.toList
 |.sl eid e xs=>ρ.ty l=e∧∃ cs,w.ownsRow X.E.heap.size eid e.size (ρ.sv l) xs.length cs∧RL M e xs cs
 |.map kt vt es clk=>X.E.heap.size≤ρ.blk l∧∃ ms,w.heap[ρ.blk l]?=some (.map ms clk)∧MapRep M kt vt es ms.toList
 |.iter m since seen last=>X.E.heap.size≤ρ.blk l∧w.heap[ρ.blk l]?=some (.mapIter (some (ρ.blk m)) since seen.toArray last)
 |.cus Q=>(∃ g cur ty,(ρ.sv l).ownBlock=some g∧X.E.heap.size≤g∧w.heap[g]?=some (.cells cur ty (0,0))∧Q (ρ.sv l) cur ty)∨(ρ.sv l=.slice none 0 0∧Q (.slice none 0 0) #[] 0)
 |.loop st pe ps az bd n L=>X.E.heap.size≤ρ.blk l∧∃ fn tm D,w.heap[ρ.blk l]?=some (.loop ⟨st,pe,fn,tm,ps,az,bd,D⟩)∧tm.size=n∧∀ d v,lk L d=some v→v.rv M ρ (tm.getD d Go.undef)
 |.fr i L=>i<X.dp∧∀ d v,lk L d=some v→v.rv M ρ (X.up i d)
 |.raw ty k n c=>X.E.heap.size≤ρ.blk l∧∃ cs:Array Value,w.heap[ρ.blk l]?=some (.cells cs ty (0,0))∧n≤cs.size∧(∀ i,i<n→cs[i]?=some ((c i).cv ρ)∧((c i).cv ρ).oneCell'=true) ∧
   (match k with|none=>cs.size=n|some e=>∃ m cap,ρ.sv l=.slice (some ⟨ρ.blk l,0,none⟩) m cap∧n=m*e∧cs.size=cap*e∧m≤cap∧cap≤maxLen)
 |.rmap es clk=>X.E.heap.size≤ρ.blk l∧∃ ms,w.heap[ρ.blk l]?=some (.map ms clk)∧ms.toList=es.map fun x=>⟨x.1.cv ρ,x.2.1.cv ρ,x.2.2⟩
 |.riter m since seen last bk=>X.E.heap.size≤ρ.blk l∧∃ sn:Array Nat,w.heap[ρ.blk l]?=some (.mapIter (some (ρ.blk m)) since sn last)∧sn.toList.Perm seen∧∀ x,bk=some x→sn.back?=some x
 |.gl g _ n c=>(∀ b,g=some b→ρ.blk l=b)∧∃ (cs:Array Value) (ty:TypeId) (fz:Nat×Nat),M (ρ.blk l)=some (.cells cs ty fz)∧n≤cs.size∧∀ i,i<n→cs[i]?=some ((c i).cv ρ)∧((c i).cv ρ).oneCell'=true
 |.mrow f n c=>X.E.heap.size≤ρ.blk l∧∃ ms clk,w.heap[ρ.blk l]?=some (.map ms clk)∧ms.size≤c∧(∀ e∈ms,∃ k,k<n∧e.key=.int .u64 (k:Nat)∧e.val=ρ.sv (f k)) ∧
   (∀ k,k<n→(∀ e∈ms,e.key≠.int .u64 (k:Nat))→ρ.sv (f k)=.slice none 0 0)∧(∀ i j,∀ (hi:i<ms.size) (hj:j<ms.size),ms[i].key=ms[j].key→i=j)∧(∀ e∈ms,e.born<clk)
 |.dlk A y m=>ρ.ty l=.cons A (.cons (.ptr .nil) .nil)∧∃ c ty c1,M (ρ.blk l)=some (.cells c ty (0,0))∧Rep M A y c1∧c.toList=c1++[.map (some (ρ.blk m))]
structure SAT(X:Ctx)(M:Mem)(ρ:Env)(s:S)(w:World):Prop where
 below:Below X.E.heap.size X.E w
 msub:∀ b o,X.M0 b=some o→M b=some o
 mnew:∀ b,b<X.E.heap.size→M b=X.M0 b
 mem:∀ b o,M b=some o→w.heap[b]?=some o
 own:∀ l o,lk s.H l=some o→l<s.nx∧o.bd s.nx∧o.ok X M ρ l w
 apart:∀ l l' o o' b,lk s.H l=some o→lk s.H l'=some o'→o.at ρ l=some b→o'.at ρ l'=some b→l=l'
 notM:∀ l o b,lk s.H l=some o→o.at ρ l=some b→M b=none
structure REG(X:Ctx)(M:Mem)(ρ:Env)(s:S)(a:Act):Prop where
 size:a.tmps.size=X.n
 defers:∃ Ds:List Nat,a.defers=Ds.map (fun D=>({target:=.collected D,args:=#[]}:Deferred))∧Ds.Nodup∧(∀ D∈Ds,X.E.heap.size≤D∧M D=some (.deferred (some [])))∧(Ds=[]∨(X.rd=none∧∀ D∈Ds,X.M0 D=none))
 reg:∀ d v,lk s.L d=some v→v.bd s.nx∧v.rv M ρ (a.tmps.getD d Go.undef)
def conc(X:Ctx)(QA:Exit→S→Prop)(e:Exit)(a:Act)(w:World):Prop:=∃ M ρ s,SAT X M ρ s w∧REG X M ρ s a∧QA e s
def JC(X:Ctx)(c:Code)(QA:Exit→S→Prop)(s:S):Prop:=∀ M ρ a w,SAT X M ρ s w→REG X M ρ s a→c.wpIn X.fn 0 X.P (conc X QA) a w
def JL(X:Ctx)(md:Bool)(all:List Oper)(QA:Exit→S→Prop)(l:List Oper)(s:S):Prop:=
 match md with
 |true=>∀ M ρ a w,SAT X M ρ s w→REG X M ρ s a→wpListIn X.fn 0 X.P all.toArray (conc X QA) l a w
 |false=>∀ M ρ a w0,SAT X M ρ s w0→REG X M ρ s a →
   wpQuiet X.P all.toArray (fun w=>Below w0.heap.size w0 w) (fun a'=>∀ w,Below w0.heap.size w0 w→conc X QA .normal a' w) l a
def JW(X:Ctx)(s' s:S):Prop:=∀ M ρ a w,SAT X M ρ s w→REG X M ρ s a→∃ ρ',SAT X M ρ' s' w∧REG X M ρ' s' a
variable{Q:Exit→Act→World→Prop}
def q73{F:Fence}{a:Act}{w:World}{c:Code}(I:Nat→Act→World→Prop)(n₀:Nat)(h₀:I n₀ a w)
  (round:∀ m a w,I m a w→c.wpIn F n P (Exit.then (fun a' w'=>∃ m',m'<m∧I m' a' w') Q) a w):(Code.loop c).wpIn F n P Q a w:=by
 refine wpIn_loop (fun a w=>∃ m,I m a w) (fun a w=>leastOf (fun m=>I m a w)) ⟨n₀,h₀⟩ ?_;intro a w hI;refine wpIn_mono (round _ a w (leastOf_spec hI).1) ?_;intro e a' w' hq;cases e with
 |normal=>obtain⟨m',hb,ha⟩:=hq;exact show(∃ m,I m a' w')∧leastOf (fun m=>I m a' w')<leastOf (fun m=>I m a w) from⟨⟨m',ha⟩,Nat.lt_of_le_of_lt ((leastOf_spec ⟨m',ha⟩).2 m' ha) hb⟩
 |_=>exact hq
variable {X:Ctx}{QA:Exit→S→Prop}{s:S}
def JC.mono{c:Code}{QA':Exit→S→Prop}(h:JC X c QA s)(hq:∀ e s,QA e s→QA' e s):JC X c QA' s:=fun M ρ a w h1 h2=>wpIn_mono (h M ρ a w h1 h2) fun _ _ _ ⟨M',ρ',s',k1,k2,k3⟩=>⟨M',ρ',s',k1,k2,hq _ _ k3⟩
def qThen(K:S→Prop)(QA:Exit→S→Prop):Exit→S→Prop
 |.normal,s=>K s
 |e,s=>QA e s
def z23{x y:Code}(h:JC X x (qThen (JC X y QA) QA) s):JC X (.seq x y) QA s:=
 fun M ρ a w h1 h2=>wpIn_seq (wpIn_mono (h M ρ a w h1 h2) fun e a' w' ⟨M',ρ',s',k1,k2,k3⟩=>by
  cases e with
  |normal=>exact k3 M' ρ' a' w' k1 k2
  |_=>exact⟨M',ρ',s',k1,k2,k3⟩)
def JC.skip(h:QA .normal s):JC X .skip QA s:=fun M ρ _ _ h1 h2=>wpIn_skip ⟨M,ρ,s,h1,h2,h⟩
def z6u{l:Nat}(h:QA .normal s):JC X (.label l) QA s:=fun M ρ _ _ h1 h2=>wpIn_label ⟨M,ρ,s,h1,h2,h⟩
def j3n{id:Nat}(h:QA (.exit id) s):JC X (.exit id) QA s:=fun M ρ _ _ h1 h2=>wpIn_exit ⟨M,ρ,s,h1,h2,h⟩
def JC.ret(h:QA .ret s):JC X .ret QA s:=fun M ρ _ _ h1 h2=>wpIn_ret ⟨M,ρ,s,h1,h2,h⟩
def qBlock(id:Nat)(QA:Exit→S→Prop):Exit→S→Prop
 |.exit id',s=>if id'=id then QA .normal s else QA (.exit id') s
 |e,s=>QA e s
def JC.block{id:Nat}{c:Code}(h:JC X c (qBlock id QA) s):JC X (.block id c) QA s:=
 fun M ρ a w h1 h2=>wpIn_block (wpIn_mono (h M ρ a w h1 h2) fun e a' w' ⟨M',ρ',s',k1,k2,k3⟩=>by
  cases e with
  |exit id'=>
   simp only[qBlock,Exit.inBlock] at k3 ⊢;split
   ·rename_i ha;rw[if_pos ha] at k3;exact⟨M',ρ',s',k1,k2,k3⟩
   ·rename_i ha;rw[if_neg ha] at k3;exact⟨M',ρ',s',k1,k2,k3⟩
  |_=>exact⟨M',ρ',s',k1,k2,k3⟩)
def opB(L:List (Nat×AV)):Operand→Option Bool
 |.tmp t=>match lk L t with
  |some (.val .bool b)=>some b
  |_=>none
 |.const (.bool b)=>some b
 |_=>none
def z9j{M:Mem}{ρ:Env}{a:Act}(h2:REG X M ρ s a)(h:opB s.L x=some b):a.eval x=.bool b:=by
 cases x with
 |tmp t=>
  simp only[opB] at h;split at h
  ·rename_i b' hl;injection h with h;subst h
   have:=(h2.reg _ _ hl).2;simp only[AV.rv,Rep] at this;obtain⟨cs,rfl,hv⟩:=this;simpa[Act.eval,Ty.wrap,Ty.agg] using hv
  ·cases h
 |const v=>cases v<;>simp only[opB] at h<;>first|(injection h with h;subst h;rfl)|cases h
 |global g=>simp[opB] at h
 |func f=>simp[opB] at h
def JC.cond{x:Operand}{c d:Code}{b:Bool}(hb:opB s.L x=some b)(ht:b=true→JC X c QA s)(hf:b=false→JC X d QA s):JC X (.cond x c d) QA s:=fun M ρ a w h1 h2=>wpIn_cond_split (z9j h2 hb) (fun e=>ht e M ρ a w h1 h2) (fun e=>hf e M ρ a w h1 h2)
def JC.loop{c:Code}{σ:Type}(st:σ→S)(I:σ→Prop)(μ:σ→Nat)(i0:σ)(h0:I i0)(hs:JW X (st i0) s)
  (round:∀ i,I i→JC X c (qThen (fun s'=>∃ i',JW X (st i') s'∧I i'∧μ i'<μ i) QA) (st i)):JC X (.loop c) QA s:=by
 intro M ρ a w h1 h2;obtain⟨ρ1,h1,h2⟩:=hs M ρ a w h1 h2;refine q73 (fun n a w=>∃ i M ρ,μ i=n∧I i∧SAT X M ρ (st i) w∧REG X M ρ (st i) a) (μ i0) ⟨i0,M,ρ1,rfl,h0,h1,h2⟩ ?_;rintro n a w ⟨i,M,ρ,rfl,hI,k1,k2⟩;refine wpIn_mono (round i hI M ρ a w k1 k2) ?_;rintro e a' w' ⟨M',ρ',s',k1,k2,k3⟩;cases e with
 |normal=>obtain⟨i',hw,ha,hb⟩:=k3;obtain⟨ρ2,k1,k2⟩:=hw M' ρ' a' w' k1 k2;exact⟨μ i',hb,i',M',ρ2,rfl,ha,k1,k2⟩
 |_=>exact⟨M',ρ',s',k1,k2,k3⟩
def allP:List Prop→Prop
 |[]=>True
 |[p]=>p
 |p::q::r=>p∧allP (q::r)
def q2j{p:Prop}{l:List Prop}:allP (p::l)↔p∧allP l:=by cases l<;>simp[allP]
def z7{l m:List Prop}:allP (l++m)↔allP l∧allP m:=by
 induction l with
 |nil=>simp[allP]
 |cons p l ih=>rw[List.cons_append,q2j,ih,q2j];exact⟨fun⟨a,b,c⟩=>⟨⟨a,b⟩,c⟩,fun⟨⟨a,b⟩,c⟩=>⟨a,b,c⟩⟩
def Ty.zc:Ty→List Value
 |.int k=>[.int k 0]|.bool=>[.bool false]|.slice _=>[.slice none 0 0]|.ptr _=>[.pointer none]
 |.arr n e=>(List.replicate n e.zc).flatten|.nil=>[]|.cons a b=>a.zc++b.zc
def w7(M:Mem):∀ t:Ty,Rep M t t.dflt t.zc
 |.int k=>by simp[Rep,Ty.dflt,Ty.zc]
 |.bool=>by simp[Rep,Ty.dflt,Ty.zc]
 |.slice e=>by simp only[Rep,Ty.dflt,Ty.zc];exact⟨none,0,rfl,by simp,by simp[maxLen],fun _=>rfl,.inl rfl⟩
 |.ptr e=>by simp[Rep,Ty.dflt,Ty.zc]
 |.arr n e=>by rw[q16];exact⟨by simp[Ty.dflt],RL.replicate (w7 M e) n⟩
 |.nil=>by simp[Rep,Ty.zc]
 |.cons a b=>by simp only[Rep,Ty.dflt,Ty.zc];exact⟨_,_,rfl,w7 M a,w7 M b⟩
structure InfoOf(P:Program)(id:TypeId)(t:Ty)(d:TypeDesc):Prop where
 under:P.underlying id=some d
 size:(P.info? id).map (·.size)=some t.size
 zero:(P.info? id).map (·.zero)=some (some (t.wrap t.zc))
 bytes:((P.info? id).map fun i=>decide (i.bytes≤65536))=some true
def TyOf(P:Program):Ty→TypeId→Prop
 |.int k,id=>InfoOf P id (.int k) (.int k)
 |.bool,id=>InfoOf P id .bool .bool
 |.slice e,id=>∃ eid,InfoOf P id (.slice e) (.slice eid)∧TyOf P e eid
 |.ptr e,id=>∃ eid,InfoOf P id (.ptr e) (.pointer eid)
 |.arr n e,id=>∃ eid,InfoOf P id (.arr n e) (.array n eid)∧TyOf P e eid
 |.nil,_=>False
 |.cons a b,id=>∃ fs,InfoOf P id (.cons a b) (.struct fs)∧(match fs.toList with
   |f::r=>f.offset=0∧TyOf P a f.type∧a.size≠0∧fields P b r a.size
   |[]=>False)
where
 fields (P:Program):Ty→List Field→Nat→Prop
 |.nil,[],_=>True
 |.cons a b,f::r,off=>f.offset=off∧TyOf P a f.type∧a.size≠0∧fields P b r (off+a.size)
 |_,_,_=>False
def TOK(P:Program)(T:List (Nat×Ty)):Prop:=∀ id t,lk T id=some t→TyOf P t id
def EOK(P:Program)(ET:List (Nat×Nat)):Prop:=∀ id e,lk ET id=some e→P.underlying id=some (.slice e)
def getV:(t:Ty)→t.den→List Step→Option (List Prop×AV)
 |t,x,[]=>some ([],.val t x)
 |.cons a _,x,.fld 0::p=>getV a x.1 p
 |.cons _ b,x,.fld (i+1)::p=>getV b x.2 (.fld i::p)
 |.arr n e,l,.idx k::p=>(getV e (List.getD l k e.dflt) p).map fun r=>((k<n)::r.1,r.2)
 |_,_,_::_=>none
def getA:AV→List Step→Option (List Prop×AV)
 |.val t x,p=>getV t x p
 |.mix a b,[]=>some ([],.mix a b)
 |.mix a _,.fld 0::p=>getA a p
 |.mix _ b,.fld (i+1)::p=>getA b (.fld i::p)
 |.mix a _,.idx 0::p=>getA a p
 |.mix _ b,.idx (i+1)::p=>getA b (.idx i::p)
 |a,[]=>some ([],a)
 |_,_::_=>none
def getT(t:Ty)(a:AV)(p:List Step):Option (List Prop×AV):=if (t.sub p).isSome then getA a p else none
def constAV:Value→Option AV
 |.int k n=>some (.val (.int k) n)
 |.bool b=>some (.val .bool b)
 |.slice none 0 0=>some (.lf .nils)
 |.pointer none=>some (.lf .nilp)
 |_=>none
def opd(L:List (Nat×AV)):Operand→Option (List Prop×AV)
 |.tmp t=>match lk L t with
  |some (.gd g v)=>some ([g=true],v)
  |some v=>some ([],v)
  |none=>none
 |.const v=>(constAV v).map fun v=>([],v)
 |.func f=>some ([],.fn f .anil .anil)
 |.global _=>none
def opds(L:List (Nat×AV)):List Operand→Option (List Prop×AV)
 |[]=>some ([],.anil)
 |o::r=>(opd L o).bind fun a=>(opds L r).map fun b=>(a.1++b.1,.acons a.2 b.2)
def inK(k:IntKind)(n:Int):Prop:=
 match k with
 |.i8=>-128≤n∧n≤127
 |.i16=>-32768≤n∧n≤32767
 |.i32=>-2147483648≤n∧n≤2147483647
 |.i64=>-9223372036854775808≤n∧n≤9223372036854775807
 |.u8=>0≤n∧n≤255
 |.u16=>0≤n∧n≤65535
 |.u32=>0≤n∧n≤4294967295
 |.u64=>0≤n∧n≤18446744073709551615
def idxC(k:Int)(n:Nat):List Prop:=[0≤k,k<n]
def loC(a:Int)(n:Nat):List Prop:=[0≤a,a≤n]
def lohiC(a b:Int)(n:Nat):List Prop:=[0≤a,a≤b,b≤n]
def fullC(a b:Int)(n:Nat):List Prop:=[0≤a,a=b,a≤n]
def binI(op:BinOp)(k:IntKind)(a b:Int):Option (List Prop×AV):=
 match op with
 |.add=>some ([inK k (a+b)],.val (.int k) (a+b))
 |.sub=>some ([inK k (a-b)],.val (.int k) (a-b))
 |.mul=>some ([inK k (a*b)],.val (.int k) (a*b))
 |.quo=>some ([0≤a,0<b,inK k a],.val (.int k) (a / b))
 |.rem=>some ([0≤a,0<b],.val (.int k) (a % b))
 |.and=>some ([0≤a,0≤b,inK k a,inK k b],.val (.int k) ((a.toNat &&& b.toNat:Nat):Int))
 |.or=>some ([0≤a,0≤b,inK k a,inK k b],.val (.int k) ((a.toNat ||| b.toNat:Nat):Int))
 |.andNot=>some ([0≤a,0≤b,inK k a,inK k b],.val (.int k) ((a.toNat ^^^ (a.toNat &&& b.toNat):Nat):Int))
 |.eql=>some ([],.val .bool (a==b))
 |.neq=>some ([],.val .bool (a != b))
 |.lss=>some ([],.val .bool (decide (a<b)))
 |.leq=>some ([],.val .bool (decide (a≤b)))
 |.gtr=>some ([],.val .bool (decide (a>b)))
 |.geq=>some ([],.val .bool (decide (a ≥ b)))
 |_=>none
def shI(op:BinOp)(k:IntKind)(a b:Int):Option (List Prop×AV):=
 match op with
 |.shl=>some ([0≤b,b<64,inK k (a*2 ^ b.toNat)],.val (.int k) (a*2 ^ b.toNat))
 |.shr=>some ([0≤a,0≤b,b<64,inK k a],.val (.int k) (a / 2 ^ b.toNat))
 |_=>none
def bin(tb:Option Ty)(op:BinOp)(x y:AV):Option (List Prop×AV):=
 match op,x,y with
 |.shl,.val (.int k) a,.val (.int _) b=>shI .shl k a b
 |.shr,.val (.int k) a,.val (.int _) b=>shI .shr k a b
 |op,.val (.int k) a,.val (.int k') b=>if k=k' then binI op k a b else none
 |.eql,.val .bool a,.val .bool b=>if tb=some .bool then some ([],.val .bool (a==b)) else none
 |.neq,.val .bool a,.val .bool b=>if tb=some .bool then some ([],.val .bool (a != b)) else none
 |_,_,_=>none
def una(op:UnOp)(x:AV):Option (List Prop×AV):=
 match op,x with
 |.not,.val .bool b=>some ([],.val .bool (!b))
 |.neg,.val (.int k) n=>some ([inK k (0-n)],.val (.int k) (0-n))
 |_,_=>none
def pickV(x:Bool)(a b:AV):Option AV:=
 match a,b with
 |.val .bool p,.val .bool q=>some (.val .bool (bif x then p else q))
 |.val (.int k) p,.val (.int k') q=>if k=k' then some (.val (.int k) (bif x then(p:Int) else(q:Int))) else none
 |_,_=>none
def raw(L:List (Nat×AV))(x:Operand):Option (Option Bool×AV):=
 match x with
 |.tmp t=>match lk L t with
  |some (.gd g v)=>some (some g,v)
  |some v=>some (none,v)
  |none=>none
 |.const v=>(constAV v).map fun v=>(none,v)
 |_=>none
def underG(want x:Bool):Option Bool→List Prop
 |none=>[]
 |some g=>[x=want→g=true]
def pick(L:List (Nat×AV))(c a b:Operand):Option (List Prop×AV):=
 match opd L c,raw L a,raw L b with
 |some (cs,.val .bool x),some (ga,va),some (gb,vb)=>(pickV x va vb).map fun v=>(cs++underG true x ga++underG false x gb,v)
 |_,_,_=>none
def nthA:AV→Nat→Option AV
 |.acons a _,0=>some a
 |.acons _ b,i+1=>nthA b i
 |_,_=>none
def ptee(H:List (Nat×HO)):AV→Option (List Prop×AV)
 |.val (.ptr e) (some y)=>some ([],.val e y)
 |.lf (.optr l p)=>match lk H l with
  |some (.cell t a)=>getT t a p
  |_=>none
 |.lf (.oelt l k p)=>match lk H l with
  |some (.sl _ e xs)=>(getV e (List.getD xs k e.dflt) p).map fun r=>((k<xs.length)::r.1,r.2)
  |_=>none
 |_=>none
def fieldAddr(T:List (Nat×Ty))(H:List (Nat×HO))(t:TypeId)(x:AV)(i:Nat):Option (List Prop×AV):=
 match lk T t with
 |some ty=>match x with
  |.val (.ptr e) (some y)=>if e=ty then(match getV e y [.fld i] with
   |some (c,.val f z)=>some (c,.val (.ptr f) (some z))
   |_=>none) else none
  |.lf (.optr l p)=>(match lk H l with
   |some (.cell t0 _)=>if t0.sub p=some ty then(match ty.sub [.fld i] with
    |some _=>some ([],.lf (.optr l (p++[.fld i])))
    |none=>none) else none
   |_=>none)
  |.lf (.oelt l k p)=>(match lk H l with
   |some (.sl _ e _)=>if e.sub p=some ty then(match ty.sub [.fld i] with
    |some _=>some ([],.lf (.oelt l k (p++[.fld i])))
    |none=>none) else none
   |_=>none)
  |_=>none
 |none=>none
def indexAddr(T:List (Nat×Ty))(H:List (Nat×HO))(t:TypeId)(x i:AV):Option (List Prop×AV):=
 match lk T t,i with
 |some ty,.val (.int _) k=>match x with
  |.val (.slice e) l=>if ty=.slice e then some (idxC k (List.length l),.val (.ptr e) (some (List.getD l (Int.toNat k) e.dflt))) else none
  |.lf (.osl l)=>(match lk H l with
   |some (.sl _ e xs)=>if ty=.slice e then some (idxC k (List.length xs),.lf (.oelt l (Int.toNat k) [])) else none
   |_=>none)
  |.val (.ptr (.arr n e)) (some l)=>if ty=.arr n e then some (idxC k n,.val (.ptr e) (some (List.getD l (Int.toNat k) e.dflt))) else none
  |.lf (.optr l p)=>(match lk H l,ty with
   |some (.cell t0 _),.arr n e=>if t0.sub p=some (.arr n e) then some (idxC k n,.lf (.optr l (p++[.idx (Int.toNat k)]))) else none
   |_,_=>none)
  |_=>none
 |_,_=>none
def lenA(H:List (Nat×HO)):AV→Option AV
 |.val (.slice _) l=>some (.val (.int .i64) (List.length l:Int))
 |.full _ l=>some (.val (.int .i64) (List.length l:Int))
 |.lf .nils=>some (.val (.int .i64) (0:Int))
 |.lf (.osl l)=>match lk H l with
  |some (.sl _ _ xs)=>some (.val (.int .i64) (xs.length:Int))
  |_=>none
 |.lf (.ovw _ lo hi _)=>some (.val (.int .i64) ((hi-lo:Nat):Int))
 |_=>none
def isSl:Option Ty→Bool
 |some (.slice _)=>true
 |_=>false
def sliceA(T:List (Nat×Ty))(H:List (Nat×HO))(t:TypeId)(x:AV)(lo hi mx:Option AV):Option (List Prop×AV):=
 match lk T t with
 |some (.slice e')=>match x with
  |.val (.slice e) l=>if e'=e then(match lo,hi,mx with
   |none,none,none=>some ([],.val (.slice e) l)
   |some (.val (.int _) a),none,none=>some (loC a (List.length l),.val (.slice e) (List.drop (Int.toNat a) l))
   |none,some (.val (.int _) b),none=>some (loC b (List.length l),.val (.slice e) (List.take (Int.toNat b) l))
   |some (.val (.int _) a),some (.val (.int _) b),none=>some (lohiC a b (List.length l),.val (.slice e) (List.drop (Int.toNat a) (List.take (Int.toNat b) l)))
   |none,some (.val (.int _) b),some (.val (.int _) m)=>some (fullC b m (List.length l),.full e (List.take (Int.toNat b) l))
   |_,_,_=>none) else none
  |.lf (.osl l)=>(match lk H l with
   |some (.sl _ e xs)=>if e'=e then(match lo,hi,mx with
    |some (.val (.int _) a),none,none=>some (loC a (List.length xs),.lf (.ovw l (Int.toNat a) xs.length false))
    |none,some (.val (.int _) b),none=>some (loC b (List.length xs),.lf (.ovw l 0 (Int.toNat b) false))
    |some (.val (.int _) a),some (.val (.int _) b),none=>some (lohiC a b (List.length xs),.lf (.ovw l (Int.toNat a) (Int.toNat b) false))
    |none,some (.val (.int _) b),some (.val (.int _) m)=>some (fullC b m (List.length xs),.lf (.ovw l 0 (Int.toNat b) true))
    |_,_,_=>none) else none
   |_=>none)
  |_=>none
 |some (.arr n e)=>match x,lo,hi,mx with
  |.lf (.optr l p),none,none,none=>(match lk H l with
   |some (.cell t0 _)=>if t0.sub p=some (.arr n e) then some ([],.lf (.oarr l p n n)) else none
   |_=>none)
  |.lf (.optr l p),none,some (.val (.int _) b),none=>(match lk H l with
   |some (.cell t0 _)=>if t0.sub p=some (.arr n e) then some (loC b n,.lf (.oarr l p (Int.toNat b) n)) else none
   |_=>none)
  |_,_,_,_=>none
 |_=>none
def opdO(L:List (Nat×AV)):Option Operand→Option (List Prop×Option AV)
 |none=>some ([],none)
 |some o=>(opd L o).map fun r=>(r.1,some r.2)
def evq(T:List (Nat×Ty))(o:Op)(s:S):Option (List Prop×AV):=
 match o with
 |.move x|.assign x=>opd s.L x
 |.pick c a b=>pick s.L c a b
 |.binOp op t x y _=>(opd s.L x).bind fun a=>(opd s.L y).bind fun b=>(bin (lk T t) op a.2 b.2).map fun r=>(a.1++(b.1++r.1),r.2)
 |.unOp op _ x=>(opd s.L x).bind fun a=>(una op a.2).map fun r=>(a.1++r.1,r.2)
 |.convert src dst x=>(opd s.L x).bind fun a=>match lk T src,lk T dst,a.2 with
  |some (.int _),some (.int k),.val (.int _) n=>some (a.1++[inK k n],.val (.int k) n)
  |_,_,_=>none
 |.extract x i=>(opd s.L x).bind fun a=>match a.2 with
  |.tup l=>(nthA l i).map fun v=>(a.1,v)
  |_=>none
 |.nilCheck x=>(opd s.L x).bind fun a=>match a.2 with
  |.val (.ptr _) (some _)=>some a
  |.lf (.optr _ _)=>some a
  |.lf (.oelt _ _ _)=>some a
  |_=>none
 |.field t x i=>(opd s.L x).bind fun a=>match lk T t with
  |some ty=>match getT ty a.2 [.fld i] with
   |some r=>if confB ty a.2 then some (a.1++r.1,r.2) else none
   |none=>none
  |none=>none
 |.fieldAddr t x i=>(opd s.L x).bind fun a=>(fieldAddr T s.H t a.2 i).map fun r=>(a.1++r.1,r.2)
 |.indexAddr t x i=>(opd s.L x).bind fun a=>(opd s.L i).bind fun b=>(indexAddr T s.H t a.2 b.2).map fun r=>(a.1++(b.1++r.1),r.2)
 |.index t x i=>(opd s.L x).bind fun a=>(opd s.L i).bind fun b=>match lk T t,a.2,b.2 with
  |some (.arr n e),.val (.arr n' e') l,.val (.int _) k=>if n'=n∧e'=e∧0<e'.size then some (a.1++(b.1++idxC k n),.val e' (List.getD l (Int.toNat k) e'.dflt)) else none
  |some (.arr n e),.mix u v,.val (.int _) k=>if confB (.arr n e) (.mix u v)&&decide (0<e.size) then(getT (.arr n e) (.mix u v) [.idx (Int.toNat k)]).map fun r=>(a.1++(b.1++(idxC k n++r.1)),r.2) else none
  |_,_,_=>none
 |.load t x=>(opd s.L x).bind fun a=>match lk T t,ptee s.H a.2 with
  |some ty,some r=>if confB ty r.2&&decide (0<ty.size) then some (a.1++r.1,r.2) else none
  |_,_=>none
 |.slice t x lo hi mx=>(opd s.L x).bind fun a=>(opdO s.L lo).bind fun l=>(opdO s.L hi).bind fun h=>(opdO s.L mx).bind fun m=>(sliceA T s.H t a.2 l.2 h.2 m.2).map fun r=>(a.1++(l.1++(h.1++(m.1++r.1))),r.2)
 |.makeFunc (.func f) first cap=>(opds s.L first.toList).bind fun a=>(opds s.L cap.toList).map fun b=>(a.1++b.1,.fn f a.2 b.2)
 |.call {callee:=.builtin .len,args:=⟨[x]⟩,argTypes:=⟨[t]⟩}=>(opd s.L x).bind fun a=>if isSl (lk T t) then(lenA s.H a.2).map fun v=>(a.1,v) else none
 |.call {callee:=.builtin .min,args:=⟨[x,y]⟩,..}=>(opd s.L x).bind fun a=>(opd s.L y).bind fun b=>match a.2,b.2 with
  |.val (.int k) m,.val (.int k') n=>if k=k' then some (a.1++b.1,.val (.int k) (Min.min (m:Int) (n:Int))) else none
  |_,_=>none
 |.call {callee:=.builtin .max,args:=⟨[x,y]⟩,..}=>(opd s.L x).bind fun a=>(opd s.L y).bind fun b=>match a.2,b.2 with
  |.val (.int k) m,.val (.int k') n=>if k=k' then some (a.1++b.1,.val (.int k) (Max.max (m:Int) (n:Int))) else none
  |_,_=>none
 |_=>none
section
variable {M:Mem}{ρ:Env}{v:Value}
def w6{n:Int}:(AV.val (.int k) n).rv M ρ v↔v=.int k n:=by simp only[AV.rv,Rep];exact⟨by rintro⟨cs,rfl,rfl⟩;rfl,by rintro rfl;exact⟨_,rfl,rfl⟩⟩
def n5:(AV.val .bool b).rv M ρ v↔v=.bool b:=by simp only[AV.rv,Rep];exact⟨by rintro⟨cs,rfl,rfl⟩;rfl,by rintro rfl;exact⟨_,rfl,rfl⟩⟩
def q5s{e:Ty}{l:List e.den}:(AV.val (.slice e) l).rv M ρ v↔∃ (ad:Option Addr) (cap:Nat),v=.slice ad l.length cap∧l.length≤cap∧cap≤maxLen∧(ad=none→cap=0) ∧
   (l.length=0∨∃ b off c ty fz,ad=some ⟨b,off,none⟩∧M b=some (.cells c ty fz) ∧
    ∀ i (h:i<l.length),Rep M e (l.get ⟨i,h⟩) ((c.toList.drop (off+i*e.size)).take e.size)):=by
 simp only[AV.rv,Rep];constructor
 ·rintro⟨cs,⟨ad,cap,rfl,h2,h3,h4,h5⟩,rfl⟩;exact⟨ad,cap,rfl,h2,h3,h4,h5⟩
 ·rintro⟨ad,cap,rfl,h2,h3,h4,h5⟩;exact⟨_,⟨ad,cap,rfl,h2,h3,h4,h5⟩,rfl⟩
def q25{e:Ty}{y:e.den}:(AV.val (.ptr e) (some y)).rv M ρ v↔∃ b off c ty fz,v=.pointer (some ⟨b,off,none⟩)∧M b=some (.cells c ty fz)∧Rep M e y ((c.toList.drop off).take e.size):=by
 simp only[AV.rv,Rep];constructor
 ·rintro⟨cs,⟨b,off,c,ty,fz,rfl,h1,h2⟩,rfl⟩;exact⟨b,off,c,ty,fz,rfl,h1,h2⟩
 ·rintro⟨b,off,c,ty,fz,rfl,h1,h2⟩;exact⟨_,⟨b,off,c,ty,fz,rfl,h1,h2⟩,rfl⟩
def w9{x:Leaf}:(AV.lf x).rv M ρ v↔x.at ρ=some v∧v.oneCell'=true:=by simp only[AV.rv]
end
def y4{t:Ty}(h:t.agg=true)(cs:List Value):t.wrap cs=.agg cs.toArray:=by simp[Ty.wrap,h]
def q48{t:Ty}(h:t.agg=false)(hl:cs.length=t.size):cs=[t.wrap cs]:=by cases t<;>simp only[Ty.agg] at h<;>first|(exact absurd h (by decide))|(simp only[Ty.size] at hl;match cs,hl with|[v],_=>simp[Ty.wrap,Ty.agg])
def q1r(h:v.oneCell'=true):v.cells=#[v]:=by cases v<;>simp_all[Value.oneCell',Value.cells]
def y9{t:Ty}(hl:cs.length=t.size)(h1:∀ v∈cs,v.oneCell'=true):(t.wrap cs).cells=cs.toArray:=by
 cases h:t.agg
 ·obtain⟨v,rfl⟩:∃ v,cs=[v]:=⟨_,q48 h hl⟩;have h2:=h1 v (by simp);have h3:t.wrap [v]=v:=by simp[Ty.wrap,h]
  rw[h3,q1r h2]
 ·simp[Ty.wrap,h,Value.cells]
def z63{M:Mem}{ρ:Env}{t:Ty}{a:AV}(hc:confB t a=true)(h:a.rc M ρ cs):a.rv M ρ (t.wrap cs):=by
 cases a with
 |val t' x=>simp only[confB,yyu] at hc;subst hc;simp only[AV.rv,AV.rc] at h ⊢;exact⟨cs,h,rfl⟩
 |mix x y=>
  have ha:t.agg=true:=by cases t<;>first|rfl|(simp[confB] at hc;done)
  simp only[AV.rc] at h;obtain⟨c1,c2,h1,h2,rfl⟩:=h;simp only[AV.rv];exact⟨c1,c2,h1,h2,by simp[Ty.wrap,ha]⟩
 |lf x=>
  simp only[AV.rc] at h;obtain⟨v,h1,h2,rfl⟩:=h;rw[w9];have:t.agg=false:=by cases t<;>simp_all[confB,Ty.agg]
  simp[Ty.wrap,this,h1,h2]
 |_=>cases t<;>simp[confB] at hc
def z6z{M:Mem}{ρ:Env}{t:Ty}{a:AV}(hc:confB t a=true)(h:a.rv M ρ v):∃ cs,a.rc M ρ cs∧v=t.wrap cs:=by
 cases a with
 |val t' x=>simp only[confB,yyu] at hc;subst hc;simp only[AV.rv,AV.rc] at h ⊢;exact h
 |mix x y=>
  have ha:t.agg=true:=by cases t<;>first|rfl|(simp[confB] at hc;done)
  simp only[AV.rv] at h;obtain⟨c1,c2,h1,h2,rfl⟩:=h;exact⟨c1++c2,by simp only[AV.rc];exact⟨c1,c2,h1,h2,rfl⟩,by simp[Ty.wrap,ha]⟩
 |lf x=>
  rw[w9] at h;have:t.agg=false:=by cases t<;>simp_all[confB,Ty.agg]
  exact⟨[v],by simp only[AV.rc];exact⟨v,h.1,h.2,rfl⟩,by simp[Ty.wrap,this]⟩
 |_=>cases t<;>simp[confB] at hc
def q6w{M:Mem}:∀ {t:Ty} {x:t.den} {p:List Step} {r:List Prop×AV} {cs:List Value},getV t x p=some r→allP r.1→Rep M t x cs →
  ∃ (t':Ty) (y:t'.den),r.2=.val t' y∧t.sub p=some t'∧t.off p+t'.size≤cs.length∧Rep M t' y ((cs.drop (t.off p)).take t'.size):=by
 intro t;induction t with
 |arr n e ih=>
  intro x p r cs h hc hr;cases p with
  |nil=>simp only[getV,yya] at h;subst h;exact⟨_,x,rfl,rfl,by simp[Ty.off,hr.length],by simpa[Ty.off,yx2 (Nat.le_of_eq hr.length)] using hr⟩
  |cons s p=>
   cases s with
   |fld i=>cases i<;>simp[getV] at h
   |idx k=>
    simp only[getV,yym] at h;obtain⟨r',h1,rfl⟩:=h;rw[q2j] at hc;rw[q16] at hr;have hk:k<List.length x:=by rw[hr.1];exact hc.1
    obtain⟨t',y,e1,e2,e3,e4⟩:=ih h1 hc.2 (hr.2.get hk e.dflt);have hl:(k+1)*e.size≤cs.length:=by rw[hr.2.1];exact yy1 _ hk
    rw[yy8,Nat.one_mul] at hl;simp only[yxr,List.length_drop] at e3;refine⟨t',y,e1,e2,by simp only[Ty.off];omega,?_⟩;simp only[Ty.off];rw[List.drop_take,List.take_take,List.drop_drop] at e4;rwa[yxu (by omega)] at e4
 |cons a b iha ihb=>
  intro x p r cs h hc hr;cases p with
  |nil=>simp only[getV,yya] at h;subst h;exact⟨_,x,rfl,rfl,by simp[Ty.off,hr.length],by simpa[Ty.off,yx2 (Nat.le_of_eq hr.length)] using hr⟩
  |cons s p=>
   simp only[Rep] at hr;obtain⟨c1,c2,rfl,r1,r2⟩:=hr;cases s with
   |idx k=>simp[getV] at h
   |fld i=>
    cases i with
    |zero=>simp only[getV] at h;obtain⟨t',y,e1,e2,e3,e4⟩:=iha h hc r1;refine⟨t',y,e1,e2,by simp only[Ty.off,yyz];omega,?_⟩;simp only[Ty.off];rw[List.drop_append_of_le_length (by omega),yx1 (by simp;omega)];exact e4
    |succ i=>simp only[getV] at h;obtain⟨t',y,e1,e2,e3,e4⟩:=ihb h hc r2;have hl:=r1.length;refine⟨t',y,e1,e2,by simp only[Ty.off,yyz];omega,?_⟩;simp only[Ty.off];rw[← hl,List.drop_length_add_append];exact e4
 |_=>
  intro x p r cs h hc hr;cases p with
  |nil=>simp only[getV,yya] at h;subst h;exact⟨_,x,rfl,rfl,by simp[Ty.off,hr.length],by simpa[Ty.off,yx2 (Nat.le_of_eq hr.length)] using hr⟩
  |cons s p=>simp[getV] at h
def z7g{M:Mem}{ρ:Env}:∀ {a:AV} {t:Ty} {p:List Step} {r:List Prop×AV} {cs:List Value},(t.sub p).isSome=true→getA a p=some r→allP r.1→confB t a=true→a.rc M ρ cs→a.bd n →
  ∃ t',t.sub p=some t'∧confB t' r.2=true∧t.off p+t'.size≤cs.length∧r.2.rc M ρ ((cs.drop (t.off p)).take t'.size)∧r.2.bd n:=by
 have base:∀ {a:AV} {t:Ty} {cs:List Value},confB t a=true→a.rc M ρ cs→a.bd n →
   ∃ t',t.sub []=some t'∧confB t' a=true∧t.off []+t'.size≤cs.length∧a.rc M ρ ((cs.drop (t.off [])).take t'.size)∧a.bd n:=by
  intro a t cs hc hr hb;have hl:=k9 hc hr;have e1:t.sub []=some t:=by cases t<;>rfl
  have e2:t.off []=0:=by cases t<;>rfl
  exact⟨t,e1,hc,by omega,by rw[e2];simpa[yx2 (Nat.le_of_eq hl)] using hr,hb⟩
 intro a;induction a with
 |val t' x=>intro t p r cs _ h hc hf hr hb;simp only[confB,yyu] at hf;subst hf;simp only[getA] at h;simp only[AV.rc] at hr;obtain⟨t2,y,e1,e2,e3,e4⟩:=q6w h hc hr;refine⟨t2,e2,by simp[e1,confB],e3,?_,by simp[e1,AV.bd]⟩;rw[e1];simpa only[AV.rc] using e4
 |mix x y ihx ihy=>
  intro t p r cs hs h hc hf hr hb;cases p with
  |nil=>simp only[getA,yya] at h;subst h;exact base hf hr hb
  |cons s p=>
   cases t with
   |cons ta tb=>
    simp only[confB,yyc] at hf;simp only[AV.rc] at hr;obtain⟨c1,c2,r1,r2,rfl⟩:=hr;cases s with
    |idx k=>simp[Ty.sub] at hs
    |fld i=>
     cases i with
     |zero=>simp only[getA] at h;simp only[Ty.sub] at hs;obtain⟨t',e1,e2,e3,e4,e5⟩:=ihx hs h hc hf.1 r1 hb.1;refine⟨t',e1,e2,by simp only[Ty.off,yyz];omega,?_,e5⟩;simp only[Ty.off];rw[List.drop_append_of_le_length (by omega),yx1 (by simp;omega)];exact e4
     |succ i=>simp only[getA] at h;simp only[Ty.sub] at hs;obtain⟨t',e1,e2,e3,e4,e5⟩:=ihy hs h hc hf.2 r2 hb.2;have hl:=k9 hf.1 r1;refine⟨t',e1,e2,by simp only[Ty.off,yyz];omega,?_,e5⟩;simp only[Ty.off];rw[← hl,List.drop_length_add_append];exact e4
   |arr n e=>
    cases n with
    |zero=>simp[confB] at hf
    |succ n=>
     simp only[confB,yyc] at hf;simp only[AV.rc] at hr;obtain⟨c1,c2,r1,r2,rfl⟩:=hr;have hl:=k9 hf.1 r1;cases s with
     |fld i=>cases i<;>simp[Ty.sub] at hs
     |idx k=>
      cases k with
      |zero=>
       simp only[getA] at h;simp only[Ty.sub] at hs;obtain⟨t',e1,e2,e3,e4,e5⟩:=ihx hs h hc hf.1 r1 hb.1;have ho:(Ty.arr (n+1) e).off (.idx 0::p)=e.off p:=by simp only[Ty.off,Nat.zero_mul,yxt]
       refine⟨t',e1,e2,by rw[ho,yyz];omega,?_,e5⟩;rw[ho,List.drop_append_of_le_length (by omega),yx1 (by simp;omega)];exact e4
      |succ k=>
       simp only[getA] at h;obtain⟨t',e1,e2,e3,e4,e5⟩:=ihy (t:=.arr n e) (p:=.idx k::p) hs h hc hf.2 r2 hb.2;have ho:(Ty.arr (n+1) e).off (.idx (k+1)::p)=c1.length+(Ty.arr n e).off (.idx k::p):=by simp only[Ty.off,hl,yy8,Nat.one_mul];omega
       refine⟨t',e1,e2,by rw[ho,yyz];omega,?_,e5⟩;rw[ho,List.drop_length_add_append];exact e4
   |_=>simp[confB] at hf
 |_=>
  intro t p r cs _ h hc hf hr hb;cases p with
  |nil=>simp only[getA,yya] at h;subst h;exact base hf hr hb
  |cons s p=>simp[getA] at h
variable{p:List Step}{r:List Prop×AV}
def q2f{M:Mem}{ρ:Env}{a:AV}{t:Ty}(h:getT t a p=some r)(hc:allP r.1)(hf:confB t a=true)(hr:a.rc M ρ cs)(hb:a.bd n) :
  ∃ t',t.sub p=some t'∧confB t' r.2=true∧t.off p+t'.size≤cs.length∧r.2.rc M ρ ((cs.drop (t.off p)).take t'.size)∧r.2.bd n:=by
 unfold getT at h;split at h
 ·rename_i hs;exact z7g hs h hc hf hr hb
 ·cases h
def TyOf.info{t:Ty}{id:TypeId}(h:TyOf P t id):∃ d,InfoOf P id t d∧(t.agg=match d with|.struct _=>true|.array _ _=>true|_=>false):=by
 cases t<;>simp only[TyOf] at h
 ·exact⟨_,h,rfl⟩
 ·exact⟨_,h,rfl⟩
 ·obtain⟨eid,h,_⟩:=h;exact⟨_,h,rfl⟩
 ·obtain⟨eid,h⟩:=h;exact⟨_,h,rfl⟩
 ·obtain⟨eid,h,_⟩:=h;exact⟨_,h,rfl⟩
 ·obtain⟨fs,h,_⟩:=h;exact⟨_,h,rfl⟩
def InfoOf.run_size{id:TypeId}{t:Ty}{d:TypeDesc}(h:InfoOf P id t d)(w:World):(Go.sizeOf id).run P w=.ok t.size w:=by
 have h1:=h.size;cases hi:P.info? id with
 |none=>rw[hi] at h1;simp at h1
 |some i=>rw[hi] at h1;simp at h1;simp[Go.sizeOf,typeInfo,hi,h1]
def InfoOf.run_zero{id:TypeId}{t:Ty}{d:TypeDesc}(h:InfoOf P id t d)(w:World):(zeroValue id).run P w=.ok (t.wrap t.zc) w:=by
 have h1:=h.zero;cases hi:P.info? id with
 |none=>rw[hi] at h1;simp at h1
 |some i=>rw[hi] at h1;simp at h1;simp[zeroValue,typeInfo,hi,h1]
def TyOf.run_isAgg{t:Ty}{id:TypeId}(h:TyOf P t id)(w:World):(isAgg id).run P w=.ok t.agg w:=by obtain⟨d,h1,h2⟩:=h.info;simp only[isAgg,yye,run_underlying h1.under,yyb,h2];cases d<;>rfl
def u6{w:World}{b i:Nat}(h:w.heap[b]?=some (.cells c ty fz)):w.cell? ⟨b,i,none⟩=c[i]?:=by simp[World.cell?,h]
def j4(b i n:Nat):(⟨b,i,none⟩:Addr).add n=⟨b,i+n,none⟩:=by unfold Addr.add;split<;>simp_all
def q1p{w:World}{b off n:Nat}(h:w.heap[b]?=some (.cells c ty fz))(hn:off+n≤c.size) :
  (loadCells ⟨b,off,none⟩ n).run P w=.ok ((c.toList.drop off).take n).toArray w:=by
 have hl:((c.toList.drop off).take n).length=n:=by simp;omega
 have:=run_loadCells_list (P:=P) w ⟨b,off,none⟩ ((c.toList.drop off).take n) (by
  intro j v hv;rw[j4,u6 h];rw[yxm] at hv;split at hv
  ·simpa[List.getElem?_drop] using hv
  ·cases hv)
 rwa[hl] at this
def f8{t:Ty}{id:TypeId}(ht:TyOf P t id){w:World}{b off:Nat}(h:w.heap[b]?=some (.cells c ty fz))
  (hn:off+t.size≤c.size):(loadVar id ⟨b,off,none⟩).run P w=.ok (t.wrap ((c.toList.drop off).take t.size)) w:=by
 obtain⟨d,h1,h2⟩:=ht.info;unfold loadVar;simp only[yye,ht.run_isAgg,yyb];cases ha:t.agg
 ·have hl:((c.toList.drop off).take t.size).length=t.size:=by simp;omega
  have hb:=q48 ha hl;have hs:t.size=1:=by have:=congrArg List.length hb;simpa[hl] using this
  have hc:c[off]?=some (t.wrap ((c.toList.drop off).take t.size)):=by have:=congrArg (·[0]?) hb;simp only[yxm,List.getElem?_drop] at this;rw[if_pos (by omega)] at this;simpa using this
  simp[u6 h,hc]
 ·simp only[if_true,yye,h1.run_size,yyb,q1p h hn,yyf,y4 ha]
def o6{n:Int}(h:inK k n):k.wrap n=n:=by cases k<;>simp only[inK] at h<;>simp only[IntKind.wrap,IntKind.bits,IntKind.signed]<;>simp<;>omega
def q0q{a:Int}(h0:0≤a)(h1:a<2 ^ n):(BitVec.ofInt n a).toNat=a.toNat:=by rw[BitVec.toNat_ofInt];congr 1;rw[Int.emod_eq_of_lt h0];simpa using h1
def q1g{n:Int}(h:inK k n):n<2 ^ k.bits:=by cases k<;>simp only[inK] at h<;>simp only[IntKind.bits]<;>omega
def q37{a:Int}(h:a<2 ^ n):a.toNat<2 ^ n:=by
 have:((2 ^ n:Nat):Int)=(2:Int) ^ n:=by simp
 have hp:0<2 ^ n:=Nat.two_pow_pos n;omega
def topBits(k:IntKind):Nat:=if k.signed then k.bits-1 else k.bits
def q8h{a:Int}(h:inK k a):a.toNat<2 ^ topBits k:=by cases k<;>simp only[inK] at h<;>simp[topBits,IntKind.bits,IntKind.signed]<;>omega
def z3a{m:Nat}(h:m<2 ^ topBits k):inK k (m:Int):=by cases k<;>simp[topBits,IntKind.bits,IntKind.signed] at h<;>simp only[inK]<;>omega
def z6x(n a b:Nat)(h:a<2 ^ n)(hb:b<2 ^ n):a &&& (2 ^ n-1-b)=a ^^^ (a &&& b):=by
 apply Nat.eq_of_testBit_eq;intro i;rw[yx3,Nat.testBit_xor,yx3,show 2 ^ n-1-b=2 ^ n-(b+1) by omega,Nat.testBit_two_pow_sub_succ hb];by_cases hi:i<n
 ·simp[hi];cases a.testBit i<;>cases b.testBit i<;>rfl
 ·have:a.testBit i=false:=Nat.testBit_lt_two_pow (yxa h (yxg (by omega) (by omega)));simp[this]
section
variable {P:Program}{w:World}{k:IntKind}{a b:Int}
def z8s(ha:0≤a)(hb:0≤b)(h1:inK k a)(h2:inK k b):(Op.intBits .and k a b).run P w=.ok (.int k ((a.toNat &&& b.toNat:Nat):Int)) w:=by simp only[Op.intBits,yyf,BitVec.toNat_and,q0q ha (q1g h1),q0q hb (q1g h2)];rw[o6 (z3a (Nat.lt_of_le_of_lt Nat.and_le_left (q8h h1)))]
def run_or(ha:0≤a)(hb:0≤b)(h1:inK k a)(h2:inK k b):(Op.intBits .or k a b).run P w=.ok (.int k ((a.toNat ||| b.toNat:Nat):Int)) w:=by simp only[Op.intBits,yyf,BitVec.toNat_or,q0q ha (q1g h1),q0q hb (q1g h2)];rw[o6 (z3a (Nat.or_lt_two_pow (q8h h1) (q8h h2)))]
def z61(ha:0≤a)(hb:0≤b)(h1:inK k a)(h2:inK k b):(Op.intBits .andNot k a b).run P w=.ok (.int k ((a.toNat ^^^ (a.toNat &&& b.toNat):Nat):Int)) w:=by simp only[Op.intBits,yyf,BitVec.toNat_and,BitVec.toNat_not,q0q ha (q1g h1),q0q hb (q1g h2)];rw[z6x k.bits _ _ (q37 (q1g h1)) (q37 (q1g h2))];rw[o6 (z3a (Nat.xor_lt_two_pow (q8h h1) (Nat.lt_of_le_of_lt Nat.and_le_left (q8h h1))))]
def run_quo(ha:0≤a)(hb:0<b)(h1:inK k a):(Op.intDiv .quo k a b).run P w=.ok (.int k (a / b)) w:=by have h3:=IntWalk.tdiv_le a b ha hb;simp only[Op.intDiv,if_neg (show ¬ b=0 by omega),yyf];rw[Int.tdiv_eq_ediv_of_nonneg ha,o6];cases k<;>simp only[inK] at h1 ⊢<;>omega
def run_rem(ha:0≤a)(hb:0<b):(Op.intDiv .rem k a b).run P w=.ok (.int k (a % b)) w:=by simp only[Op.intDiv,if_neg (show ¬ b=0 by omega),yyf];rw[Int.tmod_eq_emod_of_nonneg ha]
def run_shr(ha:0≤a)(hb:0≤b)(hd:b<64)(h1:inK k a):(Op.shift .shr k a yk b).run P w=.ok (.int k (a / 2 ^ b.toNat)) w:=by
 simp only[Op.shift,if_neg (show ¬ b<0 by omega),yyf];congr 2;rw[Int.fdiv_eq_ediv_of_nonneg _ (by exact Int.pow_nonneg (by omega))];rcases Nat.le_total b.toNat k.bits with h|h
 ·rw[yxu h]
 ·rw[Nat.min_eq_right h];have h2:a<2 ^ k.bits:=q1g h1;have h3:(2:Int) ^ k.bits≤2 ^ b.toNat:=by
   have:=yxg (show 0<2 by omega) h;have e1:((2 ^ k.bits:Nat):Int)=(2:Int) ^ k.bits:=by simp
   have e2:((2 ^ b.toNat:Nat):Int)=(2:Int) ^ b.toNat:=by simp
   omega
  rw[Int.ediv_eq_zero_of_lt ha h2,Int.ediv_eq_zero_of_lt ha (by omega)]
def run_shl(hb:0≤b)(hd:b<64)(h1:inK k (a*2 ^ b.toNat)):(Op.shift .shl k a yk b).run P w=.ok (.int k (a*2 ^ b.toNat)) w:=by
 simp only[Op.shift,if_neg (show ¬ b<0 by omega),yyf];rcases Nat.le_total b.toNat k.bits with h|h
 ·rw[yxu h,o6 h1]
 ·by_cases he:b.toNat=k.bits
  ·rw[he,Nat.min_self];rw[he] at h1;rw[o6 h1]
  ·have ha:k.bits<b.toNat:=by omega
   have e1:((2 ^ b.toNat:Nat):Int)=(2:Int) ^ b.toNat:=by simp
   have h4:2 ^ (k.bits+1)≤2 ^ b.toNat:=yxg (by omega) ha;have h0:a=0:=by
    rcases Int.lt_trichotomy a 0 with h|h|h
    ·exfalso;have h5:a*2 ^ b.toNat≤-1*2 ^ b.toNat:=Int.mul_le_mul_of_nonneg_right (by omega) (Int.pow_nonneg (by omega));have e2:((2 ^ b.toNat:Nat):Int)=(2:Int) ^ b.toNat:=by simp
     rw[← e2] at h1 h5;cases k<;>simp only[inK,IntKind.bits,Nat.reduceAdd,Nat.reducePow] at h1 h4<;>omega
    ·exact h
    ·exfalso;have h5:1*2 ^ b.toNat≤a*2 ^ b.toNat:=Int.mul_le_mul_of_nonneg_right (by omega) (Int.pow_nonneg (by omega));have e2:((2 ^ b.toNat:Nat):Int)=(2:Int) ^ b.toNat:=by simp
     rw[← e2] at h1 h5;cases k<;>simp only[inK,IntKind.bits,Nat.reduceAdd,Nat.reducePow] at h1 h4<;>omega
   subst h0;rw[Nat.min_eq_right h];simp only[Int.zero_mul] at h1 ⊢;rw[o6 h1]
end
def f6{w:World}(op:BinOp)(t:TypeId)(x y:Operand)(k k':IntKind)(a b:Int):(eqGuard op t x y (.int k a) (.int k' b)).run P w=.ok () w:=by unfold eqGuard;cases op<;>rfl
def q27{w:World}(op:BinOp)(t:TypeId)(x y:Operand)(a b:Bool):(eqGuard op t x y (.bool a) (.bool b)).run P w=.ok () w:=by unfold eqGuard;cases op<;>rfl
def q26{w:World}{d:Nat}(h:P.underlying t=some .bool)(a b:Bool):(Op.equalIn (d+1) t (.bool a) (.bool b)).run P w=.ok (a==b) w:=by unfold Op.equalIn;simp only[yye,run_underlying h,yyb,yyf]
def q36{w:World}(h:P.underlying t=some .bool)(a b:Bool):(Op.equal t (.bool a) (.bool b)).run P w=.ok (a==b) w:=by unfold Op.equal Op.maxDepth;exact q26 (d:=9999) h a b
variable{T:List (Nat×Ty)}
def j10(hT:TOK P T){M:Mem}{ρ:Env}{op:BinOp}{x y:AV}(h:bin (lk T t) op x y=some r)(hc:allP r.1)(hu:x.rv M ρ u)(hv:y.rv M ρ v)(X Y:Operand) :
  (∀ n,r.2.bd n)∧∃ z,r.2.rv M ρ z∧∀ w,(do eqGuard op t X Y u v;binOp op t u v:Sem Value).run P w=.ok z w:=by
 unfold bin at h;split at h
 ·
  rw[w6] at hu hv;subst hu hv;simp only[shI,yya] at h;subst h;simp only[allP] at hc;refine⟨fun _=>trivial,_,w6.2 rfl,fun w=>?_⟩;simp only[yye,f6,yyb,binOp];exact run_shl hc.1 hc.2.1 hc.2.2
 ·rw[w6] at hu hv;subst hu hv;simp only[shI,yya] at h;subst h;simp only[allP] at hc;refine⟨fun _=>trivial,_,w6.2 rfl,fun w=>?_⟩;simp only[yye,f6,yyb,binOp];exact run_shr hc.1 hc.2.1 hc.2.2.1 hc.2.2.2
 ·rw[w6] at hu hv;subst hu hv;split at h
  ·rename_i hk;subst hk;rename_i k a hd he b;have ha:∀ w z,(match op with
     |.add|.sub|.mul=>Op.intArith op k a b
     |.quo|.rem=>Op.intDiv op k a b
     |.and|.or|.xor|.andNot=>Op.intBits op k a b
     |_=>Op.intCmp op a b).run P w=.ok z w→(do eqGuard op t X Y (.int k a) (.int k b);binOp op t (.int k a) (.int k b):Sem Value).run P w=.ok z w:=by
    intro w z hz;simp only[yye,f6,yyb];cases op<;>simp_all[binOp]
   cases op<;>simp only[binI,yya,reduceCtorEq] at h<;>(try subst h)<;>simp only[allP] at hc
   case add=>exact⟨fun _=>trivial,_,w6.2 rfl,fun w=>ha w _ (by simp only[Op.intArith,yyf,o6 hc])⟩
   case sub=>exact⟨fun _=>trivial,_,w6.2 rfl,fun w=>ha w _ (by simp only[Op.intArith,yyf,o6 hc])⟩
   case mul=>exact⟨fun _=>trivial,_,w6.2 rfl,fun w=>ha w _ (by simp only[Op.intArith,yyf,o6 hc])⟩
   case quo=>exact⟨fun _=>trivial,_,w6.2 rfl,fun w=>ha w _ (run_quo hc.1 hc.2.1 hc.2.2)⟩
   case rem=>exact⟨fun _=>trivial,_,w6.2 rfl,fun w=>ha w _ (run_rem hc.1 hc.2)⟩
   case and=>exact⟨fun _=>trivial,_,w6.2 rfl,fun w=>ha w _ (z8s hc.1 hc.2.1 hc.2.2.1 hc.2.2.2)⟩
   case or=>exact⟨fun _=>trivial,_,w6.2 rfl,fun w=>ha w _ (run_or hc.1 hc.2.1 hc.2.2.1 hc.2.2.2)⟩
   case andNot=>exact⟨fun _=>trivial,_,w6.2 rfl,fun w=>ha w _ (z61 hc.1 hc.2.1 hc.2.2.1 hc.2.2.2)⟩
   all_goals exact⟨fun _=>trivial,_,n5.2 rfl,fun w=>ha w _ (by simp[Op.intCmp])⟩
  ·cases h
 ·rw[n5] at hu hv;subst hu hv;split at h
  ·rename_i ht;have hb:=hT _ _ ht;simp only[TyOf] at hb;injection h with h;subst h
   refine⟨fun _=>trivial,_,n5.2 rfl,fun w=>?_⟩;simp only[yye,q27,yyb,binOp,q36 hb.under,yyf]
  ·cases h
 ·rw[n5] at hu hv;subst hu hv;split at h
  ·rename_i ht;have hb:=hT _ _ ht;simp only[TyOf] at hb;injection h with h;subst h
   refine⟨fun _=>trivial,_,n5.2 rfl,fun w=>?_⟩;simp only[yye,q27,yyb,binOp,q36 hb.under,yyf,bne]
  ·cases h
 ·cases h
variable {M:Mem}{ρ:Env}{a:Act}{w:World}
def q59{x:AV}(h:constAV v=some x):(∀ n,x.bd n)∧x.rv M ρ v:=by
 unfold constAV at h;split at h<;>first|(injection h with h;subst h)|cases h
 ·exact⟨fun _=>trivial,w6.2 rfl⟩
 ·exact⟨fun _=>trivial,n5.2 rfl⟩
 ·exact⟨fun _=>trivial,w9.2 ⟨rfl,rfl⟩⟩
 ·exact⟨fun _=>trivial,w9.2 ⟨rfl,rfl⟩⟩
def z5(h:opd s.L x=some r)(hc:allP r.1)(h2:REG X M ρ s a):r.2.bd s.nx∧r.2.rv M ρ (a.eval x):=by
 cases x with
 |tmp t=>
  simp only[opd] at h;split at h
  ·rename_i g v hl;injection h with h;subst h
   have:=h2.reg _ _ hl;simp only[AV.rv,AV.bd] at this;exact⟨this.1 hc,this.2.1 hc⟩
  ·rename_i v hn hl;injection h with h;subst h
   exact h2.reg _ _ hl
  ·cases h
 |const v=>simp only[opd,yym] at h;obtain⟨x,h1,rfl⟩:=h;have:=q59 (M:=M) (ρ:=ρ) h1;exact⟨this.1 _,this.2⟩
 |func f=>simp only[opd,yya] at h;subst h;refine⟨⟨trivial,trivial⟩,?_⟩;simp only[AV.rv,AV.rvs];exact⟨[],[],rfl,rfl,rfl⟩
 |global g=>simp[opd] at h
def q0p(h2:REG X M ρ s a):∀ {l:List Operand} {r:List Prop×AV},opds s.L l=some r→allP r.1→r.2.bd s.nx∧r.2.rvs M ρ (l.map a.eval)
 |[],r,h,_=>by simp only[opds,yya] at h;subst h;exact⟨trivial,by simp[AV.rvs]⟩
 |o::l,r,h,hc=>by simp only[opds,yyo,yym] at h;obtain⟨x,h1,y,h3,rfl⟩:=h;rw[z7] at hc;have e1:=z5 h1 hc.1 h2;have e2:=q0p h2 h3 hc.2;refine⟨⟨e1.1,e2.1⟩,?_⟩;simp only[AV.rvs,yy0];exact⟨_,_,e1.2,e2.2,rfl⟩
def z66{x:Option Operand}{r:List Prop×Option AV}(h:opdO s.L x=some r)(hc:allP r.1)(h2:REG X M ρ s a) :
  (x=none∧r.2=none)∨∃ o v,x=some o∧r.2=some v∧v.rv M ρ (a.eval o):=by
 cases x with
 |none=>simp only[opdO,yya] at h;subst h;exact .inl ⟨rfl,rfl⟩
 |some o=>simp only[opdO,yym] at h;obtain⟨y,h1,rfl⟩:=h;exact .inr ⟨o,y.2,rfl,rfl,(z5 h1 hc h2).2⟩
def z1r{g:Option Bool}{v:AV}(h:raw s.L x=some (g,v))(hg:g≠some false)(h2:REG X M ρ s a):v.bd s.nx∧v.rv M ρ (a.eval x):=by
 cases x with
 |tmp t=>
  simp only[raw] at h;split at h
  ·rename_i g' v' hl;simp only[yya,yyn] at h;obtain⟨rfl,rfl⟩:=h;have:=h2.reg _ _ hl;simp only[AV.rv,AV.bd] at this;exact⟨this.1 (by simpa using hg),this.2.1 (by simpa using hg)⟩
  ·rename_i v' hn hl;simp only[yya,yyn] at h;obtain⟨rfl,rfl⟩:=h;exact h2.reg _ _ hl
  ·cases h
 |const v=>simp only[raw,yym,yyn] at h;obtain⟨x,h1,rfl,rfl⟩:=h;have:=q59 (M:=M) (ρ:=ρ) h1;exact⟨this.1 _,this.2⟩
 |func f=>simp[raw] at h
 |global g=>simp[raw] at h
def z3r{x:Bool}{p q v:AV}(h:pickV x p q=some v)(hp:x=true→p.rv M ρ u)(hq:x=false→q.rv M ρ u):(∀ n,v.bd n)∧v.rv M ρ u:=by
 unfold pickV at h;split at h
 ·injection h with h;subst h
  refine⟨fun _=>trivial,?_⟩;cases x
  ·simpa using hq rfl
  ·simpa using hp rfl
 ·split at h
  ·rename_i hk;subst hk;injection h with h;subst h
   refine⟨fun _=>trivial,?_⟩;cases x
   ·simpa using hq rfl
   ·simpa using hp rfl
  ·cases h
 ·cases h
def q6l{q:List Step}:∀ {t ty:Ty} {p:List Step},t.sub p=some ty→t.sub (p++q)=ty.sub q∧t.off (p++q)=t.off p+ty.off q:=by
 intro t;induction t with
 |arr n e ih=>
  intro ty p h;cases p with
  |nil=>simp only[Ty.sub,yya] at h;subst h;simp[Ty.off]
  |cons st p=>
   cases st with
   |fld i=>simp[Ty.sub] at h
   |idx k=>simp only[Ty.sub] at h;have:=ih h;simp only[List.cons_append,Ty.sub,Ty.off];exact⟨this.1,by omega⟩
 |cons a b iha ihb=>
  intro ty p h;cases p with
  |nil=>simp only[Ty.sub,yya] at h;subst h;simp[Ty.off]
  |cons st p=>
   cases st with
   |idx k=>simp[Ty.sub] at h
   |fld i=>
    cases i with
    |zero=>simp only[Ty.sub] at h;have:=iha h;simp only[List.cons_append,Ty.sub,Ty.off];exact⟨this.1,by omega⟩
    |succ i=>simp only[Ty.sub] at h;have:=ihb h;simp only[List.cons_append] at this ⊢;simp only[Ty.sub,Ty.off];exact⟨this.1,by omega⟩
 |_=>
  intro ty p h;cases p with
  |nil=>simp only[Ty.sub,yya] at h;subst h;simp[Ty.off]
  |cons st p=>simp[Ty.sub] at h
def z4c:∀ {b tf:Ty} {r:List Field} {off i:Nat},TyOf.fields P b r off→b.sub [.fld i]=some tf →
  ∃ f,r[i]?=some f∧f.offset=off+b.off [.fld i]∧TyOf P tf f.type∧tf.size≠0:=by
 intro b;induction b with
 |cons a b iha ihb=>
  intro tf r off i h hs;cases r with
  |nil=>simp[TyOf.fields] at h
  |cons f r=>
   simp only[TyOf.fields] at h;cases i with
   |zero=>
    simp only[Ty.sub] at hs;have:a=tf:=by cases a<;>simpa[Ty.sub] using hs
    subst this;exact⟨f,rfl,by rw[h.1];cases a<;>simp[Ty.off],h.2.1,h.2.2.1⟩
   |succ i=>simp only[Ty.sub] at hs;obtain⟨f',e1,e2,e3⟩:=ihb h.2.2.2 hs;exact⟨f',by simpa using e1,by simp only[Ty.off];omega,e3⟩
 |_=>intro tf r off i h hs;simp[Ty.sub] at hs
def q6y{ty tf:Ty}{id:TypeId}(h:TyOf P ty id)(hs:ty.sub [.fld i]=some tf) :
  ∃ fs f,P.underlying id=some (.struct fs)∧fs[i]?=some f∧f.offset=ty.off [.fld i]∧TyOf P tf f.type∧tf.size≠0:=by
 cases ty with
 |cons a b=>
  simp only[TyOf] at h;obtain⟨fs,h1,h2⟩:=h;refine⟨fs,?_⟩;have hf:TyOf.fields P (.cons a b) fs.toList 0:=by
   cases hl:fs.toList with
   |nil=>rw[hl] at h2;exact h2.elim
   |cons f r=>rw[hl] at h2;simp only[TyOf.fields,yxt];exact h2
  obtain⟨f,e1,e2,e3⟩:=z4c hf hs;exact⟨f,h1.under,by simpa using e1,by simpa using e2,e3⟩
 |_=>simp[Ty.sub] at hs
def q40{ty tf:Ty}{id:TypeId}{i b off:Nat}(h:TyOf P ty id)(hs:ty.sub [.fld i]=some tf)(w:World) :
  (Instr.fieldAt id (.pointer (some ⟨b,off,none⟩)) i).run P w=.ok (.pointer (some ⟨b,off+ty.off [.fld i],none⟩)) w:=by
 obtain⟨fs,f,h1,h2,h3,h4,h5⟩:=q6y h hs;obtain⟨d,hi,_⟩:=h4.info;unfold Instr.fieldAt;simp only[yye,run_underlying h1,yyb,h2,Instr.sureAddr,yyf,fieldPlace,hi.run_size,if_neg h5,j4,h3]
def x9(h1:SAT X M ρ s w){l:Nat}{o:HO}(h:lk s.H l=some o):o.ok X M ρ l w:=(h1.own l o h).2.2
def q8k(hT:TOK X.P X.T)(h1:SAT X M ρ s w){x:AV}(h:fieldAddr X.T s.H t x i=some r)(hc:allP r.1)(hb:x.bd s.nx)(hu:x.rv M ρ u) :
  r.2.bd s.nx∧∃ z,r.2.rv M ρ z∧∀ w,(Instr.fieldAt t u i).run X.P w=.ok z w:=by
 unfold fieldAddr at h;cases hh:lk X.T t with
 |none=>simp[hh] at h
 |some ty=>
  have ht:=hT _ _ hh;simp only[hh] at h;split at h
  ·
   rename_i e y;split at h
   ·rename_i he;subst he;split at h
    ·rename_i c f z hg;injection h with h;subst h
     rw[q25] at hu;obtain⟨b,off,cs,ty',fz,rfl,hM,hr⟩:=hu;obtain⟨t',y',e1,e2,e3,e4⟩:=q6w hg hc hr;simp only[AV.val.injEq] at e1;obtain⟨rfl,e1⟩:=e1;have e1:=eq_of_heq e1;subst e1;refine⟨trivial,_,q25.2 ⟨b,off+e.off [.fld i],cs,ty',fz,rfl,hM,?_⟩,fun w=>q40 ht e2 w⟩;simp only[yxr,List.length_drop] at e3;rw[List.drop_take,List.take_take,List.drop_drop,yxu (by omega)] at e4;exact e4
    ·cases h
   ·cases h
  ·rename_i l p;split at h
   ·rename_i t0 a0 hl;split at h
    ·rename_i ha;split at h
     ·rename_i tf hf;injection h with h;subst h
      have hd:=x9 h1 hl;simp only[HO.ok] at hd;rw[w9] at hu;simp only[Leaf.at,yya] at hu;obtain⟨rfl,_⟩:=hu;have hj:=q6l (q:=[.fld i]) ha;refine⟨hb,_,w9.2 ⟨rfl,rfl⟩,fun w=>?_⟩;rw[q40 ht hf,hd.1,hj.2]
     ·cases h
    ·cases h
   ·cases h
  ·rename_i l k p;split at h
   ·rename_i eid e xs hl;split at h
    ·rename_i ha;split at h
     ·rename_i tf hf;injection h with h;subst h
      have hd:=x9 h1 hl;simp only[HO.ok] at hd;rw[w9] at hu;simp only[Leaf.at] at hu;obtain⟨hu,_⟩:=hu;cases ho:(ρ.sv l).ownBlock with
      |none=>rw[ho] at hu;simp at hu
      |some g=>
       rw[ho] at hu;simp only[yxn,yya] at hu;subst hu;have hj:=q6l (q:=[.fld i]) ha;refine⟨hb,.pointer (some ⟨g,k*(ρ.ty l).size+(ρ.ty l).off (p++[.fld i]),none⟩),w9.2 ⟨?_,rfl⟩,fun w=>?_⟩
       ·simp only[Leaf.at,ho,yxn]
       ·rw[q40 ht hf,hd.1,hj.2,Nat.add_assoc]
     ·cases h
    ·cases h
   ·cases h
  ·cases h
variable{tf e:Ty}
def q0n{id:TypeId}(h:TyOf P (.slice e) id){k:Int}{b off n cap:Nat}(h0:0≤k)(hk:k<n)(w:World) :
  (Instr.indexAt id (.slice (some ⟨b,off,none⟩) n cap) (.int kk k)).run P w=.ok (.pointer (some ⟨b,off+k.toNat*e.size,none⟩)) w:=by
 simp only[TyOf] at h;obtain⟨eid,h1,h2⟩:=h;obtain⟨d,hi,_⟩:=h2.info;unfold Instr.indexAt;simp only[asIntOf,yye,yyf,yyb,run_underlying h1.under];rw[if_pos ⟨h0,hk⟩];simp[hi.run_size,j4]
def q1q{m:Nat}{id:TypeId}(h:TyOf P (.arr m e) id){k:Int}{b off:Nat}(h0:0≤k)(hk:k<m)(w:World) :
  (Instr.indexAt id (.pointer (some ⟨b,off,none⟩)) (.int kk k)).run P w=.ok (.pointer (some ⟨b,off+k.toNat*e.size,none⟩)) w:=by
 simp only[TyOf] at h;obtain⟨eid,h1,h2⟩:=h;obtain⟨d,hi,_⟩:=h2.info;unfold Instr.indexAt;simp only[asIntOf,yye,yyf,yyb,run_underlying h1.under,Instr.sureAddr];rw[if_pos ⟨h0,hk⟩];simp[hi.run_size,j4]
def toNat_lt{k:Int}(h0:0≤k)(h:k<n):k.toNat<n:=by omega
def q8g(hT:TOK X.P X.T)(h1:SAT X M ρ s w){x i:AV}(h:indexAddr X.T s.H t x i=some r)(hc:allP r.1)(hb:x.bd s.nx)(hu:x.rv M ρ u)(hv:i.rv M ρ v) :
  r.2.bd s.nx∧∃ z,r.2.rv M ρ z∧∀ w,(Instr.indexAt t u v).run X.P w=.ok z w:=by
 unfold indexAddr at h;split at h
 ·rename_i ty kk k hw;change Int at k;have ht:=hT _ _ hw;rw[w6] at hv;subst hv;split at h
  ·
   rename_i e l;split at h
   ·rename_i he;subst he;injection h with h;subst h
    simp only[allP,idxC] at hc;rw[q5s] at hu;obtain⟨ad,cap,rfl,hy,hm,_,hz⟩:=hu;rcases hz with hz|⟨b,off,c,ty',fz,rfl,hM,hr⟩
    ·exact absurd (Nat.lt_of_lt_of_eq (toNat_lt hc.1 hc.2) hz) (Nat.not_lt_zero _)
    ·have hk:=toNat_lt hc.1 hc.2;refine⟨trivial,_,q25.2 ⟨b,off+Int.toNat k*e.size,c,ty',fz,rfl,hM,?_⟩,fun w=>q0n ht hc.1 hc.2 w⟩;have:=hr _ hk;rw[yyq,yyt hk];exact this
   ·cases h
  ·rename_i l;split at h
   ·rename_i eid e xs hl;split at h
    ·rename_i he;subst he;injection h with h;subst h
     simp only[allP,idxC] at hc;have ha:=x9 h1 hl;simp only[HO.ok] at ha;obtain⟨hd,cs,hg,hB⟩:=ha;rw[w9] at hu;simp only[Leaf.at,yya] at hu;obtain⟨rfl,_⟩:=hu;rcases hg.2 with⟨_,hn⟩|⟨g,cap,cur,hj,hC,hD,hE,hF,hG,hH⟩
     ·exact absurd (Nat.lt_of_lt_of_eq (toNat_lt hc.1 hc.2) hn) (Nat.not_lt_zero _)
     ·refine⟨hb,.pointer (some ⟨g,Int.toNat k*e.size,none⟩),w9.2 ⟨?_,rfl⟩,fun w=>?_⟩
      ·have:e.off []=0:=by cases e<;>rfl
       simp[Leaf.at,hj,Value.ownBlock,hd,this]
      ·rw[hj,q0n ht hc.1 hc.2];simp
    ·cases h
   ·cases h
  ·rename_i n e l;split at h
   ·rename_i he;subst he;injection h with h;subst h
    simp only[allP,idxC] at hc;rw[q25] at hu;obtain⟨b,off,c,ty',fz,rfl,hM,hr⟩:=hu;rw[q16] at hr;have hk:Int.toNat k<List.length l:=by rw[hr.1];exact toNat_lt hc.1 hc.2
    refine⟨trivial,_,q25.2 ⟨b,off+Int.toNat k*e.size,c,ty',fz,rfl,hM,?_⟩,fun w=>q1q ht hc.1 hc.2 w⟩;have h3:=hr.2.get hk e.dflt;have h4:(Int.toNat k+1)*e.size≤n*e.size:=yy1 _ (by rw[hr.1] at hk;exact hk);rw[yy8,Nat.one_mul] at h4;rw[List.drop_take,List.take_take,List.drop_drop] at h3;rw[yxu (by simp only[Ty.size];omega)] at h3;exact h3
   ·cases h
  ·rename_i l p;split at h
   ·rename_i ty0 t0 a0 n e hl;split at h
    ·rename_i hh;injection h with h;subst h
     simp only[allP,idxC] at hc;have ha:=x9 h1 hl;simp only[HO.ok] at ha;rw[w9] at hu;simp only[Leaf.at,yya] at hu;obtain⟨rfl,_⟩:=hu;have hA:=q6l (q:=[.idx (Int.toNat k)]) hh;refine⟨hb,_,w9.2 ⟨rfl,rfl⟩,fun w=>?_⟩;rw[q1q ht hc.1 hc.2,ha.1,hA.2];simp only[Ty.off,Nat.add_zero]
    ·cases h
   ·cases h
  ·cases h
 ·cases h
def z65(h1:SAT X M ρ s w){x:AV}(h:ptee s.H x=some r)(hc:allP r.1)(hb:x.bd s.nx)(hu:x.rv M ρ u) :
  ∃ b off c ty fz t',u=.pointer (some ⟨b,off,none⟩)∧w.heap[b]?=some (.cells c ty fz)∧confB t' r.2=true∧(t'.size=0∨off+t'.size≤c.size)∧r.2.rc M ρ ((c.toList.drop off).take t'.size)∧r.2.bd s.nx:=by
 unfold ptee at h;split at h
 ·rename_i e y;injection h with h;subst h
  rw[q25] at hu;obtain⟨b,off,c,ty',fz,rfl,hM,hr⟩:=hu;have hl:=hr.length;simp only[yxr,List.length_drop] at hl;refine⟨b,off,c,ty',fz,e,rfl,h1.mem _ _ hM,by simp[confB],?_,by simp only[AV.rc];exact hr,trivial⟩;simp at hl;omega
 ·rename_i l p;split at h
  ·rename_i t0 a0 hl;have ha:=x9 h1 hl;have hv:=(h1.own _ _ hl).2.1;simp only[HO.ok] at ha;obtain⟨hj,hw,_,c,ty,hd,hy⟩:=ha;rw[w9] at hu;simp only[Leaf.at,yya] at hu;obtain⟨rfl,_⟩:=hu;obtain⟨t',e1,e2,e3,e4,e5⟩:=q2f h hc hw hy hv;exact⟨ρ.blk l,(ρ.ty l).off p,c,ty,(0,0),t',rfl,hd,e2,by rw[hj];exact .inr (by simpa using e3),by rw[hj];exact e4,e5⟩
  ·cases h
 ·rename_i l k p;split at h
  ·rename_i eid e xs hl;simp only[yym] at h;obtain⟨r',hg,rfl⟩:=h;rw[q2j] at hc;have ha:=x9 h1 hl;simp only[HO.ok] at ha;obtain⟨he,cs,hh,hk⟩:=ha;rw[w9] at hu;simp only[Leaf.at] at hu;obtain⟨hu,_⟩:=hu;rcases hh.2 with⟨_,hn⟩|⟨g,cap,cur,hA,hG,hB,hC,hH,hD,hE⟩
   ·omega
   ·simp[hA,Value.ownBlock] at hu;subst hu;have hx:=hk.get hc.1 e.dflt;obtain⟨t',y,e1,e2,e3,e4⟩:=q6w hg hc.2 hx;have hF:(k+1)*e.size≤xs.length*e.size:=yy1 _ hc.1;rw[yy8,Nat.one_mul] at hF;have hJ:cs.length=xs.length*e.size:=hk.1;simp only[yxr,List.length_drop] at e3;have hK:xs.length*e.size≤cap*e.size:=yy1 _ hC;refine⟨g,k*e.size+e.off p,cur,eid,(0,0),t',by rw[he],hB,by simp[e1,confB],.inr (by rw[hD];omega),?_,by simp[e1,AV.bd]⟩;rw[e1];simp only[AV.rc];rw[← hE] at e4;rw[List.drop_take,List.take_take,List.drop_take,List.drop_take,List.take_take,List.drop_drop] at e4;rw[yxu (show t'.size≤e.size-e.off p by omega)] at e4
    first|exact e4|rwa[yxu (by omega)] at e4
  ·cases h
 ·cases h
def z7b(hT:TOK X.P X.T)(h1:SAT X M ρ s w)(ht:lk X.T t=some (.slice e)){x r:AV}(h:lenA s.H x=some r)(hu:x.rv M ρ u) :
  (∀ n,r.bd n)∧∃ z,r.rv M ρ z∧∀ w ty,(Builtin.len_ #[t] ty #[u]).run X.P w=.ok z w:=by
 have hb:=hT _ _ ht;simp only[TyOf] at hb;obtain⟨eid,hi,_⟩:=hb;have key:∀ (ad:Option Addr) (n cap:Nat),∀ w ty,(Builtin.len_ #[t] ty #[.slice ad n cap]).run X.P w=.ok (.int .i64 n) w:=by intro ad n cap w ty;simp[Builtin.len_,run_underlying hi.under,goInt]
 unfold lenA at h;split at h
 ·injection h with h;subst h
  rw[q5s] at hu;obtain⟨ad,cap,rfl,_⟩:=hu;exact⟨fun _=>trivial,_,w6.2 rfl,key _ _ _⟩
 ·injection h with h;subst h
  simp only[AV.rv] at hu;obtain⟨cs,ad,_,_,rfl⟩:=hu;exact⟨fun _=>trivial,_,w6.2 rfl,key _ _ _⟩
 ·injection h with h;subst h
  rw[w9] at hu;simp only[Leaf.at,yya] at hu;obtain⟨rfl,_⟩:=hu;exact⟨fun _=>trivial,_,w6.2 rfl,key _ _ _⟩
 ·rename_i l;split at h
  ·rename_i eid' e' xs hl;injection h with h;subst h
   have hd:=x9 h1 hl;simp only[HO.ok] at hd;obtain⟨_,cs,ha,_⟩:=hd;rw[w9] at hu;simp only[Leaf.at,yya] at hu;obtain⟨rfl,_⟩:=hu;rcases ha.2 with⟨e1,hn⟩|⟨g,cap,cur,he,_⟩
   ·rw[e1,hn];exact⟨fun _=>trivial,_,w6.2 rfl,key _ _ _⟩
   ·rw[he];exact⟨fun _=>trivial,_,w6.2 rfl,key _ _ _⟩
  ·cases h
 ·injection h with h;subst h
  rw[w9] at hu;simp only[Leaf.at,yya] at hu;obtain⟨rfl,h1⟩:=hu;rename_i l lo hi full;have:∃ ad cap,sview (ρ.sv l) (ρ.ty l).size lo hi full=.slice ad (hi-lo) cap:=by unfold sview;split<;>exact⟨_,_,rfl⟩
  obtain⟨ad,cap,e1⟩:=this;rw[e1];exact⟨fun _=>trivial,_,w6.2 rfl,key _ _ _⟩
 ·cases h
def y8{a:Int}{y:Nat}{c:BoundsCode}(h0:0≤a)(h1:a≤y):(Instr.sliceBound (.int k a) y c).run P w=.ok a.toNat w:=by unfold Instr.sliceBound;simp only[asIntOf,yye,yyf,yyb];rw[if_pos ⟨h0,h1⟩];rfl
def f9(ha:n≤cap){a b m:Nat}
  (hm:(mx=none∧m=cap)∨∃ (k:IntKind) (v:Int),mx=some (.int k v)∧0≤v∧v≤cap∧m=v.toNat)
  (hh:(hi=none∧mx=none∧b=n)∨∃ (k:IntKind) (v:Int),hi=some (.int k v)∧0≤v∧v≤m∧b=v.toNat)
  (hl:(lo=none∧a=0)∨∃ (k:IntKind) (v:Int),lo=some (.int k v)∧0≤v∧v≤b∧a=v.toNat) :
  (Instr.sliceBounds true n cap lo hi mx).run P w=.ok (a,b,m) w:=by
 unfold Instr.sliceBounds;rcases hm with⟨rfl,rfl⟩|⟨k1,v1,rfl,h1,h2,rfl⟩<;>rcases hh with⟨rfl,hn,rfl⟩|⟨k2,v2,rfl,h3,h4,rfl⟩<;>(try cases hn)<;>
  rcases hl with⟨rfl,rfl⟩|⟨k3,v3,rfl,h5,h6,rfl⟩<;>simp only[yye,yyf,yyb]
 ·rw[y8 h5 h6];rfl
 ·rw[y8 h3 h4];rfl
 ·rw[y8 h3 h4];simp only[yyb];rw[y8 h5 h6];rfl
 ·rw[y8 h1 h2];simp only[yyb];rw[y8 h3 h4];rfl
 ·rw[y8 h1 h2];simp only[yyb];rw[y8 h3 h4];simp only[yyb];rw[y8 h5 h6];rfl
def n7(ht:TyOf P (.slice e) t){a b m:Nat}
  (hb:(Instr.sliceBounds true n cap lo hi mx).run P w=.ok (a,b,m) w) :
  (Instr.sliceAt t (.slice ad n cap) lo hi mx).run P w=.ok (.slice (if m=a then ad else ad.map (·.add (a*e.size))) (b-a) (m-a)) w:=by
 simp only[TyOf] at ht;obtain⟨eid,h1,h2⟩:=ht;obtain⟨d,ha,_⟩:=h2.info;unfold Instr.sliceAt Instr.slice;simp only[yye,run_underlying h1.under,yyb,hb,ha.run_size,yyf]
def rv_part{l:List e.den}(hu:(AV.val (.slice e) l).rv M ρ u) :
  ∃ ad n cap,u=.slice ad n cap∧n=l.length∧n≤cap∧∀ a b m,a≤b→b≤n→b≤m→m≤cap →
   (AV.val (.slice e) ((l.take b).drop a)).rv M ρ (.slice (if m=a then ad else ad.map (·.add (a*e.size))) (b-a) (m-a)):=by
 rw[q5s] at hu;obtain⟨ad,cap,rfl,hb,he,hd,hz⟩:=hu;refine⟨ad,_,cap,rfl,rfl,hb,fun a b m hg hh hj hk=>?_⟩;rw[q5s];have ha:((l.take b).drop a).length=b-a:=by simp;omega
 refine⟨_,m-a,by rw[ha],by rw[ha];omega,by omega,?_,?_⟩
 ·intro hn;split at hn
  ·have:=hd hn;omega
  ·cases ad with
   |none=>have:=hd rfl;omega
   |some ad=>cases hn
 by_cases hv:b=a
 ·exact .inl (by rw[ha];omega)
 ·right;rcases hz with hz|⟨bk,off,c,ty,fz,rfl,hM,hr⟩
  ·omega
  ·refine⟨bk,off+a*e.size,c,ty,fz,?_,hM,fun i hi=>?_⟩
   ·rw[if_neg (by omega)];simp[j4]
   ·have hw:i<b-a:=by rw[ha] at hi;exact hi
    have:=hr (a+i) (by omega);simp only[List.get_eq_getElem,List.getElem_drop,List.getElem_take] at this ⊢;rw[Nat.add_assoc,← yy8];exact this
def z1m(hT:TOK X.P X.T)(h1:SAT X M ρ s w){x:AV}{lo hi mx:Option AV}(h:sliceA X.T s.H t x lo hi mx=some r)(hc:allP r.1)(hb:x.bd s.nx)
  {u:Value} (hu:x.rv M ρ u) {vl vh vm:Option Value}
  (hl:(vl=none∧lo=none)∨∃ z v,vl=some z∧lo=some v∧v.rv M ρ z) (hh:(vh=none∧hi=none)∨∃ z v,vh=some z∧hi=some v∧v.rv M ρ z)
  (hm:(vm=none∧mx=none)∨∃ z v,vm=some z∧mx=some v∧v.rv M ρ z) :
  r.2.bd s.nx∧∃ z,r.2.rv M ρ z∧∀ w,(Instr.sliceAt t u vl vh vm).run X.P w=.ok z w:=by
 have none':∀ {vl:Option Value} {lo:Option AV},((vl=none∧lo=none)∨∃ z v,vl=some z∧lo=some v∧v.rv M ρ z)→lo=none→vl=none:=by
  rintro vl lo (⟨e1,_⟩|⟨z,v,_,e2,_⟩) e
  ·exact e1
  ·rw[e2] at e;cases e
 have some':∀ {vl:Option Value} {lo:Option AV} {k:IntKind} {n:Int},((vl=none∧lo=none)∨∃ z v,vl=some z∧lo=some v∧v.rv M ρ z)→lo=some (.val (.int k) n)→vl=some (.int k n):=by
  rintro vl lo k n (⟨_,e1⟩|⟨z,v,e1,e2,e3⟩) e
  ·rw[e1] at e;cases e
  ·rw[e2] at e;injection e with e;subst e;rw[w6] at e3;rw[e1,e3]
 unfold sliceA at h;split at h
 ·rename_i e' hw;have ht:=hT _ _ hw;split at h
  ·rename_i e l;split at h
   ·rename_i he;subst he;obtain⟨ad,n,cap,rfl,hn,ha,hp⟩:=rv_part hu;have hk:List.length l=n:=hn.symm;split at h
    ·injection h with h;subst h
     rw[none' hl rfl,none' hh rfl,none' hm rfl];refine⟨trivial,_,hu,fun w=>?_⟩;rw[n7 ht (f9 ha (.inl ⟨rfl,rfl⟩) (.inl ⟨rfl,rfl,rfl⟩) (.inl ⟨rfl,rfl⟩))];congr 2;split
     ·rfl
     ·cases ad<;>simp[Addr.add]
    ·rename_i k a;change Int at a;injection h with h;subst h
     simp only[allP,loC] at hc;rw[some' hl rfl,none' hh rfl,none' hm rfl];have hA:(a:Int)≤(n:Int):=by have:=hc.2;rw[hk] at this;exact this
     have hA0:0≤(a:Int):=hc.1;have hd:=hp (Int.toNat a) n cap (by omega) (yyl _) ha (yyl _);rw[← hk,yx6] at hd;rw[hk] at hd;exact⟨trivial,_,hd,fun w=>n7 ht (f9 ha (.inl ⟨rfl,rfl⟩) (.inl ⟨rfl,rfl,rfl⟩) (.inr ⟨k,a,rfl,hA0,hA,rfl⟩))⟩
    ·rename_i k b;change Int at b;injection h with h;subst h
     simp only[allP,loC] at hc;rw[none' hl rfl,some' hh rfl,none' hm rfl];have hB:(b:Int)≤(n:Int):=by have:=hc.2;rw[hk] at this;exact this
     have hv:0≤(b:Int):=hc.1;have hd:=hp 0 (Int.toNat b) cap (by omega) (by omega) (by omega) (yyl _);rw[List.drop_zero] at hd;exact⟨trivial,_,hd,fun w=>n7 ht (f9 ha (.inl ⟨rfl,rfl⟩) (.inr ⟨k,b,rfl,hv,by omega,rfl⟩) (.inl ⟨rfl,rfl⟩))⟩
    ·rename_i k1 a k2 b;change Int at a b;injection h with h;subst h
     simp only[allP,lohiC] at hc;rw[some' hl rfl,some' hh rfl,none' hm rfl];have hA0:0≤(a:Int):=hc.1;have hJ:(a:Int)≤(b:Int):=hc.2.1;have hB:(b:Int)≤(n:Int):=by have:=hc.2.2;rw[hk] at this;exact this
     have hd:=hp (Int.toNat a) (Int.toNat b) cap (by omega) (by omega) (by omega) (yyl _);exact⟨trivial,_,hd,fun w=>n7 ht (f9 ha (.inl ⟨rfl,rfl⟩) (.inr ⟨k2,b,rfl,by omega,by omega,rfl⟩) (.inr ⟨k1,a,rfl,hA0,by omega,rfl⟩))⟩
    ·rename_i k1 b k2 m;change Int at b m;injection h with h;subst h
     simp only[allP,fullC] at hc;rw[none' hl rfl,some' hh rfl,some' hm rfl];have hv:0≤(b:Int):=hc.1;have hy:(b:Int)=(m:Int):=hc.2.1;have hB:(b:Int)≤(n:Int):=by have:=hc.2.2;rw[hk] at this;exact this
     have hd:=hp 0 (Int.toNat b) (Int.toNat b) (by omega) (by omega) (by omega) (by omega);rw[List.drop_zero] at hd;have hC:(List.take (Int.toNat b) l).length=Int.toNat b:=by rw[yxr,hk];omega
     refine⟨trivial,_,?_,fun w=>n7 ht (f9 ha (.inr ⟨k2,m,rfl,by omega,by omega,rfl⟩) (.inr ⟨k1,b,rfl,hv,by omega,rfl⟩) (.inl ⟨rfl,rfl⟩))⟩;rw[← hy];simp only[AV.rv] at hd ⊢;obtain⟨cs,h5,h6⟩:=hd;refine⟨cs,(if Int.toNat b=0 then ad else ad.map (·.add (0*e'.size))),h5,?_,?_⟩
     ·have h7:=h5.length;simp only[Ty.size] at h7
      match cs,h7 with
      |[u],_=>simpa[Ty.wrap,Ty.agg] using h6.symm
     ·rw[hC];simp only[Nat.sub_zero]
    ·cases h
   ·cases h
  ·rename_i l;split at h
   ·rename_i eid e xs hD;split at h
    ·rename_i he;subst he;have hH:=x9 h1 hD;simp only[HO.ok] at hH;obtain⟨hj,cs,hE,_⟩:=hH;have hK:∃ ad cap,ρ.sv l=.slice ad xs.length cap∧xs.length≤cap:=by
      rcases hE.2 with⟨e1,hn⟩|⟨g,cap,cur,hg,_,_,ha,_⟩
      ·exact⟨none,0,by rw[e1,hn],by omega⟩
      ·exact⟨_,cap,hg,ha⟩
     obtain⟨ad,cap,hg,ha⟩:=hK;rw[w9] at hu;simp only[Leaf.at,yya] at hu;obtain⟨rfl,_⟩:=hu;split at h
     ·rename_i k a;change Int at a;injection h with h;subst h
      simp only[allP,loC] at hc;rw[some' hl rfl,none' hh rfl,none' hm rfl,hg];have hA0:0≤(a:Int):=hc.1;refine⟨hb,_,w9.2 ⟨rfl,by unfold sview;split<;>rfl⟩,fun w=>?_⟩;rw[n7 ht (f9 ha (.inl ⟨rfl,rfl⟩) (.inl ⟨rfl,rfl,rfl⟩) (.inr ⟨k,a,rfl,hA0,hc.2,rfl⟩))];simp[sview,hg,hj]
     ·rename_i k b;change Int at b;injection h with h;subst h
      simp only[allP,loC] at hc;rw[none' hl rfl,some' hh rfl,none' hm rfl,hg];have hv:0≤(b:Int):=hc.1;have hB:(b:Int)≤(xs.length:Int):=hc.2;refine⟨hb,_,w9.2 ⟨rfl,by unfold sview;split<;>rfl⟩,fun w=>?_⟩;rw[n7 ht (f9 ha (.inl ⟨rfl,rfl⟩) (.inr ⟨k,b,rfl,hv,by omega,rfl⟩) (.inl ⟨rfl,rfl⟩))];simp[sview,hg,hj]
     ·rename_i k1 a k2 b;change Int at a b;injection h with h;subst h
      simp only[allP,lohiC] at hc;rw[some' hl rfl,some' hh rfl,none' hm rfl,hg];have hA0:0≤(a:Int):=hc.1;have hJ:(a:Int)≤(b:Int):=hc.2.1;have hB:(b:Int)≤(xs.length:Int):=hc.2.2;refine⟨hb,_,w9.2 ⟨rfl,by unfold sview;split<;>rfl⟩,fun w=>?_⟩;rw[n7 ht (f9 ha (.inl ⟨rfl,rfl⟩) (.inr ⟨k2,b,rfl,by omega,by omega,rfl⟩) (.inr ⟨k1,a,rfl,hA0,by omega,rfl⟩))];simp[sview,hg,hj]
     ·rename_i k1 b k2 m;change Int at b m;injection h with h;subst h
      simp only[allP,fullC] at hc;rw[none' hl rfl,some' hh rfl,some' hm rfl,hg];have hv:0≤(b:Int):=hc.1;have hy:(b:Int)=(m:Int):=hc.2.1;have hB:(b:Int)≤(xs.length:Int):=hc.2.2;refine⟨hb,_,w9.2 ⟨rfl,by unfold sview;split<;>rfl⟩,fun w=>?_⟩;have hL:Int.toNat b=Int.toNat m:=by rw[hy]
      rw[n7 ht (f9 ha (.inr ⟨k2,m,rfl,by omega,by omega,hL⟩) (.inr ⟨k1,b,rfl,hv,by omega,rfl⟩) (.inl ⟨rfl,rfl⟩))];simp[sview,hg,hj]
     ·cases h
    ·cases h
   ·cases h
  ·cases h
 ·
  rename_i n e hw;have ht:=hT _ _ hw;split at h
  ·rename_i l p;split at h
   ·rename_i t0 a0 hD;split at h
    ·rename_i hF;injection h with h;subst h
     rw[w9] at hu;simp only[Leaf.at,yya] at hu;obtain⟨rfl,_⟩:=hu;rw[none' hl rfl,none' hh rfl,none' hm rfl];simp only[TyOf] at ht;obtain⟨eid,t1,t2⟩:=ht;obtain⟨d,hG,_⟩:=t2.info;refine⟨hb,_,w9.2 ⟨rfl,rfl⟩,fun w=>?_⟩;unfold Instr.sliceAt;simp only[yye,run_underlying t1.under,yyb,Instr.sureAddr,yyf,Instr.sliceBounds,hG.run_size,Nat.zero_mul,Nat.sub_zero,j4,Nat.add_zero,ite_self]
    ·cases h
   ·cases h
  ·rename_i l p k b;split at h
   ·rename_i t0 a0 hD;split at h
    ·rename_i hF;injection h with h;subst h
     simp only[loC,allP,and_true] at hc;rw[w9] at hu;simp only[Leaf.at,yya] at hu;obtain⟨rfl,_⟩:=hu;rw[none' hl rfl,some' hh rfl,none' hm rfl];simp only[TyOf] at ht;obtain⟨eid,t1,t2⟩:=ht;obtain⟨d,hG,_⟩:=t2.info;refine⟨hb,_,w9.2 ⟨rfl,rfl⟩,fun w=>?_⟩;unfold Instr.sliceAt;simp only[yye,run_underlying t1.under,yyb,Instr.sureAddr,yyf,Instr.sliceBounds,hG.run_size,y8 hc.1 hc.2,Nat.zero_mul,Nat.sub_zero,j4,Nat.add_zero,ite_self]
    ·cases h
   ·cases h
  ·cases h
 ·cases h
def z67{l:AV}{vs:List Value}(hl:l.rvs M ρ vs)(hb:l.bd n):∀ {i:Nat} {v:AV},nthA l i=some v→v.bd n∧∃ u,vs[i]?=some u∧v.rv M ρ u:=by
 induction l generalizing vs with
 |acons x y _ ihy=>
  intro i v h;simp only[AV.rvs] at hl;obtain⟨u,r,h1,h2,rfl⟩:=hl;cases i with
  |zero=>simp only[nthA,yya] at h;subst h;exact⟨hb.1,u,rfl,h1⟩
  |succ i=>simp only[nthA] at h;obtain⟨e1,u',e2,e3⟩:=ihy h2 hb.2 h;exact⟨e1,u',by simpa using e2,e3⟩
 |_=>intro i v h;simp[nthA] at h
def q1e{t:Ty}{id:TypeId}(ht:TyOf P t id){cs:Array Value}{off:Nat}(hs:0<t.size)(hn:off+t.size≤cs.size)(w:World) :
  (part id cs off).run P w=.ok (t.wrap ((cs.toList.drop off).take t.size)) w:=by
 obtain⟨d,h1,h2⟩:=ht.info;unfold part;simp only[yye,ht.run_isAgg,yyb];cases ha:t.agg
 ·have hl:((cs.toList.drop off).take t.size).length=t.size:=by simp;omega
  have hb:=q48 ha hl;have hc:cs[off]?=some (t.wrap ((cs.toList.drop off).take t.size)):=by have:=congrArg (·[0]?) hb;simp only[yxm,List.getElem?_drop] at this;rw[if_pos (by omega)] at this;simpa using this
  simp[hc]
 ·simp only[if_true,yye,h1.run_size,yyb,yyf,y4 ha];congr 2;apply Array.ext';simp[List.extract_eq_take_drop]
set_option maxHeartbeats 1000000 in
def isLoad:Op→Bool
 |.load _ _=>true
 |_=>false
def q9m(hT:TOK X.P X.T){o:Oper}(h:evq X.T o.op s=some r)(hc:allP r.1)(h1:SAT X M ρ s w)(h2:REG X M ρ s a) :
  r.2.bd s.nx∧∃ z,r.2.rv M ρ z∧∀ w',(isLoad o.op=true→Below w.heap.size w w')→(execOp a.eval o).run X.P w'=.ok (.value z) w':=by
 have fin:∀ {v:AV} {z:Value},v.rv M ρ z→v.bd s.nx→(∀ w',(isLoad o.op=true→Below w.heap.size w w')→(execOp a.eval o).run X.P w'=.ok (.value z) w') →
   v.bd s.nx∧∃ z,v.rv M ρ z∧∀ w',(isLoad o.op=true→Below w.heap.size w w')→(execOp a.eval o).run X.P w'=.ok (.value z) w':=fun h1 h2 h3=>⟨h2,_,h1,h3⟩
 obtain⟨dst,op,ty,pos,after,guard⟩:=o;simp only at h;unfold evq at h;split at h
 ·
  have e:=z5 h hc h2;exact fin e.2 e.1 fun w' _=>rfl
 ·have e:=z5 h hc h2;exact fin e.2 e.1 fun w' _=>rfl
 ·
  rename_i c x y;unfold pick at h;split at h
  ·rename_i cs b ga va gb vb hF hx hy;simp only[yym] at h;obtain⟨v,hv,rfl⟩:=h;rw[z7,z7] at hc;have ec:=z5 hF hc.1.1 h2;simp only[n5] at ec;have hp:=fun(e:b=true)=>z1r (M:=M) (ρ:=ρ) (a:=a) hx (by rintro rfl;have:=hc.1.2;simp[underG,allP,e] at this) h2;have hq:=fun(e:b=false)=>z1r (M:=M) (ρ:=ρ) (a:=a) hy (by rintro rfl;have:=hc.2;simp[underG,allP,e] at this) h2;have:=z3r (M:=M) (ρ:=ρ) hv (u:=if b then a.eval x else a.eval y) (fun e=>by simpa[e] using(hp e).2) (fun e=>by simpa[e] using(hq e).2);refine fin this.2 (this.1 _) fun w' _=>?_;simp[execOp,ec.2,asBool]
  ·cases h
 ·
  simp only[yyo,yym] at h;obtain⟨x,hx,y,hy,q,hq,rfl⟩:=h;simp only[z7] at hc;have ex:=z5 hx hc.1 h2;have ey:=z5 hy hc.2.1 h2;rename_i op t X' Y' _;obtain⟨hb,z,hz,hA⟩:=j10 hT hq hc.2.2 ex.2 ey.2 X' Y';refine fin hz (hb _) fun w' _=>?_;have:=hA w';simp only[execOp,yye] at this ⊢;rw[this];rfl
 ·
  simp only[yyo,yym] at h;obtain⟨x,hx,q,hq,rfl⟩:=h;simp only[z7] at hc;have ex:=z5 hx hc.1 h2;unfold una at hq;split at hq
  ·rename_i b ha;injection hq with hq;subst hq
   rw[ha,n5] at ex;exact fin (n5.2 rfl) trivial fun w' _=>by simp[execOp,ex.2,Op.unary]
  ·rename_i k n ha;injection hq with hq;subst hq
   rw[ha,w6] at ex;have hk:=hc.2;simp only[allP] at hk;exact fin (w6.2 rfl) trivial fun w' _=>by simp only[execOp,ex.2,Op.unary,Op.intArith,yye,yyf,yyb];rw[o6 hk]
  ·cases hq
 ·
  simp only[yyo] at h;obtain⟨x,hx,h⟩:=h;split at h
  ·rename_i k1 k2 k3 n hG hH ha;injection h with h;subst h
   rw[z7] at hc;have ex:=z5 hx hc.1 h2;rw[ha,w6] at ex;have t1:=hT _ _ hG;have t2:=hT _ _ hH;simp only[TyOf] at t1 t2;have hk:=hc.2;simp only[allP] at hk;exact fin (w6.2 rfl) trivial fun w' _=>by simp only[execOp,convert,yye,run_underlying t1.under,run_underlying t2.under,yyb,ex.2,Conv.intToInt,yyf];rw[o6 hk]
  ·cases h
 ·
  simp only[yyo] at h;obtain⟨x,hx,h⟩:=h;split at h
  ·rename_i l ha;simp only[yym] at h;obtain⟨v,hv,rfl⟩:=h;have ex:=z5 hx hc h2;rw[ha] at ex;have ex2:=ex.2;simp only[AV.rv] at ex2;obtain⟨vs,hJ,hu⟩:=ex2;obtain⟨e1,u,e2,e3⟩:=z67 hJ ex.1 hv;exact fin e3 e1 fun w' _=>by simp[execOp,hu,Instr.extract,e2]
  ·cases h
 ·
  rename_i x0;simp only[yyo] at h;obtain⟨x,hx,h⟩:=h;split at h
  ·rename_i e y ha;injection h with h;subst h
   have ex:=z5 hx hc h2;have ex2:=ex.2;rw[ha,q25] at ex2;obtain⟨b,off,c,ty',fz,hu,_⟩:=ex2;exact fin ex.2 ex.1 fun w' _=>by simp[execOp,hu]
  ·rename_i l p ha;injection h with h;subst h
   have ex:=z5 hx hc h2;have ex2:=ex.2;rw[ha,w9] at ex2;simp only[Leaf.at,yya] at ex2;exact fin ex.2 ex.1 fun w' _=>by simp[execOp,← ex2.1]
  ·rename_i l k p ha;injection h with h;subst h
   have ex:=z5 hx hc h2;have ex2:=ex.2;rw[ha,w9] at ex2;simp only[Leaf.at] at ex2;have hu:∃ g off,a.eval x0=Value.pointer (some ⟨g,off,none⟩):=by
    cases ho:(ρ.sv l).ownBlock with
    |none=>rw[ho] at ex2;simp at ex2
    |some g=>rw[ho] at ex2;simp only[yxn,yya] at ex2;exact⟨_,_,ex2.1.symm⟩
   obtain⟨g,off,hu⟩:=hu;exact fin ex.2 ex.1 fun w' _=>by simp[execOp,hu]
  ·cases h
 ·
  simp only[yyo] at h;obtain⟨x,hx,h⟩:=h;split at h
  ·rename_i ty hg;split at h
   rotate_left
   ·cases h
   rename_i q hq;split at h
   ·rename_i hd;injection h with h;subst h
    rw[z7] at hc;have ex:=z5 hx hc.1 h2;have ht:=hT _ _ hg;obtain⟨cs,hh,hu⟩:=z6z hd ex.2;obtain⟨t',e1,e2,e3,e4,e5⟩:=q2f hq hc.2 hd hh ex.1;obtain⟨fs,f,f1,f2,f3,f4,f5⟩:=q6y ht e1;have hK:ty.agg=true:=by cases ty<;>simp_all[Ty.sub,Ty.agg]
    refine fin (z63 e2 e4) e5 fun w' _=>?_;have hp:=q1e f4 (cs:=cs.toArray) (off:=f.offset) (by omega) (by rw[f3];simpa using e3) w';rw[f3] at hp;simp only[execOp,Instr.field,yye,run_underlying f1,yyb,f2,hu,y4 hK,asAgg,yyf,hp,f3]
   ·cases h
  ·cases h
 ·
  simp only[yyo,yym] at h;obtain⟨x,hx,q,hq,rfl⟩:=h;rw[z7] at hc;have ex:=z5 hx hc.1 h2;obtain⟨e1,z,e2,e3⟩:=q8k hT h1 hq hc.2 ex.1 ex.2;exact fin e2 e1 fun w' _=>by simp[execOp,e3]
 ·
  simp only[yyo,yym] at h;obtain⟨x,hx,y,hy,q,hq,rfl⟩:=h;simp only[z7] at hc;have ex:=z5 hx hc.1 h2;have ey:=z5 hy hc.2.1 h2;obtain⟨e1,z,e2,e3⟩:=q8g hT h1 hq hc.2.2 ex.1 ex.2 ey.2;exact fin e2 e1 fun w' _=>by simp[execOp,e3]
 ·
  simp only[yyo] at h;obtain⟨x,hx,y,hy,h⟩:=h;split at h
  ·rename_i t X' Y' _ n e n' e' l kk k hg ha hj;split at h
   ·rename_i hn;obtain⟨rfl,rfl,hB⟩:=hn;injection h with h;subst h
    simp only[z7] at hc;have ex:=z5 hx hc.1 h2;have ey:=z5 hy hc.2.1 h2;rw[hj,w6] at ey;rw[ha] at ex;have ht:=hT _ _ hg;simp only[TyOf] at ht;obtain⟨eid,t1,t2⟩:=ht;have hk:=hc.2.2;simp only[allP,idxC] at hk;have ex2:=ex.2;simp only[AV.rv] at ex2;obtain⟨cs,hh,hu⟩:=ex2;rw[q16] at hh;have hD:Int.toNat k<List.length l:=by rw[hh.1];exact toNat_lt hk.1 hk.2
    have hr:=hh.2.get hD e'.dflt;have hE:(Int.toNat k+1)*e'.size≤cs.length:=by rw[hh.2.1];exact yy1 _ hD
    rw[yy8,Nat.one_mul] at hE;obtain⟨d,hi,_⟩:=t2.info;by_cases hs:0<e'.size
    ·refine fin (v:=.val e' (List.getD l (Int.toNat k) e'.dflt)) (z:=e'.wrap ((cs.drop (Int.toNat k*e'.size)).take e'.size)) ?_ trivial fun w' _=>?_
     ·simp only[AV.rv];exact⟨_,hr,rfl⟩
     ·have hp:=q1e t2 (cs:=cs.toArray) (off:=Int.toNat k*e'.size) hs (by simpa using hE) w';have hw:=hu;rw[y4 rfl] at hw;simp only[execOp,Instr.index,asIntOf,ey.2,yye,yyf,yyb,run_underlying t1.under,hw];rw[if_pos ⟨hk.1,hk.2⟩];simp only[yye,hi.run_size,yyb,hp]
    ·exact absurd hB hs
   ·cases h
  ·rename_i n e u v kk k hg ha hj;split at h
   ·rename_i hd;simp only[yym] at h;obtain⟨q,hq,rfl⟩:=h;rw[yyc,yyu] at hd;simp only[z7] at hc;have ex:=z5 hx hc.1 h2;have ey:=z5 hy hc.2.1 h2;rw[hj,w6] at ey;rw[ha] at ex;have ht:=hT _ _ hg;simp only[TyOf] at ht;obtain⟨eid,t1,t2⟩:=ht;have hk:=hc.2.2.1;simp only[allP,idxC] at hk;obtain⟨cs,hh,hu⟩:=z6z hd.1 ex.2;obtain⟨t',e1,e2,e3,e4,e5⟩:=q2f hq hc.2.2.2 hd.1 hh ex.1;have he:t'=e:=by simp only[Ty.sub] at e1;cases e<;>exact(Option.some.inj e1).symm
    subst he;have ho:(Ty.arr n t').off [.idx (Int.toNat k)]=Int.toNat k*t'.size:=by simp only[Ty.off];cases t'<;>rfl
    rw[ho] at e3 e4;obtain⟨d,hi,_⟩:=t2.info;refine fin (z63 e2 e4) e5 fun w' _=>?_;have hp:=q1e t2 (cs:=cs.toArray) (off:=Int.toNat k*t'.size) hd.2 (by simpa using e3) w';have hw:=hu;rw[y4 rfl] at hw;simp only[execOp,Instr.index,asIntOf,ey.2,yye,yyf,yyb,run_underlying t1.under,hw];rw[if_pos ⟨hk.1,hk.2⟩];simp only[yye,hi.run_size,yyb,hp]
   ·cases h
  ·cases h
 ·
  simp only[yyo] at h;obtain⟨x,hx,h⟩:=h;split at h
  ·rename_i t X' _ ty q hg hq;split at h
   ·rename_i hd;injection h with h;subst h
    rw[z7] at hc;simp only[yyc,yyu] at hd;have ex:=z5 hx hc.1 h2;have ht:=hT _ _ hg;obtain⟨b,off,c,ty',fz,t',e1,e2,e3,e4,e5,e6⟩:=z65 h1 hq hc.2 ex.1 ex.2;have hL:=k9 e3 e5;by_cases hz:t'.size=0
    ·exfalso;have h0:=hL.trans hz;have:=k9 hd.1 e5;omega
    ·have e4:=e4.resolve_left hz;have hU:=k9 hd.1 e5;have hB:ty.size=t'.size:=by omega
     rw[← hB] at e5 e4;refine fin (z63 hd.1 e5) e6 fun w' hM=>?_;have hN:w'.heap[b]?=some (.cells c ty' fz):=by rw[(hM rfl).block b (yyi.1 e2).1];exact e2
     have:=f8 ht hN e4;simp only[execOp,Instr.loadAt,Instr.sureAddr,e1,yye,yyf,yyb,this]
   ·cases h
  ·cases h
 ·
  simp only[yyo,yym] at h;obtain⟨x,hx,lo,hP,hi,hQ,mx,hR,q,hq,rfl⟩:=h;simp only[z7] at hc;have ex:=z5 hx hc.1 h2;have tr:∀ {o:Option Operand} {r:List Prop×Option AV},opdO s.L o=some r→allP r.1→((o.map a.eval)=none∧r.2=none)∨∃ z v,o.map a.eval=some z∧r.2=some v∧v.rv M ρ z:=by
   intro o r h hc;rcases z66 h hc h2 with⟨rfl,e⟩|⟨o',v,rfl,e1,e2⟩
   ·exact .inl ⟨rfl,e⟩
   ·exact .inr ⟨_,v,rfl,e1,e2⟩
  obtain⟨e1,z,e2,e3⟩:=z1m hT h1 hq hc.2.2.2.2 ex.1 ex.2 (tr hP hc.2.1) (tr hQ hc.2.2.1) (tr hR hc.2.2.2.1);exact fin e2 e1 fun w' _=>by simp only[execOp,yye,e3,yyb,yyf]
 ·
  simp only[yyo,yym] at h;obtain⟨x,hx,y,hy,rfl⟩:=h;rw[z7] at hc;have ex:=q0p h2 hx hc.1;have ey:=q0p h2 hy hc.2;rename_i f first cap
  refine fin (v:=.fn f x.2 y.2) (z:=.func (.func f) (first.map a.eval) (cap.map a.eval)) ?_ ⟨ex.1,ey.1⟩ fun w' _=>by simp only[execOp,Instr.makeFunc,yye,yyf,yyb]
  simp only[AV.rv];exact⟨_,_,ex.2,ey.2,by rw[← yxc,← yxc]⟩
 ·
  simp only[yyo] at h;obtain⟨x,hx,h⟩:=h;split at h
  ·rename_i hC;obtain⟨e,hg⟩:∃ e,lk X.T _=some (.slice e):=by
    unfold isSl at hC;split at hC
    ·rename_i e he;exact⟨e,he⟩
    ·cases hC
   simp only[yym] at h;obtain⟨v,hv,rfl⟩:=h;have ex:=z5 hx hc h2;obtain⟨e1,z,e2,e3⟩:=z7b hT h1 hg hv ex.2;exact fin e2 (e1 _) fun w' _=>by simp[execOp,resolve,invoke,builtin,e3]
  ·cases h
 ·
  simp only[yyo] at h;obtain⟨x,hx,y,hy,h⟩:=h;split at h
  ·rename_i k m k' n ha hj;split at h
   ·rename_i hk;subst hk;injection h with h;subst h
    rw[z7] at hc;have ex:=z5 hx hc.1 h2;have ey:=z5 hy hc.2 h2;rw[ha,w6] at ex;rw[hj,w6] at ey;change Int at m n;refine fin (w6.2 rfl) trivial fun w' _=>?_;simp[execOp,resolve,invoke,builtin,Builtin.min_,Builtin.min2,ex.2,ey.2];split<;>omega
   ·cases h
  ·cases h
 ·
  simp only[yyo] at h;obtain⟨x,hx,y,hy,h⟩:=h;split at h
  ·rename_i k m k' n ha hj;split at h
   ·rename_i hk;subst hk;injection h with h;subst h
    rw[z7] at hc;have ex:=z5 hx hc.1 h2;have ey:=z5 hy hc.2 h2;rw[ha,w6] at ex;rw[hj,w6] at ey;change Int at m n;refine fin (w6.2 rfl) trivial fun w' _=>?_;simp[execOp,resolve,invoke,builtin,Builtin.max_,Builtin.max2,ex.2,ey.2];split<;>omega
   ·cases h
  ·cases h
 ·cases h
def q8l(hT:TOK X.P X.T){o:Oper}(h:evq X.T o.op s=some r)(hc:allP r.1)(h1:SAT X M ρ s w)(h2:REG X M ρ s a) :
  r.2.bd s.nx∧∃ z,r.2.rv M ρ z∧∀ w',Below w.heap.size w w'→(execOp a.eval o).run X.P w'=.ok (.value z) w':=by
 obtain⟨e1,z,e2,e3⟩:=q9m hT h hc h1 h2;exact⟨e1,z,e2,fun w' hw=>e3 w' fun _=>hw⟩
def q6z(hT:TOK X.P X.T){o:Oper}(hl:isLoad o.op=false)(h:evq X.T o.op s=some r)(hc:allP r.1)(h1:SAT X M ρ s w)(h2:REG X M ρ s a) :
  r.2.bd s.nx∧∃ z,r.2.rv M ρ z∧∀ w',(execOp a.eval o).run X.P w'=.ok (.value z) w':=by
 obtain⟨e1,z,e2,e3⟩:=q9m hT h hc h1 h2;exact⟨e1,z,e2,fun w'=>e3 w' fun e=>by rw[hl] at e;cases e⟩
def mkMix(a b:AV):AV:=
 match a,b with
 |.val ta x,.val tb y=>.val (.cons ta tb) (x,y)
 |a,b=>.mix a b
def arrM:Nat→AV→AV→AV
 |0,_,z=>z
 |n+1,x,z=>.mix x (arrM n x z)
def zav:Ty→AV
 |.arr n (.slice e)=>if n≤16 then arrM n (.lf .nils) (.val (.arr 0 (.slice e)) []) else .val (.arr n (.slice e)) (Ty.arr n (.slice e)).dflt
 |.slice _=>.lf .nils
 |.ptr _=>.lf .nilp
 |.cons a b=>mkMix (zav a) (zav b)
 |t=>.val t t.dflt
def castK(t' t:Ty)(x:t'.den)(k:t.den→Option R):Option R:=if h:t'=t then(h▸(fun k=>k x):(t.den→Option R)→Option R) k else none
def v4{t' t:Ty}{x:t'.den}{k:t.den→Option R}{r:R}(h:castK t' t x k=some r):∃ e:t'=t,k (e▸x)=some r:=by
 unfold castK at h;split at h
 ·rename_i e;subst e;exact⟨rfl,h⟩
 ·cases h
def setV:(t:Ty)→t.den→List Step→AV→Option (List Prop×AV)
 |_,_,[],v=>some ([],v)
 |.cons _ b,x,.fld 0::[],v=>some ([],mkMix v (.val b x.2))
 |.cons a b,x,.fld 0::p,v=>(setV a x.1 p v).map fun r=>(r.1,mkMix r.2 (.val b x.2))
 |.cons a b,x,.fld (i+1)::p,v=>(setV b x.2 (.fld i::p) v).map fun r=>(r.1,mkMix (.val a x.1) r.2)
 |.arr n e,l,.idx k::p,v=>(setV e (List.getD l k e.dflt) p v).bind fun r=>match r.2 with
  |.val e' y=>castK e' e y fun y=>some ((k<n)::r.1,.val (.arr n e) (List.set l k y))
  |_=>none
 |_,_,_::_,_=>none
def setA:AV→List Step→AV→Option (List Prop×AV)
 |_,[],v=>some ([],v)
 |.val t x,p,v=>setV t x p v
 |.mix a b,.fld 0::p,v=>(setA a p v).map fun r=>(r.1,mkMix r.2 b)
 |.mix a b,.fld (i+1)::p,v=>(setA b (.fld i::p) v).map fun r=>(r.1,mkMix a r.2)
 |.mix a b,.idx 0::p,v=>(setA a p v).map fun r=>(r.1,.mix r.2 b)
 |.mix a b,.idx (i+1)::p,v=>(setA b (.idx i::p) v).map fun r=>(r.1,.mix a r.2)
 |_,_::_,_=>none
section
variable {M:Mem}{ρ:Env}
def q5y{a b:AV}(h:a.bd n)(k:b.bd n):(mkMix a b).bd n:=by
 unfold mkMix;split
 ·trivial
 ·exact⟨h,k⟩
def q2c{a b:AV}{ta tb:Ty}(h:confB ta a=true)(k:confB tb b=true):confB (.cons ta tb) (mkMix a b)=true:=by
 unfold mkMix;split
 ·simp only[confB,yyu] at h k ⊢;rw[h,k]
 ·simp[confB,h,k]
def q5x{a b:AV}{c1 c2:List Value}(h:a.rc M ρ c1)(k:b.rc M ρ c2):(mkMix a b).rc M ρ (c1++c2):=by
 unfold mkMix;split
 ·simp only[AV.rc,Rep] at h k ⊢;exact⟨c1,c2,rfl,h,k⟩
 ·simp only[AV.rc];exact⟨c1,c2,h,k,rfl⟩
def j14{n:Nat}{x z:AV}(hx:x.bd n)(hz:z.bd n):∀ m,(arrM m x z).bd n
 |0=>hz
 |m+1=>⟨hx,j14 hx hz m⟩
def z2o{e:Ty}{x z:AV}(hx:confB e x=true)(hz:confB (.arr 0 e) z=true):∀ m,confB (.arr m e) (arrM m x z)=true
 |0=>hz
 |m+1=>by show(confB e x&&confB (.arr m e) (arrM m x z))=true;rw[hx,z2o hx hz m];rfl
def j13{x z:AV}{cx:List Value}(hx:x.rc M ρ cx)(hz:z.rc M ρ []):∀ m,(arrM m x z).rc M ρ (List.replicate m cx).flatten
 |0=>hz
 |m+1=>by simp only[arrM,AV.rc];exact⟨_,_,hx,j13 hx hz m,by rw[List.replicate_succ,List.flatten_cons]⟩
def z1f(n:Nat):∀ t:Ty,(zav t).bd n
 |.arr m (.slice e)=>by
  unfold zav;split
  ·exact j14 (x:=.lf .nils) (z:=.val (.arr 0 (.slice e)) []) trivial trivial m
  ·trivial
 |.int _=>trivial|.bool=>trivial|.slice _=>trivial|.ptr _=>trivial|.nil=>trivial
 |.arr _ (.int _)=>trivial|.arr _ .bool=>trivial|.arr _ (.ptr _)=>trivial|.arr _ (.arr _ _)=>trivial|.arr _ .nil=>trivial|.arr _ (.cons _ _)=>trivial
 |.cons a b=>q5y (z1f n a) (z1f n b)
def q5a:∀ t:Ty,confB t (zav t)=true
 |.int _=>by simp[zav,confB]|.bool=>by simp[zav,confB]|.slice _=>rfl|.ptr _=>rfl
 |.arr m (.slice e)=>by
  unfold zav;split
  ·exact z2o rfl (by simp[confB]) m
  ·simp[confB]
 |.arr _ (.int _)=>by simp[zav,confB]|.arr _ .bool=>by simp[zav,confB]|.arr _ (.ptr _)=>by simp[zav,confB]|.arr _ (.arr _ _)=>by simp[zav,confB]|.arr _ .nil=>by simp[zav,confB]|.arr _ (.cons _ _)=>by simp[zav,confB]
 |.nil=>by simp[zav,confB]
 |.cons a b=>q2c (q5a a) (q5a b)
def z1e:∀ t:Ty,(zav t).rc M ρ t.zc
 |.int k=>by simp only[zav,AV.rc];exact w7 M _
 |.bool=>by simp only[zav,AV.rc];exact w7 M _
 |.slice _=>by simp only[zav,AV.rc];exact⟨_,rfl,rfl,rfl⟩
 |.ptr _=>by simp only[zav,AV.rc];exact⟨_,rfl,rfl,rfl⟩
 |.arr m (.slice e)=>by
  unfold zav;split
  ·exact j13 (cx:=[.slice none 0 0]) (by simp only[AV.rc];exact⟨_,rfl,rfl,rfl⟩) (by simp only[AV.rc];rw[q16];exact⟨rfl,rfl,fun i h=>absurd h (by simp)⟩) m
  ·simp only[AV.rc];exact w7 M _
 |.arr _ (.int _)=>by simp only[zav,AV.rc];exact w7 M _
 |.arr _ .bool=>by simp only[zav,AV.rc];exact w7 M _
 |.arr _ (.ptr _)=>by simp only[zav,AV.rc];exact w7 M _
 |.arr _ (.arr _ _)=>by simp only[zav,AV.rc];exact w7 M _
 |.arr _ .nil=>by simp only[zav,AV.rc];exact w7 M _
 |.arr _ (.cons _ _)=>by simp only[zav,AV.rc];exact w7 M _
 |.nil=>by simp only[zav,AV.rc];exact w7 M _
 |.cons a b=>q5x (z1e a) (z1e b)
def q0m(c1 c2:List Value)(off:Nat)(ds:List Value)(h:off+ds.length≤c1.length):splice (c1++c2) off ds=splice c1 off ds++c2:=by simp only[splice];rw[yx1 (by omega),List.drop_append_of_le_length h];simp
def e8(c1 c2:List Value)(off:Nat)(ds:List Value):splice (c1++c2) (c1.length+off) ds=c1++splice c2 off ds:=by simp only[splice];rw[List.take_length_add_append,Nat.add_assoc,List.drop_length_add_append];simp
def q3s(cs ds:List Value)(h:ds.length=cs.length):splice cs 0 ds=ds:=by simp[splice,h]
def q5p(cs vc:List Value)(A B off:Nat)(h:A+B≤cs.length)(h2:off+vc.length≤B) :
  splice cs A (splice ((cs.drop A).take B) off vc)=splice cs (A+off) vc:=by
 have hm:((cs.drop A).take B).length=B:=by simp;omega
 have h1:(cs.take A).length=A:=by simp;omega
 have e:cs=cs.take A++((cs.drop A).take B++cs.drop (A+B)):=by rw[← List.drop_drop,List.take_append_drop,List.take_append_drop]
 generalize (cs.drop A).take B=m at *;generalize cs.take A=c1 at *;generalize cs.drop (A+B)=c3 at *;subst e;have hs:(splice m off vc).length=m.length:=q1d _ _ _ (by omega);have e1:=e8 c1 (m++c3) off vc;have e2:=e8 c1 (m++c3) 0 (splice m off vc);rw[q0m m c3 off vc (by omega)] at e1;rw[q0m m c3 0 _ (by omega),q3s _ _ hs,h1,Nat.add_zero] at e2;rw[h1] at e1;rw[e1,← e2]
def q1a(t:Ty):t.off []=0:=by cases t<;>rfl
def z8f(t:Ty):t.sub []=some t:=by cases t<;>rfl
def q9g:∀ {t:Ty} {x:t.den} {p:List Step} {v:AV} {r:List Prop×AV} {cs vc:List Value} {t':Ty},setV t x p v=some r→allP r.1→Rep M t x cs→t.sub p=some t'→confB t' v=true→v.rc M ρ vc→v.bd n →
  confB t r.2=true∧r.2.rc M ρ (splice cs (t.off p) vc)∧r.2.bd n∧t.off p+vc.length≤cs.length:=by
 have base:∀ {t:Ty} {x:t.den} {v:AV} {cs vc:List Value} {t':Ty},Rep M t x cs→t.sub []=some t'→confB t' v=true→v.rc M ρ vc→v.bd n →
   confB t v=true∧v.rc M ρ (splice cs (t.off []) vc)∧v.bd n∧t.off []+vc.length≤cs.length:=by
  intro t x v cs vc t' hr hs hc hv hb;rw[z8f] at hs;injection hs with hs;subst hs
  have e1:=k9 hc hv;have e2:=hr.length;rw[q1a,q3s _ _ (by omega)];exact⟨hc,hv,hb,by omega⟩
 intro t;induction t with
 |arr m e ih=>
  intro x p v r cs vc t' h hc hr hs ha hv hb;cases p with
  |nil=>simp only[setV,yya] at h;subst h;exact base hr hs ha hv hb
  |cons st p=>
   cases st with
   |fld i=>cases i<;>simp[setV] at h
   |idx k=>
    simp only[setV,yyo] at h;obtain⟨q,hq,h⟩:=h;split at h
    ·rename_i e' y hh;obtain⟨he,h⟩:=v4 h;subst he;injection h with h;subst h
     rw[q2j] at hc;rw[q16] at hr;have hk:k<List.length x:=by rw[hr.1];exact hc.1
     simp only[Ty.sub] at hs;obtain⟨e1,e2,e3,e4⟩:=ih hq hc.2 (hr.2.get hk e'.dflt) hs ha hv hb;rw[hh] at e2;simp only[AV.rc] at e2;have hd:=hr.2.set e2 hk;have hg:(k+1)*e'.size≤cs.length:=by rw[hr.2.1];exact yy1 _ hk
     rw[yy8,Nat.one_mul] at hg;simp only[yxr,List.length_drop] at e4;refine⟨by simp[confB],?_,trivial,by simp only[Ty.off];omega⟩;simp only[AV.rc];rw[q16];refine⟨by simp[hr.1],?_⟩;have e5:=q5p cs vc (k*e'.size) e'.size (e'.off p) hg (by omega);rw[e5] at hd;simp only[Ty.off];exact hd
    ·cases h
 |cons a b iha ihb=>
  intro x p v r cs vc t' h hc hr hs ha hv hb;cases p with
  |nil=>simp only[setV,yya] at h;subst h;exact base hr hs ha hv hb
  |cons st p=>
   simp only[Rep] at hr;obtain⟨c1,c2,rfl,r1,r2⟩:=hr;cases st with
   |idx k=>simp[setV] at h
   |fld i=>
    cases i with
    |zero=>
     simp only[Ty.sub] at hs;have h':∃ q,setV a x.1 p v=some q∧allP q.1∧r.2=mkMix q.2 (.val b x.2):=by
      cases p with
      |nil=>simp only[setV,yya] at h;subst h;exact⟨([],v),by simp[setV],trivial,rfl⟩
      |cons=>simp only[setV,yym] at h;obtain⟨q,hq,rfl⟩:=h;exact⟨q,hq,hc,rfl⟩
     obtain⟨q,hq,hj,hu⟩:=h';obtain⟨e1,e2,e3,e4⟩:=iha hq hj r1 hs ha hv hb;rw[hu];refine⟨q2c e1 (by simp[confB]),?_,q5y e3 trivial,by simp only[Ty.off,yyz];omega⟩;simp only[Ty.off];rw[q0m _ _ _ _ e4];exact q5x e2 (by simp only[AV.rc];exact r2)
    |succ i=>simp only[Ty.sub] at hs;simp only[setV,yym] at h;obtain⟨q,hq,rfl⟩:=h;obtain⟨e1,e2,e3,e4⟩:=ihb hq hc r2 hs ha hv hb;have hl:=r1.length;refine⟨q2c (by simp[confB]) e1,?_,q5y trivial e3,by simp only[Ty.off,yyz];omega⟩;simp only[Ty.off];rw[← hl,e8];exact q5x (by simp only[AV.rc];exact r1) e2
 |_=>
  intro x p v r cs vc t' h hc hr hs ha hv hb;cases p with
  |nil=>simp only[setV,yya] at h;subst h;exact base hr hs ha hv hb
  |cons st p=>simp[Ty.sub] at hs
def q9h:∀ {a:AV} {t:Ty} {p:List Step} {v:AV} {r:List Prop×AV} {cs vc:List Value} {t':Ty},setA a p v=some r→allP r.1→confB t a=true→a.rc M ρ cs→a.bd n→t.sub p=some t'→confB t' v=true→v.rc M ρ vc→v.bd n →
  confB t r.2=true∧r.2.rc M ρ (splice cs (t.off p) vc)∧r.2.bd n∧t.off p+vc.length≤cs.length:=by
 have base:∀ {a:AV} {t:Ty} {v:AV} {cs vc:List Value} {t':Ty},confB t a=true→a.rc M ρ cs→t.sub []=some t'→confB t' v=true→v.rc M ρ vc→v.bd n →
   confB t v=true∧v.rc M ρ (splice cs (t.off []) vc)∧v.bd n∧t.off []+vc.length≤cs.length:=by
  intro a t v cs vc t' hf hr hs hc hv hb;rw[z8f] at hs;injection hs with hs;subst hs
  have e1:=k9 hc hv;have e2:=k9 hf hr;rw[q1a,q3s _ _ (by omega)];exact⟨hc,hv,hb,by omega⟩
 intro a;induction a with
 |val t' x=>
  intro t p v r cs vc t2 h hc hf hr ha hs hd hv hb;cases p with
  |nil=>simp only[setA,yya] at h;subst h;exact base hf hr hs hd hv hb
  |cons st p=>simp only[confB,yyu] at hf;subst hf;simp only[setA] at h;simp only[AV.rc] at hr;exact q9g h hc hr hs hd hv hb
 |mix x y ihx ihy=>
  intro t p v r cs vc t2 h hc hf hr ha hs hd hv hb;cases p with
  |nil=>simp only[setA,yya] at h;subst h;exact base hf hr hs hd hv hb
  |cons st p=>
   cases t with
   |cons ta tb=>
    simp only[confB,yyc] at hf;simp only[AV.rc] at hr;obtain⟨c1,c2,r1,r2,rfl⟩:=hr;cases st with
    |idx k=>simp[Ty.sub] at hs
    |fld i=>
     cases i with
     |zero=>simp only[Ty.sub] at hs;simp only[setA,yym] at h;obtain⟨q,hq,rfl⟩:=h;obtain⟨e1,e2,e3,e4⟩:=ihx hq hc hf.1 r1 ha.1 hs hd hv hb;refine⟨q2c e1 hf.2,?_,q5y e3 ha.2,by simp only[Ty.off,yyz];omega⟩;simp only[Ty.off];rw[q0m _ _ _ _ e4];exact q5x e2 r2
     |succ i=>simp only[Ty.sub] at hs;simp only[setA,yym] at h;obtain⟨q,hq,rfl⟩:=h;obtain⟨e1,e2,e3,e4⟩:=ihy hq hc hf.2 r2 ha.2 hs hd hv hb;have hl:=k9 hf.1 r1;refine⟨q2c hf.1 e1,?_,q5y ha.1 e3,by simp only[Ty.off,yyz];omega⟩;simp only[Ty.off];rw[← hl,e8];exact q5x r1 e2
   |arr m e=>
    cases m with
    |zero=>simp[confB] at hf
    |succ m=>
     simp only[confB,yyc] at hf;simp only[AV.rc] at hr;obtain⟨c1,c2,r1,r2,rfl⟩:=hr;have hl:=k9 hf.1 r1;cases st with
     |fld i=>cases i<;>simp[Ty.sub] at hs
     |idx k=>
      cases k with
      |zero=>
       simp only[Ty.sub] at hs;simp only[setA,yym] at h;obtain⟨q,hq,rfl⟩:=h;obtain⟨e1,e2,e3,e4⟩:=ihx hq hc hf.1 r1 ha.1 hs hd hv hb;have ho:(Ty.arr (m+1) e).off (.idx 0::p)=e.off p:=by simp only[Ty.off,Nat.zero_mul,yxt]
       refine⟨by simp only[confB,yyc];exact⟨e1,hf.2⟩,?_,⟨e3,ha.2⟩,by rw[ho,yyz];omega⟩;rw[ho,q0m _ _ _ _ e4];simp only[AV.rc];exact⟨_,_,e2,r2,rfl⟩
      |succ k=>
       simp only[setA,yym] at h;obtain⟨q,hq,rfl⟩:=h;obtain⟨e1,e2,e3,e4⟩:=ihy (t:=.arr m e) (p:=.idx k::p) hq hc hf.2 r2 ha.2 hs hd hv hb;have ho:(Ty.arr (m+1) e).off (.idx (k+1)::p)=c1.length+(Ty.arr m e).off (.idx k::p):=by simp only[Ty.off,hl,yy8,Nat.one_mul];omega
       refine⟨by simp only[confB,yyc];exact⟨hf.1,e1⟩,?_,⟨ha.1,e3⟩,by rw[ho,yyz];omega⟩;rw[ho,e8];simp only[AV.rc];exact⟨_,_,r1,e2,rfl⟩
   |_=>simp[confB] at hf
 |_=>
  intro t p v r cs vc t2 h hc hf hr ha hs hd hv hb;cases p with
  |nil=>simp only[setA,yya] at h;subst h;exact base hf hr hs hd hv hb
  |cons st p=>simp[setA] at h
end
variable {w':World}
def updH:List (Nat×HO)→Nat→HO→List (Nat×HO)
 |[],_,_=>[]
 |(k,v)::r,n,o=>if k=n then(k,o)::r else(k,v)::updH r n o
def q2u(n m:Nat)(o:HO):∀ (r:List (Nat×HO)),(lk r n).isSome=true→lk (updH r n o) m=if n=m then some o else lk r m
 |[],h=>by simp[lk] at h
 |(k,v)::r,h=>by
  unfold updH;by_cases h1:k=n
  ·subst h1;simp only[if_true,lk];split<;>rfl
  ·rw[if_neg h1,lk,lk];simp only[lk,if_neg h1] at h;rw[q2u n m o r h];by_cases h2:n=m
   ·subst h2;simp[h1]
   ·simp[h2]
def q32{l:Nat}{o:HO}(h:o.ok X M ρ l w)(hb:∀ b,o.at ρ l=some b→w'.heap[b]?=w.heap[b]?):o.ok X M ρ l w':=by
 cases o with
 |cell t a=>simp only[HO.ok] at h ⊢;obtain⟨h1,h2,h3,c,ty,h4,h5⟩:=h;exact⟨h1,h2,h3,c,ty,by rw[hb _ rfl];exact h4,h5⟩
 |sl eid e xs=>
  simp only[HO.ok] at h ⊢;obtain⟨h1,cs,⟨h2,h3⟩,h4⟩:=h;refine⟨h1,cs,⟨h2,?_⟩,h4⟩;rcases h3 with h3|⟨g,cap,cur,e1,e2,e3,e4⟩
  ·exact .inl h3
  ·exact .inr ⟨g,cap,cur,e1,e2,by rw[hb g (by simp[HO.at,e1,Value.ownBlock])];exact e3,e4⟩
 |map kt vt es clk=>simp only[HO.ok] at h ⊢;obtain⟨h1,ms,h2,h3⟩:=h;exact⟨h1,ms,by rw[hb _ rfl];exact h2,h3⟩
 |iter m since seen last=>simp only[HO.ok] at h ⊢;exact⟨h.1,by rw[hb _ rfl];exact h.2⟩
 |cus Q=>
  simp only[HO.ok] at h ⊢;rcases h with⟨g,cur,ty,e1,e2,e3,e4⟩|h
  ·exact .inl ⟨g,cur,ty,e1,e2,by rw[hb g e1];exact e3,e4⟩
  ·exact .inr h
 |loop st pe ps az bd n L=>simp only[HO.ok] at h ⊢;obtain⟨h1,fn,tm,D,h2,h3⟩:=h;exact⟨h1,fn,tm,D,by rw[hb _ rfl];exact h2,h3⟩
 |fr i L=>simp only[HO.ok] at h ⊢;exact h
 |raw ty k n c=>simp only[HO.ok] at h ⊢;obtain⟨h1,cs,h2,h3⟩:=h;exact⟨h1,cs,by rw[hb _ rfl];exact h2,h3⟩
 |rmap es clk=>simp only[HO.ok] at h ⊢;obtain⟨h1,ms,h2,h3⟩:=h;exact⟨h1,ms,by rw[hb _ rfl];exact h2,h3⟩
 |riter m since seen last bk=>simp only[HO.ok] at h ⊢;obtain⟨h1,ms,h2,h3⟩:=h;exact⟨h1,ms,by rw[hb _ rfl];exact h2,h3⟩
 |gl g ty n c=>simp only[HO.ok] at h ⊢;exact h
 |mrow f n c=>simp only[HO.ok] at h ⊢;obtain⟨h1,ms,clk,h2,h3⟩:=h;exact⟨h1,ms,clk,by rw[hb _ rfl];exact h2,h3⟩
 |dlk A y m=>simp only[HO.ok] at h ⊢;exact h
def p4{l b:Nat}{o:HO}(h:o.ok X M ρ l w)(hb:o.at ρ l=some b):X.E.heap.size≤b∧b<w.heap.size:=by
 cases o with
 |cell t a=>simp only[HO.ok] at h;simp only[HO.at,yya] at hb;subst hb;obtain⟨h1,h2,h3,c,ty,h4,h5⟩:=h;exact⟨h3,(yyi.1 h4).1⟩
 |sl eid e xs=>simp only[HO.ok] at h;obtain⟨h1,cs,h2,h4⟩:=h;exact h2.lt b hb
 |map kt vt es clk=>simp only[HO.ok] at h;simp only[HO.at,yya] at hb;subst hb;obtain⟨h1,ms,h2,h3⟩:=h;exact⟨h1,(yyi.1 h2).1⟩
 |iter m since seen last=>simp only[HO.ok] at h;simp only[HO.at,yya] at hb;subst hb;exact⟨h.1,(yyi.1 h.2).1⟩
 |cus Q=>
  simp only[HO.ok] at h;simp only[HO.at] at hb;rcases h with⟨g,cur,ty,e1,e2,e3,e4⟩|h
  ·rw[e1] at hb;injection hb with hb;subst hb
   exact⟨e2,(yyi.1 e3).1⟩
  ·rw[h.1] at hb;cases hb
 |loop st pe ps az bd n L=>simp only[HO.ok] at h;simp only[HO.at,yya] at hb;subst hb;obtain⟨h1,fn,tm,D,h2,h3⟩:=h;exact⟨h1,(yyi.1 h2).1⟩
 |fr i L=>cases hb
 |raw ty k n c=>simp only[HO.ok] at h;simp only[HO.at,yya] at hb;subst hb;obtain⟨h1,ms,h2,h3⟩:=h;exact⟨h1,(yyi.1 h2).1⟩
 |rmap es clk=>simp only[HO.ok] at h;simp only[HO.at,yya] at hb;subst hb;obtain⟨h1,ms,h2,h3⟩:=h;exact⟨h1,(yyi.1 h2).1⟩
 |riter m since seen last bk=>simp only[HO.ok] at h;simp only[HO.at,yya] at hb;subst hb;obtain⟨h1,ms,h2,h3⟩:=h;exact⟨h1,(yyi.1 h2).1⟩
 |gl g ty n c=>cases hb
 |mrow f n c=>simp only[HO.ok] at h;simp only[HO.at,yya] at hb;subst hb;obtain⟨h1,ms,clk,h2,h3⟩:=h;exact⟨h1,(yyi.1 h2).1⟩
 |dlk A y m=>cases hb
def EntRep.mono{M':Mem}(hm:M.le M'){kt vt:Ty}{x:kt.den×vt.den×Nat}{e:MapEntry}(h:EntRep M kt vt x e):EntRep M' kt vt x e:=by obtain⟨⟨kc,h1,h2⟩,⟨vc,h3,h4⟩,h5⟩:=h;exact⟨⟨kc,h1.mono hm,h2⟩,⟨vc,h3.mono hm,h4⟩,h5⟩
def MapRep.mono{M':Mem}(hm:M.le M'){kt vt:Ty}:∀ {es:List (kt.den×vt.den×Nat)} {ms:List MapEntry},MapRep M kt vt es ms→MapRep M' kt vt es ms
 |[],[],h=>h
 |_::_,_::_,h=>⟨EntRep.mono hm h.1,MapRep.mono hm h.2⟩
 |[],_::_,h=>h
 |_::_,[],h=>h
def w5{α:Type}:∀ {r:List (Nat×α)} {n:Nat} {v:α},lk r n=some v→(n,v)∈r
 |[],_,_,h=>by simp[lk] at h
 |(k,x)::r,n,v,h=>by
  simp only[lk] at h;split at h
  ·rename_i e;injection h with h;subst e h;exact yyh
  ·exact yyj _ (w5 h)
variable{ρ':Env}
def q0i{n l:Nat}(hr:ρ.upTo ρ' n)(hl:l<n)(o:HO):o.at ρ' l=o.at ρ l:=by cases o<;>simp[HO.at,(hr l hl).1,(hr l hl).2.2]
variable{M':Mem}
def t9{n l:Nat}{o:HO}(hm:M.le M')(hr:ρ.upTo ρ' n)(hl:l<n)(hb:o.bd n)(h:o.ok X M ρ l w):o.ok X M' ρ' l w:=by
 cases o with
 |cell t a=>simp only[HO.ok] at h ⊢;rw[(hr l hl).1,(hr l hl).2.1];obtain⟨h1,h2,h3,c,ty,h4,h5⟩:=h;exact⟨h1,h2,h3,c,ty,h4,p7 hm hr hb h5⟩
 |sl eid e xs=>simp only[HO.ok] at h ⊢;rw[(hr l hl).2.1,(hr l hl).2.2];obtain⟨h1,cs,h2,h4⟩:=h;exact⟨h1,cs,h2,h4.mono hm⟩
 |map kt vt es clk=>simp only[HO.ok] at h ⊢;rw[(hr l hl).1];obtain⟨h1,ms,h2,h3⟩:=h;exact⟨h1,ms,h2,h3.mono hm⟩
 |iter m since seen last=>simp only[HO.ok] at h ⊢;rw[(hr l hl).1,(hr m hb).1];exact h
 |cus Q=>simp only[HO.ok] at h ⊢;rw[(hr l hl).2.2];exact h
 |loop st pe ps az bd n L=>simp only[HO.ok] at h ⊢;rw[(hr l hl).1];obtain⟨h1,fn,tm,D,h2,h3,h4⟩:=h;exact⟨h1,fn,tm,D,h2,h3,fun d v hd=>j5 hm hr (hb _ (w5 hd)) (h4 d v hd)⟩
 |fr i L=>simp only[HO.ok] at h ⊢;exact⟨h.1,fun d v hd=>j5 hm hr (hb _ (w5 hd)) (h.2 d v hd)⟩
 |raw ty k n c=>simp only[HO.ok] at h ⊢;rw[(hr l hl).1,(hr l hl).2.2];obtain⟨h1,cs,h2,h3,h4,h5⟩:=h;exact⟨h1,cs,h2,h3,fun i hi=>by rw[q0b hr (hb i hi)];exact h4 i hi,h5⟩
 |rmap es clk=>simp only[HO.ok] at h ⊢;rw[(hr l hl).1];obtain⟨h1,ms,h2,h3⟩:=h;refine⟨h1,ms,h2,h3.trans (List.map_congr_left fun x hx=>?_)⟩;rw[q0b hr (hb x hx).1,q0b hr (hb x hx).2]
 |riter m since seen last bk=>simp only[HO.ok] at h ⊢;rw[(hr l hl).1,(hr m hb).1];exact h
 |gl g ty n c=>simp only[HO.ok] at h ⊢;rw[(hr l hl).1];obtain⟨h1,cs,ty',fz,h2,h3,h4⟩:=h;exact⟨h1,cs,ty',fz,hm _ _ _ _ h2,h3,fun i hi=>by rw[q0b hr (hb i hi)];exact h4 i hi⟩
 |mrow f n c=>
  simp only[HO.ok] at h ⊢;rw[(hr l hl).1];obtain⟨h1,ms,clk,h2,h3,h4,h5,h6⟩:=h;refine⟨h1,ms,clk,h2,h3,fun e he=>?_,fun k hk he=>?_,h6⟩
  ·obtain⟨k,k1,k2,k3⟩:=h4 e he;exact⟨k,k1,k2,k3.trans (hr _ (hb k k1)).2.2.symm⟩
  ·exact(hr _ (hb k hk)).2.2.trans (h5 k hk he)
 |dlk A y m=>simp only[HO.ok] at h ⊢;rw[(hr l hl).1,(hr l hl).2.1,(hr m hb).1];obtain⟨h1,c,ty,c1,h2,h3,h4⟩:=h;exact⟨h1,c,ty,c1,hm _ _ _ _ h2,Rep.mono hm h3,h4⟩
def s6{n m:Nat}(h:n≤m){o:HO}(hb:o.bd n):o.bd m:=by
 cases o with
 |cell t a=>exact j3 h hb
 |sl eid e xs=>trivial
 |map kt vt es clk=>trivial
 |iter m since seen last=>exact yxa hb h
 |cus Q=>trivial
 |loop st pe ps az bd n L=>exact fun p hp=>j3 h (hb p hp)
 |fr i L=>exact fun p hp=>j3 h (hb p hp)
 |raw ty k n c=>exact fun i hi=>q0w h (hb i hi)
 |rmap es clk=>exact fun x hx=>⟨q0w h (hb x hx).1,q0w h (hb x hx).2⟩
 |riter m since seen last bk=>exact yxa hb h
 |gl g ty n c=>exact fun i hi=>q0w h (hb i hi)
 |mrow f n c=>exact fun i hi=>yxa (hb i hi) h
 |dlk A y m=>exact yxa hb h
def Mem.le_refl(M:Mem):M.le M:=fun _ _ _ _ h=>h
def Mem.dle(M M':Mem):Prop:=∀ D,M D=some (.deferred (some []))→M' D=some (.deferred (some []))
def p5(M:Mem):M.dle M:=fun _ h=>h
variable{H':List (Nat×HO)}
def REG.grow{nx':Nat}(h:REG X M ρ s a)(hm:M.le M')(hr:ρ.upTo ρ' s.nx)(hn:s.nx≤nx')(hd:M.dle M'):REG X M' ρ' ⟨s.L,H',nx'⟩ a:=⟨h.size,let ⟨Ds,e1,e2,e3,e4⟩:=h.defers;⟨Ds,e1,e2,fun D hD=>⟨(e3 D hD).1,hd D (e3 D hD).2⟩,e4⟩,fun d v hd=>⟨j3 hn (h.reg d v hd).1,j5 hm hr (h.reg d v hd).1 (h.reg d v hd).2⟩⟩
def REG.put{d:Nat}{v:AV}{z:Value}(h:REG X M ρ s a)(hd:d<X.n)(hb:v.bd s.nx)(hv:v.rv M ρ z):REG X M ρ ⟨(d,v)::s.L,s.H,s.nx⟩ (a.put (some d) z):=by
 refine⟨by simp[Act.put,h.size],h.defers,fun k u hk=>?_⟩;simp only[lk] at hk;simp only[Act.put];split at hk
 ·rename_i he;injection hk with hk;subst hk;subst he
  refine⟨hb,?_⟩;have:(a.tmps.setIfInBounds d z).getD d Go.undef=z:=by simp[yyr,h.size,hd]
  rw[this];exact hv
 ·rename_i he;refine⟨(h.reg k u hk).1,?_⟩;have:(a.tmps.setIfInBounds d z).getD k Go.undef=a.tmps.getD k Go.undef:=by simp[yyr,he]
  rw[this];exact(h.reg k u hk).2
def SAT.add(h:SAT X M ρ s w){row:Option Nat}(hg:w.grownBy w' row)(hh:∀ b,row=some b→X.E.heap.size≤b∧M b=none)
  (ha:∀ l o,lk H' l=some o→lk s.H l=some o∧∀ b,o.at ρ l=some b→row≠some b) {ρ':Env} (hr:ρ.upTo ρ' s.nx) {o:HO} (hC:o.bd (s.nx+1)) (hD:o.ok X M ρ' s.nx w')
  (he:∀ b,o.at ρ' s.nx=some b→M b=none∧∀ l o1,lk H' l=some o1→o1.at ρ l≠some b):SAT X M ρ' ⟨s.L,(s.nx,o)::H',s.nx+1⟩ w':=by
 have hw:∀ b o,M b=some o→w'.heap[b]?=some o:=fun b o1 hb=>by rw[hg.block b (yyi.1 (h.mem b o1 hb)).1 (fun e=>by rw[(hh b e.symm).2] at hb;cases hb)];exact h.mem b o1 hb
 have hv:∀ l o1,lk ((s.nx,o)::H') l=some o1→(l=s.nx∧o1=o)∨(l<s.nx∧lk H' l=some o1):=by
  intro l o1 hl;simp only[lk] at hl;split at hl
  ·rename_i e;injection hl with hl;exact .inl ⟨e.symm,hl.symm⟩
  ·exact .inr ⟨(h.own l o1 (ha l o1 hl).1).1,hl⟩
 refine⟨?_,h.msub,h.mnew,hw,?_,?_,?_⟩
 ·exact h.below.grown hg h.below.size (fun k hk=>(hh k hk).1)
 ·intro l o1 hl;rcases hv l o1 hl with⟨rfl,rfl⟩|⟨hd,hy⟩
  ·exact⟨yy2 _,hC,hD⟩
  ·obtain⟨e1,e2⟩:=ha l o1 hy;obtain⟨_,k2,k3⟩:=h.own l o1 e1;refine⟨Nat.lt_succ_of_lt hd,s6 (yy5 _) k2,?_⟩;have k4:=t9 (Mem.le_refl M) hr hd k2 k3;refine q32 k4 fun b hb=>?_;rw[q0i hr hd] at hb;exact hg.block b (p4 k3 hb).2 (fun e=>e2 b hb e.symm)
 ·intro l l' o1 o2 b hl hy hb hj;rcases hv l o1 hl with⟨rfl,rfl⟩|⟨hd,hA⟩<;>rcases hv l' o2 hy with⟨rfl,rfl⟩|⟨hu,hB⟩
  ·rfl
  ·rw[q0i hr hu] at hj;exact absurd hj ((he b hb).2 l' o2 hB)
  ·rw[q0i hr hd] at hb;exact absurd hb ((he b hj).2 l o1 hA)
  ·rw[q0i hr hd] at hb;rw[q0i hr hu] at hj;exact h.apart l l' o1 o2 b (ha l o1 hA).1 (ha l' o2 hB).1 hb hj
 ·intro l o1 b hl hb;rcases hv l o1 hl with⟨rfl,rfl⟩|⟨hd,hl⟩
  ·exact(he b hb).1
  ·rw[q0i hr hd] at hb;exact h.notM l o1 b (ha l o1 hl).1 hb
def SAT.upd(h:SAT X M ρ s w){l:Nat}{o o':HO}(hl:lk s.H l=some o)(hg:w.grownBy w' (o.at ρ l))(he:o'.at ρ l=o.at ρ l)(hh:o'.bd s.nx)(hj:o'.ok X M ρ l w') :
  SAT X M ρ ⟨s.L,updH s.H l o',s.nx⟩ w':=by
 have hu:∀ m,lk (updH s.H l o') m=if l=m then some o' else lk s.H m:=fun m=>q2u l m o' s.H (by simp[hl]);obtain⟨b1,b2,b3⟩:=h.own l o hl;have ha:∀ b,o.at ρ l=some b→X.E.heap.size≤b∧M b=none:=fun b hb=>⟨(p4 b3 hb).1,h.notM l o b hl hb⟩;refine⟨h.below.grown hg h.below.size (fun k hk=>(ha k hk).1),h.msub,h.mnew,?_,?_,?_,?_⟩
 ·intro b o1 hb;show w'.heap[b]?=some o1;rw[hg.block b (yyi.1 (h.mem b o1 hb)).1 (fun e=>by rw[(ha b e.symm).2] at hb;cases hb)];exact h.mem b o1 hb
 ·intro m o1 hm;rw[hu] at hm;split at hm
  ·rename_i e;subst e;injection hm with hm;subst hm;exact⟨b1,hh,hj⟩
  ·rename_i e;obtain⟨k1,k2,k3⟩:=h.own m o1 hm;refine⟨k1,k2,q32 k3 fun b hb=>hg.block b (p4 k3 hb).2 (fun e'=>e (h.apart l m o o1 b hl hm e'.symm hb))⟩
 ·have hd:∀ m o1,lk (updH s.H l o') m=some o1→∃ o2,lk s.H m=some o2∧o1.at ρ m=o2.at ρ m:=by
   intro m o1 hm;rw[hu] at hm;split at hm
   ·rename_i e;subst e;injection hm with hm;subst hm;exact⟨o,hl,he⟩
   ·exact⟨o1,hm,rfl⟩
  intro m m' o1 o2 b hm hv hb hw;obtain⟨o3,e1,e2⟩:=hd m o1 hm;obtain⟨o4,e3,e4⟩:=hd m' o2 hv;exact h.apart m m' o3 o4 b e1 e3 (e2▸hb) (e4▸hw)
 ·intro m o1 b hm hb;rw[hu] at hm;split at hm
  ·rename_i e;subst e;injection hm with hm;subst hm;rw[he] at hb;exact h.notM l o b hl hb
  ·exact h.notM m o1 b hm hb
def Env.with(ρ:Env)(l b:Nat)(t:Ty)(v:Value):Env:=⟨fun m=>if m=l then b else ρ.blk m,fun m=>if m=l then t else ρ.ty m,fun m=>if m=l then v else ρ.sv m⟩
def j8(ρ:Env)(l b:Nat)(t:Ty)(v:Value):ρ.upTo (ρ.with l b t v) l:=fun m hm=>by simp[Env.with,show m≠l by omega]
def SAT.newCell(h:SAT X M ρ s w){t:Ty}{v:AV}{id:TypeId}(ha:confB t v=true)(hb:v.bd s.nx)(hr:v.rc M ρ c.toList) :
  SAT X M (ρ.with s.nx w.heap.size t Go.undef) ⟨s.L,(s.nx,.cell t v)::s.H,s.nx+1⟩ (w.alloc (.cells c id)):=by
 have hd:∀ b o,M b=some o→b<w.heap.size:=fun b o hb=>(yyi.1 (h.mem b o hb)).1;refine h.add (World.grownBy_alloc w _ none) (fun b hb=>by cases hb) (fun l o hl=>⟨hl,fun b _=>by simp⟩) (j8 _ _ _ _ _) (j3 (yy5 _) hb) ?_ ?_
 ·simp only[HO.ok,Env.with,if_true];exact⟨trivial,ha,h.below.size,c,id,heap_alloc_new w _,p7 (Mem.le_refl M) (j8 _ _ _ _ _) hb hr⟩
 ·intro b hb;simp only[HO.at,Env.with,if_true,yya] at hb;subst hb;refine⟨?_,fun l o1 hl hb=>?_⟩
  ·cases hM:M w.heap.size with
   |none=>rfl
   |some o=>exact absurd (hd _ _ hM) (Nat.lt_irrefl _)
  ·exact absurd (p4 (h.own l o1 hl).2.2 hb).2 (Nat.lt_irrefl _)
def SAT.newRow(h:SAT X M ρ s w){xs:List e.den}{row:Option Nat}(hg:w.grownBy w' row)
  (hd:∀ b,row=some b→X.E.heap.size≤b∧M b=none)
  (ha:∀ l o,lk H' l=some o→lk s.H l=some o∧∀ b,o.at ρ l=some b→row≠some b)
  (he:w'.ownsRow X.E.heap.size eid e.size v xs.length cs) (hk:RL M e xs cs) (hb:∀ b,v.ownBlock=some b→row=some b∨w.heap.size≤b) :
  SAT X M (ρ.with s.nx 0 e v) ⟨s.L,(s.nx,.sl eid e xs)::H',s.nx+1⟩ w':=by
 have hu:∀ b o,M b=some o→b<w.heap.size:=fun b o hb=>(yyi.1 (h.mem b o hb)).1;refine h.add hg hd ha (j8 _ _ _ _ _) trivial ?_ ?_
 ·simp only[HO.ok,Env.with,if_true];exact⟨trivial,cs,he,hk⟩
 ·intro b hj;simp only[HO.at,Env.with,if_true] at hj;rcases hb b hj with e|e
  ·exact⟨(hd b e).2,fun l o1 hl hh=>(ha l o1 hl).2 b hh e⟩
  ·refine⟨?_,fun l o1 hl hh=>?_⟩
   ·cases hM:M b with
    |none=>rfl
    |some o=>have:=hu _ _ hM;omega
   ·have:=(p4 (h.own l o1 (ha l o1 hl).1).2.2 hh).2;omega
def coerK(e:Ty)(v:AV)(k:e.den→Option R):Option R:=
 match v,e,k with
 |.val e' y,e,k=>castK e' e y k
 |.lf .nils,.slice _,k=>k []
 |.lf .nilp,.ptr _,k=>k none
 |_,_,_=>none
def q9n{v:AV}{k:e.den→Option R}{r:R}(h:coerK e v k=some r):∃ x:e.den,k x=some r∧∀ (M:Mem) (ρ:Env) u,v.rv M ρ u→∃ cs,Rep M e x cs∧u=e.wrap cs:=by
 unfold coerK at h;split at h
 ·obtain⟨e1,h⟩:=v4 h;subst e1;exact⟨_,h,fun M ρ u hu=>by simpa only[AV.rv] using hu⟩
 ·refine⟨_,h,fun M ρ u hu=>?_⟩;rw[w9] at hu;simp only[Leaf.at,yya] at hu;exact⟨[.slice none 0 0],by simp only[Rep];exact⟨none,0,rfl,by simp,by simp[maxLen],fun _=>rfl,.inl rfl⟩,by rw[← hu.1];rfl⟩
 ·refine⟨_,h,fun M ρ u hu=>?_⟩;rw[w9] at hu;simp only[Leaf.at,yya] at hu;exact⟨[.pointer none],by simp only[Rep],by rw[← hu.1];rfl⟩
 ·cases h
def elemsK{R:Type}(e:Ty)(L:List (Nat×AV)):List (Nat×Operand)→Nat→(List Prop→List e.den→Option R)→Option R
 |[],_,k=>k [] []
 |(j,o)::ps,i,k=>if j=i then(opd L o).bind fun v=>coerK e v.2 fun y=>elemsK e L ps (i+1) fun cs ys=>k (v.1++cs) (y::ys) else none
def srcK(e:Ty)(H:List (Nat×HO))(v:AV)(k:List Prop→List e.den→Option R):Option R:=
 match v with
 |.val (.slice e') l=>castK (.slice e') (.slice e) l fun l=>k [] l
 |.full e' l=>castK (.slice e') (.slice e) l fun l=>k [] l
 |.lf .nils=>k [] []
 |.lf (.osl l)=>match lk H l with
  |some (.sl _ e' xs)=>castK (.slice e') (.slice e) xs fun xs=>k [] xs
  |_=>none
 |.lf (.ovw l lo hi _)=>match lk H l with
  |some (.sl _ e' xs)=>castK (.slice e') (.slice e) xs fun xs=>k [hi≤List.length xs] (List.drop lo (List.take hi xs))
  |_=>none
 |_=>none
def evm(T:List (Nat×Ty))(ET:List (Nat×Nat))(o:Op)(s:S):Option (List Prop×AV×S):=
 match o with
 |.alloc t=>match lk T t with
  |some ty=>some ([],.lf (.optr s.nx []),⟨s.L,(s.nx,.cell ty (zav ty))::s.H,s.nx+1⟩)
  |none=>none
 |.box t x=>(opd s.L x).bind fun v=>match lk T t with
  |some ty=>if confB ty v.2 then some (v.1,.lf (.optr s.nx []),⟨s.L,(s.nx,.cell ty v.2)::s.H,s.nx+1⟩) else none
  |none=>none
 |.store t p x=>(opd s.L p).bind fun q=>(opd s.L x).bind fun v=>match lk T t,q.2 with
  |some ty,.lf (.optr l p)=>(match lk s.H l with
   |some (.cell t0 a0)=>if t0.sub p=some ty then(if confB ty v.2 then(setA a0 p v.2).map fun r=>(q.1++(v.1++r.1),.undef,⟨s.L,updH s.H l (.cell t0 r.2),s.nx⟩) else none) else none
   |_=>none)
  |some ty,.lf (.oelt l i p)=>(match lk s.H l with
   |some (.sl eid e xs)=>if e.sub p=some ty then(if confB ty v.2 then(setV e (List.getD xs i e.dflt) p v.2).bind fun r=>coerK e r.2 fun y=>some (q.1++(v.1++((i<xs.length)::r.1)),.undef,⟨s.L,updH s.H l (.sl eid e (List.set xs i y)),s.nx⟩) else none) else none
   |_=>none)
  |_,_=>none
 |.buildSlice t n ps=>match lk T t,lk ET t with
  |some (.slice e),some eid=>if ps.size=n∧n≤4096∧n*e.size≤4096 then elemsK e s.L ps.toList 0 fun cs ys=>some (cs,.lf (.osl s.nx),⟨s.L,(s.nx,.sl eid e ys)::s.H,s.nx+1⟩) else none
  |_,_=>none
 |.makeSlice t l c=>(opd s.L l).bind fun x=>(opd s.L c).bind fun y=>match lk T t,lk ET t,x.2,y.2 with
  |some (.slice e),some eid,.val (.int .i64) n,.val (.int .i64) m=>some (x.1++(y.1++lohiC n m 100000000++[(m:Int)=n]),.lf (.osl s.nx),⟨s.L,(s.nx,.sl eid e (List.replicate (Int.toNat n) e.dflt))::s.H,s.nx+1⟩)
  |_,_,_,_=>none
 |.call {callee:=.builtin .append,args:=⟨[b,x]⟩,argTypes:=⟨[t,t']⟩}=>(opd s.L b).bind fun u=>(opd s.L x).bind fun v=>match lk T t,lk ET t with
  |some (.slice e),some eid=>if t'=t∧0<e.size then srcK e s.H v.2 fun cs ys=>(match u.2 with
   |.lf .nils=>some (u.1++(v.1++(cs++[ys.length≤100000000])),.lf (.osl s.nx),⟨s.L,(s.nx,.sl eid e ys)::s.H,s.nx+1⟩)
   |.lf (.osl l)=>(match lk s.H l with
    |some (.sl eid' e' xs)=>if eid'=eid then castK (.slice e') (.slice e) xs fun xs=>some (u.1++(v.1++(cs++[List.length xs+ys.length≤100000000])),.lf (.osl s.nx),⟨s.L,(s.nx,.sl eid e (xs++ys))::del s.H l,s.nx+1⟩) else none
    |_=>none)
   |.lf (.ovw l 0 hi true)=>(match lk s.H l with
    |some (.sl eid' e' xs)=>if eid'=eid then castK (.slice e') (.slice e) xs fun xs=>some (u.1++(v.1++(cs++[hi≤List.length xs,List.length xs+ys.length≤100000000,0<ys.length])),.lf (.osl s.nx),⟨s.L,(s.nx,.sl eid e (List.take hi xs++ys))::s.H,s.nx+1⟩) else none
    |_=>none)
   |.full e' l=>castK (.slice e') (.slice e) l fun l=>some (u.1++(v.1++(cs++[List.length l+ys.length≤100000000,0<ys.length])),.lf (.osl s.nx),⟨s.L,(s.nx,.sl eid e (l++ys))::s.H,s.nx+1⟩)
   |_=>none) else none
  |_,_=>none
 |.call {callee:=.builtin .copy,args:=⟨[b,x]⟩,argTypes:=⟨[t,_]⟩}=>(opd s.L b).bind fun u=>(opd s.L x).bind fun v=>match lk T t,u.2 with
  |some (.slice e),.lf (.osl l)=>(match lk s.H l with
   |some (.sl eid e' xs)=>if e'=e then srcK e s.H v.2 fun cs ys=>some (u.1++(v.1++(cs++[ys.length=List.length xs])),.val (.int .i64) (List.length ys:Int),⟨s.L,updH s.H l (.sl eid e ys),s.nx⟩) else none
   |_=>none)
  |_,_=>none
 |.call {callee:=.builtin .clear,args:=⟨[x]⟩,argTypes:=⟨[t]⟩}=>(opd s.L x).bind fun u=>match lk T t,u.2 with
  |some (.slice e),.lf (.oarr l p n _)=>(match lk s.H l with
   |some (.cell t0 a0)=>if t0.sub p=some (.arr n e) then(setA a0 p (.val (.arr n e) (List.replicate n e.dflt))).map fun r=>(u.1++r.1,.undef,⟨s.L,updH s.H l (.cell t0 r.2),s.nx⟩) else none
   |_=>none)
  |_,_=>none
 |_=>none
def Did(X:Ctx)(M:Mem)(ρ:Env)(s:S)(v:AV)(s':S)(res:Result Next):Prop:=∃ ρ' w' nxt,res=.ok nxt w'∧ρ.upTo ρ' s.nx∧s.nx≤s'.nx∧s'.L=s.L∧SAT X M ρ' s' w'∧v.bd s'.nx∧((∃ z,nxt=.value z∧v.rv M ρ' z)∨(nxt=.skip∧v=.undef))
def q3r(h1:SAT X M ρ s w){v:AV}{k:List Prop→List e.den→Option R}{r:R}(h:srcK e s.H v k=some r)(hu:v.rv M ρ u) :
  ∃ cs ys,k cs ys=some r∧(allP cs→∃ ad cap news,u=.slice ad (List.length ys) cap∧RL M e ys news ∧
   (∀ adr,ad=some adr→∀ j x,news[j]?=some x→w.cell? (adr.add j)=some x)∧(ad=none→cap=0∧ys=[])):=by
 have ofRep:∀ {l:List e.den} {u:Value},(AV.val (.slice e) l).rv M ρ u→∃ ad cap news,u=.slice ad (List.length l) cap∧RL M e l news ∧
   (∀ adr,ad=some adr→∀ j x,news[j]?=some x→w.cell? (adr.add j)=some x)∧(ad=none→cap=0∧l=[]):=by
  intro l u hu;rw[q5s] at hu;obtain⟨ad,cap,rfl,hw,hm,hy,hz⟩:=hu;rcases hz with hz|⟨b,off,c,ty,fz,rfl,hM,hr⟩
  ·have:l=[]:=yxk hz;subst this;exact⟨ad,cap,[],rfl,RL.nil,fun adr _ j x hx=>by simp at hx,fun h=>⟨hy h,rfl⟩⟩
  ·refine⟨_,cap,(c.toList.drop off).take (l.length*e.size),rfl,⟨?_,fun i hi=>?_⟩,?_,fun h=>by cases h⟩
   ·rcases Nat.eq_zero_or_pos l.length with h0|h0
    ·simp[h0]
    ·have h3:=(hr (l.length-1) (by omega)).length;simp only[yxr,List.length_drop] at h3 ⊢;have h4:(l.length-1)*e.size+e.size=l.length*e.size:=by conv=>rhs;rw[show l.length=(l.length-1)+1 by omega,yy8,Nat.one_mul]
     by_cases he:e.size=0
     ·simp[he]
     ·omega
   ·have h3:=hr i hi;have hh:(i+1)*e.size≤l.length*e.size:=yy1 _ hi;rw[yy8,Nat.one_mul] at hh;rw[List.drop_take,List.take_take,List.drop_drop,yxu (by omega)];exact h3
   ·intro adr ha j x hx;injection ha with ha;subst ha
    rw[j4,u6 (h1.mem _ _ hM)];rw[yxm] at hx;split at hx
    ·simpa[List.getElem?_drop] using hx
    ·cases hx
 have ofOwn:∀ {l:Nat} {eid:TypeId} {xs:List e.den},lk s.H l=some (.sl eid e xs)→∀ lo hi full,hi≤xs.length→∃ ad cap news,sview (ρ.sv l) e.size lo hi full=.slice ad (hi-lo) cap∧RL M e ((xs.take hi).drop lo) news ∧
   (∀ adr,ad=some adr→∀ j x,news[j]?=some x→w.cell? (adr.add j)=some x)∧(ad=none→cap=0∧xs=[]):=by
  intro l eid xs hl lo hi full hA;have hb:=x9 h1 hl;simp only[HO.ok] at hb;obtain⟨hF,cs,hd,hB⟩:=hb;have hj:=(hB.take hi).drop lo;rcases hd.2 with⟨e1,hn⟩|⟨g,cap,cur,hg,hG,hC,hH,hJ,hK,hD⟩
  ·have hx:xs=[]:=yxk hn;subst hx;refine⟨none,(if full then hi else 0)-lo,[],?_,by simpa using RL.nil,fun adr h=>by(cases h),fun _=>⟨?_,rfl⟩⟩
   ·simp[sview,e1]
   ·simp at hA;split<;>omega
  ·have hE:hi≤(if full=true then hi else cap):=by split<;>omega
   have hk:sview (ρ.sv l) e.size lo hi full=.slice (if (if full=true then hi else cap)=lo then some ⟨g,0,none⟩ else(some (⟨g,0,none⟩:Addr)).map (·.add (lo*e.size))) (hi-lo) ((if full=true then hi else cap)-lo):=by simp only[sview,hg]
   rw[hk];generalize (if full=true then hi else cap)=m at hE;refine⟨if m=lo then some ⟨g,0,none⟩ else(some (⟨g,0,none⟩:Addr)).map (·.add (lo*e.size)),m-lo,_,rfl,hj,?_,?_⟩
   ·intro adr ha j x hx;rw[List.getElem?_drop,yxm] at hx;split at hx
    ·rename_i hL;have e2:cur[lo*e.size+j]?=some x:=by
      rw[← hD,yxm] at hx;split at hx
      ·simpa using hx
      ·cases hx
     have e3:adr=⟨g,lo*e.size,none⟩:=by
      split at ha
      ·rename_i hm;exfalso;have hh:hi≤lo:=by omega
       have:=yy1 e.size hh;omega
      ·simpa[j4] using ha.symm
     subst e3;rw[j4,u6 hC,e2]
    ·cases hx
   ·intro h;split at h<;>cases h
 unfold srcK at h;split at h
 ·obtain⟨e1,h⟩:=v4 h;rename_i e' l;injection e1 with e1;subst e1
  refine⟨[],_,h,fun _=>?_⟩;obtain⟨ad,cap,news,h1,h2,h3,h4⟩:=ofRep hu;exact⟨ad,cap,news,h1,h2,h3,h4⟩
 ·rename_i e' l;obtain⟨e1,h⟩:=v4 h;injection e1 with e1;subst e1
  refine⟨[],_,h,fun _=>?_⟩;simp only[AV.rv] at hu;obtain⟨cs,ad',hr,rfl,hu⟩:=hu;obtain⟨ad,cap,news,h1,h2,h3,h4⟩:=ofRep (l:=l) (u:=u) (by simp only[AV.rv];exact⟨_,hr,rfl⟩);exact⟨ad,cap,news,h1,h2,h3,h4⟩
 ·refine⟨[],[],h,fun _=>?_⟩;rw[w9] at hu;simp only[Leaf.at,yya] at hu;exact⟨none,0,[],by rw[← hu.1];rfl,RL.nil,fun adr h=>(by cases h),fun _=>⟨rfl,rfl⟩⟩
 ·rename_i l;split at h
  ·rename_i eid e' xs hl;obtain⟨e1,h⟩:=v4 h;injection e1 with e1;subst e1
   refine⟨[],_,h,fun _=>?_⟩;obtain⟨ad,cap,news,h2,h3,h4,h5⟩:=ofOwn hl 0 xs.length false (yyl _);rw[w9] at hu;simp only[Leaf.at,yya] at hu;have hg:sview (ρ.sv l) e'.size 0 xs.length false=ρ.sv l:=by
    have hb:=x9 h1 hl;simp only[HO.ok] at hb;obtain⟨_,cs,hd,_⟩:=hb;rcases hd.2 with⟨e1,hn⟩|⟨g,cap,cur,hg,_⟩
    ·simp[sview,e1,hn]
    ·rw[hg];simp[sview,Addr.add]
   rw[hg,Nat.sub_zero] at h2;simp only[yx6,List.drop_zero] at h3;exact⟨ad,cap,news,by rw[← hu.1,h2],h3,h4,h5⟩
  ·cases h
 ·rename_i l lo hi full;split at h
  ·rename_i eid e' xs hl;obtain⟨e1,h⟩:=v4 h;injection e1 with e1;subst e1
   refine⟨[hi≤List.length xs],_,h,fun hc=>?_⟩;obtain⟨ad,cap,news,h2,h3,h4,h5⟩:=ofOwn hl lo hi full hc;rw[w9] at hu;simp only[Leaf.at,yya] at hu;have hb:=x9 h1 hl;simp only[HO.ok] at hb;have hv:(List.drop lo (List.take hi xs)).length=hi-lo:=by have:hi≤xs.length:=hc;simp;omega
   refine⟨ad,cap,news,?_,h3,h4,fun h=>⟨(h5 h).1,?_⟩⟩
   ·rw[← hu.1,hb.1,h2];exact congrArg (fun n=>Value.slice ad n cap) hv.symm
   ·show List.drop lo (List.take hi xs)=[];rw[(h5 h).2];simp
  ·cases h
 ·cases h
def SAT.row(h:SAT X M ρ s w){l:Nat}{o:HO}(hl:lk s.H l=some o):∀ b,o.at ρ l=some b→X.E.heap.size≤b∧M b=none:=fun b hb=>⟨(p4 (h.own l o hl).2.2 hb).1,h.notM l o b hl hb⟩
def z02(h1:SAT X M ρ s w){t:Ty}{v:AV}{id:TypeId}(hd:confB t v=true)(hb:v.bd s.nx)(hr:v.rc M ρ cs){r:Result Next}
  (ha:r=.ok (.value (.pointer (some ⟨w.heap.size,0,none⟩))) (w.alloc (.cells cs.toArray id))) :
  Did X M ρ s (.lf (.optr s.nx [])) ⟨s.L,(s.nx,.cell t v)::s.H,s.nx+1⟩ r:=by
 refine⟨_,_,_,ha,j8 ρ s.nx w.heap.size t Go.undef,yy5 _,rfl,h1.newCell hd hb (by simpa using hr),yy2 _,.inl ⟨_,rfl,?_⟩⟩;rw[w9];simp[Leaf.at,Env.with,q1a,Value.oneCell']
def q0y(w:World)(g:Nat)(cs:Array Value):w.grownBy (w.setRow g cs) (some g):=⟨rfl,rfl,rfl,by simp,fun k _ hk=>setRow_other w g k cs (fun e=>hk (by rw[e]))⟩
def q9f(h1:SAT X M ρ s w){l:Nat}{t0 ty:Ty}{a0:AV}(hl:lk s.H l=some (.cell t0 a0))(hd:t0.sub p=some ty){v:AV}(hk:confB ty v=true)(hb:v.bd s.nx)
  {vc:List Value} (hv:v.rc M ρ vc) {r:List Prop×AV} (he:setA a0 p v=some r) (hc:allP r.1) :
  ∃ w',(storeCells ⟨ρ.blk l,(ρ.ty l).off p,none⟩ vc).run X.P w=.ok () w'∧SAT X M ρ ⟨s.L,updH s.H l (.cell t0 r.2),s.nx⟩ w':=by
 have hj:=x9 h1 hl;have hu:=(h1.own _ _ hl).2.1;simp only[HO.ok] at hj;obtain⟨hg,hw,hE,c,id,ha,hy⟩:=hj;obtain⟨e1,e2,e3,e4⟩:=q9h he hc hw hy hu hd hk hv hb;have hh:=run_storeCells_at X.P (ρ.blk l) ((ρ.ty l).off p) id vc 0 c w ha (by rw[hg];simpa using e4) (q0j hv);refine⟨_,hh,h1.upd hl (q0y _ _ _) rfl e3 ?_⟩;simp only[HO.ok];refine⟨hg,e1,hE,_,id,setRow_heap w _ c _ id (0,0) ha,?_⟩;rw[hg];simpa[splice] using e2
def q69{ty:Ty}{id:TypeId}(ht:TyOf P ty id){adr:Addr}{vc:List Value}(hl:vc.length=ty.size)(h1:∀ v∈vc,v.oneCell'=true)(w:World) :
  (storeVar id adr (ty.wrap vc)).run P w=(storeCells adr vc).run P w:=by
 obtain⟨d,hi,_⟩:=ht.info;unfold storeVar;simp only[yye,hi.run_size,yyb,y9 hl h1];simp[hl]
def q79{size n g cap:Nat}{cur:Array Value}{new:List Value}(hv:v=.slice (some ⟨g,0,none⟩) n cap)(hb:base≤g)(hg:w.heap[g]?=some (.cells cur eid (0,0)))
  (hn:n≤cap) (ha:cap≤maxLen) (hs:new.length=cap*size) (hl:(new.take (n*size)).length=n*size) :
  (w.setRow g new.toArray).ownsRow base eid size v n (new.take (n*size)):=
 ⟨hl,.inr ⟨g,cap,_,hv,hb,setRow_heap w g cur _ eid (0,0) hg,hn,ha,by simpa using hs,by simp⟩⟩
def q77(cs:List Value)(n off:Nat)(ds:List Value)(h:off+ds.length≤n)(hn:n≤cs.length):(splice cs off ds).take n=splice (cs.take n) off ds:=by
 have e:cs=cs.take n++cs.drop n:=(List.take_append_drop n cs).symm;have hl:(cs.take n).length=n:=by simp;omega
 conv=>lhs;rw[e]
 rw[q0m _ _ _ _ (by omega)];have h2:(splice (cs.take n) off ds).length=n:=by rw[q1d _ _ _ (by omega),hl]
 rw[yx1 (by omega),yx2 (by omega)]
def z8g(h1:SAT X M ρ s w){l i:Nat}{e ty:Ty}{xs:List e.den}(hl:lk s.H l=some (.sl eid e xs))(he:e.sub p=some ty){v:AV}(hH:confB ty v=true)
  {vc:List Value} (hv:v.rc M ρ vc) (hb:v.bd s.nx) {r:List Prop×AV} (hg:setV e (List.getD xs i e.dflt) p v=some r) (hc:allP r.1) (hi:i<xs.length) {y:e.den}
  (hy:∀ u,r.2.rv M ρ u→∃ cs,Rep M e y cs∧u=e.wrap cs) {adr:Value} (ha:(Leaf.oelt l i p).at ρ=some adr) :
  ∃ ad w',adr=.pointer (some ad)∧(storeCells ad vc).run X.P w=.ok () w'∧SAT X M ρ ⟨s.L,updH s.H l (.sl eid e (xs.set i y)),s.nx⟩ w':=by
 have hB:=x9 h1 hl;simp only[HO.ok] at hB;obtain⟨hC,cs,hh,hj⟩:=hB;rcases hh.2 with⟨_,hn⟩|⟨g,cap,cur,hk,hJ,hD,hE,hK,hF,hL⟩
 ·omega
 ·have hx:=hj.get hi e.dflt;obtain⟨e1,e2,e3,e4⟩:=q9g (n:=s.nx) hg hc hx he hH hv hb;obtain⟨cs',hu,hM⟩:=hy _ (z63 e1 e2);have hP:cs.length=xs.length*e.size:=hj.1;have hN:(i+1)*e.size≤xs.length*e.size:=yy1 _ hi;rw[yy8,Nat.one_mul] at hN;have hQ:xs.length*e.size≤cap*e.size:=yy1 _ hE;simp only[yxr,List.length_drop] at e4;have hw:=k9 e1 e2;have hA:cs'=splice ((cs.drop (i*e.size)).take e.size) (e.off p) vc:=by have k1:=hu.length;have:=congrArg Value.cells hM;rw[y9 hw (q0j e2),y9 k1 hu.one] at this;simpa using this.symm
  subst hA;have hd:=hj.set hu hi;rw[q5p _ _ _ _ _ (by omega) (by omega)] at hd;simp only[Leaf.at,hk,Value.ownBlock,yxn,yya] at ha;refine⟨⟨g,i*e.size+e.off p,none⟩,w.setRow g (splice cur.toList (i*e.size+e.off p) vc).toArray,by rw[← ha,hC],?_,?_⟩
  ·have:=run_storeCells_at X.P g (i*e.size+e.off p) eid vc 0 cur w hD (by rw[hF];omega) (q0j hv);simpa[splice] using this
  ·refine h1.upd hl (by rw[HO.at,hk];exact q0y _ _ _) rfl trivial ?_;simp only[HO.ok];refine⟨hC,_,?_,hd⟩;have hG:(splice cur.toList (i*e.size+e.off p) vc).length=cap*e.size:=by rw[q1d _ _ _ (by simp;omega)];simpa using hF
   have:=q79 (new:=splice cur.toList (i*e.size+e.off p) vc) (size:=e.size) hk hJ hD hE hK hG (by rw[yxr,hG];omega);rw[q77 _ _ _ _ (by omega) (by simp;omega),hL] at this;rw[List.length_set];exact this
def z0u{cells:Array Value}{i off size:Nat}{rest:List (Nat×Value)}(hp:place i=some (off,size))(hs:v.cells.size=size)(ha:off+size≤cells.size) :
  Instr.fill place cells ((i,v)::rest)=Instr.fill place (splice cells.toList off v.cells.toList).toArray rest:=by
 have key:∀ (ds:List Value) (k:Nat) (cs:Array Value),off+k+ds.length≤cs.size →
   (ds.zipIdx k).foldl (fun cs (x:Value×Nat)=>cs.setIfInBounds (off+x.2) x.1) cs=(splice cs.toList (off+k) ds).toArray:=by
  intro ds;induction ds with
  |nil=>intro k cs _;simp[splice]
  |cons d ds ih=>
   intro k cs ha;simp only[List.length_cons] at ha;rw[List.zipIdx_cons,List.foldl_cons,ih (k+1) _ (by simp;omega)];apply Array.ext';simp only[Array.toList_setIfInBounds];generalize hb:cs.toList=l;have hl:off+k+(ds.length+1)≤l.length:=by rw[← hb];simpa using ha
   rw[List.set_eq_take_append_cons_drop,if_pos (by omega)];have h1:(l.take (off+k)).length=off+k:=by simp;omega
   have h2:off+(k+1)=(l.take (off+k)++[d]).length+0:=by simp;omega
   rw[h2,show l.take (off+k)++d::l.drop (off+k+1)=(l.take (off+k)++[d])++l.drop (off+k+1) by simp,e8];simp only[splice,List.take_zero,List.nil_append,yxt,List.drop_drop,List.length_cons,yxl,List.cons_append,List.nil_append];congr 4;omega
 conv=>lhs;unfold Instr.fill
 rw[hp];simp only[hs,ne_eq,not_true_eq_false,decide_false,Bool.false_or,yyu];rw[if_neg (by omega)];congr 1;rw[← Array.foldl_toList];have:=key v.cells.toList 0 cells (by simp;omega);simpa using this
def bldF(st:Nat→Step)(ty:Ty)(L:List (Nat×AV)):AV→List (Nat×Operand)→Option (List Prop×AV)
 |acc,[]=>some ([],acc)
 |acc,(i,o)::ps=>(opd L o).bind fun v=>match ty.sub [st i] with
  |some f=>if confB f v.2 then(setA acc [st i] v.2).bind fun r=>(bldF st ty L r.2 ps).map fun q=>(v.1++(r.1++q.1),q.2) else none
  |none=>none
def evb(T:List (Nat×Ty))(o:Op)(s:S):Option (List Prop×AV):=
 match o with
 |.build t ps=>match lk T t with
  |some (.cons x y)=>bldF .fld (.cons x y) s.L (zav (.cons x y)) ps.toList
  |some (.arr n e)=>if ps.toList.all (fun p=>decide (p.1<n)) then bldF .idx (.arr n e) s.L (zav (.arr n e)) ps.toList else none
  |_=>none
 |o=>evq T o s
def q9o(h2:REG X M ρ s a){st:Nat→Step}{ty:Ty}(hk:∀ i f,ty.sub [st i]=some f→(∃ n e,ty=.arr n e∧n≤i)∨place i=some (ty.off [st i],f.size)) :
  ∀ {ps:List (Nat×Operand)} {acc:AV} {r:List Prop×AV} {cs:List Value},bldF st ty s.L acc ps=some r→allP r.1→confB ty acc=true→acc.rc M ρ cs→acc.bd s.nx→(∀ n e,ty=.arr n e→∀ p∈ps,p.1<n) →
  confB ty r.2=true∧r.2.bd s.nx∧∃ cs',r.2.rc M ρ cs'∧Instr.fill place cs.toArray (ps.map fun p=>(p.1,a.eval p.2))=some cs'.toArray:=by
 intro ps;induction ps with
 |nil=>intro acc r cs h hc hf hr hb _;simp only[bldF,yya] at h;subst h;exact⟨hf,hb,cs,hr,by simp[Instr.fill]⟩
 |cons p ps ih=>
  intro acc r cs h hc hf hr hb hj;obtain⟨i,o⟩:=p;simp only[bldF,yyo] at h;obtain⟨v,hv,h⟩:=h;split at h
  ·rename_i f hd;split at h
   ·rename_i he;simp only[yyo,yym] at h;obtain⟨q,hq,z,hz,rfl⟩:=h;simp only[z7] at hc;have ev:=z5 hv hc.1 h2;obtain⟨vc,hg,hu⟩:=z6z he ev.2;have hh:=k9 he hg;obtain⟨e1,e2,e3,e4⟩:=q9h hq hc.2.1 hf hr hb hd he hg ev.1;obtain⟨k1,k2,cs',k3,k4⟩:=ih hz hc.2.2 e1 e2 e3 (fun n e h p hp=>hj n e h p (yyj _ hp));refine⟨k1,k2,cs',k3,?_⟩;have hp:place i=some (ty.off [st i],f.size):=by
     rcases hk i f hd with⟨n,e,h1,h2⟩|h
     ·have:=hj n e h1 (i,o) (by simp);simp at this;omega
     ·exact h
    have ha:(a.eval o).cells=vc.toArray:=by rw[hu];exact y9 hh (q0j hg)
    rw[yy0,z0u hp (by rw[ha];simpa using hh) (by simpa[hh] using e4),ha];exact k4
   ·cases h
  ·cases h
def z7h:∀ {b:Ty} {r:List Field} {off:Nat},TyOf.fields P b r off→∀ f∈r,∃ t,TyOf P t f.type:=by
 intro b;induction b with
 |cons x y _ ihy=>
  intro r off h f hf;cases r with
  |nil=>simp at hf
  |cons g r=>
   simp only[TyOf.fields] at h;rcases yyk.1 hf with rfl|hf
   ·exact⟨x,h.2.1⟩
   ·exact ihy h.2.2.2 f hf
 |nil=>
  intro r off h f hf;cases r with
  |nil=>simp at hf
  |cons g r=>simp[TyOf.fields] at h
 |_=>intro r off h f hf;simp[TyOf.fields] at h
def q9i{P:Program}(w:World):∀ (l:List Field),(∀ f∈l,∃ t,TyOf P t f.type) →
  (l.mapM (fun f=>do pure (f.offset,← Go.sizeOf f.type):Field→Sem (Nat×Nat))).run P w=.ok (l.map fun f=>(f.offset,P.cellsOf f.type)) w
 |[],_=>rfl
 |f::l,h=>by
  obtain⟨t,ht⟩:=h f (by simp);obtain⟨d,hi,_⟩:=ht.info;have ha:P.cellsOf f.type=t.size:=by have:=hi.size;unfold Program.cellsOf;rw[this];rfl
  have ih:=q9i w l (fun f hf=>h f (yyj _ hf));simp only[List.mapM_cons,yye,hi.run_size,yyb,yyf,ih,yy0,ha]
def q55(hT:TOK X.P X.T){o:Oper}(h:evb X.T o.op s=some r)(hc:allP r.1)(h1:SAT X M ρ s w)(h2:REG X M ρ s a) :
  r.2.bd s.nx∧∃ z,r.2.rv M ρ z∧∀ w',Below w.heap.size w w'→(execOp a.eval o).run X.P w'=.ok (.value z) w':=by
 obtain⟨dst,op,ty,pos,after,guard⟩:=o;simp only at h;unfold evb at h;split at h
 ·rename_i t ps;split at h
  ·rename_i x y he;have ht:=hT _ _ he;obtain⟨d,hi,_⟩:=ht.info;have ha:=ht;simp only[TyOf] at ha;obtain⟨fs,hb,hd⟩:=ha;have hg:∀ i f,(Ty.cons x y).sub [.fld i]=some f→(∃ n e,Ty.cons x y=.arr n e∧n≤i)∨((fs.toList.map fun f=>(f.offset,X.P.cellsOf f.type)).toArray[i]?:Option (Nat×Nat))=some ((Ty.cons x y).off [.fld i],f.size):=by
    intro i f hs;obtain⟨fs',f',e1,e2,e3,e4,e5⟩:=q6y ht hs;rw[hb.under] at e1;injection e1 with e1
    injection e1 with e1;subst e1
    obtain⟨d',hk,_⟩:=e4.info;right;have hu:X.P.cellsOf f'.type=f.size:=by have:=hk.size;unfold Program.cellsOf;rw[this];rfl
    simp[e2,e3,hu]
   obtain⟨k1,k2,cs',k3,k4⟩:=q9o h2 hg h hc (q5a _) (z1e _) (z1f _ _) (fun n e h=>by cases h);refine⟨k2,_,z63 k1 k3,fun w' _=>?_⟩;have hz:((Ty.cons x y).wrap (Ty.cons x y).zc).cells=(Ty.cons x y).zc.toArray:=by simp[Ty.wrap,Ty.agg,Value.cells]
   have hall:∀ f∈fs.toList,∃ t,TyOf X.P t f.type:=by
    cases hl:fs.toList with
    |nil=>rw[hl] at hd;exact hd.elim
    |cons g r=>rw[hl] at hd;exact z7h (b:=.cons x y) (off:=0) (by simp only[TyOf.fields,yxt];exact hd)
   have hh:(fs.mapM (fun f=>do pure (f.offset,← Go.sizeOf f.type):Field→Sem (Nat×Nat))).run X.P w'=.ok (fs.toList.map fun f=>(f.offset,X.P.cellsOf f.type)).toArray w':=by rw[Array.mapM_eq_mapM_toList,Sem.run_map,q9i w' _ hall];rfl
   have hj:(ps.map fun p=>(p.1,a.eval p.2)).toList=ps.toList.map fun p=>(p.1,a.eval p.2):=yxc ..;simp only[execOp,Instr.build,yye,hi.run_zero,yyb,run_underlying hb.under,hz,hh];rw[show(Array.map (fun(x:Nat×Operand)=>match x with|(i,x)=>(i,a.eval x)) ps)=ps.map fun p=>(p.1,a.eval p.2) from rfl,hj];simp only[k4];simp[Ty.wrap,Ty.agg]
  ·rename_i n e he;have ht:=hT _ _ he;obtain⟨d,hi,_⟩:=ht.info;have ha:=ht;simp only[TyOf] at ha;obtain⟨eid,hb,te⟩:=ha;obtain⟨d',hv,_⟩:=te.info;split at h
   ·rename_i hall;have hg:∀ i f,(Ty.arr n e).sub [.idx i]=some f→(∃ n' e',Ty.arr n e=.arr n' e'∧n'≤i)∨(fun i=>some (i*e.size,e.size)) i=some ((Ty.arr n e).off [.idx i],f.size):=by
     intro i f hs;simp only[Ty.sub] at hs;injection hs with hs;subst hs
     right;simp[Ty.off,q1a]
    obtain⟨k1,k2,cs',k3,k4⟩:=q9o h2 hg h hc (q5a _) (z1e _) (z1f _ _) (fun n' e' h p hp=>by
     injection h with h _;subst h
     have:=yyx.1 hall p (by simpa using hp);simpa using this)
    refine⟨k2,_,z63 k1 k3,fun w' _=>?_⟩;have hz:((Ty.arr n e).wrap (Ty.arr n e).zc).cells=(Ty.arr n e).zc.toArray:=by simp[Ty.wrap,Ty.agg,Value.cells]
    have hj:(ps.map fun p=>(p.1,a.eval p.2)).toList=ps.toList.map fun p=>(p.1,a.eval p.2):=yxc ..;simp only[execOp,Instr.build,yye,hi.run_zero,yyb,run_underlying hb.under,hz,hv.run_size];rw[show(Array.map (fun(x:Nat×Operand)=>match x with|(i,x)=>(i,a.eval x)) ps)=ps.map fun p=>(p.1,a.eval p.2) from rfl,hj];simp only[k4];simp[Ty.wrap,Ty.agg]
   ·cases h
  ·cases h
 ·exact q8l hT (o:=⟨dst,_,ty,pos,after,guard⟩) h hc h1 h2
def q44(h1:SAT X M ρ s w){xs:List e.den}{row:Option Nat}(hg:w.grownBy w' row)
  (hd:∀ b,row=some b→X.E.heap.size≤b∧M b=none)
  (he:∀ l o,lk H' l=some o→lk s.H l=some o∧∀ b,o.at ρ l=some b→row≠some b)
  (ha:w'.ownsRow X.E.heap.size eid e.size v xs.length cs) (hj:RL M e xs cs) (hb:∀ b,v.ownBlock=some b→row=some b∨w.heap.size≤b) {r:Result Next} (hh:r=.ok (.value v) w') :
  Did X M ρ s (.lf (.osl s.nx)) ⟨s.L,(s.nx,.sl eid e xs)::H',s.nx+1⟩ r:=by
 refine⟨_,_,_,hh,j8 ρ s.nx 0 e v,yy5 _,rfl,h1.newRow hg hd he ha hj hb,yy2 _,.inl ⟨_,rfl,?_⟩⟩;rw[w9];refine⟨by simp[Leaf.at,Env.with],?_⟩;rcases ha.2 with⟨e1,_⟩|⟨g,cap,cur,e1,_⟩<;>rw[e1]<;>rfl
def q8a(w:World)(base:Nat)(eid:TypeId)(size n:Nat)(cs:List Value)(hb:base≤w.heap.size)(hn:n≤maxLen)(hl:cs.length=n*size) :
  (w.alloc (.cells cs.toArray eid)).ownsRow base eid size (.slice (some ⟨w.heap.size,0,none⟩) n n) n cs:=
 ⟨hl,.inr ⟨w.heap.size,n,_,rfl,hb,heap_alloc_new w _,yyl _,hn,by simpa using hl,by simp[yx2 (Nat.le_of_eq hl)]⟩⟩
def z2h(h2:REG X M ρ s a):∀ {ps:List (Nat×Operand)} {i:Nat} {k:List Prop→List e.den→Option R} {r:R},elemsK e s.L ps i k=some r →
  ∃ cs ys,k cs ys=some r∧ys.length=ps.length∧(allP cs→∃ news,RL M e ys news∧∀ (pre rest:List Value),pre.length=i*e.size→rest.length=ps.length*e.size →
   Instr.fill (fun i=>some (i*e.size,e.size)) (pre++rest).toArray (ps.map fun p=>(p.1,a.eval p.2))=some (pre++news).toArray):=by
 intro ps;induction ps with
 |nil=>intro i k r h;simp only[elemsK] at h;refine⟨[],[],h,rfl,fun _=>⟨[],RL.nil,fun pre rest _ hr=>?_⟩⟩;have:rest=[]:=yxk (by simpa using hr);subst this;simp[Instr.fill]
 |cons p ps ih=>
  intro i k r h;obtain⟨j,o⟩:=p;simp only[elemsK] at h;split at h
  ·rename_i hj;subst hj;simp only[yyo] at h;obtain⟨v,hv,h⟩:=h;obtain⟨x,h,hx⟩:=q9n h;obtain⟨cs,ys,hk,he,hf⟩:=ih h;refine⟨_,_,hk,by simp[he],fun hc=>?_⟩;rw[z7] at hc;obtain⟨news,hg,hd⟩:=hf hc.2;have ev:=z5 hv hc.1 h2;obtain⟨vc,hb,hu⟩:=hx M ρ _ ev.2;have ha:(a.eval o).cells=vc.toArray:=by rw[hu];exact y9 hb.length hb.one
   refine⟨vc++news,(q6i hb).append hg,fun pre rest hp hr=>?_⟩;simp only[List.length_cons,yy8,Nat.one_mul] at hr;rw[yy0,z0u (off:=j*e.size) (size:=e.size) rfl (by rw[ha];simpa using hb.length) (by simp;omega),ha];have hh:splice (pre++rest) (j*e.size) vc=(pre++vc)++rest.drop vc.length:=by rw[← hp,show pre.length=pre.length+0 from rfl,e8];simp[splice]
   show Instr.fill _ (splice (pre++rest) (j*e.size) vc).toArray _=_;rw[hh,hd (pre++vc) (rest.drop vc.length) (by simp[hp,hb.length,yy8]) (by simp[hb.length];omega)];simp
  ·cases h
def q2a(n:Nat)(z:List Value):((Array.range (n*z.length)).map fun i=>z.toArray[i % z.toArray.size]!).toList=(List.replicate n z).flatten:=by
 induction n with
 |zero=>simp
 |succ n ih=>rw[List.replicate_succ',List.flatten_append,← ih];simp only[yxc,Array.toList_range,yy8,Nat.one_mul,List.range_add,yxz,List.map_map];congr 1;simp only[List.flatten_cons,List.flatten_nil,yxj];apply List.ext_getElem (by simp);intro i h1 h2;simp at h1;simp only[List.getElem_map,List.getElem_range,Function.comp,List.size_toArray];rw[Nat.mul_comm n,Nat.mul_add_mod,Nat.mod_eq_of_lt h1];simp[h1]
def q0x(t:Ty):t.zc.length=t.size:=(w7 (fun _=>none) t).length
def zrow(n:Nat)(e:Ty):(Array.range (n*e.size)).map (fun x=>(e.wrap e.zc).cells[x % (e.wrap e.zc).cells.size]!)=(List.replicate n e.zc).flatten.toArray:=by apply Array.ext';have:=q2a n e.zc;rw[q0x] at this;rw[y9 (q0x e) (w7 (fun _=>none) e).one];simpa using this
def z4q(n:Nat)(e:Ty)(h:n*e.size=0):(List.replicate n e.zc).flatten=[]:=by apply yxk;simp[q0x,h]
def q5t(ht:TyOf P (.slice e) t){n:Int}(h0:0≤n)(h1:n≤100000000)(w:World) :
  ∃ eid,P.underlying t=some (.slice eid)∧(Instr.makeSlice t (.int .i64 n) (.int .i64 n)).run P w=.ok (.slice (some ⟨w.heap.size,0,none⟩) n.toNat n.toNat) (w.alloc (.cells (List.replicate n.toNat e.zc).flatten.toArray eid)):=by
 simp only[TyOf] at ht;obtain⟨eid,h,he⟩:=ht;obtain⟨d,hi,_⟩:=he.info;refine⟨eid,h.under,?_⟩;have hb:∃ i,P.info? eid=some i∧i.bytes≤65536∧i.size=e.size:=by
  have:=hi.bytes;have h2:=hi.size;cases hh:P.info? eid with
  |none=>rw[hh] at this;simp at this
  |some i=>rw[hh] at this h2;simp at this h2;exact⟨i,rfl,this,h2⟩
 obtain⟨i,ha,hj,hd⟩:=hb;have hw:IntKind.i64.wrap n=n:=IntWalk.i64_in n ⟨by omega,by omega⟩;have hg:(i.bytes:Int)*n≤65536*100000000:=Int.mul_le_mul (by omega) h1 h0 (by omega);unfold Instr.makeSlice;simp only[yye,run_underlying h.under,yyb,asInt,asIntOf,yyf,typeInfo,run_program,ha,hw];rw[if_neg (by simp;omega)];simp only[yyf,yye,run_askRoom,yyb,Go.sizeOf,typeInfo,run_program,ha,hd,Sem.run_ite,Result.andThen_ite];split
 ·rename_i h0;rw[h0,z4q _ _ h0];simp only[Array.range_zero',Array.map_empty];rfl
 ·rw[hi.run_zero];simp only[yyb];rw[zrow];rfl
def z53(he:TyOf P e eid):∃ i,P.info? eid=some i∧i.zero=some (e.wrap e.zc)∧i.size=e.size∧i.bytes≤65536:=by
 obtain⟨d,hi,_⟩:=he.info;have h1:=hi.zero;have h2:=hi.size;have h3:=hi.bytes;cases hh:P.info? eid with
 |none=>rw[hh] at h1;simp at h1
 |some i=>rw[hh] at h1 h2 h3;simp at h1 h2 h3;exact⟨i,rfl,h1,h2,h3⟩
def q2x(hs:P.underlying t=some (.slice eid))(he:TyOf P e eid)(hh:0<e.size){xs:List Value}(ha:w.ownsRow base eid e.size v n xs)
  {ad:Option Addr} {m cap:Nat} {news:List Value} (hl:news.length=m*e.size) (hb:∀ adr,ad=some adr→∀ j x,news[j]?=some x→w.cell? (adr.add j)=some x) (hj:∀ v∈news,v.oneCell'=true)
  (hd:ad=none→cap=0∧m=0) (hk:n+m≤100000000) (hg:base≤w.heap.size) :
  ∃ v' w',(Builtin.append_ #[t,t] ty #[v,.slice ad m cap]).run P w=.ok v' w'∧w'.ownsRow base eid e.size v' (n+m) (xs++news)∧w.grownBy w' v.ownBlock∧(v'.ownBlock=v.ownBlock∨v'.ownBlock=some w.heap.size):=by
 obtain⟨i,hi,hz,hu,hv⟩:=z53 he;cases ad with
 |none=>obtain⟨rfl,rfl⟩:=hd rfl;have:news=[]:=yxk (by simpa using hl);subst this;exact⟨v,w,run_append_owned_none w base t ty eid i e.size hs hi v n xs ha,by simpa using ha,⟨rfl,rfl,rfl,yyl _,fun _ _ _=>rfl⟩,.inl rfl⟩
 |some adr=>
  have hw:(n+m)*i.bytes≤100000000*65536:=Nat.mul_le_mul hk hv;obtain⟨v',w',r1,r2,r3,_,r5⟩:=run_append_own_at (P:=P) w base t ty eid i (e.wrap e.zc) e.size i.bytes hs hi hz hu rfl
   (by rw[y9 (q0x e) (w7 (fun _=>none) e).one];simpa using q0x e) hh v n xs ha adr m cap news hl (hb adr rfl) hj (by simp only[maxLen];omega) (by omega) hg
  exact⟨v',w',r1,r2,r3,r5⟩
def q8u(hs:P.underlying t=some (.slice eid))(he:TyOf P e eid)(hh:0<e.size){ad0:Option Addr}{olds:List Value}(hg:olds.length=n*e.size)
  (holds:∀ adr,ad0=some adr→∀ j x,olds[j]?=some x→w.cell? (adr.add j)=some x) (hy:ad0=none→n=0)
  {ad:Option Addr} {m cap:Nat} {news:List Value} (hl:news.length=m*e.size) (ha:∀ adr,ad=some adr→∀ j x,news[j]?=some x→w.cell? (adr.add j)=some x) (hj:∀ v∈news,v.oneCell'=true)
  (hb:ad=none→cap=0∧m=0) (hm:0<m) (hu:n+m≤100000000) (hd:base≤w.heap.size) :
  ∃ v' w',(Builtin.append_ #[t,t] ty #[.slice ad0 n n,.slice ad m cap]).run P w=.ok v' w'∧w'.ownsRow base eid e.size v' (n+m) (olds++news)∧w.grownBy w' none∧v'.ownBlock=some w.heap.size:=by
 cases ad0 with
 |none=>
  obtain rfl:=hy rfl;have:olds=[]:=yxk (by simpa using hg);subst this;obtain⟨v',w',r1,r2,r3,r4⟩:=q2x (ty:=ty) hs he hh (World.ownsRow_nil w base eid e.size) hl ha hj hb hu hd;refine⟨v',w',r1,r2,r3,?_⟩;rcases r4 with r4|r4
  ·exfalso;rcases r2.2 with⟨_,h0⟩|⟨g,cap,cur,e1,_⟩
   ·omega
   ·rw[e1] at r4;simp[Value.ownBlock] at r4
  ·exact r4
 |some adr0=>
  obtain⟨i,hi,hz,hv,hA⟩:=z53 he;cases ad with
  |none=>have:=(hb rfl).2;omega
  |some adr=>
   have hD:(n+m)*i.bytes≤100000000*65536:=Nat.mul_le_mul hu hA;have hB:(e.wrap e.zc).cells.size=e.size:=by rw[y9 (q0x e) (w7 (fun _=>none) e).one];simpa using q0x e
   have hr:=run_append_grow (P:=P) w t ty eid i (e.wrap e.zc) hs hi hz adr0 n n olds (by rw[hv];exact hg) (holds adr0 rfl) adr m cap news (by rw[hv];exact hl) (ha adr rfl) (by omega) (by omega) (growslice_fits (by omega) (by omega));have hge:=grownCap_ge w (n+m) n eid;have hC:=grownCap_le_maxLen w (n+m) n eid (by simp only[maxLen];omega);have hw:(olds++news).length=(n+m)*e.size:=by rw[yyz,hg,hl,yy8]
   refine⟨_,_,hr,⟨hw,.inr ⟨w.heap.size,_,_,rfl,hd,heap_alloc_new w.drew _,hge,hC,?_,?_⟩⟩,⟨rfl,rfl,rfl,by simp,fun k hk _=>heap_alloc_old w.drew _ hk⟩,rfl⟩
   ·simp only[Array.size_append,List.size_toArray,size_zeroCells,hB,hg,hl,← yy8];congr 1;omega
   ·simp only[Array.toList_append,yxl];rw[← yxl,← hw];exact List.take_left
variable{s':S}
def z2p(hT:TOK X.P X.T)(hE:EOK X.P X.ET){dst:Option Tmp}{pos:String}{after:Array Edge}{guard:Option (Nat×Bool)}{b x:Operand}{t t':TypeId}{cs:List Prop}{v:AV}
  (h:evm X.T X.ET (.call {callee:=.builtin .append,args:=⟨[b,x]⟩,argTypes:=⟨[t,t']⟩}) s=some (cs,v,s')) (hc:allP cs) (h1:SAT X M ρ s w) (h2:REG X M ρ s a) :
  Did X M ρ s v s' ((execOp a.eval {dst,op:=.call {callee:=.builtin .append,args:=⟨[b,x]⟩,argTypes:=⟨[t,t']⟩},type:=ty,pos,after,guard}).run X.P w):=by
 simp only[evm,yyo] at h;obtain⟨u,hu,y,hy,h⟩:=h;split at h
 ·rename_i e eid hP hQ;split at h
  ·rename_i hR;obtain⟨rfl,hd⟩:=hR;have ht:=hT _ _ hP;simp only[TyOf] at ht;obtain⟨eid',hs,he⟩:=ht;have:eid'=eid:=by have e1:=hE _ _ hQ;rw[hs.under] at e1;injection e1 with e1;injection e1
   subst this;have ops:allP u.1→allP y.1→(u.2.bd s.nx∧u.2.rv M ρ (a.eval b))∧y.2.bd s.nx∧y.2.rv M ρ (a.eval x):=fun k1 k2=>⟨z5 hu k1 h2,z5 hy k2 h2⟩;have ha:∀ v' w',(Builtin.append_ #[t',t'] ty #[a.eval b,a.eval x]).run X.P w=.ok v' w' →
     (execOp a.eval {dst,op:=.call {callee:=.builtin .append,args:=⟨[b,x]⟩,argTypes:=⟨[t',t']⟩},type:=ty,pos,after,guard}).run X.P w=.ok (.value v') w':=by
    intro v' w' hr;simp only[execOp,resolve,invoke,builtin,yye,yyf,yyb,List.map_toArray,yy0,List.map_nil,hr]
   have hC:=h1.below.size;have src:∀ {R:Type} {k:List Prop→List e.den→Option R} {r:R},srcK e s.H y.2 k=some r→∃ cs ys,k cs ys=some r∧(allP y.1→allP cs→∃ ad cap news,a.eval x=.slice ad (List.length ys) cap∧RL M e ys news ∧
     (∀ adr,ad=some adr→∀ j z,news[j]?=some z→w.cell? (adr.add j)=some z)∧(ad=none→cap=0∧ys=[])):=by
    intro R k r hk;by_cases hK:allP y.1
    ·obtain⟨cs,ys,e1,e2⟩:=q3r h1 hk (z5 hy hK h2).2;exact⟨cs,ys,e1,fun _=>e2⟩
    ·
     have:∃ cs ys,k cs ys=some r:=by
      unfold srcK at hk;split at hk
      ·obtain⟨_,h⟩:=v4 hk;exact⟨_,_,h⟩
      ·obtain⟨_,h⟩:=v4 hk;exact⟨_,_,h⟩
      ·exact⟨_,_,hk⟩
      ·split at hk
       ·obtain⟨_,h⟩:=v4 hk;exact⟨_,_,h⟩
       ·cases hk
      ·split at hk
       ·obtain⟨_,h⟩:=v4 hk;exact⟨_,_,h⟩
       ·cases hk
      ·cases hk
     obtain⟨cs,ys,e1⟩:=this;exact⟨cs,ys,e1,fun h=>absurd h hK⟩
   obtain⟨cs',ys,h,hg⟩:=src h;split at h
   ·
    rename_i hh;simp only[yya,yyn] at h;obtain⟨rfl,rfl,rfl⟩:=h;simp only[z7,allP] at hc;obtain⟨eu,ey⟩:=ops hc.1 hc.2.1;rw[hh,w9] at eu;simp only[Leaf.at,yya] at eu;obtain⟨ad,cap,news,k1,k2,k3,k4⟩:=hg hc.2.1 hc.2.2.1;obtain⟨v',w',r1,r2,r3,r4⟩:=q2x (ty:=ty) hs.under he hd (World.ownsRow_nil w X.E.heap.size eid' e.size) k2.1 k3 k2.one (fun h=>⟨(k4 h).1,by rw[(k4 h).2];rfl⟩) (by simpa using hc.2.2.2) hC;rw[yxt] at r2;refine q44 h1 r3 (fun b hb=>by simp[Value.ownBlock] at hb) (fun l o hl=>⟨hl,fun b _=>by simp[Value.ownBlock]⟩) r2 (by simpa using k2) ?_ (ha _ _ (by rw[← eu.2.1,k1];exact r1));intro b hb;rcases r4 with r4|r4
    ·rw[hb] at r4;simp[Value.ownBlock] at r4
    ·rw[hb] at r4;injection r4 with r4;exact .inr (by omega)
   ·rename_i l hh;split at h
    ·rename_i eid2 e2 xs hl;split at h
     ·rename_i hD;subst hD;obtain⟨e3,h⟩:=v4 h;injection e3 with e3;subst e3
      simp only[yya,yyn] at h;obtain⟨rfl,rfl,rfl⟩:=h;simp only[z7,allP] at hc;obtain⟨eu,ey⟩:=ops hc.1 hc.2.1;rw[hh,w9] at eu;simp only[Leaf.at,yya] at eu;obtain⟨ad,cap,news,k1,k2,k3,k4⟩:=hg hc.2.1 hc.2.2.1;have hw:=x9 h1 hl;simp only[HO.ok] at hw;obtain⟨_,cs0,hj,hF⟩:=hw;obtain⟨v',w',r1,r2,r3,r4⟩:=q2x (ty:=ty) hs.under he hd hj k2.1 k3 k2.one (fun h=>⟨(k4 h).1,by rw[(k4 h).2];rfl⟩) (by exact hc.2.2.2) hC;have hL:(HO.sl eid2 e2 xs).at ρ l=(ρ.sv l).ownBlock:=rfl;refine q44 (xs:=xs++ys) h1 r3 (fun b hb=>h1.row hl b (by rw[hL];exact hb)) ?_ (by rw[yyz];exact r2) (hF.append k2) ?_ (ha _ _ (by rw[← eu.2.1,k1];exact r1))
      ·intro m o hm;rw[q5z] at hm;split at hm
       ·cases hm
       ·rename_i hU;exact⟨hm,fun b hb hr=>hU (h1.apart l m _ o b hl hm (by rw[hL];exact hr) hb)⟩
      ·intro b hb;rcases r4 with r4|r4
       ·exact .inl (by rw[← r4];exact hb)
       ·rw[hb] at r4;injection r4 with r4;exact .inr (by omega)
     ·cases h
    ·cases h
   ·
    rename_i l hi hh;split at h
    ·rename_i eid2 e2 xs hl;split at h
     ·rename_i hD;subst hD;obtain⟨e3,h⟩:=v4 h;injection e3 with e3;subst e3
      simp only[yya,yyn] at h;obtain⟨rfl,rfl,rfl⟩:=h;simp only[z7,allP] at hc;obtain⟨eu,ey⟩:=ops hc.1 hc.2.1;rw[hh,w9] at eu;simp only[Leaf.at,yya] at eu;obtain⟨ad,cap,news,k1,k2,k3,k4⟩:=hg hc.2.1 hc.2.2.1;have h9:hi≤List.length xs:=hc.2.2.2.1;have hM:List.length xs+ys.length≤100000000:=hc.2.2.2.2.1;have hG:0<ys.length:=hc.2.2.2.2.2;have hw:=x9 h1 hl;simp only[HO.ok] at hw;obtain⟨hW,cs0,hj,hF⟩:=hw;have hA:∃ ad0,a.eval b=.slice ad0 hi hi∧(ad0=none→hi=0)∧∀ adr,ad0=some adr→∀ j z,(cs0.take (hi*e2.size))[j]?=some z→w.cell? (adr.add j)=some z:=by
       rcases hj.2 with⟨e1,hn⟩|⟨g,cap,cur,hY,Ha,hZ,Hb,Hc,Hd,h0⟩
       ·have:hi=0:=by omega
        subst this;exact⟨none,by rw[← eu.2.1];simp[sview,e1],fun _=>rfl,fun adr h=>by cases h⟩
       ·refine⟨some ⟨g,0,none⟩,?_,fun h=>by(cases h),?_⟩
        ·rw[← eu.2.1];simp[sview,hY,Addr.add]
        ·intro adr hv j z hz;injection hv with hv;subst hv
         rw[j4,u6 hZ,yxt];rw[yxm] at hz;split at hz
         ·rw[← h0,yxm] at hz;split at hz
          ·simpa using hz
          ·cases hz
         ·cases hz
      obtain⟨ad0,h3,h4,h5⟩:=hA;have hN:=hF.take hi;have hB:(List.take hi xs).length=hi:=by rw[yxr];omega
      obtain⟨v',w',r1,r2,r3,r4⟩:=q8u (ty:=ty) (base:=X.E.heap.size) hs.under he hd (by have:=hN.1;rw[hB] at this;exact this) h5 h4 k2.1 k3 k2.one (fun h=>⟨(k4 h).1,by rw[(k4 h).2];rfl⟩) hG (by omega) hC;refine q44 (xs:=List.take hi xs++ys) h1 r3 (fun b hb=>by cases hb) (fun l o hl=>⟨hl,fun b _=>by simp⟩) (by rw[yyz,hB];exact r2) (hN.append k2) ?_ (ha _ _ (by rw[h3,k1];exact r1));intro b hb;rw[hb] at r4;injection r4 with r4;exact .inr (by omega)
     ·cases h
    ·cases h
   ·
    rename_i e2 l hh;obtain⟨e3,h⟩:=v4 h;injection e3 with e3;subst e3
    simp only[yya,yyn] at h;obtain⟨rfl,rfl,rfl⟩:=h;simp only[z7,allP] at hc;obtain⟨eu,ey⟩:=ops hc.1 hc.2.1;rw[hh] at eu;have eu2:=eu.2;simp only[AV.rv] at eu2;obtain⟨cs1,ad1,h6,hH,h7⟩:=eu2;obtain⟨ad,cap,news,k1,k2,k3,k4⟩:=hg hc.2.1 hc.2.2.1;have hM:List.length l+ys.length≤100000000:=hc.2.2.2.1;have hG:0<ys.length:=hc.2.2.2.2;obtain⟨cs2,ys2,j1,j2⟩:=q3r h1 (e:=e2) (v:=.val (.slice e2) l) (k:=fun cs xs=>some (cs,xs)) (r:=([],l)) (by simp[srcK,castK]) (u:=a.eval b) (by simp only[AV.rv];exact⟨cs1,h6,by rw[hH];rfl⟩);simp only[yya,yyn] at j1;obtain⟨j1a,j1b⟩:=j1;have j1a:=j1a.symm;have j1b:=j1b.symm;subst j1a j1b;obtain⟨ad2,cap2,olds,m1,m2,m3,m4⟩:=j2 trivial;have hJ:cap2=List.length l∧ad2=ad1:=by rw[h7] at m1;injection m1 with m0 _ m1;exact⟨m1.symm,m0.symm⟩
    obtain⟨v',w',r1,r2,r3,r4⟩:=q8u (ty:=ty) (base:=X.E.heap.size) hs.under he hd m2.1 m3 (fun h=>by rw[(m4 h).2];rfl) k2.1 k3 k2.one (fun h=>⟨(k4 h).1,by rw[(k4 h).2];rfl⟩) hG hM hC;refine q44 (xs:=l++ys) h1 r3 (fun b hb=>by cases hb) (fun l o hl=>⟨hl,fun b _=>by simp⟩) (by rw[yyz];exact r2) (m2.append k2) ?_ (ha _ _ (by rw[m1,k1,hJ.1];exact r1));intro b hb;rw[hb] at r4;injection r4 with r4;exact .inr (by omega)
   ·cases h
  ·cases h
 ·cases h
def z40{t t2 ty eid:TypeId}(hs:P.underlying t=some (.slice eid))(he:TyOf P e eid){base ad:Option Addr}{n c0 c:Nat}{news:List Value}
  (hl:(Builtin.firstCells e.size n (.slice ad n c)).run P w=.ok news.toArray w) (hst:match base with|some adr=>(storeCells adr news).run P w=.ok () w'|none=>w'=w) :
  (Builtin.copy_ #[t,t2] ty #[.slice base n c0,.slice ad n c]).run P w=.ok (.int .i64 n) w':=by
 obtain⟨d,hi,_⟩:=he.info;cases base with
 |none=>simp only at hst;subst hst;simp[Builtin.copy_,run_underlying hs,Builtin.lenOf,hi.run_size,goInt,hl]
 |some adr=>simp only at hst;simp[Builtin.copy_,run_underlying hs,Builtin.lenOf,hi.run_size,goInt,hl,hst]
def j09(hT:TOK X.P X.T)(hE:EOK X.P X.ET){o:Oper}{cs:List Prop}{v:AV}(h:evm X.T X.ET o.op s=some (cs,v,s'))(hc:allP cs)(h1:SAT X M ρ s w)(h2:REG X M ρ s a) :
  Did X M ρ s v s' ((execOp a.eval o).run X.P w):=by
 obtain⟨dst,op,ty,pos,after,guard⟩:=o;simp only at h;unfold evm at h;split at h
 ·
  split at h
  ·rename_i t _ ty hg;simp only[yya,yyn] at h;obtain⟨rfl,rfl,rfl⟩:=h;obtain⟨d,hi,_⟩:=(hT _ _ hg).info;refine z02 (id:=t) h1 (q5a ty) (z1f _ ty) (z1e ty) ?_;simp only[execOp,Instr.alloc,yye,hi.run_zero,yyb,newVar,newRow,run_newObj,yyf,y9 (q0x ty) (w7 M ty).one];rfl
  ·cases h
 ·
  simp only[yyo] at h;obtain⟨x,hx,h⟩:=h;split at h
  ·rename_i t _ _ ty hg;split at h
   ·rename_i hh;simp only[yya,yyn] at h;obtain⟨rfl,rfl,rfl⟩:=h;have ex:=z5 hx hc h2;obtain⟨vc,hj,hu⟩:=z6z hh ex.2;refine z02 (id:=t) h1 hh ex.1 hj ?_;simp only[execOp,Instr.box,yye,newVar,newRow,run_newObj,yyb,yyf,hu,y9 (k9 hh hj) (q0j hj)];rfl
   ·cases h
  ·cases h
 ·
  simp only[yyo] at h;obtain⟨q,hq,v',hR,h⟩:=h;split at h
  ·rename_i t p0 x0 _ _ ty l p hg hJ;split at h
   ·rename_i t0 a0 hl;split at h
    ·rename_i hv;split at h
     ·rename_i hh;simp only[yym,yyn] at h;obtain⟨r,hr,rfl,rfl,rfl⟩:=h;simp only[z7] at hc;have eq:=z5 hq hc.1 h2;have ev:=z5 hR hc.2.1 h2;obtain⟨vc,hj,hu⟩:=z6z hh ev.2;rw[hJ,w9] at eq;simp only[Leaf.at,yya] at eq;obtain⟨w',ha,hw⟩:=q9f h1 hl hv hh ev.1 hj hr hc.2.2;refine⟨ρ,w',.skip,?_,Env.upTo.refl _ _,yyl _,rfl,hw,trivial,.inr ⟨rfl,rfl⟩⟩;simp only[execOp,Instr.storeAt,yye,← eq.2.1,Instr.sureAddr,yyf,yyb,hu,q69 (hT _ _ hg) (k9 hh hj) (q0j hj),ha]
     ·cases h
    ·cases h
   ·cases h
  ·rename_i t p0 x0 _ _ ty l i p hg hJ;split at h
   ·rename_i eid e xs hl;split at h
    ·rename_i hv;split at h
     ·rename_i hh;simp only[yyo] at h;obtain⟨r,hr,h⟩:=h;obtain⟨y,h,hy⟩:=q9n h;simp only[yya,yyn] at h;obtain⟨rfl,rfl,rfl⟩:=h;simp only[z7,q2j] at hc;have eq:=z5 hq hc.1 h2;have ev:=z5 hR hc.2.1 h2;obtain⟨vc,hj,hu⟩:=z6z hh ev.2;rw[hJ,w9] at eq;obtain⟨ad,w',h4,ha,hw⟩:=z8g h1 hl hv hh hj ev.1 hr hc.2.2.2 hc.2.2.1 (hy M ρ) eq.2.1;refine⟨ρ,w',.skip,?_,Env.upTo.refl _ _,yyl _,rfl,hw,trivial,.inr ⟨rfl,rfl⟩⟩;simp only[execOp,Instr.storeAt,yye,h4,Instr.sureAddr,yyf,yyb,hu,q69 (hT _ _ hg) (k9 hh hj) (q0j hj),ha]
     ·cases h
    ·cases h
   ·cases h
  ·cases h
 ·
  split at h
  ·rename_i t n ps _ _ e eid hg hK;split at h
   ·rename_i hn;obtain⟨cs',ys,hk,hd,hf⟩:=z2h h2 h;simp only[yya,yyn] at hk;obtain⟨rfl,rfl,rfl⟩:=hk;obtain⟨news,hA,hD⟩:=hf hc;have ht:=hT _ _ hg;simp only[TyOf] at ht;obtain⟨eid',hs,he⟩:=ht;have:eid'=eid:=by have e1:=hE _ _ hK;rw[hs.under] at e1;injection e1 with e1;injection e1
    subst this;obtain⟨d,hi,_⟩:=he.info;have hH:ps.toList.length=n:=by simpa using hn.1
    have hF:news.length=n*e.size:=by rw[hA.1,hd,hH]
    refine q44 (eid:=eid') (e:=e) h1 (World.grownBy_alloc w (.cells news.toArray eid') none) (fun b hb=>by cases hb) (fun l o hl=>⟨hl,fun b _=>by simp⟩)
     (q8a w _ eid' e.size ys.length news h1.below.size (by simp only[maxLen];rw[hd,hH];omega) hA.1) hA (fun b hb=>.inr (by simp[Value.ownBlock] at hb;omega)) ?_
    have hf:=hD [] (List.replicate n e.zc).flatten (by simp) (by simp[q0x,hH]);rw[List.nil_append,List.nil_append] at hf;have h5:(ps.map fun p=>(p.1,a.eval p.2)).toList=ps.toList.map fun p=>(p.1,a.eval p.2):=yxc ..;have h6:ys.length=n:=by rw[hd,hH]
    simp only[execOp,Instr.buildSlice,yye,run_underlying hs.under,yyb,hi.run_size];rw[if_neg (by omega),show(Array.map (fun(x:Nat×Operand)=>match x with|(i,x)=>(i,a.eval x)) ps)=ps.map fun p=>(p.1,a.eval p.2) from rfl,h5,h6];split
    ·rename_i h0;rw[z4q _ _ h0] at hf;simp only[yyf,yyb,h0,Array.range_zero',Array.map_empty,hf];rfl
    ·simp only[yye,hi.run_zero,yyb,yyf,zrow,hf];rfl
   ·cases h
  ·cases h
 ·
  simp only[yyo] at h;obtain⟨x,hx,y,hy,h⟩:=h;split at h
  ·rename_i t l c _ _ _ _ e eid n m hg hK h7 h9;simp only[yya,yyn] at h;obtain⟨rfl,rfl,rfl⟩:=h;change Int at n m;simp only[z7,lohiC,allP] at hc;have ex:=z5 hx hc.1 h2;have ey:=z5 hy hc.2.1.1 h2;rw[h7,w6] at ex;rw[h9,w6] at ey;have Ha:m=n:=hc.2.2;have Hb:0≤n:=hc.2.1.2.1;have Hc:n≤100000000:=by have:=hc.2.1.2;omega
   subst Ha;have ht:=hT _ _ hg;obtain⟨eid',hu,ha⟩:=q5t ht Hb Hc w;have:eid'=eid:=by have e1:=hE _ _ hK;rw[hu] at e1;injection e1 with e1;injection e1
   subst this;have hA:RL M e (List.replicate m.toNat e.dflt) (List.replicate m.toNat e.zc).flatten:=RL.replicate (w7 M e) _;have hl:(List.replicate m.toNat e.zc).flatten.length=m.toNat*e.size:=by have:=hA.1;simpa using this
   refine q44 (eid:=eid') (e:=e) h1 (World.grownBy_alloc w (.cells (List.replicate m.toNat e.zc).flatten.toArray eid') none) (fun b hb=>by cases hb) (fun l o hl=>⟨hl,fun b _=>by simp⟩)
    (v:=.slice (some ⟨w.heap.size,0,none⟩) m.toNat m.toNat) (by rw[List.length_replicate];exact q8a w _ eid' e.size m.toNat _ h1.below.size (by simp only[maxLen];omega) hl) hA (fun b hb=>.inr (by simp[Value.ownBlock] at hb;omega)) ?_
   simp only[execOp,ex.2,ey.2,yye,ha,yyb,yyf]
  ·cases h
 ·exact z2p hT hE h hc h1 h2
 ·
  simp only[yyo] at h;obtain⟨u,hu,y,hy,h⟩:=h;split at h
  ·rename_i b x t t2 _ _ e l hg hL;split at h
   ·rename_i eid e2 xs hl;split at h
    ·rename_i Hd;subst Hd;have He:allP y.1:=by
      unfold srcK at h;split at h
      all_goals first|(obtain⟨_,h⟩:=v4 h;simp only[yya,yyn] at h;obtain⟨rfl,_⟩:=h;simp only[z7] at hc;exact hc.2.1)|(simp only[yya,yyn] at h;obtain⟨rfl,_⟩:=h;simp only[z7] at hc;exact hc.2.1)|(split at h<;>first|(obtain⟨_,h⟩:=v4 h;simp only[yya,yyn] at h;obtain⟨rfl,_⟩:=h;simp only[z7] at hc;exact hc.2.1)|cases h)|cases h
     have ey:=z5 hy He h2;obtain⟨cs',ys,h,hM⟩:=q3r h1 h ey.2;simp only[yya,yyn] at h;obtain⟨rfl,rfl,rfl⟩:=h;simp only[z7,allP] at hc;have eu:=z5 hu hc.1 h2;rw[hL,w9] at eu;simp only[Leaf.at,yya] at eu;obtain⟨ad,cap,news,k1,k2,k3,k4⟩:=hM hc.2.2.1;have hd:ys.length=List.length xs:=hc.2.2.2;have hU:=x9 h1 hl;simp only[HO.ok] at hU;obtain⟨hG,cs0,hN,hA⟩:=hU;have ht:=hT _ _ hg;simp only[TyOf] at ht;obtain⟨eid',hs,he⟩:=ht;obtain⟨d,hi,_⟩:=he.info;have hF:news.length=ys.length*e2.size:=k2.1;have hB:(Builtin.firstCells e2.size ys.length (.slice ad ys.length cap)).run X.P w=.ok news.toArray w:=by
      cases ad with
      |none=>have:ys=[]:=(k4 rfl).2;subst this;have:news=[]:=yxk (by simpa using hF);subst this;simp[Builtin.firstCells]
      |some adr=>have:=run_loadCells_list (P:=X.P) w adr news (k3 adr rfl);rw[hF] at this;simpa[Builtin.firstCells] using this
     have hC:∀ v' w',(Builtin.copy_ #[t,t2] ty #[a.eval b,a.eval x]).run X.P w=.ok v' w' →
       (execOp a.eval {dst,op:=.call {callee:=.builtin .copy,args:=⟨[b,x]⟩,argTypes:=⟨[t,t2]⟩},type:=ty,pos,after,guard}).run X.P w=.ok (.value v') w':=by
      intro v' w' hr;simp only[execOp,resolve,invoke,builtin,yye,yyf,yyb,List.map_toArray,yy0,List.map_nil,hr]
     rcases hN.2 with⟨e1,hn⟩|⟨g,cap2,cur,hP,Hf,hW,hY,Hh,hZ,Hj⟩
     ·have hQ:ys.length=0:=by omega
      refine⟨ρ,w,.value (.int .i64 ys.length),?_,Env.upTo.refl _ _,yyl _,rfl,?_,trivial,.inl ⟨_,rfl,w6.2 rfl⟩⟩
      ·refine hC _ _ ?_;have:=z40 (P:=X.P) (t:=t) (t2:=t2) (ty:=ty) (base:=none) (ad:=ad) (n:=ys.length) (c0:=0) (c:=cap) (news:=news) (w':=w) hs.under he hB rfl;rw[← eu.2.1,e1,k1];rw[hQ] at this ⊢;exact this
      ·refine h1.upd hl ⟨rfl,rfl,rfl,yyl _,fun _ _ _=>rfl⟩ rfl trivial ?_;simp only[HO.ok];refine⟨hG,news,?_,k2⟩;have:news=[]:=yxk (by rw[hF,hQ];simp);rw[e1,this,hQ];exact World.ownsRow_nil w _ eid e2.size
     ·have Hk:List.length xs*e2.size≤cap2*e2.size:=yy1 _ hY;rw[hd] at hF;have hst:=run_storeCells_at X.P g 0 eid news 0 cur w hW (by rw[hZ];omega) k2.one;refine⟨ρ,w.setRow g (splice cur.toList 0 news).toArray,.value (.int .i64 ys.length),?_,Env.upTo.refl _ _,yyl _,rfl,?_,trivial,.inl ⟨_,rfl,w6.2 rfl⟩⟩
      ·refine hC _ _ ?_;rw[← eu.2.1,hP,k1,← hd];exact z40 (n:=ys.length) hs.under he hB (by simpa[splice] using hst)
      ·refine h1.upd hl (by rw[HO.at,hP];exact q0y _ _ _) rfl trivial ?_;simp only[HO.ok];refine⟨hG,news,?_,k2⟩;have h3:(splice cur.toList 0 news).length=cap2*e2.size:=by rw[q1d _ _ _ (by simp;omega)];simpa using hZ
       have:=q79 (new:=splice cur.toList 0 news) (size:=e2.size) hP Hf hW hY Hh h3 (by rw[yxr,h3];omega);have e5:splice (List.take (xs.length*e2.size) cur.toList) 0 news=news:=q3s _ _ (by simp;omega);rw[q77 _ _ _ _ (by omega) (by simp;omega),e5] at this;rw[hd];exact this
    ·cases h
   ·cases h
  ·cases h
 ·
  simp only[yyo] at h;obtain⟨u,hu,h⟩:=h;split at h
  ·rename_i x t _ _ e l p n cp hg hL;split at h
   ·rename_i t0 a0 hl;split at h
    ·rename_i hv;simp only[yym,yyn] at h;obtain⟨r,hr,rfl,rfl,rfl⟩:=h;rw[z7] at hc;have eu:=z5 hu hc.1 h2;rw[hL,w9] at eu;simp only[Leaf.at,yya] at eu;have hA:RL M e (List.replicate n e.dflt) (List.replicate n e.zc).flatten:=RL.replicate (w7 M e) _;obtain⟨w',ha,hw⟩:=q9f h1 hl hv (v:=.val (.arr n e) (List.replicate n e.dflt)) (by simp[confB]) trivial (vc:=(List.replicate n e.zc).flatten)
      (by simp only[AV.rc];rw[q16];exact⟨by simp,hA⟩) hr hc.2
     have ht:=hT _ _ hg;simp only[TyOf] at ht;obtain⟨eid,hs,he⟩:=ht;obtain⟨d,hi,_⟩:=he.info;have hz:(Builtin.zeroCells (e.wrap e.zc).cells n).toList=(List.replicate n e.zc).flatten:=by rw[y9 (q0x e) (w7 (fun _=>none) e).one];unfold Builtin.zeroCells;exact q2a n e.zc
     refine⟨ρ,w',.value (.tuple #[]),?_,Env.upTo.refl _ _,yyl _,rfl,hw,trivial,.inl ⟨_,rfl,by simp only[AV.rv];rfl⟩⟩;have Hi:(Builtin.clear_ #[t] ty #[.slice (some ⟨ρ.blk l,(ρ.ty l).off p,none⟩) n cp]).run X.P w=.ok (.tuple #[]) w':=by
      cases n with
      |zero=>simp only[List.replicate_zero,List.flatten_nil,storeCells,yyf,Result.ok.injEq,true_and] at ha;subst ha;simp[Builtin.clear_,run_underlying hs.under]
      |succ n=>simp[Builtin.clear_,run_underlying hs.under,hi.run_zero,hz,ha]
     simp only[execOp,resolve,invoke,builtin,yye,yyf,yyb,List.map_toArray,yy0,List.map_nil,← eu.2.1,Hi]
    ·cases h
   ·cases h
  ·cases h
 ·cases h
def toK{R:Type}(H:List (Nat×HO)):Nat→(t:Ty)→AV→(List Prop→t.den→Option R)→Option R
 |0,_,_,_=>none
 |n+1,t,v,k=>
  match v,t,k with
  |.val t' y,t,k=>castK t' t y fun y=>k [] y
  |.full e l,t,k=>castK (.slice e) t l fun y=>k [] y
  |.lf .nils,.slice _,k=>k [] []
  |.lf .nilp,.ptr _,k=>k [] none
  |.lf (.osl l),t,k=>match lk H l with
   |some (.sl _ e xs)=>castK (.slice e) t xs fun y=>k [] y
   |_=>none
  |.lf (.ovw l lo hi _),t,k=>match lk H l with
   |some (.sl _ e xs)=>castK (.slice e) t (List.drop lo (List.take hi xs)) fun y=>k [hi≤xs.length] y
   |_=>none
  |.lf (.optr l p),.ptr e,k=>match lk H l with
   |some (.cell t0 a0)=>match getT t0 a0 p with
    |some (c,a')=>if confB e a' then toK H n e a' fun cs y=>k (c++cs) (some y) else none
    |none=>none
   |_=>none
  |.lf (.oarr l p n c),t,k=>match lk H l with
   |some (.cell t0 a0)=>match getT t0 a0 p with
    |some (cs,.val (.arr m e) y)=>if c≤maxLen then castK (.slice e) t (List.take n y) fun y=>k (cs++[n≤m,n≤c]) y else none
    |_=>none
   |_=>none
  |.mix x y,.cons tx ty,k=>toK H n tx x fun c1 x=>toK H n ty y fun c2 y=>k (c1++c2) (x,y)
  |_,_,_=>none
structure Seen(ρ:Env)(s:S)(M Mx:Mem)(w:World):Prop where
 le:M.le Mx
 own:∀ l o b,lk s.H l=some o→o.at ρ l=some b→Mx b=w.heap[b]?
def q1o(h1:SAT X M ρ s w){Mx:Mem}(hx:Seen ρ s M Mx w):∀ (n:Nat) {t:Ty} {v:AV} {k:List Prop→t.den→Option R} {r:R},toK s.H n t v k=some r →
  ∃ cs y,k cs y=some r∧(allP cs→(∀ u,v.rv M ρ u→∃ vc,Rep Mx t y vc∧u=t.wrap vc)∧(∀ vc,v.rc M ρ vc→Rep Mx t y vc)):=by
 intro n;induction n with
 |zero=>intro t v k r h;simp[toK] at h
 |succ n ih=>
  intro t v k r h;have row:∀ {l:Nat} {eid:TypeId} {e:Ty} {xs:List e.den},lk s.H l=some (.sl eid e xs)→∀ lo hi full,hi≤xs.length→Rep Mx (.slice e) ((xs.take hi).drop lo) [sview (ρ.sv l) e.size lo hi full]:=by
   intro l eid e xs hl lo hi full hT;have hb:=x9 h1 hl;simp only[HO.ok] at hb;obtain⟨hA,cs,he,hB⟩:=hb;have hv:((xs.take hi).drop lo).length=hi-lo:=by simp;omega
   simp only[Rep];rcases he.2 with⟨e1,hn⟩|⟨g,cap,cur,hj,hU,hK,hW,hY,hZ,hL⟩
   ·have:hi=0:=by omega
    subst this;refine⟨none,0,?_,by omega,by simp[maxLen],fun _=>rfl,.inl (by omega)⟩;rw[hv];simp[sview,e1]
   ·have hM:hi≤(if full=true then hi else cap)∧(if full=true then hi else cap)≤cap:=by split<;>omega
    have e9:sview (ρ.sv l) e.size lo hi full=.slice (if (if full=true then hi else cap)=lo then some ⟨g,0,none⟩ else(some (⟨g,0,none⟩:Addr)).map (·.add (lo*e.size))) (hi-lo) ((if full=true then hi else cap)-lo):=by simp only[sview,hj]
    rw[e9];generalize (if full=true then hi else cap)=m at hM;refine⟨_,_,by rw[hv],by omega,by omega,fun h=>(by split at h<;>cases h),?_⟩;by_cases h0:hi-lo=0
    ·exact .inl (by omega)
    ·right;refine⟨g,lo*e.size,cur,eid,(0,0),?_,?_,fun i h2=>?_⟩
     ·rw[if_neg (by omega)];simp[j4]
     ·rw[hx.own l _ g hl (by simp[HO.at,hj,Value.ownBlock]),hK]
     ·have:=hB.2 (lo+i) (by omega);simp only[List.get_eq_getElem,List.getElem_drop,List.getElem_take] at this ⊢;rw[← hL] at this;have hC:(lo+i+1)*e.size≤xs.length*e.size:=yy1 _ (by omega);rw[yy8,Nat.one_mul] at hC;rw[List.drop_take,List.take_take,yxu (by omega),yy8] at this;exact this.mono hx.le
  have one:∀ {e:Ty} {l:List e.den} {u:Value},Rep Mx (.slice e) l [u]→∀ {x:Leaf},x.at ρ=some u→(∀ z,(AV.lf x).rv M ρ z→∃ vc,Rep Mx (.slice e) l vc∧z=(Ty.slice e).wrap vc)∧(∀ vc,(AV.lf x).rc M ρ vc→Rep Mx (.slice e) l vc):=by
   intro e l u hr x hu;refine⟨fun z hz=>⟨[u],hr,?_⟩,fun vc ha=>?_⟩
   ·rw[w9,hu] at hz;have:=hz.1;injection this with this
    rw[this];rfl
   ·simp only[AV.rc] at ha;obtain⟨z,hz,_,rfl⟩:=ha;rw[hu] at hz;injection hz with hz;subst hz;exact hr
  unfold toK at h;split at h
  ·obtain⟨e1,h⟩:=v4 h;subst e1;refine⟨_,_,h,fun _=>⟨fun u hu=>?_,fun vc ha=>?_⟩⟩
   ·simp only[AV.rv] at hu;obtain⟨vc,k1,k2⟩:=hu;exact⟨vc,k1.mono hx.le,k2⟩
   ·simp only[AV.rc] at ha;exact ha.mono hx.le
  ·obtain⟨e1,h⟩:=v4 h;subst e1;refine⟨_,_,h,fun _=>⟨fun u hu=>?_,fun vc ha=>?_⟩⟩
   ·simp only[AV.rv] at hu;obtain⟨vc,ad,k1,k2,k3⟩:=hu;exact⟨vc,k1.mono hx.le,by rw[k2];rfl⟩
   ·simp only[AV.rc] at ha
  ·refine⟨_,_,h,fun _=>one (u:=.slice none 0 0) ?_ rfl⟩;simp only[Rep];exact⟨none,0,rfl,by simp,by simp[maxLen],fun _=>rfl,.inl rfl⟩
  ·refine⟨_,_,h,fun _=>⟨fun u hu=>⟨[.pointer none],by simp only[Rep],?_⟩,fun vc ha=>?_⟩⟩
   ·rw[w9] at hu;simp only[Leaf.at,yya] at hu;rw[← hu.1];rfl
   ·simp only[AV.rc,Leaf.at] at ha;obtain⟨z,hz,_,rfl⟩:=ha;injection hz with hz;subst hz;simp only[Rep]
  ·rename_i t' k' l;split at h
   ·rename_i eid e xs hl;obtain⟨e1,h⟩:=v4 h;subst e1;refine⟨_,_,h,fun _=>?_⟩;have hr:=row hl 0 xs.length false (yyl _);have hj:sview (ρ.sv l) e.size 0 xs.length false=ρ.sv l:=by
     have hb:=x9 h1 hl;simp only[HO.ok] at hb;obtain⟨_,cs,he,_⟩:=hb;rcases he.2 with⟨e1,hn⟩|⟨g,cap,cur,hj,_⟩
     ·simp[sview,e1,hn]
     ·rw[hj];simp[sview,Addr.add]
    rw[hj] at hr;simp only[yx6,List.drop_zero] at hr;exact one hr rfl
   ·cases h
  ·rename_i t' k' l lo hi full;split at h
   ·rename_i eid e xs hl;obtain⟨e1,h⟩:=v4 h;subst e1;refine⟨_,_,h,fun hc=>?_⟩;have hr:=row hl lo hi full hc;have hb:=x9 h1 hl;simp only[HO.ok] at hb;exact one hr (by simp only[Leaf.at,hb.1])
   ·cases h
  ·rename_i l p e k';split at h
   ·rename_i t0 a0 hl;split at h
    ·rename_i c a' hg;split at h
     ·rename_i hN;have hb:=x9 h1 hl;have hD:=(h1.own _ _ hl).2.1;simp only[HO.ok] at hb;obtain⟨hA,hh,_,cc,ty,hd,hE⟩:=hb;obtain⟨cs,y,hk,hy⟩:=ih h;refine⟨_,_,hk,fun hc=>?_⟩;rw[z7] at hc;obtain⟨t',g1,g2,g3,g4,g5⟩:=q2f hg hc.1 hh hE hD;have hF:e.size=t'.size:=by rw[← k9 hN g4,k9 g2 g4]
      have hw:Rep Mx (.ptr e) (some y) [.pointer (some ⟨ρ.blk l,(ρ.ty l).off p,none⟩)]:=by simp only[Rep];refine⟨_,_,cc,ty,(0,0),rfl,by rw[hx.own l _ (ρ.blk l) hl rfl,hd],?_⟩;rw[hA,hF];exact(hy hc.2).2 _ g4
      refine⟨fun u hu=>⟨_,hw,?_⟩,fun vc ha=>?_⟩
      ·rw[w9] at hu;simp only[Leaf.at,yya] at hu;rw[← hu.1];rfl
      ·simp only[AV.rc,Leaf.at] at ha;obtain⟨z,hz,_,rfl⟩:=ha;injection hz with hz;subst hz;exact hw
     ·cases h
    ·cases h
   ·cases h
  ·rename_i t2' k' l p nn cap;split at h
   ·rename_i t0 a0 hl;split at h
    ·rename_i c m e y hg;split at h
     ·rename_i hP;obtain⟨e1,h⟩:=v4 h;subst e1;have hb:=x9 h1 hl;have hD:=(h1.own _ _ hl).2.1;simp only[HO.ok] at hb;obtain⟨hA,hh,_,cc,ty,hd,hE⟩:=hb;refine⟨_,_,h,fun hc=>?_⟩;rw[z7] at hc;have hG:nn≤m∧nn≤cap:=⟨hc.2.1,hc.2.2⟩;obtain⟨t',g1,g2,g3,g4,g5⟩:=q2f hg hc.1 hh hE hD;have hF:t'.size=m*e.size:=by rw[← k9 g2 g4];simp only[AV.rc] at g4;exact g4.length
      simp only[AV.rc,Rep] at g4;obtain⟨hJ,_,hB⟩:=g4;refine one (u:=.slice (some ⟨ρ.blk l,(ρ.ty l).off p,none⟩) nn cap) ?_ rfl;have hH:(List.take nn y).length=nn:=by rw[yxr,hJ];omega
      simp only[Rep];refine⟨some ⟨ρ.blk l,(ρ.ty l).off p,none⟩,cap,by rw[hH],by rw[hH];exact hG.2,hP,(fun h=>by cases h),.inr ⟨ρ.blk l,(ρ.ty l).off p,cc,ty,(0,0),rfl,by rw[hx.own l _ (ρ.blk l) hl rfl,hd],fun i hi=>?_⟩⟩;have h5:i<nn:=by rw[hH] at hi;exact hi
      have h3:=hB i (by rw[hJ];omega);have hC:(i+1)*e.size≤m*e.size:=yy1 _ (by omega);rw[yy8,Nat.one_mul] at hC;rw[hF,List.drop_take,List.take_take,List.drop_drop,yxu (by omega)] at h3;rw[hA];have h4:=h3.mono hx.le;simp only[List.get_eq_getElem,List.getElem_take] at h4 ⊢;exact h4
     ·cases h
    ·cases h
   ·cases h
  ·rename_i x y tx ty k';obtain⟨c1,x',h,hQ⟩:=ih h;obtain⟨c2,y',h,hR⟩:=ih h;refine⟨_,_,h,fun hc=>?_⟩;rw[z7] at hc;have e1:=hQ hc.1;have e2:=hR hc.2;refine⟨fun u hu=>?_,fun vc ha=>?_⟩
   ·simp only[AV.rv] at hu;obtain⟨v1,v2,k1,k2,k3⟩:=hu;exact⟨v1++v2,by simp only[Rep];exact⟨v1,v2,rfl,e1.2 _ k1,e2.2 _ k2⟩,by rw[k3];simp[Ty.wrap,Ty.agg]⟩
   ·simp only[AV.rc] at ha;obtain⟨v1,v2,k1,k2,k3⟩:=ha;simp only[Rep];exact⟨v1,v2,k3,e1.2 _ k1,e2.2 _ k2⟩
  ·cases h
variable {all l:List Oper}{md:Bool}{o:Oper}
def MOK(P:Program)(MT:List (Nat×(Nat×Nat))):Prop:=∀ id kv,lk MT id=some kv→P.underlying id=some (.map kv.1 kv.2)
structure XOK(X:Ctx):Prop where
 t:TOK X.P X.T
 e:EOK X.P X.ET
 m:MOK X.P X.MT
 mixed:X.P.follows .mixedOrders=true
def SAT.later(h:SAT X M ρ s w)(hl:Below w.heap.size w w'):SAT X M ρ s w':=by
 have hE:=h.below.size;refine⟨h.below.trans (hl.mono hE),h.msub,h.mnew,?_,?_,h.apart,h.notM⟩
 ·intro b o hb;rw[hl.block b (yyi.1 (h.mem b o hb)).1];exact h.mem b o hb
 ·intro k o hk;obtain⟨e1,e2,e3⟩:=h.own k o hk;exact⟨e1,e2,q32 e3 fun b hb=>hl.block b (p4 e3 hb).2⟩
def putS(d:Option Nat)(v:AV)(s:S):S:=match d with|some d=>⟨(d,v)::s.L,s.H,s.nx⟩|none=>s
def REG.putO{v:AV}{z:Value}(h:REG X M ρ s a)(hd:∀ k,d=some k→k<X.n)(hb:v.bd s.nx)(hv:v.rv M ρ z):REG X M ρ (putS d v s) (a.put d z):=by
 cases d with
 |none=>exact h
 |some d=>exact h.put (hd d rfl) hb hv
def z8{v:AV}(h:SAT X M ρ s w):SAT X M ρ (putS d v s) w:=by cases d<;>exact⟨h.below,h.msub,h.mnew,h.mem,h.own,h.apart,h.notM⟩
def JL.nil(h:QA .normal s):JL X md all QA [] s:=by
 cases md
 ·intro M ρ a w0 h1 h2;exact fun w hw=>⟨M,ρ,s,h1.later hw,h2,h⟩
 ·intro M ρ a w h1 h2;exact⟨M,ρ,s,h1,h2,h⟩
def dstOk(n:Nat):Option Nat→Prop
 |none=>True
 |some d=>d<n
def dstOk.spec(h:dstOk n d):∀ k,d=some k→k<n:=fun k e=>by subst e;exact h
def notDef(o:Op):Bool:=match o with|.defer _=>false|_=>true
def q0d{ρ:Operand→Value}(hn:notDef o.op=true):o.semAt X.fn.round ρ=execOp ρ o:=by
 have h:∀ c,o.op≠.defer c:=fun c e=>by rw[e] at hn;cases hn
 cases hr:X.fn.round with
 |none=>rfl
 |some l=>exact Oper.semAt_some l ρ o h
def q1x(f:FuncId):X.fn.fn f:=trivial
def q3w{R:Ending→World→Prop}(h:Calls X.P f az w R):CallsIn X.fn n X.P f az w R:=⟨trivial,(callsIn_wide.2 h).2⟩
variable{K:Act→World→Prop}
def w3(hn:notDef o.op=true)(h:(execOp a.eval o).run X.P w=.ok (.value v) w')(k:K (a.put o.dst v) w'):o.wpIn X.fn 0 X.P a w K Q:=by refine⟨fun f _=>q1x f,?_⟩;rw[q0d hn,h,Oper.uponIn_value];exact k
def q3p(hn:notDef o.op=true)(h:(execOp a.eval o).run X.P w=.ok .skip w')(k:K (a.put o.dst Go.undef) w'):o.wpIn X.fn 0 X.P a w K Q:=by refine⟨fun f _=>q1x f,?_⟩;rw[q0d hn,h,Oper.uponIn_skip];exact k
def x8{R:Ending→World→Prop}(hn:notDef o.op=true)(h:(execOp a.eval o).run X.P w=.ok (.enter f az) w')
  (hc:Calls X.P f az w' R) (k:∀ e w'',R e w''→∃ v,e=.returned v∧K (a.put o.dst v) w''):o.wpIn X.fn 0 X.P a w K Q:=by
 refine⟨fun f _=>q1x f,?_⟩;rw[q0d hn,h,Oper.uponIn_enter];refine⟨fun h=>(by cases h),(q3w hc).mono fun e w'' hr=>?_⟩;obtain⟨v,rfl,hk⟩:=k e w'' hr;exact hk
def z9(hw:Region.wanted o (yielded ops a.tmps)=true)(h:o.wpIn X.fn 0 X.P a w (wpListIn X.fn 0 X.P ops Q rest) Q):wpListIn X.fn 0 X.P ops Q (o::rest) a w:=by unfold wpListIn;rw[if_pos hw];exact h
def o7(hw:Region.wanted o (yielded ops a.tmps)=false)(h:wpListIn X.fn 0 X.P ops Q rest (a.put o.dst Go.undef) w):wpListIn X.fn 0 X.P ops Q (o::rest) a w:=by unfold wpListIn;rw[if_neg (by rw[hw];simp)];exact⟨fun f _=>q1x f,h⟩
def j6(hg:o.guard=none):Region.wanted o (yielded ops a.tmps)=true:=by simp[Region.wanted,hg]
def evq_nd{o:Op}(h:evq T o s=some r):notDef o=true:=by cases o<;>first|rfl|(simp[evq] at h)
def evb_nd{o:Op}(h:evb T o s=some r):notDef o=true:=by cases o<;>first|rfl|(simp[evb,evq] at h)
def evm_nd{ET:List (Nat×Nat)}{o:Op}{r:List Prop×AV×S}(h:evm T ET o s=some r):notDef o=true:=by cases o<;>first|rfl|(simp[evm] at h)
def JL.q{cs:List Prop}{v:AV}(hX:XOK X)(hg:o.guard=none)(h:evb X.T o.op s=some (cs,v))(hd:dstOk X.n o.dst)(hc:allP cs)(k:JL X md all QA l (putS o.dst v s)):JL X md all QA (o::l) s:=by
 cases md
 ·intro M ρ a w0 h1 h2;obtain⟨e1,z,e2,e3⟩:=q55 hX.t h hc h1 h2;simp only[wpQuiet,Region.wanted,hg,if_true];exact⟨z,fun w hw=>by unfold Oper.quietAt;rw[e3 w hw];exact⟨rfl,rfl⟩,k M ρ _ w0 (z8 h1) (h2.putO hd.spec e1 e2)⟩
 ·intro M ρ a w h1 h2;obtain⟨e1,z,e2,e3⟩:=q55 hX.t h hc h1 h2;exact z9 (j6 hg) (w3 (evb_nd h) (e3 w (Below.refl _ _)) (k M ρ _ w (z8 h1) (h2.putO hd.spec e1 e2)))
def JL.m{cs:List Prop}{v:AV}(hX:XOK X)(hg:o.guard=none)(h:evm X.T X.ET o.op s=some (cs,v,s'))(hd:dstOk X.n o.dst)(hc:allP cs)(k:JL X true all QA l (putS o.dst v s')):JL X true all QA (o::l) s:=by
 intro M ρ a w h1 h2;obtain⟨ρ',w',nxt,e1,e2,e3,e4,e5,e6,e7⟩:=j09 hX.t hX.e h hc h1 h2;refine z9 (j6 hg) ?_;have ha:REG X M ρ' s' a:=by have:=h2.grow (H':=s'.H) (nx':=s'.nx) (Mem.le_refl M) e2 e3 (p5 M);rw[← e4] at this;exact⟨this.size,this.defers,this.reg⟩
 rcases e7 with⟨z,rfl,hz⟩|⟨rfl,rfl⟩
 ·exact w3 (evm_nd h) e1 (k M ρ' _ w' (z8 e5) (ha.putO hd.spec e6 hz))
 ·exact q3p (evm_nd h) e1 (k M ρ' _ w' (z8 e5) (ha.putO hd.spec e6 (by simp only[AV.rv])))
def wantB(want x:Bool):Bool:=match want with|true=>x|false=>!x
def gOf(all:List Oper)(L:List (Nat×AV)):Option (Nat×Bool)→Option Bool
 |none=>none
 |some (j,want)=>match all[j]? with
  |some o=>match o.dst with
   |some d=>match lk L d with
    |some (.val .bool x)=>some (wantB want x)
    |some (.gd g (.val .bool x))=>some (g&&wantB want x)
    |_=>none
   |none=>none
  |none=>none
def u7{g:Bool}(h:gOf all s.L o.guard=some g)(h2:REG X M ρ s a):Region.wanted o (yielded all.toArray a.tmps)=g:=by
 unfold gOf at h;split at h
 ·cases h
 ·rename_i j want hg;simp only[Region.wanted,hg,yielded,yxp];split at h
  ·rename_i oj hj;split at h
   ·rename_i d hd;have hy:∀ (v:Value) x,a.tmps.getD d Go.undef=v→v=.bool x→(a.tmps[d]?:Option Value)=some (.bool x):=by
     intro v x h1 h2;subst h2;rw[yyr] at h1;cases hh:a.tmps[d]? with
     |none=>rw[hh] at h1;simp[Go.undef] at h1
     |some v=>rw[hh] at h1;simpa using h1
    split at h
    ·rename_i x hl;injection h with h;subst h
     have:=(h2.reg _ _ hl).2;rw[n5] at this;simp only[hj,Option.bind_some,hd,hy _ x rfl this];cases want<;>cases x<;>rfl
    ·rename_i g' x hl;injection h with h;subst h
     have:=(h2.reg _ _ hl).2;simp only[AV.rv] at this;cases g' with
     |true=>
      have h3:=this.1 rfl;have h4:(AV.val .bool x).rv M ρ (a.tmps.getD d Go.undef):=by simp only[AV.rv];exact h3
      rw[n5] at h4;simp only[hj,Option.bind_some,hd,hy _ x rfl h4];cases want<;>cases x<;>rfl
     |false=>
      have h3:=this.2 rfl;simp only[hj,Option.bind_some,hd,Bool.false_and];rw[yyr] at h3;cases hh:a.tmps[d]? with
      |none=>simp
      |some v=>rw[hh] at h3;simp only[Option.getD_some] at h3;subst h3;simp[Go.undef]
    ·cases h
   ·cases h
  ·cases h
def JL.g{g:Bool}{cs:List Prop}{v:AV}(hX:XOK X)(hg:gOf all s.L o.guard=some g)(h:evb X.T o.op s=some (cs,v))(hd:dstOk X.n o.dst)(hc:g=true→allP cs)(k:JL X md all QA l (putS o.dst (.gd g v) s)) :
  JL X md all QA (o::l) s:=by
 cases md
 ·intro M ρ a w0 h1 h2;have hw:=u7 hg h2;simp only[wpQuiet,hw];cases g with
  |true=>obtain⟨e1,z,e2,e3⟩:=q55 hX.t h (hc rfl) h1 h2;simp only[if_true];exact⟨z,fun w hw=>by unfold Oper.quietAt;rw[e3 w hw];exact⟨rfl,rfl⟩,k M ρ _ w0 (z8 h1) (h2.putO hd.spec (by exact fun _=>e1) (by simp only[AV.rv];exact⟨fun _=>e2,fun h=>(by cases h)⟩))⟩
  |false=>simp only[yys,if_false];exact k M ρ _ w0 (z8 h1) (h2.putO hd.spec (by exact fun h=>(by cases h)) (by simp[AV.rv]))
 ·intro M ρ a w h1 h2;have hw:=u7 hg h2;cases g with
  |true=>obtain⟨e1,z,e2,e3⟩:=q55 hX.t h (hc rfl) h1 h2;refine z9 hw (w3 (evb_nd h) (e3 w (Below.refl _ _)) ?_);exact k M ρ _ w (z8 h1) (h2.putO hd.spec (by exact fun _=>e1) (by simp only[AV.rv];exact⟨fun _=>e2,fun h=>(by cases h)⟩))
  |false=>refine o7 hw ?_;exact k M ρ _ w (z8 h1) (h2.putO hd.spec (by exact fun h=>(by cases h)) (by simp[AV.rv]))
def z24{id:Nat}{ops:List Oper}(h:JL X true ops QA ops s):JC X (.region id ⟨ops⟩ false) QA s:=fun M ρ a w h1 h2=>wpIn_region_lit (h M ρ a w h1 h2)
def SAT.drew(h:SAT X M ρ s w):SAT X M ρ s {w with drawn:=w.drawn+1}:=h.later ⟨rfl,rfl,rfl,yyl _,fun _ _=>rfl⟩
def q9z{C:World→Prop}{Q':Exit→Act→World→Prop}{K:Act→Prop}{K':Act→World→Prop}(hb:∀ (j:Nat) o,ops[j]?=some o→notDef o.op=true)(hw:C w)
  (hk:∀ a' w',C w'→K a'→K' a' w') (h:qOp X.P ops C i K a):wpOpIn X.fn 0 X.P ops Q' i K' a w:=by
 unfold qOp at h;unfold wpOpIn;split
 ·rename_i ho;simp only[ho] at h;exact hk _ _ hw h
 ·rename_i o ho;simp only[ho] at h;split
  ·rename_i ha;simp only[ha,if_true] at h;obtain⟨v,h1,h2⟩:=h;have h3:=h1 w hw;refine⟨fun f _=>q1x f,?_⟩;rw[q0d (hb i o ho)];unfold Oper.quietAt at h3
   revert h3
   generalize (execOp a.eval o).run X.P w=r;intro h3;cases r with
   |ok n w'=>
    cases n with
    |value u=>obtain⟨rfl,rfl⟩:=h3;exact hk _ _ hw h2
    |skip=>obtain⟨rfl,rfl⟩:=h3;exact hk _ _ hw h2
    |enter f az=>obtain⟨rfl,h3⟩:=h3;rw[Oper.uponIn_enter];refine⟨fun h=>(by cases h),(q3w h3).mono fun e w'' hr=>?_⟩;obtain⟨rfl,hc⟩:=hr;exact hk _ _ hc h2
    |_=>simp only[Oper.quietUpon] at h3
   |halt x w'=>simp only[Oper.quietUpon] at h3
  ·rename_i ha;simp only[ha] at h;exact⟨fun f _=>q1x f,hk _ _ hw h⟩
def q67{ops:Array Oper}{C:World→Prop}{md:Region.Mode}{Q:Act→Prop}{Q':Exit→Act→World→Prop}(ha:∀ (j:Nat) o,ops[j]?=some o→notDef o.op=true)(hQ:∀ a w,C w→Q a→Q' .normal a w) :
  ∀ (fuel:Nat) (listed:Array Bool) (a:Act) (w:World),C w→wpAnyQ X.P md ops C Q fuel listed a→wpAnyIn X.fn 0 X.P md ops Q' fuel listed a w
 |0,_,_,_,hw,h=>⟨h.1,hQ _ _ hw h.2⟩
 |fuel+1,_,_,_,hw,h=>⟨fun h0=>hQ _ _ hw (h.1 h0),fun i hi=>q9z ha hw (fun a' w' hb=>q67 ha hQ fuel _ a' w' hb) (h.2 i hi)⟩
def ndAll:List Oper→Bool
 |[]=>true
 |o::r=>notDef o.op&&ndAll r
def q0a:∀ {ops:List Oper},ndAll ops=true→∀ (j:Nat) o,(⟨ops⟩:Array Oper)[j]?=some o→notDef o.op=true
 |[],_,j,o,h=>by simp at h
 |x::r,hn,j,o,h=>by
  simp only[ndAll,yyc] at hn;cases j with
  |zero=>simp at h;subst h;exact hn.1
  |succ j=>exact q0a hn.2 j o (by simpa using h)
def JC.draw{id:Nat}{ops:List Oper}(hX:XOK X)(hB:(Region.lexB .any ops.toArray&&ndAll ops)=true)(h:JL X false ops QA ops s):JC X (.region id ⟨ops⟩ true) QA s:=by intro M ρ a w h1 h2;simp only[yyc] at hB;obtain⟨hB,ha⟩:=hB;simp only[Region.lexB,yyc] at hB;have hq:=h M ρ a w h1 h2;refine wpIn_region_any hX.mixed (q67 (C:=fun w'=>Below w.heap.size w w') (Q:=fun a'=>∀ w',Below w.heap.size w w'→conc X QA .normal a' w') (q0a ha) (fun _ w' hb h=>h w' hb) _ _ _ _ ⟨rfl,rfl,rfl,yyl _,fun _ _=>rfl⟩ ?_);have:=wpAnyQ_lex (C:=fun w'=>Below w.heap.size w w') (md:=.any) hB.1 ops 0 (Array.replicate ops.length false) a (by simp) (by simpa using hB.2) hq;simpa using this
def MemIn(M:Mem)(w:World):Prop:=∀ b o,M b=some o→w.heap[b]?=some o
structure Fn(P:Program)(f:FuncId)(args:AV)(R:AV→Prop):Prop where
 call:∀ az w,(callFunc f az).run P w=.ok (.enter f az) w
 run:∀ (M:Mem) (ρ:Env) (w:World) (vs:List Value),MemIn M w→args.rvs M ρ vs→args.bd 0 →
  Calls P f vs.toArray w (fun e w'=>∃ v r M',e=.returned v∧R r∧r.bd 0∧r.rv M' ρ v∧Below w.heap.size w w'∧M.le M'∧MemIn M' w'∧∀ b,b<w.heap.size→M' b=M b)
mutual
def AV.scal:AV→Bool
 |.val (.int _) _|.val .bool _|.undef=>true
 |.tup a=>a.scalL
 |_=>false
def AV.scalL:AV→Bool
 |.anil=>true
 |.acons a b=>a.scal&&b.scalL
 |_=>false
end
mutual
def AV.toV:AV→Value
 |.val (.int k) n=>.int k n
 |.val .bool b=>.bool b
 |.tup a=>.tuple a.toVs.toArray
 |_=>Go.undef
def AV.toVs:AV→List Value
 |.acons a b=>a.toV::b.toVs
 |_=>[]
end
mutual
def x5{M:Mem}{ρ:Env}:∀ {r:AV} {v:Value},r.scal=true→(r.rv M ρ v↔v=r.toV)
 |.val (.int _) _,v,_=>by rw[w6];simp[AV.toV]
 |.val .bool _,v,_=>by rw[n5];simp[AV.toV]
 |.undef,v,_=>by simp[AV.rv,AV.toV]
 |.tup a,v,hs=>by simp only[AV.scal] at hs;simp only[AV.rv,AV.toV];exact⟨by rintro⟨vs,k1,rfl⟩;rw[(q24 hs).1 k1],by rintro rfl;exact⟨_,(q24 hs).2 rfl,rfl⟩⟩
 |.anil,v,hs=>by simp[AV.scal] at hs
 |.acons _ _,v,hs=>by simp[AV.scal] at hs
 |.val (.slice _) _,v,hs=>by simp[AV.scal] at hs
 |.val (.ptr _) _,v,hs=>by simp[AV.scal] at hs
 |.val (.arr _ _) _,v,hs=>by simp[AV.scal] at hs
 |.val .nil _,v,hs=>by simp[AV.scal] at hs
 |.val (.cons _ _) _,v,hs=>by simp[AV.scal] at hs
 |.mix _ _,v,hs=>by simp[AV.scal] at hs
 |.lf _,v,hs=>by simp[AV.scal] at hs
 |.fn _ _ _,v,hs=>by simp[AV.scal] at hs
 |.gd _ _,v,hs=>by simp[AV.scal] at hs
 |.full _ _,v,hs=>by simp[AV.scal] at hs
def q24{M:Mem}{ρ:Env}:∀ {r:AV} {vs:List Value},r.scalL=true→(r.rvs M ρ vs↔vs=r.toVs)
 |.anil,vs,_=>by simp[AV.rvs,AV.toVs]
 |.acons a b,vs,hs=>by simp only[AV.scalL,yyc] at hs;simp only[AV.rvs,AV.toVs];exact⟨by rintro⟨v,r,k1,k2,rfl⟩;rw[(x5 hs.1).1 k1,(q24 hs.2).1 k2],by rintro rfl;exact⟨_,_,(x5 hs.1).2 rfl,(q24 hs.2).2 rfl,rfl⟩⟩
 |.val _ _,vs,hs=>by simp[AV.scalL] at hs
 |.mix _ _,vs,hs=>by simp[AV.scalL] at hs
 |.lf _,vs,hs=>by simp[AV.scalL] at hs
 |.fn _ _ _,vs,hs=>by simp[AV.scalL] at hs
 |.tup _,vs,hs=>by simp[AV.scalL] at hs
 |.gd _ _,vs,hs=>by simp[AV.scalL] at hs
 |.undef,vs,hs=>by simp[AV.scalL] at hs
 |.full _ _,vs,hs=>by simp[AV.scalL] at hs
end
def capK{R:Type}(H:List (Nat×HO)):AV→(List Prop→AV→Option R)→Option R
 |.val t x,k=>k [] (.val t x)
 |.fn f a c,k=>capK H a fun c1 a=>capK H c fun c2 c=>k (c1++c2) (.fn f a c)
 |.pfn g,k=>capK H g fun c g=>k c (.pfn g)
 |.anil,k=>k [] .anil
 |.acons a b,k=>capK H a fun c1 a=>capK H b fun c2 b=>k (c1++c2) (.acons a b)
 |.lf (.optr l p),k=>match lk H l with
  |some (.cell t0 _)=>match t0.sub p with
   |some t=>toK H 8 (.ptr t) (.lf (.optr l p)) fun c x=>k c (.val (.ptr t) x)
   |none=>none
  |_=>none
 |.lf (.osl l),k=>match lk H l with
  |some (.sl _ e xs)=>k [] (.val (.slice e) xs)
  |_=>none
 |_,_=>none
def argK{R:Type}(T:List (Nat×Ty))(H:List (Nat×HO))(L:List (Nat×AV)):List Operand→List TypeId→(List Prop→AV→Option R)→Option R
 |[],[],k=>k [] .anil
 |o::os,t::ts,k=>(opd L o).bind fun v=>match lk T t with
  |some ty=>toK H 8 ty v.2 fun c x=>argK T H L os ts fun cs az=>k (v.1++(c++cs)) (.acons (.val ty x) az)
  |none=>capK H v.2 fun c x=>argK T H L os ts fun cs az=>k (v.1++(c++cs)) (.acons x az)
 |_,_,_=>none
def apA:AV→AV→AV
 |.acons a b,c=>.acons a (apA b c)
 |_,c=>c
def callA(T:List (Nat×Ty))(o:Op)(s:S):Option (List Prop×FuncId×AV):=
 match o with
 |.call {callee:=.value fo,args,argTypes}=>(opd s.L fo).bind fun u=>match u.2 with
  |.fn f fst cap=>capK s.H fst fun c1 fst=>argK T s.H s.L args.toList argTypes.toList fun c2 az=>capK s.H cap fun c3 cap=>some (u.1++(c1++(c2++c3)),f,apA fst (apA az cap))
  |_=>none
 |_=>none
end Ox
