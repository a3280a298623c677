/- Texts of the proof of the statement that the last text proves. -/
import Derived.Test.YtjmhhehhfeengaaGreatDoorPqa
import Derived.RangeFuncNested
import Derived.DeepKeys3
import Derived.MapKept
import Derived.ChangeMaps4
import Derived.Maps.RangeRun
set_option linter.all false
set_option maxHeartbeats 2000000
variable{oi oj:Go.Oper}{f:Go.FuncId}{w1:Go.World}{u:Nat→Go.Value}{ops:List Go.Oper}{cv vs:List Go.Value}{p:Nat×Go.Oper}{fn:Go.Func}{i j:Nat}{c:Go.Code}{α σ:Type}{seen:List Nat}{tt:Go.TypeId}{P:Go.Program}
namespace Ox
open Go Go.RowKit
variable {X:Ctx}{s:S}{M:Mem}{ρ:Env}{a:Act}{w w':World}{QA:Exit→S→Prop}{all l:List Oper}{md:Bool}{o:Oper}
variable{Mx:Mem}
def q32(h1:SAT X M ρ s w)(hx:Seen ρ s M Mx w):∀ {v:AV} {R:Type} {k:List Prop→AV→Option R} {r:R},capK s.H v k=some r →
  ∃ cs y,k cs y=some r∧y.bd 0∧(allP cs→(∀ u,v.rv M ρ u→y.rv Mx ρ u)∧(∀ us,v.rvs M ρ us→y.rvs Mx ρ us)):=by
 intro v;induction v with
 |val t x=>intro R k r h;simp only[capK] at h;refine⟨_,_,h,trivial,fun _=>⟨fun u hu=>?_,fun us hu=>by simp only[AV.rvs] at hu⟩⟩;simp only[AV.rv] at hu ⊢;obtain⟨cs,k1,k2⟩:=hu;exact⟨cs,k1.mono hx.le,k2⟩
 |fn f x y ihx ihy=>intro R k r h;simp only[capK] at h;obtain⟨c1,x',h,b1,e1⟩:=ihx h;obtain⟨c2,y',h,b2,e2⟩:=ihy h;refine⟨_,_,h,⟨b1,b2⟩,fun hc=>?_⟩;rw[q8] at hc;refine⟨fun u hu=>?_,fun us hu=>by simp only[AV.rvs] at hu⟩;simp only[AV.rv] at hu ⊢;obtain⟨fs,ks,k1,k2,k3⟩:=hu;exact⟨fs,ks,(e1 hc.1).2 _ k1,(e2 hc.2).2 _ k2,k3⟩
 |anil=>intro R k r h;simp only[capK] at h;exact⟨_,_,h,trivial,fun _=>⟨fun u hu=>by simp only[AV.rv] at hu,fun us hu=>by simp only[AV.rvs] at hu ⊢;exact hu⟩⟩
 |acons x y ihx ihy=>intro R k r h;simp only[capK] at h;obtain⟨c1,x',h,b1,e1⟩:=ihx h;obtain⟨c2,y',h,b2,e2⟩:=ihy h;refine⟨_,_,h,⟨b1,b2⟩,fun hc=>?_⟩;rw[q8] at hc;refine⟨fun u hu=>by simp only[AV.rv] at hu,fun us hu=>?_⟩;simp only[AV.rvs] at hu ⊢;obtain⟨v,r',k1,k2,k3⟩:=hu;exact⟨v,r',(e1 hc.1).1 _ k1,(e2 hc.2).2 _ k2,k3⟩
 |raw g=>intro R k r h;simp[capK] at h
 |pfn g ih=>intro R k r h;simp only[capK] at h;obtain⟨c1,g',h,b1,e1⟩:=ih h;refine⟨_,_,h,b1,fun hc=>⟨fun u hu=>?_,fun us hu=>by simp only[AV.rvs] at hu⟩⟩;simp only[AV.rv] at hu ⊢;obtain⟨b,fv,ty,fz,k1,k2,k3⟩:=hu;exact⟨b,fv,ty,fz,k1,hx.le _ _ _ _ k2,(e1 hc).1 _ k3⟩
 |lf x=>
  intro R k r h;cases x with
  |optr l p=>
   simp only[capK] at h;split at h
   ·split at h
    ·rename_i t _;obtain⟨cs,y,hk,hy⟩:=q1k h1 hx 8 h;refine⟨_,_,hk,trivial,fun hc=>⟨fun u hu=>?_,fun us hu=>by simp only[AV.rvs] at hu⟩⟩;simp only[AV.rv];exact(hy hc).1 u hu
    ·cases h
   ·cases h
  |osl l=>
   simp only[capK] at h;split at h
   ·rename_i eid e xs hl;obtain⟨cs,y,hk,hy⟩:=q1k (R:=List Prop×List e.den) h1 hx 8 (t:=.slice e) (v:=.lf (.osl l)) (k:=fun cs xs=>some (cs,xs)) (r:=([],xs)) (by simp[toK,hl,castK]);simp only[yya,yyp] at hk;obtain⟨rfl,rfl⟩:=hk;refine⟨_,_,h,trivial,fun _=>⟨fun u hu=>?_,fun us hu=>by simp only[AV.rvs] at hu⟩⟩;simp only[AV.rv];exact(hy trivial).1 u hu
   ·cases h
  |_=>simp[capK] at h
 |_=>intro R k r h;simp[capK] at h
def z9e(h1:SAT X M ρ s w)(hx:Seen ρ s M Mx w)(h2:REG X M ρ s a):∀ {os:List Operand} {ts:List TypeId} {R:Type} {k:List Prop→AV→Option R} {r:R},argK X.T s.H s.L os ts k=some r →
  ∃ cs y,k cs y=some r∧y.bd 0∧(allP cs→y.rvs Mx ρ (os.map a.eval)):=by
 intro os;induction os with
 |nil=>
  intro ts R k r h;cases ts with
  |nil=>simp only[argK] at h;exact⟨_,_,h,trivial,fun _=>by simp[AV.rvs]⟩
  |cons t ts=>simp[argK] at h
 |cons o os ih=>
  intro ts R k r h;cases ts with
  |nil=>simp[argK] at h
  |cons t ts=>
   simp only[argK,yyr] at h;obtain⟨v,hv,h⟩:=h;split at h
   ·rename_i ty _;obtain⟨c,x,h,hx'⟩:=q1k h1 hx 8 h;obtain⟨cs,az,h,hb,has⟩:=ih h;refine⟨_,_,h,⟨trivial,hb⟩,fun hc=>?_⟩;simp only[q8] at hc;have ev:=z6 hv hc.1 h2;simp only[AV.rvs,yy4];exact⟨_,_,by simp only[AV.rv];exact(hx' hc.2.1).1 _ ev.2,has hc.2.2,rfl⟩
   ·obtain⟨c,x,h,hb1,hx'⟩:=q32 h1 hx h;obtain⟨cs,az,h,hb,has⟩:=ih h;refine⟨_,_,h,⟨hb1,hb⟩,fun hc=>?_⟩;simp only[q8] at hc;have ev:=z6 hv hc.1 h2;simp only[AV.rvs,yy4];exact⟨_,_,(hx' hc.2.1).1 _ ev.2,has hc.2.2,rfl⟩
def z2k{x y:AV}{us vs:List Value}(hx:x.rvs Mx ρ us)(hy:y.rvs Mx ρ vs):(apA x y).rvs Mx ρ (us++vs):=by
 induction x generalizing us with
 |acons p q _ ihq=>simp only[AV.rvs] at hx;obtain⟨v,r,k1,k2,rfl⟩:=hx;simp only[apA,AV.rvs,List.cons_append];exact⟨v,r++vs,k1,ihq k2,rfl⟩
 |anil=>simp only[AV.rvs] at hx;subst hx;simpa[apA] using hy
 |_=>simp only[AV.rvs] at hx
def z73{x y:AV}{n:Nat}(hx:x.bd n)(hy:y.bd n):(apA x y).bd n:=by
 induction x with
 |acons p q _ ihq=>exact⟨hx.1,ihq hx.2⟩
 |_=>exact hy
def q01(h1:SAT X M ρ s w)(hx:Seen ρ s M Mx w)(h2:REG X M ρ s a){cs:List Prop}{args:AV}(h:callA X.T o.op s=some (cs,f,args))(hc:allP cs) :
  args.bd 0∧∃ vs,args.rvs Mx ρ vs∧∀ w',(execOp a.eval o).run X.P w'=(callFunc f vs.toArray).run X.P w':=by
 obtain⟨dst,op,ty,pos,after,guard⟩:=o;simp only at h;unfold callA at h;split at h
 ·rename_i fo args' tys;simp only[yyr] at h;obtain⟨u,hu,h⟩:=h;split at h
  ·rename_i f' fst cap hue;obtain⟨c1,fst',h,b1,e1⟩:=q32 h1 hx h;obtain⟨c2,az,h,b2,e2⟩:=z9e h1 hx h2 h;obtain⟨c3,cap',h,b3,e3⟩:=q32 h1 hx h;simp only[yya,yyp] at h;obtain⟨rfl,rfl,rfl⟩:=h;simp only[q8] at hc;have eu:=(z6 hu hc.1 h2).2;rw[hue] at eu;simp only[AV.rv] at eu;obtain⟨fs,ks,k1,k2,k3⟩:=eu;refine⟨z73 b1 (z73 b2 b3),_,z2k ((e1 hc.2.1).2 _ k1) (z2k (e2 hc.2.2.1) ((e3 hc.2.2.2).2 _ k2)),fun w'=>?_⟩;have hmap:Array.map a.eval args'=(List.map a.eval args'.toList).toArray:=by rw[← yxk]
   simp only[execOp,resolve,k3,Deferred.ofValue,yye,yyf,yyb,invoke,hmap];simp
  ·cases h
 ·cases h
variable{T:List (Nat×Ty)}
def q2a{o:Op}{r:List Prop×FuncId×AV}(h:callA T o s=some r):notDef o=true:=by cases o<;>first|rfl|(simp[callA] at h)
def q7l(h1:SAT X M ρ s w):Seen ρ s M (fun b=>w.heap[b]?) w:=⟨fun b _ _ _ hb=>h1.mem b _ hb,fun _ _ _ _ _=>rfl⟩
def q7k(hw:Below w.heap.size w w1):MemIn (fun b=>w.heap[b]?) w1:=fun b o hb=>by rw[hw.block b (yym.1 hb).1];exact hb
def q5y{cs:List Prop}{args r:AV}(h:callA X.T o.op s=some (cs,f,args))(hf:Fn X.P f args (·=r))(hr:r.scal=true)(hc:allP cs)(h1:SAT X M ρ s w)(h2:REG X M ρ s a)(hw:Below w.heap.size w w1) :
  ∃ az,(execOp a.eval o).run X.P w1=.ok (.enter f az) w1∧Calls X.P f az w1 (fun e w'=>e=.returned r.toV∧Below w.heap.size w w'):=by
 obtain⟨hb,vs,hvs,hrun⟩:=q01 h1 (q7l h1) h2 h hc;refine⟨vs.toArray,by rw[hrun,hf.call],(hf.run _ ρ w1 vs (q7k hw) hvs hb).mono ?_⟩;rintro e w' ⟨v,r',M',rfl,rfl,_,hv,hbl,_⟩;exact⟨by rw[(x6 hr).1 hv],hw.trans (hbl.mono hw.size)⟩
def JL.callS{cs:List Prop}{args r:AV}(hg:o.guard=none)(h:callA X.T o.op s=some (cs,f,args))(hf:Fn X.P f args (·=r))(hr:r.scal=true)(hrb:r.bd 0)(hd:dstOk X.n o.dst)(hc:allP cs)
  (k:JL X md all QA l (putS o.dst r s)):JL X md all QA (o::l) s:=by
 cases md
 ·intro M ρ a w0 h1 h2;simp only[wpQuiet,Region.wanted,hg,if_true];refine⟨r.toV,fun w hw=>?_,k M ρ _ w0 (j9 h1) (h2.putO hd.spec (w5 (yy7 _) hrb) ((x6 hr).2 rfl))⟩;obtain⟨az,e1,e2⟩:=q5y h hf hr hc h1 h2 hw;unfold Oper.quietAt;rw[e1];exact⟨rfl,e2⟩
 ·intro M ρ a w h1 h2;obtain⟨az,e1,e2⟩:=q5y h hf hr hc h1 h2 (Below.refl w.heap.size w);refine j7 (w6 hg) (m5 (q2a h) e1 e2 ?_);rintro e w' ⟨rfl,hbl⟩;exact⟨_,rfl,k M ρ _ w' (j9 (h1.later hbl)) (h2.putO hd.spec (w5 (yy7 _) hrb) ((x6 hr).2 rfl))⟩
def JL.callG{g:Bool}{cs:List Prop}{args r:AV}(hg:gOf all s.L o.guard=some g)(h:callA X.T o.op s=some (cs,f,args))(hf:g=true→Fn X.P f args (·=r))(hr:r.scal=true)(hrb:r.bd 0)(hd:dstOk X.n o.dst)(hc:g=true→allP cs)
  (k:JL X md all QA l (putS o.dst (.gd g r) s)):JL X md all QA (o::l) s:=by
 cases md
 ·intro M ρ a w0 h1 h2;have hw:=q0j hg h2;simp only[wpQuiet,hw];cases g with
  |true=>simp only[if_true];refine⟨r.toV,fun w hw=>?_,k M ρ _ w0 (j9 h1) (h2.putO hd.spec (by exact fun _=>w5 (yy7 _) hrb) (by simp only[AV.rv];exact⟨fun _=>(x6 hr).2 rfl,fun h=>(by cases h)⟩))⟩;obtain⟨az,e1,e2⟩:=q5y h (hf rfl) hr (hc rfl) h1 h2 hw;unfold Oper.quietAt;rw[e1];exact⟨rfl,e2⟩
  |false=>simp only[yyt,if_false];exact k M ρ _ w0 (j9 h1) (h2.putO hd.spec (by exact fun h=>(by cases h)) (by simp[AV.rv]))
 ·intro M ρ a w h1 h2;have hw:=q0j hg h2;cases g with
  |true=>obtain⟨az,e1,e2⟩:=q5y h (hf rfl) hr (hc rfl) h1 h2 (Below.refl w.heap.size w);refine j7 hw (m5 (q2a h) e1 e2 ?_);rintro e w' ⟨rfl,hbl⟩;exact⟨_,rfl,k M ρ _ w' (j9 (h1.later hbl)) (h2.putO hd.spec (by exact fun _=>w5 (yy7 _) hrb) (by simp only[AV.rv];exact⟨fun _=>(x6 hr).2 rfl,fun h=>(by cases h)⟩))⟩
  |false=>refine q10 hw ?_;exact k M ρ _ w (j9 h1) (h2.putO hd.spec (by exact fun h=>(by cases h)) (by simp[AV.rv]))
def AV.pure:AV→Bool
 |.val _ _|.anil|.undef|.full _ _=>true
 |.lf .nils|.lf .nilp=>true
 |.lf _=>false
 |.mix a b|.acons a b|.fn _ a b=>a.pure&&b.pure
 |.tup a|.pfn a=>a.pure
 |.raw _=>false
 |.gd _ a=>a.pure
def SAT.ext(h:SAT X M ρ s w)(hl:Below w.heap.size w w'){M':Mem}(hm:M.le M')(hin:MemIn M' w')(hnew:∀ b,b<w.heap.size→M' b=M b):SAT X M' ρ s w':=by
 have h':=h.later hl;have hE:=h.below.size;refine⟨h'.below,fun b o hb=>by rw[hnew b (yym.1 (h.mem b o (h.msub b o hb))).1];exact h.msub b o hb,fun b hb=>(hnew b (by omega)).trans (h.mnew b hb),hin,?_,h.apart,?_⟩
 ·intro k o hk;obtain⟨e1,e2,e3⟩:=h'.own k o hk;exact⟨e1,e2,q59 hm (Env.upTo.refl ρ s.nx) e1 e2 e3⟩
 ·intro k o b hk hb;rw[hnew b (g9 (h.own k o hk).2.2 hb).2];exact h.notM k o b hk hb
def JL.call{cs:List Prop}{f:FuncId}{args:AV}{R:AV→Prop}(hg:o.guard=none)(h:callA X.T o.op ⟨s.L,[],s.nx⟩=some (cs,f,args))(hf:Fn X.P f args R)(hd:dstOk X.n o.dst)(hc:allP cs)
  (k:∀ r,R r→JL X true all QA l (putS o.dst r s)):JL X true all QA (o::l) s:=by
 intro M ρ a w h1 h2;have h1':SAT X M ρ ⟨s.L,[],s.nx⟩ w:=⟨h1.below,h1.msub,h1.mnew,h1.mem,fun l o h=>by simp[lk] at h,fun l l' o o' b h=>by simp[lk] at h,fun l o b h=>by simp[lk] at h⟩;have h2':REG X M ρ ⟨s.L,[],s.nx⟩ a:=⟨h2.size,h2.defers,h2.reg⟩;obtain⟨hb,vs,hvs,hrun⟩:=q01 h1' (Mx:=M) ⟨Mem.le_refl M,fun l o b h=>by simp[lk] at h⟩ h2' h hc;refine j7 (w6 hg) (m5 (q2a h) (by rw[hrun,hf.call]) (hf.run M ρ w vs h1.mem hvs hb) ?_);rintro e w' ⟨v,r,M',rfl,hR,hrb,hv,hbl,hm,hin,hnew⟩;have h3:=h1.ext hbl hm hin hnew;have h4:REG X M' ρ s a:=h2.grow hm (Env.upTo.refl ρ s.nx) (yyn _) fun D hD=>by rw[hnew D (yym.1 (h1.mem _ _ hD)).1];exact hD
 exact⟨_,rfl,k r hR M' ρ _ w' (j9 h3) (h4.putO hd.spec (w5 (yy7 _) hrb) hv)⟩
def argL:AV→Nat→List (Nat×AV)
 |.acons a b,i=>(i,a)::argL b (i+1)
 |_,_=>[]
def resK{R:Type}(T:List (Nat×Ty))(s:S):List ResultVar→List TypeId→(List Prop→AV→Option R)→Option R
 |[],[],k=>k [] .anil
 |.tmp d::rs,t::ts,k=>match lk s.L d with
  |some v=>(match lk T t with
   |some ty=>toK s.H 8 ty v fun c x=>resK T s rs ts fun cs az=>k (c++cs) (.acons (.val ty x) az)
   |none=>capK s.H v fun c x=>resK T s rs ts fun cs az=>k (c++cs) (.acons x az))
  |none=>none
 |.cell d t'::rs,t::ts,k=>match lk s.L d with
  |some (.lf (.optr l p))=>match lk T t with
   |some ty=>if t'=t∧0<ty.size then toK s.H 8 (.ptr ty) (.lf (.optr l p)) fun c x=>match x with
    |some x=>resK T s rs ts fun cs az=>k (c++cs) (.acons (.val ty x) az)
    |none=>none else none
   |none=>none
  |_=>none
 |_,_,_=>none
def resA(T:List (Nat×Ty))(fn:Func)(s:S):Option (List Prop×AV):=
 resK T s fn.results.toList fn.resultTypes.toList fun cs az=>match az with
  |.acons a .anil=>some (cs,a)
  |az=>some (cs,.tup az)
def retQ(T:List (Nat×Ty))(fn:Func)(R:AV→Prop)(e:Exit)(s:S):Prop:=(e=.ret∨e=.normal)∧∃ cs r,resA T fn s=some (cs,r)∧allP cs∧R r
def resOne(tmps:Array Value):ResultVar→Sem Value
 |.tmp t=>pure (tmps.getD t Go.undef)
 |.cell ad t=>do loadVar t (← asAddr (tmps.getD ad Go.undef))
def q14{tmps:Array Value}(h:(fn.results.toList.mapM (resOne tmps)).run P w=.ok vs w) :
  (results fn tmps).run P w=.ok (if h:vs.toArray.size=1 then vs.toArray[0] else .tuple vs.toArray) w:=by
 have e:results fn tmps=(do let vs ← fn.results.mapM (resOne tmps);pure (if h:vs.size=1 then vs[0] else .tuple vs)):=rfl;rw[e,yye,Array.mapM_eq_mapM_toList,Sem.run_map,h];rfl
def z8j(hT:TOK X.P X.T)(h1:SAT X M ρ s w)(h2:REG X M ρ s a)(hx:Seen ρ s M Mx w):∀ {rs:List ResultVar} {ts:List TypeId} {R:Type} {k:List Prop→AV→Option R} {r:R},resK X.T s rs ts k=some r →
  ∃ cs y,k cs y=some r∧y.bd 0∧(allP cs→∃ vs,y.rvs Mx ρ vs∧(rs.mapM (resOne a.tmps)).run X.P w=.ok vs w):=by
 intro rs;induction rs with
 |nil=>
  intro ts R k r h;cases ts with
  |nil=>simp only[resK] at h;exact⟨_,_,h,trivial,fun _=>⟨[],by simp[AV.rvs],rfl⟩⟩
  |cons t ts=>simp[resK] at h
 |cons rv rs ih=>
  intro ts R k r h;cases ts with
  |nil=>cases rv<;>simp[resK] at h
  |cons t ts=>
   cases rv with
   |tmp d=>
    simp only[resK] at h;split at h
    ·rename_i v hl;have hv:=h2.reg _ _ hl;split at h
     ·rename_i ty hty;obtain⟨c,x,h,hx'⟩:=q1k h1 hx 8 h;obtain⟨cs,az,h,hb,has⟩:=ih h;refine⟨_,_,h,⟨trivial,hb⟩,fun hc=>?_⟩;rw[q8] at hc;obtain⟨vs,k1,k2⟩:=has hc.2;refine⟨a.tmps.getD d Go.undef::vs,?_,?_⟩
      ·simp only[AV.rvs];exact⟨_,_,by simp only[AV.rv];exact(hx' hc.1).1 _ hv.2,k1,rfl⟩
      ·simp only[List.mapM_cons,resOne,yye,yyf,yyb,k2]
     ·obtain⟨c,x,h,hb1,hx'⟩:=q32 h1 hx h;obtain⟨cs,az,h,hb,has⟩:=ih h;refine⟨_,_,h,⟨hb1,hb⟩,fun hc=>?_⟩;rw[q8] at hc;obtain⟨vs,k1,k2⟩:=has hc.2;refine⟨a.tmps.getD d Go.undef::vs,?_,?_⟩
      ·simp only[AV.rvs];exact⟨_,_,(hx' hc.1).1 _ hv.2,k1,rfl⟩
      ·simp only[List.mapM_cons,resOne,yye,yyf,yyb,k2]
    ·cases h
   |cell d t'=>
    simp only[resK] at h;split at h
    ·rename_i l p hl;have hv:=h2.reg _ _ hl;split at h
     ·rename_i ty hty;split at h
      ·rename_i ht;obtain⟨rfl,hpos⟩:=ht;have hlk:∃ t0 a0,lk s.H l=some (.cell t0 a0):=by
        unfold toK at h;simp only at h;split at h
        ·rename_i t0 a0 hl';exact⟨t0,a0,hl'⟩
        ·cases h
       obtain⟨t0,a0,hlk⟩:=hlk;obtain⟨c,x,h,hx'⟩:=q1k h1 hx 8 h;split at h
       ·rename_i x';obtain⟨cs,az,h,hb,has⟩:=ih h;refine⟨_,_,h,⟨trivial,hb⟩,fun hc=>?_⟩;rw[q8] at hc;obtain⟨vs,k1,k2⟩:=has hc.2;obtain⟨vc,hr,hu⟩:=(hx' hc.1).1 _ hv.2;simp only[Rep] at hr;obtain⟨b,off,cc,tg,fz,rfl,hM,hr⟩:=hr;have hv2:=hv.2;rw[y7] at hv2;simp only[Leaf.at,yya] at hv2;have hu':a.tmps.getD d Go.undef=.pointer (some ⟨b,off,none⟩):=by rw[hu];rfl
        have hbk:ρ.blk l=b:=by have:=hv2.1.trans hu';simp only[Value.pointer.injEq,yya,Addr.mk.injEq] at this;exact this.1
        have hheap:w.heap[b]?=some (.cells cc tg fz):=by rw[← hM,← hbk];exact(hx.own l _ _ hlk rfl).symm
        have hlen:=hr.length;simp only[yy3,List.length_drop] at hlen;have hload:=q1l (hT _ _ hty) hheap (off:=off) (by simp at hlen;omega);refine⟨ty.wrap ((cc.toList.drop off).take ty.size)::vs,?_,?_⟩
        ·simp only[AV.rvs];exact⟨_,_,by simp only[AV.rv];exact⟨_,hr,rfl⟩,k1,rfl⟩
        ·simp only[List.mapM_cons,resOne,yye,hu',asAddr,yyf,yyb,hload,k2]
       ·cases h
      ·cases h
     ·cases h
    ·cases h
def argL_rvs{args:AV}(h:args.rvs M ρ vs)(hb:args.bd 0):∀ {i d:Nat} {v:AV},lk (argL args i) d=some v→v.bd 0∧i≤d∧∃ u,vs[d-i]?=some u∧v.rv M ρ u:=by
 induction args generalizing vs with
 |acons x y _ ihy=>
  intro i d v hl;simp only[AV.rvs] at h;obtain⟨u,r,k1,k2,rfl⟩:=h;simp only[argL,lk] at hl;split at hl
  ·rename_i e;subst e;injection hl with hl;subst hl
   exact⟨hb.1,yyn _,u,by simp,k1⟩
  ·obtain⟨e1,e2,u',e3,e4⟩:=ihy k2 hb.2 hl;refine⟨e1,by omega,u',?_,e4⟩;rw[show d-i=(d-(i+1))+1 by omega,yxi];exact e3
 |_=>intro i d v hl;simp[argL,lk] at hl
def argN:AV→Nat
 |.acons _ b=>argN b+1
 |_=>0
def z7z{args:AV}(h:args.rvs M ρ vs):vs.length=argN args:=by
 induction args generalizing vs with
 |acons x y _ ihy=>simp only[AV.rvs] at h;obtain⟨u,r,k1,k2,rfl⟩:=h;simp[argN,ihy k2]
 |anil=>simp only[AV.rvs] at h;subst h;rfl
 |_=>simp only[AV.rvs] at h
def q4u{P:Program}{fn:Func}{tmps:Array Value}{R:Ending→World→Prop}:∀ {Ds:List Nat} {w:World},Ds.Nodup→(∀ D∈Ds,w.heap[D]?=some (.deferred (some []))) →
  (∀ w'',(∀ n,(∀ D∈Ds,n≤D)→Below n w w'')→(∀ b,b∉Ds→w''.heap[b]?=w.heap[b]?)→LeavesIn Fence.wide 0 P fn tmps R [] .returning w'') →
  LeavesInM Fence.wide 0 P fn tmps R (Ds.map fun D=>({target:=.collected D,args:=#[]}:Deferred)) .returning w
 |[],w,_,_,h=>h w (fun n _=>Below.refl n w) (fun _ _=>rfl)
 |D::r,w,hn,hD,h=>by
  have hD0:=hD D yyg;obtain⟨hn1,hn2⟩:=yxh.1 hn;refine⟨by simp,.inl ⟨D,_,rfl,run_takeDeferred hD0,q4u hn2 (fun D' hD'=>?_) fun w'' h1 h2=>?_⟩⟩
  ·rw[World.putObj_heap_other (fun e=>hn1 (by rw[← e];exact hD'))];exact hD D' (yyh _ hD')
  ·refine h w'' (fun n hle=>?_) fun b hb=>?_
   ·have e1:Below n w (w.putObj D (.deferred none)):=⟨rfl,rfl,rfl,by simp,fun k hk=>World.putObj_heap_other (by have:=hle D yyg;omega)⟩;exact e1.trans (h1 n fun D' hD'=>hle D' (yyh _ hD'))
   ·rw[h2 b (fun hc=>hb (yyh _ hc)),World.putObj_heap_other (fun e=>hb (by rw[e];exact yyg))]
def Mem.without(M:Mem)(Ds:List Nat):Mem:=fun b=>if b∈Ds then none else M b
def SAT.taken{Ds:List Nat}(h:SAT X M ρ s w)(h0:∀ D∈Ds,X.M0 D=none)(hD:∀ D∈Ds,X.E.heap.size≤D∧M D=some (.deferred (some [])))(hb:∀ n,(∀ D∈Ds,n≤D)→Below n w w')(hk:∀ b,b∉Ds→w'.heap[b]?=w.heap[b]?) :
  M.le (M.without Ds)∧SAT X (M.without Ds) ρ s w':=by
 have hle:M.le (M.without Ds):=fun b c ty fz hm=>by unfold Mem.without;rw[if_neg];exact hm;intro hc;rw[(hD b hc).2] at hm;cases hm
 have hE:Below X.E.heap.size w w':=hb _ fun D hd=>(hD D hd).1;refine⟨hle,h.below.trans hE,fun b o hm=>(by unfold Mem.without;rw[if_neg (fun hc=>by rw[h0 b hc] at hm;cases hm)];exact h.msub b o hm),fun b hlt=>?_,fun b o hm=>?_,fun l o hl=>?_,h.apart,fun l o b hl hat=>?_⟩
 ·unfold Mem.without;rw[if_neg (fun hc=>by have:=(hD b hc).1;omega)];exact h.mnew b hlt
 ·unfold Mem.without at hm;split at hm
  ·cases hm
  ·rename_i hc;rw[hk b hc];exact h.mem b o hm
 ·obtain⟨e1,e2,e3⟩:=h.own l o hl;refine⟨e1,e2,q59 hle (Env.upTo.refl ρ s.nx) e1 e2 (q39 e3 fun b hat=>hk b fun hc=>?_)⟩;have:=h.notM l o b hl hat;rw[(hD b hc).2] at this;cases this
 ·unfold Mem.without;split
  ·rfl
  ·exact h.notM l o b hl hat
structure FnX(Z:Mem→World→Prop)(P:Program)(f:FuncId)(args:AV)(R:AV→Prop):Prop where
 call:∀ az w,(callFunc f az).run P w=.ok (.enter f az) w
 run:∀ (M:Mem) (ρ:Env) (w:World) (vs:List Value),Z M w→MemIn M w→args.rvs M ρ vs→args.bd 0 →
  Calls P f vs.toArray w (fun e w'=>∃ v r M',e=.returned v∧R r∧r.bd 0∧r.rv M' ρ v∧Below w.heap.size w w'∧M.le M'∧MemIn M' w'∧∀ b,b<w.heap.size→M' b=M b)
abbrev FnL(Z:Mem→Prop):=FnX fun M _=>Z M
def FnX.intro{Z:Mem→World→Prop}{P:Program}{T:List (Nat×Ty)}{ET:List (Nat×Nat)}{MT:List (Nat×(Nat×Nat))}(hok:∀ {X:Ctx},X.P=P→X.T=T→X.ET=ET→X.MT=MT→XOK X){f:FuncId}{fn:Func}{c:Code}{args:AV}{R:AV→Prop}(hf:P.funcs[f]?=some fn)(hb:fn.body=some c)
  (hcall:∀ az w,(callFunc f az).run P w=.ok (.enter f az) w) (hn:argN args≤fn.ntmps) (h:∀ E M0 up,Z M0 E→JC ⟨P,T,ET,MT,E,M0,fn.ntmps,none,up,0⟩ c (retQ T fn R) ⟨argL args 0,[],0⟩):FnX Z P f args R:=by
 refine⟨hcall,fun M ρ w vs hz hM hvs hbd=>(callsIn_wide (n:=0)).1 (callsIn_of_wp_marks hf hb trivial ?_ rfl)⟩
 let up0:Nat→Nat→Value:=fun _ _=>Go.undef
 have hlen:=z7z hvs;have hsat:SAT ⟨P,T,ET,MT,w,M,fn.ntmps,none,up0,0⟩ M ρ ⟨argL args 0,[],0⟩ w:=⟨Below.refl _ _,fun _ _ h=>h,fun _ _=>rfl,hM,fun l o h=>by simp[lk] at h,fun l l' o o' b h=>by simp[lk] at h,fun l o b h=>by simp[lk] at h⟩
 have hreg:REG ⟨P,T,ET,MT,w,M,fn.ntmps,none,up0,0⟩ M ρ ⟨argL args 0,[],0⟩ {tmps:=vs.toArray++Array.replicate (fn.ntmps-vs.toArray.size) Go.undef,defers:=[]}:=by
  refine⟨by simp;omega,⟨[],rfl,yx2,by simp,.inl rfl⟩,fun d v hd=>?_⟩;obtain⟨e1,e2,u,e3,e4⟩:=argL_rvs hvs hbd hd;refine⟨e1,?_⟩;rw[Nat.sub_zero] at e3;have hd':d<vs.length:=by
   rcases Nat.lt_or_ge d vs.length with h|h
   ·exact h
   ·rw[yxe h] at e3;cases e3
  have:(vs.toArray++Array.replicate (fn.ntmps-vs.toArray.size) Go.undef).getD d Go.undef=u:=by rw[yyx,Array.getElem?_append_left (by simpa using hd')];simp[e3]
  rw[this];exact e4
 refine wpIn_mono (h w M up0 hz M ρ _ w hsat hreg) ?_;rintro e a1 w1 ⟨M2,ρ1,s1,k1',k2',hex,cs,r,hr,hc,hR⟩;obtain⟨Ds,hds,hnd,hDs,_⟩:=k2'.defers;have fin:LeavesInM Fence.wide 0 P fn a1.tmps (fun e w'=>∃ v r M',e=Ending.returned v∧R r∧r.bd 0∧r.rv M' ρ v∧Below w.heap.size w w'∧M.le M'∧MemIn M' w'∧∀ b,b<w.heap.size→M' b=M b) a1.defers .returning w1:=by
  rw[hds];refine q4u hnd (fun D hD=>k1'.mem _ _ (hDs D hD).2) fun w' hbel hkeep=>?_;obtain⟨hle,k1⟩:=k1'.taken (fun D hD=>by
   show M D=none;cases hMD:M D with
   |none=>rfl
   |some o=>have h1:=(yym.1 (hM D o hMD)).1;have h2:w.heap.size≤D:=(hDs D hD).1;omega) hDs hbel hkeep
  let a':Act:={a1 with defers:=[]}
  let M1:=M2.without Ds
  have k2:REG ⟨P,T,ET,MT,w,M,fn.ntmps,none,up0,0⟩ M1 ρ1 s1 a':=⟨k2'.size,⟨[],rfl,yx2,by simp,.inl rfl⟩,fun d v hd=>⟨(k2'.reg d v hd).1,w9 hle (Env.upTo.refl ρ1 s1.nx) (k2'.reg d v hd).1 (k2'.reg d v hd).2⟩⟩
  let Mx:Mem:=fun b=>if b<w.heap.size then M b else w'.heap[b]?
  have hE:w.heap.size≤w'.heap.size:=k1.below.size;have hseen:Seen ρ1 s1 M1 Mx w':=by
   refine⟨fun b c ty fz hb=>?_,fun l o b hl hb=>?_⟩
   ·show(if b<w.heap.size then M b else w'.heap[b]?)=_;split
    ·rename_i hlt;rw[← hb];exact(k1.mnew b hlt).symm
    ·exact k1.mem b _ hb
   ·show(if b<w.heap.size then M b else w'.heap[b]?)=_;have:=(g9 (k1.own l o hl).2.2 hb).1;rw[if_neg (by exact Nat.not_lt.2 this)]
  have hres:∃ v,(results fn a'.tmps).run P w'=.ok v w'∧r.bd 0∧r.rv Mx ρ1 v:=by
   unfold resA at hr;obtain⟨cs',y,hr,hyb,hy⟩:=z8j (X:=⟨P,T,ET,MT,w,M,fn.ntmps,none,up0,0⟩) (hok rfl rfl rfl rfl).t k1 k2 hseen hr;have hrun:∀ vs,(fn.results.toList.mapM (resOne a'.tmps)).run P w'=.ok vs w'→(results fn a'.tmps).run P w'=.ok (if h:vs.toArray.size=1 then vs.toArray[0] else .tuple vs.toArray) w':=fun vs h=>q14 h;split at hr
   ·rename_i x;simp only[yya,yyp] at hr;obtain⟨rfl,rfl⟩:=hr;obtain⟨vs,k3,k4⟩:=hy hc;simp only[AV.rvs] at k3;obtain⟨v,r',k5,rfl,rfl⟩:=k3;exact⟨v,by have:=hrun _ k4;simpa using this,hyb.1,k5⟩
   ·rename_i hne;simp only[yya,yyp] at hr;obtain⟨rfl,rfl⟩:=hr;obtain⟨vs,k3,k4⟩:=hy hc;refine⟨.tuple vs.toArray,?_,hyb,by simp only[AV.rv];exact⟨vs,k3,rfl⟩⟩;have:=hrun _ k4;have hsz:vs.toArray.size≠1:=by
     intro hsz;cases y with
     |acons x z=>
      simp only[AV.rvs] at k3;obtain⟨v,r',k5,k6,rfl⟩:=k3;have:r'=[]:=by simpa using hsz
      subst this;cases z with
      |anil=>exact hne x rfl
      |acons=>simp[AV.rvs] at k6
      |_=>simp only[AV.rvs] at k6
     |anil=>simp only[AV.rvs] at k3;subst k3;simp at hsz
     |_=>simp only[AV.rvs] at k3
    rwa[dif_neg hsz] at this
  obtain⟨v,hrun,hrb,hrv⟩:=hres;have hpost:∃ v' r M',Ending.returned v=.returned v'∧R r∧r.bd 0∧r.rv M' ρ v'∧Below w.heap.size w w'∧M.le M'∧MemIn M' w'∧∀ b,b<w.heap.size→M' b=M b:=by
   refine⟨v,r,Mx,rfl,hR,hrb,w9 (Mem.le_refl Mx) (fun l hl=>absurd hl (Nat.not_lt_zero _)) hrb hrv,k1.below,fun b c ty fz hb=>?_,fun b o hb=>?_,fun b hb=>?_⟩
   ·show(if b<w.heap.size then M b else w'.heap[b]?)=_;rw[if_pos (yym.1 (hM b _ hb)).1];exact hb
   ·have hb':(if b<w.heap.size then M b else w'.heap[b]?)=some o:=hb;split at hb'
    ·rename_i hlt;rw[← hb'];exact((congrArg (w'.heap[·]?) rfl).trans (k1.below.block b hlt)).trans ((hM b o hb').trans hb'.symm)
    ·exact hb'
   ·show(if b<w.heap.size then M b else w'.heap[b]?)=M b;rw[if_pos hb]
  exact⟨v,hrun,hpost⟩
 rcases hex with rfl|rfl
 ·exact fin
 ·exact fin
def FnL.intro{Z:Mem→Prop}{P:Program}{T:List (Nat×Ty)}{ET:List (Nat×Nat)}{MT:List (Nat×(Nat×Nat))}(hok:∀ {X:Ctx},X.P=P→X.T=T→X.ET=ET→X.MT=MT→XOK X){f:FuncId}{fn:Func}{c:Code}{args:AV}{R:AV→Prop}(hf:P.funcs[f]?=some fn)(hb:fn.body=some c)
  (hcall:∀ az w,(callFunc f az).run P w=.ok (.enter f az) w) (hn:argN args≤fn.ntmps) (h:∀ E M0 up,Z M0→JC ⟨P,T,ET,MT,E,M0,fn.ntmps,none,up,0⟩ c (retQ T fn R) ⟨argL args 0,[],0⟩):FnL Z P f args R:=FnX.intro hok hf hb hcall hn h
def Fn.intro{P:Program}{T:List (Nat×Ty)}{ET:List (Nat×Nat)}{MT:List (Nat×(Nat×Nat))}(hok:∀ {X:Ctx},X.P=P→X.T=T→X.ET=ET→X.MT=MT→XOK X){f:FuncId}{fn:Func}{c:Code}{args:AV}{R:AV→Prop}(hf:P.funcs[f]?=some fn)(hb:fn.body=some c)
  (hcall:∀ az w,(callFunc f az).run P w=.ok (.enter f az) w) (hn:argN args≤fn.ntmps) (h:∀ E M0 up,JC ⟨P,T,ET,MT,E,M0,fn.ntmps,none,up,0⟩ c (retQ T fn R) ⟨argL args 0,[],0⟩):Fn P f args R:=
 let x:=FnL.intro (Z:=fun _=>True) hok hf hb hcall hn fun E M0 up _=>h E M0 up
 ⟨x.call,fun M ρ w vs=>x.run M ρ w vs trivial⟩
def cellEq:Value→Value→Bool
 |.int k n,.int k' m=>k==k'&&n==m
 |.bool a,.bool b=>a==b
 |.slice none 0 0,.slice none 0 0=>true
 |.pointer none,.pointer none=>true
 |_,_=>false
def q7d{a b:Value}(h:cellEq a b=true):a=b:=by
 unfold cellEq at h;split at h
 ·simp only[yyd,beq_iff_eq] at h;rw[h.1,h.2]
 ·simp only[beq_iff_eq] at h;rw[h]
 ·rfl
 ·rfl
 ·cases h
def cellsEq:List Value→List Value→Bool
 |[],[]=>true
 |a::x,b::y=>cellEq a b&&cellsEq x y
 |_,_=>false
def q5x:∀ {x y:List Value},cellsEq x y=true→x=y
 |[],[],_=>rfl
 |a::x,b::y,h=>by simp only[cellsEq,yyd] at h;rw[q7d h.1,q5x h.2]
 |[],_::_,h=>by simp[cellsEq] at h
 |_::_,[],h=>by simp[cellsEq] at h
def zeroEq:Value→Value→Bool
 |.agg x,.agg y=>cellsEq x.toList y.toList
 |a,b=>cellEq a b
def z2s{a b:Value}(h:zeroEq a b=true):a=b:=by
 unfold zeroEq at h;split at h
 ·have:=q5x h;rw[Array.ext' this]
 ·exact q7d h
def infoB(P:Program)(id:TypeId)(t:Ty):Bool:=
 match P.info? id with
 |some i=>i.size==t.size&&decide (i.bytes≤65536)&&(match i.zero with|some z=>zeroEq z (t.wrap t.zc)|none=>false)
 |none=>false
def r7{id:TypeId}{t:Ty}{d:TypeDesc}(h:infoB P id t=true)(hd:P.underlying id=some d):InfoOf P id t d:=by
 unfold infoB at h;split at h
 ·rename_i i hi;simp only[yyd,beq_iff_eq,yyu] at h;refine⟨hd,by rw[hi];simp[h.1.1],?_,by rw[hi];simp[h.1.2]⟩;have h2:=h.2;split at h2
  ·rename_i z hz;rw[hi];simp[hz,z2s h2]
  ·cases h2
 ·cases h
def tyB(P:Program):Ty→TypeId→Bool
 |.int k,id=>infoB P id (.int k)&&(match P.underlying id with|some (.int k')=>k'==k|_=>false)
 |.bool,id=>infoB P id .bool&&(match P.underlying id with|some .bool=>true|_=>false)
 |.slice e,id=>infoB P id (.slice e)&&(match P.underlying id with|some (.slice eid)=>tyB P e eid|_=>false)
 |.ptr e,id=>infoB P id (.ptr e)&&(match P.underlying id with|some (.pointer eid)=>tyB P e eid|_=>false)
 |.arr n e,id=>infoB P id (.arr n e)&&(match P.underlying id with|some (.array m eid)=>m==n&&tyB P e eid|_=>false)
 |.nil,_=>false
 |.cons a b,id=>infoB P id (.cons a b)&&(match P.underlying id with
   |some (.struct fs)=>(match fs.toList with
    |f::r=>f.offset==0&&tyB P a f.type&&a.size != 0&&fieldsB P b r a.size
    |[]=>false)
   |_=>false)
where
 fieldsB (P:Program):Ty→List Field→Nat→Bool
 |.nil,[],_=>true
 |.cons a b,f::r,off=>f.offset==off&&tyB P a f.type&&a.size != 0&&fieldsB P b r (off+a.size)
 |_,_,_=>false
mutual
def s9{P:Program}:∀ {t:Ty} {id:TypeId},tyB P t id=true→TyOf P t id
 |.int k,id,h=>by
  simp only[tyB,yyd] at h;obtain⟨h1,h2⟩:=h;split at h2
  ·rename_i k' hk;simp only[beq_iff_eq] at h2;subst h2;simp only[TyOf];exact r7 h1 hk
  ·cases h2
 |.bool,id,h=>by
  simp only[tyB,yyd] at h;obtain⟨h1,h2⟩:=h;split at h2
  ·rename_i hk;simp only[TyOf];exact r7 h1 hk
  ·cases h2
 |.slice e,id,h=>by
  simp only[tyB,yyd] at h;obtain⟨h1,h2⟩:=h;split at h2
  ·rename_i eid hk;simp only[TyOf];exact⟨eid,r7 h1 hk,s9 h2⟩
  ·cases h2
 |.ptr e,id,h=>by
  simp only[tyB,yyd] at h;obtain⟨h1,h2⟩:=h;split at h2
  ·rename_i eid hk;simp only[TyOf];exact⟨eid,r7 h1 hk,s9 h2⟩
  ·cases h2
 |.arr n e,id,h=>by
  simp only[tyB,yyd] at h;obtain⟨h1,h2⟩:=h;split at h2
  ·rename_i m eid hk;simp only[yyd,beq_iff_eq] at h2;obtain⟨rfl,h2⟩:=h2;simp only[TyOf];exact⟨eid,r7 h1 hk,s9 h2⟩
  ·cases h2
 |.nil,id,h=>by simp[tyB] at h
 |.cons a b,id,h=>by
  simp only[tyB,yyd] at h;obtain⟨h1,h2⟩:=h;split at h2
  ·rename_i fs hk;simp only[TyOf];refine⟨fs,r7 h1 hk,?_⟩;split at h2
   ·rename_i f r hf;simp only[yyd,beq_iff_eq,bne_iff_ne] at h2;simp only[hf];exact⟨h2.1.1.1,s9 h2.1.1.2,h2.1.2,q5s h2.2⟩
   ·cases h2
  ·cases h2
def q5s{P:Program}:∀ {t:Ty} {r:List Field} {off:Nat},tyB.fieldsB P t r off=true→TyOf.fields P t r off
 |.nil,[],_,_=>by simp[TyOf.fields]
 |.cons a b,f::r,off,h=>by simp only[tyB.fieldsB,yyd,beq_iff_eq,bne_iff_ne] at h;simp only[TyOf.fields];exact⟨h.1.1.1,s9 h.1.1.2,h.1.2,q5s h.2⟩
 |.nil,_::_,_,h=>by simp[tyB.fieldsB] at h
 |.cons _ _,[],_,h=>by simp[tyB.fieldsB] at h
 |.int _,_,_,h=>by simp[tyB.fieldsB] at h
 |.bool,_,_,h=>by simp[tyB.fieldsB] at h
 |.slice _,_,_,h=>by simp[tyB.fieldsB] at h
 |.ptr _,_,_,h=>by simp[tyB.fieldsB] at h
 |.arr _ _,_,_,h=>by simp[tyB.fieldsB] at h
end
def tabB(P:Program)(T:List (Nat×Ty))(ET:List (Nat×Nat))(MT:List (Nat×(Nat×Nat))):Bool:=T.all (fun p=>tyB P p.2 p.1)&&ET.all (fun p=>match P.underlying p.1 with|some (.slice e)=>e==p.2|_=>false)&&MT.all (fun p=>match P.underlying p.1 with|some (.map k e)=>k==p.2.1&&e==p.2.2|_=>false)&&P.follows .mixedOrders
def z9f{ET:List (Nat×Nat)}{MT:List (Nat×(Nat×Nat))}(h:tabB P T ET MT=true)(h1:X.P=P)(h2:X.T=T)(h3:X.ET=ET)(h4:X.MT=MT):XOK X:=by
 subst h1 h2 h3 h4;simp only[tabB,yyd] at h;obtain⟨⟨⟨h1,h2⟩,h4⟩,h3⟩:=h;refine⟨fun id t hl=>s9 (yy9.1 h1 (id,t) (p6 hl)),fun id e hl=>?_,fun id kv hl=>?_,h3⟩
 ·have:=yy9.1 h2 (id,e) (p6 hl);simp only at this;split at this
  ·rename_i e' he;simp only[beq_iff_eq] at this;subst this;exact he
  ·cases this
 ·have:=yy9.1 h4 (id,kv) (p6 hl);simp only at this;split at this
  ·rename_i k e he;simp only[beq_iff_eq,yyd] at this;obtain⟨e1,e2⟩:=this;rw[he,e1,e2]
  ·cases this
def Leaf.ren(f:Nat→Nat):Leaf→Leaf
 |.nils=>.nils|.nilp=>.nilp
 |.osl l=>.osl (f l)|.ovw l a b c=>.ovw (f l) a b c|.optr l p=>.optr (f l) p|.oelt l k p=>.oelt (f l) k p|.oarr l p n c=>.oarr (f l) p n c
 |.mp l=>.mp (f l)|.itr l=>.itr (f l)|.yld l=>.yld (f l)
def RV.ren(f:Nat→Nat):RV→RV
 |.p l q=>.p (f l) q|.s l q k c=>.s (f l) q k c|.o l e lo hi w z=>.o (f l) e lo hi w z|.m l=>.m (f l)|.it l=>.it (f l)|.y l=>.y (f l)
 |.f fi a c=>.f fi (a.ren f) (c.ren f)|.g c=>.g (c.ren f)|.t c=>.t (c.ren f)|.cons a r=>.cons (a.ren f) (r.ren f)
 |r=>r
def AV.ren(f:Nat→Nat):AV→AV
 |.val t x=>.val t x|.anil=>.anil|.undef=>.undef|.full e l=>.full e l
 |.lf x=>.lf (x.ren f)
 |.mix a b=>.mix (a.ren f) (b.ren f)|.acons a b=>.acons (a.ren f) (b.ren f)|.fn g a b=>.fn g (a.ren f) (b.ren f)
 |.tup a=>.tup (a.ren f)|.gd g a=>.gd g (a.ren f)|.pfn a=>.pfn (a.ren f)
 |.raw r=>.raw (r.ren f)
def HO.ren(f:Nat→Nat):HO→HO
 |.cell t a=>.cell t (a.ren f)
 |.sl eid e xs=>.sl eid e xs
 |.map kt vt es clk=>.map kt vt es clk
 |.iter m since seen last=>.iter (f m) since seen last
 |.cus Q=>.cus Q
 |.loop st pe ps az bd n L=>.loop st pe ps az bd n (L.map fun p=>(p.1,p.2.ren f))
 |.fr i L=>.fr i (L.map fun p=>(p.1,p.2.ren f))
 |.raw ty k n c=>.raw ty k n fun i=>(c i).ren f
 |.rmap es clk=>.rmap (es.map fun x=>(x.1.ren f,x.2.1.ren f,x.2.2)) clk
 |.riter m since seen last bk=>.riter (f m) since seen last bk
 |.gl g ty n c=>.gl g ty n fun i=>(c i).ren f
def j2c{f:AV→AV}:∀ {L:List (Nat×AV)} {d:Nat},lk (L.map fun p=>(p.1,f p.2)) d=(lk L d).map f
 |[],_=>rfl
 |(k,v)::r,d=>by
  simp only[yy4,lk];split
  ·rfl
  ·exact j2c
def Env.via(ρ:Env)(f:Nat→Nat):Env:=⟨fun l=>ρ.blk (f l),fun l=>ρ.ty (f l),fun l=>ρ.sv (f l)⟩
def q9n(ρ:Env)(f:Nat→Nat)(x:Leaf):x.at (ρ.via f)=(x.ren f).at ρ:=by cases x<;>rfl
mutual
def q3m(ρ:Env)(f:Nat→Nat):∀ r:RV,r.cv (ρ.via f)=(r.ren f).cv ρ
 |.i ..|.b _|.np|.ns|.fz|.nm|.u|.nil|.cons _ _|.p ..|.s ..|.m _|.it _|.y _|.o ..=>rfl
 |.f _ a c=>by simp only[RV.cv,RV.ren];rw[q54 ρ f a,q54 ρ f c]
 |.g c|.t c=>by simp only[RV.cv,RV.ren];rw[q54 ρ f c]
def q54(ρ:Env)(f:Nat→Nat):∀ r:RV,r.cl (ρ.via f)=(r.ren f).cl ρ
 |.cons a r=>by simp only[RV.cl,RV.ren];rw[q3m ρ f a,q54 ρ f r]
 |.i ..|.b _|.np|.ns|.fz|.nm|.u|.nil|.p ..|.s ..|.m _|.it _|.y _|.o ..|.f ..|.g _|.t _=>rfl
end
mutual
def q64(M:Mem)(ρ:Env)(f:Nat→Nat):∀ (a:AV) (v:Value),(a.ren f).rv M ρ v→a.rv M (ρ.via f) v
 |.val _ _,v,h=>by simp only[AV.ren,AV.rv] at h ⊢;exact h
 |.anil,v,h=>by simp only[AV.ren,AV.rv] at h
 |.undef,v,h=>by simp only[AV.ren,AV.rv] at h ⊢;exact h
 |.full _ _,v,h=>by simp only[AV.ren,AV.rv] at h ⊢;exact h
 |.lf x,v,h=>by simp only[AV.ren,AV.rv] at h ⊢;rw[q9n];exact h
 |.mix a b,v,h=>by simp only[AV.ren,AV.rv] at h ⊢;obtain⟨c1,c2,h1,h2,h3⟩:=h;exact⟨c1,c2,z25 M ρ f a c1 h1,z25 M ρ f b c2 h2,h3⟩
 |.acons _ _,v,h=>by simp only[AV.ren,AV.rv] at h
 |.fn g a b,v,h=>by simp only[AV.ren,AV.rv] at h ⊢;obtain⟨c1,c2,h1,h2,h3⟩:=h;exact⟨c1,c2,q6g M ρ f a c1 h1,q6g M ρ f b c2 h2,h3⟩
 |.tup a,v,h=>by simp only[AV.ren,AV.rv] at h ⊢;obtain⟨c1,h1,h2⟩:=h;exact⟨c1,q6g M ρ f a c1 h1,h2⟩
 |.gd g a,v,h=>by simp only[AV.ren,AV.rv] at h ⊢;exact⟨fun e=>q64 M ρ f a v (h.1 e),h.2⟩
 |.pfn a,v,h=>by simp only[AV.ren,AV.rv] at h ⊢;obtain⟨b,fv,ty,fz,h1,h2,h3⟩:=h;exact⟨b,fv,ty,fz,h1,h2,q64 M ρ f a fv h3⟩
 |.raw r,v,h=>by simp only[AV.ren,AV.rv] at h ⊢;rw[h,q3m]
def q6g(M:Mem)(ρ:Env)(f:Nat→Nat):∀ (a:AV) (v:List Value),(a.ren f).rvs M ρ v→a.rvs M (ρ.via f) v
 |.anil,v,h=>by simp only[AV.ren,AV.rvs] at h ⊢;exact h
 |.acons a b,v,h=>by simp only[AV.ren,AV.rvs] at h ⊢;obtain⟨c1,c2,h1,h2,h3⟩:=h;exact⟨c1,c2,q64 M ρ f a c1 h1,q6g M ρ f b c2 h2,h3⟩
 |.val _ _,v,h=>by simp only[AV.ren,AV.rvs] at h
 |.undef,v,h=>by simp only[AV.ren,AV.rvs] at h
 |.full _ _,v,h=>by simp only[AV.ren,AV.rvs] at h
 |.lf x,v,h=>by simp only[AV.ren,AV.rvs] at h
 |.mix a b,v,h=>by simp only[AV.ren,AV.rvs] at h
 |.fn g a b,v,h=>by simp only[AV.ren,AV.rvs] at h
 |.tup a,v,h=>by simp only[AV.ren,AV.rvs] at h
 |.gd g a,v,h=>by simp only[AV.ren,AV.rvs] at h
 |.pfn a,v,h=>by simp only[AV.ren,AV.rvs] at h
 |.raw a,v,h=>by simp only[AV.ren,AV.rvs] at h
def z25(M:Mem)(ρ:Env)(f:Nat→Nat):∀ (a:AV) (v:List Value),(a.ren f).rc M ρ v→a.rc M (ρ.via f) v
 |.val _ _,v,h=>by simp only[AV.ren,AV.rc] at h ⊢;exact h
 |.lf x,v,h=>by simp only[AV.ren,AV.rc] at h ⊢;rw[q9n];exact h
 |.mix a b,v,h=>by simp only[AV.ren,AV.rc] at h ⊢;obtain⟨c1,c2,h1,h2,h3⟩:=h;exact⟨c1,c2,z25 M ρ f a c1 h1,z25 M ρ f b c2 h2,h3⟩
 |.fn g a b,v,h=>by simp only[AV.ren,AV.rc] at h ⊢;obtain⟨c1,c2,h1,h2,h3⟩:=h;exact⟨c1,c2,q6g M ρ f a c1 h1,q6g M ρ f b c2 h2,h3⟩
 |.anil,v,h=>by simp only[AV.ren,AV.rc] at h
 |.undef,v,h=>by simp only[AV.ren,AV.rc] at h
 |.full _ _,v,h=>by simp only[AV.ren,AV.rc] at h
 |.acons _ _,v,h=>by simp only[AV.ren,AV.rc] at h
 |.tup a,v,h=>by simp only[AV.ren,AV.rc] at h
 |.gd g a,v,h=>by simp only[AV.ren,AV.rc] at h
 |.pfn a,v,h=>by simp only[AV.ren,AV.rc] at h
 |.raw a,v,h=>by simp only[AV.ren,AV.rc] at h
end
def conf_ren(f:Nat→Nat):∀ {t:Ty} {a:AV},confB t (a.ren f)=confB t a:=by
 intro t a;induction a generalizing t with
 |mix x y ihx ihy=>
  cases t with
  |arr n e=>cases n<;>simp[AV.ren,confB,ihx,ihy]
  |_=>simp[AV.ren,confB,ihx,ihy]
 |lf x=>cases x<;>cases t<;>rfl
 |_=>cases t<;>rfl
def covL(f:Nat→Nat):List (Nat×AV)→List (Nat×AV)→Prop
 |[],_=>True
 |(d,v)::r,L=>lk L d=some (v.ren f)∧covL f r L
def covH(f:Nat→Nat):List (Nat×HO)→List (Nat×HO)→Prop
 |[],_=>True
 |(d,o)::r,H=>lk H (f d)=some (o.ren f)∧covH f r H
def z3x{f:Nat→Nat}{L:List (Nat×AV)}:∀ {r:List (Nat×AV)},covL f r L→∀ d v,(d,v)∈r→lk L d=some (v.ren f)
 |[],_,d,v,h=>by simp at h
 |(k,u)::r,hc,d,v,h=>by
  rcases yyk.1 h with h|h
  ·injection h with h1 h2;subst h1 h2;exact hc.1
  ·exact z3x hc.2 d v h
def z3y{f:Nat→Nat}{L:List (Nat×HO)}:∀ {r:List (Nat×HO)},covH f r L→∀ d v,(d,v)∈r→lk L (f d)=some (v.ren f)
 |[],_,d,v,h=>by simp at h
 |(k,u)::r,hc,d,v,h=>by
  rcases yyk.1 h with h|h
  ·injection h with h1 h2;subst h1 h2;exact hc.1
  ·exact z3y hc.2 d v h
def bdL(n:Nat):List (Nat×AV)→Prop
 |[]=>True
 |(_,v)::r=>v.bd n∧bdL n r
def bdH(n:Nat):List (Nat×HO)→Prop
 |[]=>True
 |(d,o)::r=>d<n∧o.bd n∧bdH n r
def z2i{n:Nat}:∀ {r:List (Nat×AV)},bdL n r→∀ d v,(d,v)∈r→v.bd n
 |[],_,d,v,h=>by simp at h
 |(k,u)::r,hc,d,v,h=>by
  rcases yyk.1 h with h|h
  ·injection h with h1 h2;subst h1 h2;exact hc.1
  ·exact z2i hc.2 d v h
def q7x{n:Nat}:∀ {r:List (Nat×HO)},bdH n r→∀ d v,(d,v)∈r→d<n∧v.bd n
 |[],_,d,v,h=>by simp at h
 |(k,u)::r,hc,d,v,h=>by
  rcases yyk.1 h with h|h
  ·injection h with h1 h2;subst h1 h2;exact⟨hc.1,hc.2.1⟩
  ·exact q7x hc.2.2 d v h
def injH(f:Nat→Nat):List (Nat×HO)→Bool
 |[]=>true
 |(d,_)::r=>r.all (fun p=>p.1==d||f p.1 != f d)&&injH f r
def z3m{f:Nat→Nat}:∀ {r:List (Nat×HO)},injH f r=true→∀ d o d' o',(d,o)∈r→(d',o')∈r→f d=f d'→d=d'
 |[],_,d,o,d',o',h,_,_=>by simp at h
 |(k,u)::r,hc,d,o,d',o',h,h',e=>by
  simp only[injH,yyd,yy9,yy1,beq_iff_eq,bne_iff_ne] at hc;rcases yyk.1 h with g|g<;>rcases yyk.1 h' with g'|g'
  ·injection g with h1;injection g' with h2;omega
  ·injection g with h1 h2
   rcases hc.1 _ g' with h3|h3
   ·exact h1.trans h3.symm
   ·exact absurd (h1▸e.symm) h3
  ·injection g' with h1 h2
   rcases hc.1 _ g with h3|h3
   ·exact h3.trans h1.symm
   ·exact absurd (h1▸e) h3
  ·exact z3m hc.2 d o d' o' g g' e
def z4f{f:Nat→Nat}{l:Nat}{o:HO}(h:(o.ren f).ok X M ρ (f l) w):o.ok X M (ρ.via f) l w:=by
 cases o with
 |cell t a=>simp only[HO.ren,HO.ok] at h ⊢;obtain⟨h1,h2,h3,c,ty,h4,h5⟩:=h;exact⟨h1,by rw[← conf_ren f];exact h2,h3,c,ty,h4,z25 M ρ f a _ h5⟩
 |sl eid e xs=>exact h
 |map kt vt es clk=>exact h
 |iter m since seen last=>exact h
 |cus Q=>exact h
 |loop st pe ps az bd n L=>simp only[HO.ren,HO.ok] at h ⊢;obtain⟨h1,fn,tm,D,h2,h3,h4⟩:=h;exact⟨h1,fn,tm,D,h2,h3,fun d v hd=>q64 M ρ f v _ (h4 d _ (by rw[j2c,hd];rfl))⟩
 |fr i L=>simp only[HO.ren,HO.ok] at h ⊢;exact⟨h.1,fun d v hd=>q64 M ρ f v _ (h.2 d _ (by rw[j2c,hd];rfl))⟩
 |raw ty k n c=>simp only[HO.ren,HO.ok] at h ⊢;obtain⟨h1,cs,h2,h3,h4,h5⟩:=h;exact⟨h1,cs,h2,h3,fun i hi=>by rw[q3m];exact h4 i hi,h5⟩
 |rmap es clk=>simp only[HO.ren,HO.ok] at h ⊢;obtain⟨h1,ms,h2,h3⟩:=h;refine⟨h1,ms,h2,h3.trans ?_⟩;rw[List.map_map];exact List.map_congr_left fun x _=>by simp only[Function.comp,q3m]
 |riter m since seen last bk=>exact h
 |gl g ty n c=>simp only[HO.ren,HO.ok] at h ⊢;obtain⟨h1,cs,ty',fz,h2,h3,h4⟩:=h;exact⟨h1,cs,ty',fz,h2,h3,fun i hi=>by rw[q3m];exact h4 i hi⟩
def q6a{f:Nat→Nat}{l:Nat}(o:HO):o.at (ρ.via f) l=(o.ren f).at ρ (f l):=by cases o<;>rfl
def JW.of(f:Nat→Nat){L':List (Nat×AV)}{H':List (Nat×HO)}{nx':Nat}(hL:covL f L' s.L)(hH:covH f H' s.H)(hbL:bdL nx' L')(hbH:bdH nx' H')(hi:injH f H'=true):JW X ⟨L',H',nx'⟩ s:=by
 intro M ρ a w h1 h2;have lkH:∀ l o,lk H' l=some o→lk s.H (f l)=some (o.ren f):=fun l o h=>z3y hH l o (p6 h);refine⟨ρ.via f,⟨h1.below,h1.msub,h1.mnew,h1.mem,fun l o hl=>?_,fun l l' o o' b hl hl' hb hb'=>?_,fun l o b hl hb=>?_⟩,⟨h2.size,h2.defers,fun d v hd=>?_⟩⟩
 ·have e:=q7x hbH l o (p6 hl);exact⟨e.1,e.2,z4f (h1.own _ _ (lkH l o hl)).2.2⟩
 ·rw[q6a] at hb hb';exact z3m hi l o l' o' (p6 hl) (p6 hl') (h1.apart _ _ _ _ b (lkH l o hl) (lkH l' o' hl') hb hb')
 ·rw[q6a] at hb;exact h1.notM _ _ b (lkH l o hl) hb
 ·have e:=z3x hL d v (p6 hd);exact⟨z2i hbL d v (p6 hd),q64 M ρ f v _ (h2.reg _ _ e).2⟩
def n9{s':S}(h:JW X s' s)(k:JC X c QA s'):JC X c QA s:=fun M ρ a w h1 h2=>by obtain⟨ρ',e1,e2⟩:=h M ρ a w h1 h2;exact k M ρ' a w e1 e2
variable {K:S→Prop}
variable {L L':List (Nat×AV)}{H H':List (Nat×HO)}{nx nx' d:Nat}{op:Op}{ty:TypeId}{ps:String}{af:Array Edge}{cs:List Prop}{v:AV}{g:Bool}{gg:Nat×Bool}
def ltB(d n:Nat):Bool:=Nat.blt d n
def y6{d n:Nat}(h:ltB d n=true):d<n:=by simpa[ltB] using h
def JL.q1(hX:XOK X)(h:evb X.T op ⟨L,H,nx⟩=some (cs,v))(hd:ltB d X.n=true)(hc:allP cs)(k:JL X md all QA l ⟨(d,v)::L,H,nx⟩):JL X md all QA (⟨some d,op,ty,ps,af,none⟩::l) ⟨L,H,nx⟩:=JL.q hX rfl h (y6 hd) hc k
def JL.q0(hX:XOK X)(h:evb X.T op ⟨L,H,nx⟩=some (cs,v))(hc:allP cs)(k:JL X md all QA l ⟨L,H,nx⟩):JL X md all QA (⟨none,op,ty,ps,af,none⟩::l) ⟨L,H,nx⟩:=JL.q hX rfl h trivial hc k
def JL.m1(hX:XOK X)(h:evm X.T X.ET op ⟨L,H,nx⟩=some (cs,v,⟨L',H',nx'⟩))(hd:ltB d X.n=true)(hc:allP cs)(k:JL X true all QA l ⟨(d,v)::L',H',nx'⟩):JL X true all QA (⟨some d,op,ty,ps,af,none⟩::l) ⟨L,H,nx⟩:=JL.m hX rfl h (y6 hd) hc k
def JL.m0(hX:XOK X)(h:evm X.T X.ET op ⟨L,H,nx⟩=some (cs,v,⟨L',H',nx'⟩))(hc:allP cs)(k:JL X true all QA l ⟨L',H',nx'⟩):JL X true all QA (⟨none,op,ty,ps,af,none⟩::l) ⟨L,H,nx⟩:=JL.m hX rfl h trivial hc k
def JL.g1(hX:XOK X)(hg:gOf all L (some gg)=some g)(h:evb X.T op ⟨L,H,nx⟩=some (cs,v))(hd:ltB d X.n=true)(hc:g=true→allP cs)(k:JL X md all QA l ⟨(d,.gd g v)::L,H,nx⟩):JL X md all QA (⟨some d,op,ty,ps,af,some gg⟩::l) ⟨L,H,nx⟩:=JL.g hX hg h (y6 hd) hc k
def JL.s1{args r:AV}(h:callA X.T op ⟨L,H,nx⟩=some (cs,f,args))(hf:Fn X.P f args (·=r))(hr:r.scal=true)(hrb:r.bd 0)(hd:ltB d X.n=true)(hc:allP cs)(k:JL X md all QA l ⟨(d,r)::L,H,nx⟩) :
  JL X md all QA (⟨some d,op,ty,ps,af,none⟩::l) ⟨L,H,nx⟩:=JL.callS rfl h hf hr hrb (y6 hd) hc k
def JL.s1g{args r:AV}(hg:gOf all L (some gg)=some g)(h:callA X.T op ⟨L,H,nx⟩=some (cs,f,args))(hf:g=true→Fn X.P f args (·=r))(hr:r.scal=true)(hrb:r.bd 0)(hd:ltB d X.n=true)(hc:g=true→allP cs)(k:JL X md all QA l ⟨(d,.gd g r)::L,H,nx⟩) :
  JL X md all QA (⟨some d,op,ty,ps,af,some gg⟩::l) ⟨L,H,nx⟩:=JL.callG hg h hf hr hrb (y6 hd) hc k
def JL.c1{args:AV}{R:AV→Prop}(h:callA X.T op ⟨L,[],nx⟩=some (cs,f,args))(hf:Fn X.P f args R)(hd:ltB d X.n=true)(hc:allP cs)(k:∀ r,R r→JL X true all QA l ⟨(d,r)::L,H,nx⟩) :
  JL X true all QA (⟨some d,op,ty,ps,af,none⟩::l) ⟨L,H,nx⟩:=JL.call rfl h hf (y6 hd) hc k
def QX.tr(h:QA .ret s):qThen K QA .ret s:=h
def QX.be{id:Nat}(h:QA .normal s):qBlock id QA (.exit id) s:=by simp only[qBlock,if_true];exact h
def bif_or(a b:Bool):(bif a then true else b)=(a||b):=by cases a<;>rfl
def bif_and(a b:Bool):(bif a then b else false)=(a&&b):=by cases a<;>rfl
def cdL:(∀ a b:Bool,(bif a then true else b)=(a||b))∧(∀ a b:Bool,(bif a then b else false)=(a&&b))∧(∀ a b:Bool,((a||b)=true)=(a=true∨b=true))∧(∀ a b:Bool,((a||b)=false)↔(a=false∧b=false))∧(∀ a b:Bool,((a&&b)=true)=(a=true∧b=true))∧(∀ a b:Bool,((a&&b)=false)=(a=false∨b=false))
  ∧ (∀ b:Bool,((!b)=true)=(b=false))∧(∀ b:Bool,((!b)=false)=(b=true))∧(∀ (p:Prop) [Decidable p],(decide p=true)=p)∧(∀ (p:Prop) [Decidable p],(decide p=false)↔¬ p)∧(∀ {α:Type} [BEq α] [LawfulBEq α] (a b:α),(a==b)=true↔a=b)∧(∀ {α:Type} [BEq α] [LawfulBEq α] (a b:α),(a != b)=true↔a≠b)
  ∧ (∀ {α:Type} [BEq α] [LawfulBEq α] (a b:α),(a != b)=false↔a=b)∧(∀ {α:Type} (a b:α),(a≠b)=¬ (a=b))∧(∀ {α:Type} [BEq α] [LawfulBEq α] (a b:α),(a==b)=false↔a≠b)∧(∀ b:Bool,(¬ b=true)=(b=false)):=
 ⟨bif_or,bif_and,yy1,fun a b=>Bool.or_eq_false_iff,yyd,fun a b=>by cases a<;>cases b<;>simp,fun b=>by cases b<;>simp,fun b=>by cases b<;>simp,fun p _=>yyu,fun p _=>decide_eq_false_iff_not,fun a b=>beq_iff_eq,fun a b=>bne_iff_ne,fun a b=>bne_eq_false_iff_eq,fun a b=>rfl,fun a b=>beq_eq_false_iff_ne,fun b=>by cases b<;>simp⟩
def Ty.lens:(t:Ty)→t.den→Prop
 |.int _,_=>True|.bool,_=>True
 |.slice e,l=>List.length l≤9223372036854775807∧∀ i (h:i<List.length l),e.lens (List.get l ⟨i,h⟩)
 |.ptr e,x=>match x with|none=>True|some y=>e.lens y
 |.arr n e,l=>List.length l=n∧∀ i (h:i<List.length l),e.lens (List.get l ⟨i,h⟩)
 |.nil,_=>True
 |.cons a b,x=>a.lens x.1∧b.lens x.2
def Rep.lens{M:Mem}:∀ {t:Ty} {x:t.den} {cs:List Value},Rep M t x cs→t.lens x
 |.int _,_,_,h=>trivial
 |.bool,_,_,h=>trivial
 |.slice e,l,cs,h=>by
  simp only[Rep] at h;obtain⟨ad,cap,h1,h2,h3,h3',h4⟩:=h;have h3:cap≤9223372036854775807:=h3;refine⟨by omega,fun i hi=>?_⟩;rcases h4 with h4|⟨b,off,c,ty,fz,e1,e2,e3⟩
  ·omega
  ·exact Rep.lens (e3 i hi)
 |.ptr e,x,cs,h=>by
  cases x with
  |none=>trivial
  |some y=>simp only[Rep] at h;obtain⟨b,off,c,ty,fz,_,_,h⟩:=h;exact @Rep.lens M e y _ h
 |.arr n e,l,cs,h=>by simp only[Rep] at h;exact⟨h.1,fun i hi=>Rep.lens (h.2.2 i hi)⟩
 |.nil,_,cs,h=>trivial
 |.cons a b,x,cs,h=>by simp only[Rep] at h;obtain⟨c1,c2,_,h1,h2⟩:=h;exact⟨Rep.lens h1,Rep.lens h2⟩
def JC.lenOf(d:Nat){t:Ty}{x:t.den}(h:lk s.L d=some (.val t x))(k:t.lens x→JC X c QA s):JC X c QA s:=fun M ρ a w h1 h2=>by obtain⟨_,hv⟩:=h2.reg _ _ h;simp only[AV.rv] at hv;obtain⟨cs,e1,e5⟩:=hv;exact k e1.lens M ρ a w h1 h2
end Ox
namespace Ox
open Go Go.RowKit
variable {X:Ctx}{s:S}{M:Mem}{ρ:Env}{a:Act}{w w':World}{QA:Exit→S→Prop}{K:S→Prop}{ops:List Oper}{ls:List Nat}{fuel:Nat}
section
variable {P:Program}{md:Region.Mode}{opsA:Array Oper}{Q:Exit→Act→World→Prop}
def YA(P:Program)(ops:Array Oper)(o:Oper)(v:Value)(a:Act):Prop:=
 (Region.wanted o (yielded ops a.tmps)=true∧∀ w,(execOp a.eval o).run P w=.ok (.value v) w) ∨
 (Region.wanted o (yielded ops a.tmps)=false∧v=undef)
def YA.op{i:Nat}{o:Oper}{v:Value}{a:Act}{w:World}(hi:opsA[i]?=some o)(hn:notDef o.op=true)(hy:YA X.P opsA o v a){K:Act→World→Prop}(h:K (a.put o.dst v) w):wpOpIn X.fn 0 X.P opsA Q i K a w:=by
 unfold wpOpIn;simp only[hi];rcases hy with⟨hw,hv⟩|⟨hw,rfl⟩
 ·simp only[hw,if_true];exact v7 hn (hv w) h
 ·simp only[hw,yyt,if_false];exact⟨fun f _=>q4m f,h⟩
def YA.keep{o oj:Oper}{v:Value}(hso:∀ cs b,o.op≠.select cs b)(h3:∀ d,oj.dst=some d→d∉o.looksAt opsA)(hy:YA P opsA o v a)(u:Value):YA P opsA o v (a.put oj.dst u):=by unfold YA at *;rw[wanted_put o a oj.dst u h3,execOp_put o hso a oj.dst u h3];exact hy
def z59{d:Option Tmp}{v:Value}{K K':Act→World→Prop}(hQ:∀ e a w,e≠.normal→¬ Q e a w)(hne:∀ e,d=some e→oj.dst≠some e)
  (h:∀ (a':Act) u w,a'=a∨(∃ x,a'={a with defers:=x::a.defers})→K ((a'.put d v).put oj.dst u) w→K' (a'.put oj.dst u) w) {r:Result Next}
  (hh:oj.uponIn X.fn 0 X.P (a.put d v) K Q r):oj.uponIn X.fn 0 X.P a K' Q r:=by
 cases r with
 |ok n w'=>
  cases n with
  |value u=>simp only[Oper.uponIn] at hh ⊢;exact h a u _ (.inl rfl) hh
  |skip=>simp only[Oper.uponIn] at hh ⊢;exact h a _ _ (.inl rfl) hh
  |defer x=>simp only[Oper.uponIn] at hh ⊢;rw[Act.put_defers] at hh;exact h _ _ _ (.inr ⟨x,rfl⟩) hh
  |enter f args=>
   simp only[Oper.uponIn] at hh ⊢;refine⟨hh.1,CallsIn.mono hh.2 fun e w'' he=>?_⟩;cases e with
   |returned u=>exact h a u _ (.inl rfl) he
   |panicked c=>exact absurd he (hQ _ _ _ (by simp))
   |outgrown=>exact he
  |row r args=>simp only[Oper.uponIn] at hh ⊢;exact⟨hh.1,RowsIn.mono hh.2 (fun _ _ he=>h a _ _ (.inl rfl) he)⟩
  |round l f tmps assign body=>
   simp only[Oper.uponIn] at hh ⊢;refine⟨hh.1,RoundIn.mono hh.2 fun e w'' he=>?_⟩;cases e with
   |returned u=>exact h a u _ (.inl rfl) he
   |panicked c=>exact absurd he (hQ _ _ _ (by simp))
   |outgrown=>exact he
  |_=>simp only[Oper.uponIn] at hh
 |halt x w'=>
  cases x with
  |panic v=>simp only[Oper.uponIn] at hh;exact absurd hh (hQ _ _ _ (by simp))
  |_=>simp only[Oper.uponIn] at hh
def z9z{v:Value}{K:Act→World→Prop}(hQ:∀ e a w,e≠.normal→¬ Q e a w)(hj:opsA[j]?=some oj)
  (h1:∀ d,oi.dst=some d→d∉oj.looksAt opsA) (h2:∀ d,oi.dst=some d→oj.dst≠some d) (hsj:∀ cs b,oj.op≠.select cs b) (hn:notDef oj.op=true) (h:wpOpIn X.fn 0 X.P opsA Q j K (a.put oi.dst v) w) :
  wpOpIn X.fn 0 X.P opsA Q j (fun a' w'=>K (a'.put oi.dst v) w') a w:=by
 unfold wpOpIn at *;simp only[hj] at *;rw[wanted_put oj a oi.dst v h1] at h;split
 ·rename_i hw;simp only[hw,if_true] at h;refine⟨fun f _=>q4m f,?_⟩;have h:=h.2;rw[q0o hn,execOp_put oj hsj a oi.dst v h1] at h;rw[q0o hn];refine z59 hQ h2 (fun a' u w'' _ hk=>?_) h;rw[← Act.put_comm a' v u h2];exact hk
 ·rename_i hw;simp only[hw] at h;refine⟨fun f _=>q4m f,?_⟩;show K _ _;rw[← Act.put_comm a v undef h2];exact h.2
def wpOp_put{v:Value}{K:Act→World→Prop}(hQ:∀ e a w,e≠.normal→¬ Q e a w)(hj:opsA[j]?=some oj)(hap:oi.apart opsA oj=true)
  (hsi:∀ cs b,oi.op≠.select cs b) (hsj:∀ cs b,oj.op≠.select cs b) (hn:notDef oj.op=true) (hy:YA X.P opsA oi v a) (h:wpOpIn X.fn 0 X.P opsA Q j K (a.put oi.dst v) w) :
  wpOpIn X.fn 0 X.P opsA Q j (fun a' w'=>YA X.P opsA oi v a'∧K (a'.put oi.dst v) w') a w:=by
 obtain⟨h1,h2,h3⟩:=Oper.apart_spec hap;have hyd:∀ (a':Act),a'=a∨(∃ x,a'={a with defers:=x::a.defers})→YA X.P opsA oi v a':=fun a' e=>by
  rcases e with rfl|⟨x,rfl⟩
  ·exact hy
  ·exact hy
 unfold wpOpIn at *;simp only[hj] at *;rw[wanted_put oj a oi.dst v h1] at h;split
 ·rename_i hw;simp only[hw,if_true] at h;refine⟨fun f _=>q4m f,?_⟩;have h:=h.2;rw[q0o hn,execOp_put oj hsj a oi.dst v h1] at h;rw[q0o hn];refine z59 hQ h2 (fun a' u w'' e hk=>⟨(hyd a' e).keep hsi h3 u,?_⟩) h;rw[← Act.put_comm a' v u h2];exact hk
 ·rename_i hw;simp only[hw] at h;exact⟨fun f _=>q4m f,hy.keep hsi h3 _,by rw[← Act.put_comm a v undef h2];exact h.2⟩
def q61{v:Value}(hQ:∀ e a w,e≠.normal→¬ Q e a w)(hi:opsA[i]?=some oi)(hsel:∀ (j:Nat) (o:Oper) cs b,opsA[j]?=some o→o.op≠.select cs b)(hnd:∀ (j:Nat) o,opsA[j]?=some o→notDef o.op=true) :
  ∀ (fuel:Nat) (listed:Array Bool) (a:Act) (w:World),
   (∀ j oj,opsA[j]?=some oj→j≠i→listed.getD j true=false→(∀ e∈oj.after,Region.binds md e=true→e.on≠i)→oi.apart opsA oj=true) →
   i∈Region.ready md opsA listed→YA X.P opsA oi v a →
   wpAnyIn X.fn 0 X.P md opsA Q fuel (listed.setIfInBounds i true) (a.put oi.dst v) w→wpAnyIn X.fn 0 X.P md opsA Q (fuel+1) listed a w:=by
 intro fuel;induction fuel with
 |zero=>
  intro listed a w _ hr hy H;refine⟨fun h=>(by rw[h] at hr;cases hr),fun j hj=>?_⟩;by_cases hji:j=i
  ·subst hji;exact hy.op hi (hnd _ _ hi) H
  ·have:=ready_mono hj hji;rw[H.1] at this;cases this
 |succ fuel ih=>
  intro listed a w hfree hr hy H;refine⟨fun h=>(by rw[h] at hr;cases hr),fun j hj=>?_⟩;by_cases hji:j=i
  ·subst hji;exact hy.op hi (hnd _ _ hi) H
  ·have h1:=H.2 j (ready_mono hj hji);obtain⟨hjun,oj,hoj,hall⟩:=mem_ready.1 hj;have hnot:∀ e∈oj.after,Region.binds md e=true→e.on≠i:=fun e he hb heq=>by
    have h1:=hall e he hb;have h0:=(mem_ready.1 hr).1;rw[heq] at h1;rcases Nat.lt_or_ge i listed.size with h'|h'
    ·simp[h'] at h0 h1;rw[h0] at h1;cases h1
    ·simp[Array.getElem?_eq_none h'] at h1
   have h2:=wpOp_put hQ hoj (hfree j oj hoj hji hjun hnot) (fun cs b=>hsel i oi cs b hi) (fun cs b=>hsel j oj cs b hoj) (hnd _ _ hoj) hy h1;have hfree':∀ k ok,opsA[k]?=some ok→k≠i→(listed.setIfInBounds j true).getD k true=false →
     (∀ e∈ok.after,Region.binds md e=true→e.on≠i)→oi.apart opsA ok=true:=fun k ok hk hki hun hno=>by
    refine hfree k ok hk hki ?_ hno;by_cases hjk:j=k
    ·subst hjk;exact hjun
    ·rw[getD_set_ne true hjk] at hun;exact hun
   refine wpOpIn_mono (fun a' w' h3=>ih (listed.setIfInBounds j true) a' w' hfree' (ready_mono hr (Ne.symm hji)) h3.1 ?_) h2;rw[Array.setIfInBounds_comm _ _ hji];exact h3.2
end
def Lst(n:Nat)(ls:List Nat)(l:Array Bool):Prop:=l.size=n∧∀ j,j<n→l[j]?=some (ls.contains j)
def Lst.getT{n j:Nat}{l:Array Bool}(h:Lst n ls l)(hj:j<n)(d:Bool):l.getD j d=ls.contains j:=by have:=h.2 j hj;simp[yyx,this]
def edgesL(n:Nat)(ls:List Nat):List Edge→Bool
 |[]=>true
 |e::r=>(!Region.binds .any e||(Nat.blt e.on n&&ls.contains e.on))&&edgesL n ls r
def rdyL(n:Nat)(ls:List Nat):Nat→List Oper→List (Nat×Oper)
 |_,[]=>[]
 |i,o::r=>match ls.contains i||!edgesL n ls o.after.toList with
  |true=>rdyL n ls (i+1) r
  |false=>(i,o)::rdyL n ls (i+1) r
def g8{n:Nat}{es:List Edge}:edgesL n ls es=true↔∀ e∈es,Region.binds .any e=true→e.on<n∧ls.contains e.on=true:=by
 induction es with
 |nil=>simp[edgesL]
 |cons e r ih=>
  simp only[edgesL,yyd,yy1,yy6,ih,yyk,forall_eq_or_imp,Nat.blt_eq];refine⟨fun⟨h1,h2⟩=>⟨fun hb=>?_,h2⟩,fun⟨h1,h2⟩=>⟨?_,h2⟩⟩
  ·rcases h1 with h1|h1
   ·rw[h1] at hb;cases hb
   ·exact h1
  ·cases hb:Region.binds .any e with
   |false=>exact .inl rfl
   |true=>exact .inr (h1 hb)
def q07{n:Nat}:∀ {r:List Oper} {k i:Nat} {o:Oper},(i,o)∈rdyL n ls k r↔k≤i∧r[i-k]?=some o∧ls.contains i=false∧edgesL n ls o.after.toList=true
 |[],k,i,o=>by simp[rdyL]
 |x::r,k,i,o=>by
  have ih:=@q07 n r (k+1) i o;have step:(k≤i∧(x::r)[i-k]?=some o∧ls.contains i=false∧edgesL n ls o.after.toList=true) ↔
    ((i=k∧x=o∧ls.contains i=false∧edgesL n ls o.after.toList=true)∨(k+1≤i∧r[i-(k+1)]?=some o∧ls.contains i=false∧edgesL n ls o.after.toList=true)):=by
   rcases Nat.lt_trichotomy i k with h|h|h
   ·constructor
    ·intro e;omega
    ·rintro(e|e)<;>omega
   ·subst h;rw[Nat.sub_self,List.getElem?_cons_zero];constructor
    ·rintro⟨_,e,f⟩;injection e with e;exact .inl ⟨rfl,e,f⟩
    ·rintro(⟨_,e,f⟩|e)
     ·exact⟨yyn _,by rw[e],f⟩
     ·omega
   ·have e:i-k=(i-(k+1))+1:=by omega
    rw[e,yxi];constructor
    ·intro e;exact .inr ⟨by omega,e.2⟩
    ·rintro(e|e)
     ·omega
     ·exact⟨by omega,e.2⟩
  rw[step];simp only[rdyL];split
  ·rename_i hb;rw[ih];refine⟨fun h=>.inr h,fun h=>?_⟩;rcases h with⟨rfl,rfl,e1,e2⟩|h
   ·simp only[yy1,yy6] at hb;rw[e1,e2] at hb;simp at hb
   ·exact h
  ·rename_i hb;simp only[Bool.or_eq_false_iff,Bool.not_eq_false'] at hb;rw[yyk,ih];constructor
   ·rintro(e|e)
    ·injection e with e1 e2;subst e1 e2;exact .inl ⟨rfl,rfl,hb⟩
    ·exact .inr e
   ·rintro(⟨rfl,rfl,_⟩|e)
    ·exact .inl rfl
    ·exact .inr e
def q6h{l:Array Bool}(h:Lst ops.length ls l)(i:Nat):i∈Region.ready .any ops.toArray l↔∃ o,(i,o)∈rdyL ops.length ls 0 ops:=by
 rw[mem_ready];constructor
 ·rintro⟨h1,o,h2,h3⟩;have hi:i<ops.length:=by have:=(yym.1 h2).1;simpa using this
  refine⟨o,q07.2 ⟨by omega,by simpa using h2,by rw[h.getT hi] at h1;exact h1,g8.2 fun e he hb=>?_⟩⟩;have h4:=h3 e (by simpa using he) hb;rcases Nat.lt_or_ge e.on ops.length with hl|hl
  ·rw[h.getT hl] at h4;exact⟨hl,h4⟩
  ·have:l.size≤e.on:=by rw[h.1];exact hl
   simp[yyx,Array.getElem?_eq_none this] at h4
 ·rintro⟨o,ho⟩;obtain⟨_,h2,h3,h4⟩:=q07.1 ho;have h2:ops[i]?=some o:=by simpa using h2
  have hi:i<ops.length:=(yxc.1 h2).1;refine⟨by rw[h.getT hi];exact h3,o,by simpa using h2,fun e he hb=>?_⟩;obtain⟨e1,e2⟩:=g8.1 h4 e (by simpa using he) hb;rw[h.getT e1];exact e2
def qN(K:S→Prop):Exit→S→Prop:=qThen K (fun _ _=>False)
def JAny(X:Ctx)(ops:List Oper)(K:S→Prop)(fuel:Nat)(ls:List Nat)(s:S):Prop:=∀ M ρ a w l,Lst ops.length ls l→SAT X M ρ s w→REG X M ρ s a→wpAnyIn X.fn 0 X.P .any ops.toArray (conc X (qN K)) fuel l a w
def z2d{e:Exit}(he:e≠.normal):¬ conc X (qN K) e a w:=by rintro⟨M,ρ,s,_,_,h⟩;cases e<;>simp[qN,qThen] at h he
def upon_to{K1 K2:Act→World→Prop}{Q1 Q2:Exit→Act→World→Prop}{o:Oper}{r:Result Next}(hQ:∀ e a w,e≠.normal→¬ Q1 e a w)(h:∀ a w,K1 a w→K2 a w)(hh:o.uponIn X.fn 0 X.P a K1 Q1 r):o.uponIn X.fn 0 X.P a K2 Q2 r:=by
 cases r with
 |ok n w'=>
  cases n<;>simp only[Oper.uponIn] at hh ⊢ <;>
   first
    |exact h _ _ hh
    |exact⟨hh.1,CallsIn.mono hh.2 (fun e w'' he=>by
      cases e with
      |returned v=>exact h _ _ he
      |panicked c=>exact absurd he (hQ _ _ _ (by simp))
      |outgrown=>obtain⟨a0,w0,h0⟩:=he;exact absurd h0 (hQ _ _ _ (by simp)))⟩
    |exact⟨hh.1,RoundIn.mono hh.2 (fun e w'' he=>by
      cases e with
      |returned v=>exact h _ _ he
      |panicked c=>exact absurd he (hQ _ _ _ (by simp))
      |outgrown=>obtain⟨a0,w0,h0⟩:=he;exact absurd h0 (hQ _ _ _ (by simp)))⟩
    |exact⟨hh.1,RowsIn.mono hh.2 (fun _ _ he=>h _ _ he)⟩
 |halt x w'=>cases x<;>simp only[Oper.uponIn] at hh ⊢<;>exact absurd hh (hQ _ _ _ (by simp))
def q76{K1:S→Prop}{o:Oper}(ho:ops[i]?=some o)(h:wpListIn X.fn 0 X.P ops.toArray (conc X (qN K1)) [o] a w) :
  wpOpIn X.fn 0 X.P ops.toArray (conc X (qN K)) i (fun b w'=>∃ M ρ s,SAT X M ρ s w'∧REG X M ρ s b∧K1 s) a w:=by
 unfold wpOpIn;simp only[yxr,ho];unfold wpListIn at h;split
 ·rename_i hw;simp only[hw,if_true] at h;exact⟨h.1,upon_to (fun _ _ _ h=>z2d h) (fun a w hk=>hk) h.2⟩
 ·rename_i hw;simp only[hw] at h;exact⟨h.1,h.2⟩
def JAny.done(hr:rdyL ops.length ls 0 ops=[])(h:K s):JAny X ops K fuel ls s:=by
 intro M ρ a w l hl h1 h2;have h0:Region.ready .any ops.toArray l=[]:=by rw[List.eq_nil_iff_forall_not_mem];intro i hi;obtain⟨o,ho⟩:=(q6h hl i).1 hi;rw[hr] at ho;cases ho
 cases fuel with
 |zero=>exact⟨h0,M,ρ,s,h1,h2,h⟩
 |succ n=>exact⟨fun _=>⟨M,ρ,s,h1,h2,h⟩,fun i hi=>by rw[h0] at hi;cases hi⟩
def BrA(X:Ctx)(ops:List Oper)(K:S→Prop)(fuel:Nat)(ls:List Nat)(s:S):List (Nat×Oper)→Prop
 |[]=>True
 |p::r=>JL X true ops (qN fun s'=>JAny X ops K fuel (p.1::ls) s') [p.2] s∧BrA X ops K fuel ls s r
def BrA.mem{r:List (Nat×Oper)}(h:BrA X ops K fuel ls s r)(hp:p∈r):JL X true ops (qN fun s'=>JAny X ops K fuel (p.1::ls) s') [p.2] s:=by
 induction r with
 |nil=>cases hp
 |cons q r ih=>
  rcases yyk.1 hp with e|e
  ·subst e;exact h.1
  ·exact ih h.2 e
def BrA.one{r:List (Nat×Oper)}(h:JL X true ops (qN fun s'=>JAny X ops K fuel (p.1::ls) s') [p.2] s)(h':BrA X ops K fuel ls s r):BrA X ops K fuel ls s (p::r):=⟨h,h'⟩
def BrA.nil:BrA X ops K fuel ls s []:=trivial
def freeL(n:Nat)(ops:List Oper)(ls:List Nat)(i:Nat)(oi:Oper):Nat→List Oper→Bool
 |_,[]=>true
 |j,oj::r=>(j==i||ls.contains j||oj.after.toList.any (fun e=>Region.binds .any e&&e.on==i)||oi.apart ops.toArray oj)&&freeL n ops ls i oi (j+1) r
def q6s{n i:Nat}{oi:Oper}:∀ {r:List Oper} {k:Nat},freeL n ops ls i oi k r=true→∀ j oj,r[j]?=some oj→k+j≠i→ls.contains (k+j)=false→(∀ e∈oj.after,Region.binds .any e=true→e.on≠i)→oi.apart ops.toArray oj=true
 |[],_,_,j,oj,h,_,_,_=>by simp at h
 |x::r,k,hf,j,oj,h,hne,hc,he=>by
  simp only[freeL,yyd,yy1,beq_iff_eq] at hf;cases j with
  |zero=>
   simp at h;subst h;rcases hf.1 with((h1|h1)|h1)|h1
   ·exact absurd h1 hne
   ·rw[Nat.add_zero] at hc;rw[h1] at hc;cases hc
   ·obtain⟨e,he1,he2⟩:=List.any_eq_true.1 h1;simp only[yyd,beq_iff_eq] at he2;exact absurd he2.2 (he e (by simpa using he1) he2.1)
   ·exact h1
  |succ j=>rw[yxi] at h;exact q6s hf.2 j oj h (by omega) (by rw[show k+1+j=k+(j+1) by omega];exact hc) he
def q38{id:Nat}(hX:XOK X)(K:S→Prop)(h:JAny X ops K ops.length [] s)(hK:∀ s,K s→QA .normal s):JC X (.region id ⟨ops⟩ true) QA s:=by
 have h':JC X (.region id ⟨ops⟩ true) (qN K) s:=by intro M ρ a w h1 h2;refine wpIn_region_any hX.mixed ?_;have hl:Lst ops.length [] (Array.replicate ops.length false):=⟨by simp,fun j hj=>by simp[hj]⟩;exact h M ρ a _ _ hl h1.drew h2
 exact h'.mono fun e s h=>by
  cases e with
  |normal=>exact hK s h
  |_=>exact False.elim h
variable {all l:List Oper}{md:Bool}{F:List Nat}
def fzL(HF:List (Nat×HO))(F:List Nat)(x:Leaf):Option (List Prop×AV):=
 match x with
 |.nils|.nilp=>some ([],.lf x)
 |.osl l=>match F.contains l with
  |true=>(match lk HF l with
   |some (.sl _ e _)=>(toK HF 8 (.slice e) (.lf x) fun c y=>some (c,y)).map fun r=>(r.1,.val (.slice e) r.2)
   |_=>none)
  |false=>some ([],.lf x)
 |.ovw l _ _ _=>match F.contains l with
  |true=>(match lk HF l with
   |some (.sl _ e _)=>(toK HF 8 (.slice e) (.lf x) fun c y=>some (c,y)).map fun r=>(r.1,.val (.slice e) r.2)
   |_=>none)
  |false=>some ([],.lf x)
 |.optr l p=>match F.contains l with
  |true=>(match lk HF l with
   |some (.cell t0 _)=>(match t0.sub p with
    |some t=>(toK HF 8 (.ptr t) (.lf x) fun c y=>some (c,y)).map fun r=>(r.1,.val (.ptr t) r.2)
    |none=>none)
   |_=>none)
  |false=>some ([],.lf x)
 |.oelt l _ _|.oarr l _ _ _|.mp l|.itr l|.yld l=>match F.contains l with
  |true=>none
  |false=>some ([],.lf x)
def fzV(HF:List (Nat×HO))(F:List Nat):AV→Option (List Prop×AV)
 |.lf x=>fzL HF F x
 |.mix a b=>(fzV HF F a).bind fun a=>(fzV HF F b).map fun b=>(a.1++b.1,.mix a.2 b.2)
 |.acons a b=>(fzV HF F a).bind fun a=>(fzV HF F b).map fun b=>(a.1++b.1,.acons a.2 b.2)
 |.fn f a b=>(fzV HF F a).bind fun a=>(fzV HF F b).map fun b=>(a.1++b.1,.fn f a.2 b.2)
 |.tup a=>(fzV HF F a).map fun a=>(a.1,.tup a.2)
 |.gd g a=>(fzV HF F a).map fun a=>(a.1,.gd g a.2)
 |.pfn a=>(fzV HF F a).map fun a=>(a.1,.pfn a.2)
 |.raw _=>none
 |v=>some ([],v)
def fzR(HF:List (Nat×HO))(F:List Nat)(L:List (Nat×AV)):List Nat→Option (List Prop×List (Nat×AV))
 |[]=>some ([],[])
 |d::r=>match lk L d with
  |some v=>(fzV HF F v).bind fun v=>(fzR HF F L r).map fun r=>(v.1++r.1,(d,v.2)::r.2)
  |none=>none
def fzH(HF:List (Nat×HO))(F:List Nat):List (Nat×HO)→Option (List Prop×List (Nat×HO))
 |[]=>some ([],[])
 |(l,o)::r=>match F.contains l with
  |true=>fzH HF F r
  |false=>match o with
   |.cell t a=>(fzV HF F a).bind fun a=>if confB t a.2 then(fzH HF F r).map fun r=>(a.1++r.1,(l,.cell t a.2)::r.2) else none
   |.sl eid e xs=>(fzH HF F r).map fun r=>(r.1,(l,.sl eid e xs)::r.2)
   |.map kt vt es clk=>(fzH HF F r).map fun r=>(r.1,(l,.map kt vt es clk)::r.2)
   |.iter m since seen last=>(fzH HF F r).map fun r=>(r.1,(l,.iter m since seen last)::r.2)
   |.cus Q=>(fzH HF F r).map fun r=>(r.1,(l,.cus Q)::r.2)
   |.loop st pe ps az bd n L=>(fzR HF F L (L.map (·.1))).bind fun q=>(fzH HF F r).map fun r=>(q.1++r.1,(l,.loop st pe ps az bd n q.2)::r.2)
   |.fr i L=>(fzR HF F L (L.map (·.1))).bind fun q=>(fzH HF F r).map fun r=>(q.1++r.1,(l,.fr i q.2)::r.2)
   |.raw ..|.rmap ..|.riter ..|.gl ..=>none
def pickF(H:List (Nat×HO))(F:List Nat):List (Nat×HO):=H.filter fun p=>F.contains p.1
def frz(F K:List Nat)(s:S):Option (List Prop×S):=(fzR (pickF s.H F) F s.L K).bind fun l=>(fzH (pickF s.H F) F s.H).map fun h=>(l.1++h.1,⟨l.2,h.2,s.nx⟩)
def q7q{m:Nat}:∀ {H:List (Nat×HO)},lk (pickF H F) m=if F.contains m=true then lk H m else none
 |[]=>by simp only[pickF,List.filter_nil,lk,ite_self]
 |(k,v)::H=>by
  have ih:=@q7q m H;unfold pickF at ih ⊢;rw[List.filter_cons];by_cases hk:F.contains k=true
  ·rw[if_pos hk];simp only[lk,ih];by_cases h2:k=m
   ·subst h2;rw[if_pos rfl,if_pos rfl,if_pos hk]
   ·rw[if_neg h2,if_neg h2]
  ·rw[if_neg hk,ih];simp only[lk];by_cases h2:k=m
   ·subst h2;rw[if_neg hk,if_neg hk]
   ·rw[if_neg h2]
noncomputable def frzM(F:List Nat)(s:S)(M:Mem)(ρ:Env)(w:World):Mem:=fun b=>open Classical in if ∃ l o,lk (pickF s.H F) l=some o∧o.at ρ l=some b then w.heap[b]? else M b
def z1t(h1:SAT X M ρ s w):∀ b o,M b=some o→frzM F s M ρ w b=some o:=fun b o hb=>by
 unfold frzM;split
 ·rename_i h;obtain⟨l,o',h2,h3⟩:=h;rw[q7q] at h2;split at h2
  ·rw[h1.notM l o' b h2 h3] at hb;cases hb
  ·cases h2
 ·exact hb
def q8z(h1:SAT X M ρ s w):M.le (frzM F s M ρ w):=fun b _ _ _ hb=>z1t h1 b _ hb
def j24(h1:SAT X M ρ s w):SAT X M ρ ⟨s.L,pickF s.H F,s.nx⟩ w:=by
 have hs:∀ l o,lk (pickF s.H F) l=some o→lk s.H l=some o:=fun l o h=>by
  rw[q7q] at h;split at h
  ·exact h
  ·cases h
 exact⟨h1.below,h1.msub,h1.mnew,h1.mem,fun l o h=>h1.own l o (hs l o h),fun l l' o o' b h h'=>h1.apart l l' o o' b (hs _ _ h) (hs _ _ h'),fun l o b h=>h1.notM l o b (hs _ _ h)⟩
def frz_seen(h1:SAT X M ρ s w):Seen ρ ⟨s.L,pickF s.H F,s.nx⟩ M (frzM F s M ρ w) w:=⟨q8z h1,fun l o b h hb=>by unfold frzM;rw[if_pos ⟨l,o,h,hb⟩]⟩
def j23(h1:SAT X M ρ s w){x:Leaf}{r:List Prop×AV}(h:fzL (pickF s.H F) F x=some r)(hc:allP r.1)(hb:x.bd s.nx) :
  r.2.bd s.nx∧(∀ u,(AV.lf x).rv M ρ u→r.2.rv (frzM F s M ρ w) ρ u)∧(∀ cs,(AV.lf x).rc M ρ cs→r.2.rc (frzM F s M ρ w) ρ cs):=by
 have keep:∀ {x:Leaf},x.bd s.nx→(AV.lf x).bd s.nx∧(∀ u,(AV.lf x).rv M ρ u→(AV.lf x).rv (frzM F s M ρ w) ρ u)∧(∀ cs,(AV.lf x).rc M ρ cs→(AV.lf x).rc (frzM F s M ρ w) ρ cs):=fun hb=>⟨hb,fun u hu=>w9 (q8z h1) (Env.upTo.refl ρ s.nx) (a:=.lf _) hb hu,fun cs hu=>p4 (q8z h1) (Env.upTo.refl ρ s.nx) (a:=.lf _) hb hu⟩
 have data:∀ {t:Ty} {v:AV} {q:List Prop×AV},((toK (pickF s.H F) 8 t v fun c y=>some (c,y)).map fun r=>(r.1,AV.val t r.2))=some q→allP q.1 →
   q.2.bd s.nx∧(∀ u,v.rv M ρ u→q.2.rv (frzM F s M ρ w) ρ u)∧(∀ cs,v.rc M ρ cs→q.2.rc (frzM F s M ρ w) ρ cs):=fun {t v q} hq hc=>by
  simp only[yyq] at hq;obtain⟨p,hp,rfl⟩:=hq;obtain⟨cs,y,hk,hy⟩:=q1k (j24 (F:=F) h1) (frz_seen h1) 8 hp;injection hk with hk;subst hk
  have hy:=hy hc;refine⟨trivial,fun u hu=>?_,fun cs hu=>?_⟩
  ·simp only[AV.rv];exact hy.1 u hu
  ·simp only[AV.rc];exact hy.2 cs hu
 unfold fzL at h;split at h
 ·injection h with h;subst h;exact keep hb
 ·injection h with h;subst h;exact keep hb
 ·split at h
  ·split at h
   ·exact data h hc
   ·cases h
  ·injection h with h;subst h;exact keep hb
 ·split at h
  ·split at h
   ·exact data h hc
   ·cases h
  ·injection h with h;subst h;exact keep hb
 ·split at h
  ·split at h
   ·split at h
    ·exact data h hc
    ·cases h
   ·cases h
  ·injection h with h;subst h;exact keep hb
 ·split at h
  ·cases h
  ·injection h with h;subst h;exact keep hb
 ·split at h
  ·cases h
  ·injection h with h;subst h;exact keep hb
 ·split at h
  ·cases h
  ·injection h with h;subst h;exact keep hb
 ·split at h
  ·cases h
  ·injection h with h;subst h;exact keep hb
 ·split at h
  ·cases h
  ·injection h with h;subst h;exact keep hb
def q1t(h1:SAT X M ρ s w):∀ {v:AV} {r:List Prop×AV},fzV (pickF s.H F) F v=some r→allP r.1→v.bd s.nx →
  r.2.bd s.nx∧(∀ u,v.rv M ρ u→r.2.rv (frzM F s M ρ w) ρ u)∧(∀ us,v.rvs M ρ us→r.2.rvs (frzM F s M ρ w) ρ us)∧(∀ cs,v.rc M ρ cs→r.2.rc (frzM F s M ρ w) ρ cs):=by
 intro v;have hle:=q8z (F:=F) h1;have hr:=Env.upTo.refl ρ s.nx;induction v with
 |lf x=>intro r h hc hb;simp only[fzV] at h;obtain⟨e1,e2,e3⟩:=j23 h1 h hc hb;exact⟨e1,e2,fun us hu=>by simp only[AV.rvs] at hu,e3⟩
 |mix x y ihx ihy=>
  intro r h hc hb;simp only[fzV,yyr,yyq] at h;obtain⟨p,hp,q,hq,rfl⟩:=h;rw[q8] at hc;obtain⟨a1,a2,a3,a4⟩:=ihx hp hc.1 hb.1;obtain⟨b1,b2,b3,b4⟩:=ihy hq hc.2 hb.2;refine⟨⟨a1,b1⟩,fun u hu=>?_,fun us hu=>by simp only[AV.rvs] at hu,fun cs hu=>?_⟩
  ·simp only[AV.rv] at hu ⊢;obtain⟨c1,c2,k1,k2,k3⟩:=hu;exact⟨c1,c2,a4 _ k1,b4 _ k2,k3⟩
  ·simp only[AV.rc] at hu ⊢;obtain⟨c1,c2,k1,k2,k3⟩:=hu;exact⟨c1,c2,a4 _ k1,b4 _ k2,k3⟩
 |acons x y ihx ihy=>intro r h hc hb;simp only[fzV,yyr,yyq] at h;obtain⟨p,hp,q,hq,rfl⟩:=h;rw[q8] at hc;obtain⟨a1,a2,a3,a4⟩:=ihx hp hc.1 hb.1;obtain⟨b1,b2,b3,b4⟩:=ihy hq hc.2 hb.2;refine⟨⟨a1,b1⟩,fun u hu=>by simp only[AV.rv] at hu,fun us hu=>?_,fun cs hu=>by simp only[AV.rc] at hu⟩;simp only[AV.rvs] at hu ⊢;obtain⟨v,r',k1,k2,k3⟩:=hu;exact⟨v,r',a2 _ k1,b3 _ k2,k3⟩
 |fn f x y ihx ihy=>
  intro r h hc hb;simp only[fzV,yyr,yyq] at h;obtain⟨p,hp,q,hq,rfl⟩:=h;rw[q8] at hc;obtain⟨a1,a2,a3,a4⟩:=ihx hp hc.1 hb.1;obtain⟨b1,b2,b3,b4⟩:=ihy hq hc.2 hb.2;refine⟨⟨a1,b1⟩,fun u hu=>?_,fun us hu=>by simp only[AV.rvs] at hu,fun cs hu=>?_⟩
  ·simp only[AV.rv] at hu ⊢;obtain⟨fs,ks,k1,k2,k3⟩:=hu;exact⟨fs,ks,a3 _ k1,b3 _ k2,k3⟩
  ·simp only[AV.rc] at hu ⊢;obtain⟨fs,ks,k1,k2,k3⟩:=hu;exact⟨fs,ks,a3 _ k1,b3 _ k2,k3⟩
 |tup x ihx=>intro r h hc hb;simp only[fzV,yyq] at h;obtain⟨p,hp,rfl⟩:=h;obtain⟨a1,a2,a3,a4⟩:=ihx hp hc hb;refine⟨a1,fun u hu=>?_,fun us hu=>by simp only[AV.rvs] at hu,fun cs hu=>by simp only[AV.rc] at hu⟩;simp only[AV.rv] at hu ⊢;obtain⟨vs,k1,k2⟩:=hu;exact⟨vs,a3 _ k1,k2⟩
 |raw x=>intro r h hc hb;simp[fzV] at h
 |pfn x ihx=>intro r h hc hb;simp only[fzV,yyq] at h;obtain⟨p,hp,rfl⟩:=h;obtain⟨a1,a2,a3,a4⟩:=ihx hp hc hb;refine⟨a1,fun u hu=>?_,fun us hu=>by simp only[AV.rvs] at hu,fun cs hu=>by simp only[AV.rc] at hu⟩;simp only[AV.rv] at hu ⊢;obtain⟨b,fv,ty,fz,k1,k2,k3⟩:=hu;exact⟨b,fv,ty,fz,k1,hle _ _ _ _ k2,a2 _ k3⟩
 |gd g x ihx=>
  intro r h hc hb;simp only[fzV,yyq] at h;obtain⟨p,hp,rfl⟩:=h;refine⟨fun hg=>(ihx hp hc (hb hg)).1,fun u hu=>?_,fun us hu=>by simp only[AV.rvs] at hu,fun cs hu=>by simp only[AV.rc] at hu⟩;simp only[AV.rv] at hu ⊢;cases g with
  |true=>exact⟨fun hg=>(ihx hp hc (hb rfl)).2.1 _ (hu.1 hg),fun h=>by cases h⟩
  |false=>exact⟨fun h=>(by cases h),hu.2⟩
 |val t x=>intro r h hc hb;simp only[fzV,yya] at h;subst h;exact⟨hb,fun u hu=>w9 hle hr hb hu,fun us hu=>y8 hle hr hb hu,fun cs hu=>p4 hle hr hb hu⟩
 |anil=>intro r h hc hb;simp only[fzV,yya] at h;subst h;exact⟨hb,fun u hu=>w9 hle hr hb hu,fun us hu=>y8 hle hr hb hu,fun cs hu=>p4 hle hr hb hu⟩
 |undef=>intro r h hc hb;simp only[fzV,yya] at h;subst h;exact⟨hb,fun u hu=>w9 hle hr hb hu,fun us hu=>y8 hle hr hb hu,fun cs hu=>p4 hle hr hb hu⟩
 |full e x=>intro r h hc hb;simp only[fzV,yya] at h;subst h;exact⟨hb,fun u hu=>w9 hle hr hb hu,fun us hu=>y8 hle hr hb hu,fun cs hu=>p4 hle hr hb hu⟩
def q0t{HF:List (Nat×HO)}:∀ {H:List (Nat×HO)} {r:List Prop×List (Nat×HO)},fzH HF F H=some r→allP r.1→∀ l o',lk r.2 l=some o'→F.contains l=false∧∃ o,lk H l=some o ∧
  (match o with
   |.cell t a=>∃ q,fzV HF F a=some q∧allP q.1∧confB t q.2=true∧o'=.cell t q.2
   |.sl eid e xs=>o'=.sl eid e xs
   |.map kt vt es clk=>o'=.map kt vt es clk
   |.iter m since seen last=>o'=.iter m since seen last
   |.cus Q=>o'=.cus Q
   |.loop st pe ps az bd n L=>∃ q,fzR HF F L (L.map (·.1))=some q∧allP q.1∧o'=.loop st pe ps az bd n q.2
   |.fr i L=>∃ q,fzR HF F L (L.map (·.1))=some q∧allP q.1∧o'=.fr i q.2
   |.raw ..|.rmap ..|.riter ..|.gl ..=>False)
 |[],r,h,_,l,o',hl=>by simp only[fzH,yya] at h;subst h;simp[lk] at hl
 |(k,u)::H,r,h,hc,l,o',hl=>by
  simp only[fzH] at h;split at h
  ·rename_i hk;obtain⟨e1,o,e2,e3⟩:=q0t h hc l o' hl;refine⟨e1,o,?_,e3⟩;have:k≠l:=by rintro rfl;rw[hk] at e1;cases e1
   simp only[lk,if_neg this,e2]
  ·rename_i hk;cases u with
   |raw ty k n c=>cases h
   |rmap es clk=>cases h
   |riter m since seen last bk=>cases h
   |gl g ty n c=>cases h
   |cell t a=>
    simp only[yyr] at h;obtain⟨q,hq,h⟩:=h;split at h
    ·rename_i hcf;simp only[yyq] at h;obtain⟨p,hp,rfl⟩:=h;rw[q8] at hc;simp only[lk] at hl ⊢;by_cases e:k=l
     ·subst e;rw[if_pos rfl] at hl;injection hl with hl;subst hl
      exact⟨hk,.cell t a,by rw[if_pos rfl],q,hq,hc.1,hcf,rfl⟩
     ·rw[if_neg e] at hl ⊢;exact q0t hp hc.2 l o' hl
    ·cases h
   |sl eid e' xs=>
    simp only[yyq] at h;obtain⟨p,hp,rfl⟩:=h;simp only[lk] at hl ⊢;by_cases e:k=l
    ·subst e;rw[if_pos rfl] at hl;injection hl with hl;subst hl
     exact⟨hk,.sl eid e' xs,by rw[if_pos rfl],rfl⟩
    ·rw[if_neg e] at hl ⊢;exact q0t hp hc l o' hl
   |map kt vt es clk=>
    simp only[yyq] at h;obtain⟨p,hp,rfl⟩:=h;simp only[lk] at hl ⊢;by_cases e:k=l
    ·subst e;rw[if_pos rfl] at hl;injection hl with hl;subst hl
     exact⟨hk,.map kt vt es clk,by rw[if_pos rfl],rfl⟩
    ·rw[if_neg e] at hl ⊢;exact q0t hp hc l o' hl
   |iter m since seen last=>
    simp only[yyq] at h;obtain⟨p,hp,rfl⟩:=h;simp only[lk] at hl ⊢;by_cases e:k=l
    ·subst e;rw[if_pos rfl] at hl;injection hl with hl;subst hl
     exact⟨hk,.iter m since seen last,by rw[if_pos rfl],rfl⟩
    ·rw[if_neg e] at hl ⊢;exact q0t hp hc l o' hl
   |cus Q=>
    simp only[yyq] at h;obtain⟨p,hp,rfl⟩:=h;simp only[lk] at hl ⊢;by_cases e:k=l
    ·subst e;rw[if_pos rfl] at hl;injection hl with hl;subst hl
     exact⟨hk,.cus Q,by rw[if_pos rfl],rfl⟩
    ·rw[if_neg e] at hl ⊢;exact q0t hp hc l o' hl
   |loop st pe ps az bd n L=>
    simp only[yyr,yyq] at h;obtain⟨q,hq,p,hp,rfl⟩:=h;rw[q8] at hc;simp only[lk] at hl ⊢;by_cases e:k=l
    ·subst e;rw[if_pos rfl] at hl;injection hl with hl;subst hl
     exact⟨hk,.loop st pe ps az bd n L,by rw[if_pos rfl],q,hq,hc.1,rfl⟩
    ·rw[if_neg e] at hl ⊢;exact q0t hp hc.2 l o' hl
   |fr i L=>
    simp only[yyr,yyq] at h;obtain⟨q,hq,p,hp,rfl⟩:=h;rw[q8] at hc;simp only[lk] at hl ⊢;by_cases e:k=l
    ·subst e;rw[if_pos rfl] at hl;injection hl with hl;subst hl
     exact⟨hk,.fr i L,by rw[if_pos rfl],q,hq,hc.1,rfl⟩
    ·rw[if_neg e] at hl ⊢;exact q0t hp hc.2 l o' hl
def z5m{HF:List (Nat×HO)}{L:List (Nat×AV)}:∀ {K:List Nat} {r:List Prop×List (Nat×AV)},fzR HF F L K=some r→allP r.1→∀ d v',(d,v')∈r.2 →
  ∃ v q,lk L d=some v∧fzV HF F v=some q∧allP q.1∧v'=q.2
 |[],r,h,_,d,v',hl=>by simp only[fzR,yya] at h;subst h;cases hl
 |k::K,r,h,hc,d,v',hl=>by
  simp only[fzR] at h;split at h
  ·rename_i v hv;simp only[yyr,yyq] at h;obtain⟨q,hq,p,hp,rfl⟩:=h;rw[q8] at hc;rcases yyk.1 hl with e|e
   ·injection e with e1 e2;subst e1 e2
    exact⟨v,q,hv,hq,hc.1,rfl⟩
   ·exact z5m hp hc.2 d v' e
  ·cases h
def q7t{HF:List (Nat×HO)}{L:List (Nat×AV)}:∀ {K:List Nat} {r:List Prop×List (Nat×AV)},fzR HF F L K=some r→allP r.1→∀ d v',lk r.2 d=some v' →
  ∃ v q,lk L d=some v∧fzV HF F v=some q∧allP q.1∧v'=q.2
 |[],r,h,_,d,v',hl=>by simp only[fzR,yya] at h;subst h;simp[lk] at hl
 |k::K,r,h,hc,d,v',hl=>by
  simp only[fzR] at h;split at h
  ·rename_i v hv;simp only[yyr,yyq] at h;obtain⟨q,hq,p,hp,rfl⟩:=h;rw[q8] at hc;simp only[lk] at hl;by_cases e:k=d
   ·subst e;rw[if_pos rfl] at hl;injection hl with hl
    exact⟨v,q,hv,hq,hc.1,hl.symm⟩
   ·rw[if_neg e] at hl;exact q7t hp hc.2 d v' hl
  ·cases h
def q8y{K:List Nat}{r:List Prop×S}(h:frz F K s=some r)(hc:allP r.1)(h1:SAT X M ρ s w)(h2:REG X M ρ s a) :
  SAT X (frzM F s M ρ w) ρ r.2 w∧REG X (frzM F s M ρ w) ρ r.2 a:=by
 simp only[frz,yyr,yyq] at h;obtain⟨p,hp,q,hq,rfl⟩:=h;rw[q8] at hc;have hle:=q8z (F:=F) h1;have hr:=Env.upTo.refl ρ s.nx;have hH:=q0t hq hc.2;have hat:∀ l o',lk q.2 l=some o'→∃ o,lk s.H l=some o∧∀ b,o'.at ρ l=some b→o.at ρ l=some b:=fun l o' hl=>by
  obtain⟨e1,o,e2,e3⟩:=hH l o' hl;refine⟨o,e2,fun b hb=>?_⟩;cases o with
  |cell t a0=>obtain⟨q',_,_,_,rfl⟩:=e3;exact hb
  |sl eid e xs=>subst e3;exact hb
  |map kt vt es clk=>subst e3;exact hb
  |iter m since seen last=>subst e3;exact hb
  |cus Q=>subst e3;exact hb
  |loop st pe ps az bd n L=>obtain⟨q',_,_,rfl⟩:=e3;exact hb
  |fr i L=>obtain⟨q',_,_,rfl⟩:=e3;exact hb
  |raw ty k n c=>exact e3.elim
  |rmap es clk=>exact e3.elim
  |riter m since seen last bk=>exact e3.elim
  |gl g ty n c=>exact e3.elim
 have hown:∀ b,(∃ l o,lk (pickF s.H F) l=some o∧o.at ρ l=some b)→X.E.heap.size≤b:=fun b ⟨l,o,e1,e2⟩=>(g9 ((j24 (F:=F) h1).own l o e1).2.2 e2).1
 refine⟨⟨h1.below,fun b o hb=>z1t h1 b o (h1.msub b o hb),fun b hb=>?_,fun b o hb=>?_,fun l o' hl=>?_,fun l l' o o' b hl hl' hb hb'=>?_,fun l o b hl hb=>?_⟩,⟨h2.size,let ⟨Ds,e1,e2,e3,e4⟩:=h2.defers;⟨Ds,e1,e2,fun D hD=>⟨(e3 D hD).1,z1t h1 _ _ (e3 D hD).2⟩,e4⟩,fun d v' hd=>?_⟩⟩
 ·unfold frzM;split
  ·rename_i h;have:=hown b h;omega
  ·exact h1.mnew b hb
 ·unfold frzM at hb;split at hb
  ·exact hb
  ·exact h1.mem b o hb
 ·obtain⟨e1,o,e2,e3⟩:=hH l o' hl;obtain⟨f1,f2,f3⟩:=h1.own l o e2;cases o with
  |raw ty k n c=>exact e3.elim
  |rmap es clk=>exact e3.elim
  |riter m since seen last bk=>exact e3.elim
  |gl g ty n c=>exact e3.elim
  |cell t a0=>obtain⟨q',g1,g2,g3,rfl⟩:=e3;simp only[HO.ok] at f3;obtain⟨k1,k2,k3,c,ty,k4,k5⟩:=f3;obtain⟨b1,_,_,b4⟩:=q1t h1 g1 g2 f2;refine⟨f1,b1,?_⟩;simp only[HO.ok];exact⟨k1,g3,k3,c,ty,k4,b4 _ k5⟩
  |sl eid e xs=>subst e3;simp only[HO.ok] at f3;obtain⟨k1,cs,k2,k3⟩:=f3;refine⟨f1,f2,?_⟩;simp only[HO.ok];exact⟨k1,cs,k2,k3.mono hle⟩
  |map kt vt es clk=>subst e3;simp only[HO.ok] at f3;obtain⟨k1,ms,k2,k3⟩:=f3;refine⟨f1,f2,?_⟩;simp only[HO.ok];exact⟨k1,ms,k2,k3.mono hle⟩
  |iter m since seen last=>subst e3;refine⟨f1,f2,?_⟩;simp only[HO.ok] at f3 ⊢;exact f3
  |cus Q=>subst e3;refine⟨f1,f2,?_⟩;simp only[HO.ok] at f3 ⊢;exact f3
  |loop st pe ps az bd n L=>
   obtain⟨q',g1,g2,rfl⟩:=e3;simp only[HO.ok] at f3;obtain⟨k1,fn,tm,D,k2,k3,k4⟩:=f3;refine⟨f1,fun p hp=>?_,?_⟩
   ·obtain⟨v,q2,m1,m2,m3,m4⟩:=z5m g1 g2 p.1 p.2 hp;rw[m4];exact(q1t h1 m2 m3 (f2 _ (p6 m1))).1
   ·simp only[HO.ok];refine⟨k1,fn,tm,D,k2,k3,fun d v' hd=>?_⟩;obtain⟨v,q2,m1,m2,m3,rfl⟩:=q7t g1 g2 d v' hd;exact(q1t h1 m2 m3 (f2 _ (p6 m1))).2.1 _ (k4 d v m1)
  |fr i L=>
   obtain⟨q',g1,g2,rfl⟩:=e3;simp only[HO.ok] at f3;refine⟨f1,fun p hp=>?_,?_⟩
   ·obtain⟨v,q2,m1,m2,m3,m4⟩:=z5m g1 g2 p.1 p.2 hp;rw[m4];exact(q1t h1 m2 m3 (f2 _ (p6 m1))).1
   ·simp only[HO.ok];refine⟨f3.1,fun d v' hd=>?_⟩;obtain⟨v,q2,m1,m2,m3,rfl⟩:=q7t g1 g2 d v' hd;exact(q1t h1 m2 m3 (f2 _ (p6 m1))).2.1 _ (f3.2 d v m1)
 ·obtain⟨o1,e1,e2⟩:=hat l o hl;obtain⟨o2,e3,e4⟩:=hat l' o' hl';exact h1.apart l l' o1 o2 b e1 e3 (e2 b hb) (e4 b hb')
 ·obtain⟨o1,e1,e2⟩:=hat l o hl;unfold frzM;split
  ·rename_i h;obtain⟨l',o',f1,f2⟩:=h;rw[q7q] at f1;split at f1
   ·rename_i hF;have:=h1.apart l l' o1 o' b e1 f1 (e2 b hb) f2;subst this;rw[(hH l o hl).1] at hF;cases hF
   ·cases f1
  ·exact h1.notM l o1 b e1 (e2 b hb)
 ·obtain⟨v,q',e1,e2,e3,rfl⟩:=q7t hp hc.1 d v' hd;obtain⟨f1,f2⟩:=h2.reg d v e1;obtain⟨b1,b2,_,_⟩:=q1t h1 e2 e3 f1;exact⟨b1,b2 _ f2⟩
def JC.frz{c:Code}{cs:List Prop}{s':S}(F K:List Nat)(h:Ox.frz F K s=some (cs,s'))(hc:allP cs)(k:JC X c QA s'):JC X c QA s:=fun M ρ a w h1 h2=>by obtain⟨e1,e2⟩:=q8y h hc h1 h2;exact k _ ρ a w e1 e2
def JL.frz{cs:List Prop}{s':S}(F K:List Nat)(h:Ox.frz F K s=some (cs,s'))(hc:allP cs)(k:JL X md all QA l s'):JL X md all QA l s:=by
 cases md
 ·intro M ρ a w h1 h2;obtain⟨e1,e2⟩:=q8y h hc h1 h2;exact k _ ρ a w e1 e2
 ·intro M ρ a w h1 h2;obtain⟨e1,e2⟩:=q8y h hc h1 h2;exact k _ ρ a w e1 e2
def q09(w:World)(row:Option Nat):w.grownBy w row:=⟨rfl,rfl,rfl,yyn _,fun _ _ _=>rfl⟩
def Env.nilAt(ρ:Env)(n:Nat)(e:Ty):Env:=⟨ρ.blk,fun k=>if k=n then e else ρ.ty k,fun k=>if k=n then .slice none 0 0 else ρ.sv k⟩
def z0c(ρ:Env)(n:Nat)(e:Ty):ρ.upTo (ρ.nilAt n e) n:=fun l hl=>by
 have:l≠n:=by omega
 simp[Env.nilAt,this]
def SAT.ghost(h1:SAT X M ρ s w)(eid:TypeId)(e:Ty):SAT X M (ρ.nilAt s.nx e) ⟨s.L,(s.nx,.sl eid e [])::s.H,s.nx+1⟩ w:=by
 refine h1.add (row:=none) (q09 w none) (fun b h=>by cases h) (fun l o h=>⟨h,fun b _ hb=>by cases hb⟩) (z0c ρ s.nx e) trivial ?_ (fun b hb=>?_)
 ·simp only[HO.ok];refine⟨by simp[Env.nilAt],[],⟨by simp,.inl ⟨by simp[Env.nilAt],rfl⟩⟩,by simp,fun i h=>absurd h (by simp)⟩
 ·simp[HO.at,Env.nilAt,Value.ownBlock] at hb
def j1s{n:Nat}{e:Ty}:(AV.lf (.osl n)).rv M (ρ.nilAt n e) (.slice none 0 0):=by simp only[AV.rv,Leaf.at];exact⟨by simp[Env.nilAt],rfl⟩
def nils_rv{u:Value}(h:(AV.lf .nils).rv M ρ u):u=.slice none 0 0:=by simp only[AV.rv,Leaf.at] at h;exact(Option.some.inj h.1).symm
def JC.ghost{c:Code}(d:Nat)(eid:TypeId)(e:Ty)(hd:lk s.L d=some (.lf .nils))(k:JC X c QA ⟨(d,.lf (.osl s.nx))::s.L,(s.nx,.sl eid e [])::s.H,s.nx+1⟩):JC X c QA s:=fun M ρ a w h1 h2=>by
 have g1:=h1.ghost eid e;have hr:=z0c ρ s.nx e;have g2:REG X M (ρ.nilAt s.nx e) ⟨(d,.lf (.osl s.nx))::s.L,(s.nx,.sl eid e [])::s.H,s.nx+1⟩ a:=by
  refine⟨h2.size,h2.defers,fun d' v hv=>?_⟩;simp only[lk] at hv;split at hv
  ·rename_i hdd;injection hv with hv;subst hv;subst hdd
   refine⟨yxf _,?_⟩;rw[nils_rv (h2.reg d _ hd).2];exact j1s
  ·obtain⟨f1,f2⟩:=h2.reg d' v hv;exact⟨w5 (yxp _) f1,w9 (Mem.le_refl M) hr f1 f2⟩
 exact k M _ a w ⟨g1.below,g1.msub,g1.mnew,g1.mem,g1.own,g1.apart,g1.notM⟩ g2
def ghA(n:Nat):AV→Nat→Option AV
 |.mix (.lf .nils) b,0=>some (.mix (.lf (.osl n)) b)
 |.mix a b,i+1=>(ghA n b i).map (.mix a)
 |_,_=>none
def w8(h:K s):JL X md all (qN K) [] s:=JL.nil h
def mtL:Leaf→Leaf→List (Nat×Nat)
 |.osl a,.osl b|.optr a _,.optr b _|.oelt a _ _,.oelt b _ _|.oarr a _ _ _,.oarr b _ _ _|.ovw a _ _ _,.ovw b _ _ _|.mp a,.mp b|.itr a,.itr b|.yld a,.yld b=>[(a,b)]
 |_,_=>[]
def mtV:AV→AV→List (Nat×Nat)
 |.lf x,.lf y=>mtL x y
 |.mix a b,.mix c d|.acons a b,.acons c d|.fn _ a b,.fn _ c d=>mtV a c++mtV b d
 |.tup a,.tup b|.gd _ a,.gd _ b|.pfn a,.pfn b=>mtV a b
 |_,_=>[]
def mtR(L:List (Nat×AV)):List (Nat×AV)→List (Nat×Nat)
 |[]=>[]
 |(d,v)::r=>(match lk L d with|some u=>mtV v u|none=>[])++mtR L r
def mtH(H' H:List (Nat×HO)):List (Nat×Nat)→List (Nat×Nat)
 |[]=>[]
 |(a,b)::r=>(match lk H' a,lk H b with|some (.cell _ v),some (.cell _ u)=>mtV v u|some (.iter m _ _ _),some (.iter m' _ _ _)=>[(m,m')]|some (.loop _ _ _ _ _ _ L),some (.loop _ _ _ _ _ _ L')=>mtR L' L|_,_=>[])++mtH H' H r
def frL:List (Nat×HO)→List (Nat×Nat×List (Nat×AV))
 |[]=>[]
 |(l,.fr i L)::r=>(i,l,L)::frL r
 |_::r=>frL r
def mtF(F F':List (Nat×Nat×List (Nat×AV))):List (Nat×Nat) :=
 match F with
 |[]=>[]
 |(i,l,L)::r=>(match lk F' i with|some (l',L')=>(l,l')::mtR L' L|none=>[])++mtF r F'
def pairs(s' s:S):List (Nat×Nat):=
 let p1:=mtR s.L s'.L++mtF (frL s'.H) (frL s.H)
 let p2:=mtH s'.H s.H p1
 let p3:=mtH s'.H s.H p2
 p1++(p2++p3)
def renOf(ps:List (Nat×Nat))(n:Nat):Nat:=(lk ps n).getD n
variable{s':S}
def q1i{ps:List (Nat×Nat)}(_:pairs s' s=ps)(hL:covL (renOf ps) s'.L s.L)(hH:covH (renOf ps) s'.H s.H)(hbL:bdL s'.nx s'.L)(hbH:bdH s'.nx s'.H)(hi:injH (renOf ps) s'.H=true):JW X s' s:=JW.of (renOf ps) hL hH hbL hbH hi
def frB(ops:List Oper)(ls:List Nat)(i:Nat):Bool:=
 match ops[i]? with
 |some o=>!ls.contains i&&edgesL ops.length ls o.after.toList&&freeL ops.length ops ls i o 0 ops
 |none=>false
def rdI(ops:List Oper)(ls:List Nat):List Nat:=(rdyL ops.length ls 0 ops).map (·.1)
def BrI(X:Ctx)(ops:List Oper)(K:S→Prop)(fuel:Nat)(ls:List Nat)(s:S):List Nat→Prop
 |[]=>True
 |i::r=>(∃ o,ops[i]?=some o∧JL X true ops (qN fun s'=>JAny X ops K fuel (i::ls) s') [o] s)∧BrI X ops K fuel ls s r
def BrI.one{r:List Nat}{o:Oper}(ho:ops[i]?=some o)(h:JL X true ops (qN fun s'=>JAny X ops K fuel (i::ls) s') [o] s)(h':BrI X ops K fuel ls s r):BrI X ops K fuel ls s (i::r):=⟨⟨o,ho,h⟩,h'⟩
def BrI.nil:BrI X ops K fuel ls s []:=trivial
def rgn(id:Nat):Code→List Oper
 |.region id' ops _=>match Nat.beq id' id with|true=>ops.toList|false=>[]
 |.seq a b=>match rgn id a with|[]=>rgn id b|l=>l
 |.block _ c=>rgn id c
 |.loop c=>rgn id c
 |.scope c=>rgn id c
 |.rangeFunc _ _ a b=>match rgn id a with|[]=>rgn id b|l=>l
 |.cond _ a b=>match rgn id a with|[]=>rgn id b|l=>l
 |_=>[]
variable {a':Act}{fl fr:List Nat}
def PutsR(ops:List Oper):List Nat→Act→Act→Prop
 |[],a,a'=>a'=a
 |f::r,a,a'=>∃ o z,ops[f]?=some o∧PutsR ops r (a.put o.dst z) a'
def NoSel(ops:List Oper):Prop:=∀ (j:Nat) (o:Oper) cs b,ops[j]?=some o→o.op≠.select cs b
def PutsR.put{d:Option Nat}{z:Value}:∀ {fr:List Nat} {a a':Act},PutsR ops fr a a'→(∀ f∈fr,∀ o,ops[f]?=some o→∀ e,o.dst=some e→d≠some e)→PutsR ops fr (a.put d z) (a'.put d z)
 |[],a,a',h,_=>by simp only[PutsR] at h ⊢;rw[h]
 |f::r,a,a',h,hd=>by simp only[PutsR] at h ⊢;obtain⟨o,y,ho,h⟩:=h;refine⟨o,y,ho,?_⟩;have h1:=PutsR.put (d:=d) (z:=z) h fun g hg=>hd g (yyh _ hg);rw[Act.put_comm a (x:=o.dst) (y:=d) y z (fun e he=>hd f yyg o ho e he)] at h1;exact h1
def z55(a:Act)(d:Option Nat)(y z:Value):(a.put d y).put d z=a.put d z:=by
 cases d with
 |none=>rfl
 |some d=>simp only[Act.put];congr 1;exact Array.setIfInBounds_setIfInBounds _
def PutsR.erase{k:Nat}{ok:Oper}{z:Value}(hk:ops[k]?=some ok):∀ {fr:List Nat} {a a':Act},PutsR ops fr a a'→k∈fr→fr.Nodup →
  (∀ f∈fr,f≠k→∀ o,ops[f]?=some o→∀ e,o.dst=some e→ok.dst≠some e)→PutsR ops (fr.erase k) (a.put ok.dst z) (a'.put ok.dst z)
 |[],_,_,_,hm,_,_=>by cases hm
 |f::r,a,a',h,hm,hn,hd=>by
  simp only[PutsR] at h;obtain⟨o,y,ho,h⟩:=h;by_cases hf:f=k
  ·subst hf;rw[hk] at ho;injection ho with ho;subst ho
   rw[List.erase_cons_head];have h1:=PutsR.put (d:=ok.dst) (z:=z) h fun g hg o' ho' e he=>hd g (yyh _ hg) (fun e'=>by subst e';exact(yxh.1 hn).1 hg) o' ho' e he;rw[z55] at h1;exact h1
  ·rw[List.erase_cons_tail (by simpa using hf)];have h1:=PutsR.erase (z:=z) hk h ((yyk.1 hm).resolve_left (Ne.symm hf)) (yxh.1 hn).2 fun g hg=>hd g (yyh _ hg);refine⟨o,y,ho,?_⟩;rw[Act.put_comm a (x:=o.dst) (y:=ok.dst) y z (fun e he=>hd f yyg hf o ho e he)] at h1;exact h1
def PutsR.exec{o:Oper}(hs:∀ cs b,o.op≠.select cs b):∀ {fr:List Nat} {a a':Act},PutsR ops fr a a'→(∀ f∈fr,∀ q,ops[f]?=some q→∀ d,q.dst=some d→d∉o.looksAt ops.toArray) →
  execOp a'.eval o=execOp a.eval o∧Region.wanted o (yielded ops.toArray a'.tmps)=Region.wanted o (yielded ops.toArray a.tmps)
 |[],a,a',h,_=>by simp only[PutsR] at h;subst h;exact⟨rfl,rfl⟩
 |f::r,a,a',h,hd=>by simp only[PutsR] at h;obtain⟨q,y,hq,h⟩:=h;obtain⟨h1,h2⟩:=PutsR.exec hs h fun g hg=>hd g (yyh _ hg);have hn:=hd f yyg q hq;exact⟨h1.trans (execOp_put o hs a q.dst y hn),h2.trans (wanted_put o a q.dst y hn)⟩
def PutsR.op{Q:Exit→Act→World→Prop}{j:Nat}{oj:Oper}(hQ:∀ e a w,e≠.normal→¬ Q e a w)(hj:ops[j]?=some oj)(hsj:∀ cs b,oj.op≠.select cs b)(hn:notDef oj.op=true) :
  ∀ {fr:List Nat} {K:Act→World→Prop} {a a':Act},PutsR ops fr a a'→(∀ f∈fr,∀ q,ops[f]?=some q→(∀ d,q.dst=some d→d∉oj.looksAt ops.toArray)∧(∀ d,q.dst=some d→oj.dst≠some d)) →
  wpOpIn X.fn 0 X.P ops.toArray Q j K a' w→wpOpIn X.fn 0 X.P ops.toArray Q j (fun b w'=>∃ b',PutsR ops fr b b'∧K b' w') a w
 |[],K,a,a',h,_,hw=>by simp only[PutsR] at h;subst h;exact wpOpIn_mono (fun b w' hk=>⟨b,rfl,hk⟩) hw
 |f::r,K,a,a',h,hd,hw=>by simp only[PutsR] at h;obtain⟨q,y,hq,h⟩:=h;have h1:=PutsR.op hQ hj hsj hn h (fun g hg=>hd g (yyh _ hg)) hw;obtain⟨e1,e2⟩:=hd f yyg q hq;have h2:=z9z (oi:=q) hQ (by simpa using hj) e1 e2 hsj hn h1;exact wpOpIn_mono (fun b w' ⟨b',hp,hk⟩=>⟨b',⟨q,y,hq,hp⟩,hk⟩) h2
def LstF(n:Nat)(ls fr:List Nat)(l:Array Bool):Prop:=l.size=n∧∀ j,j<n→l[j]?=some (ls.contains j&&!fr.contains j)
def JF(X:Ctx)(ops:List Oper)(K:S→Prop)(fl:List Nat)(fuel:Nat)(ls:List Nat)(s:S):Prop:=∀ M ρ a a' w l fr,(∀ f∈fr,f∈fl)→fr.Nodup→LstF ops.length ls fr l→PutsR ops fr a a'→SAT X M ρ s w→REG X M ρ s a'→wpAnyIn X.fn 0 X.P .any ops.toArray (conc X (qN K)) (fuel+fr.length) l a w
def JF.any(h:JF X ops K [] fuel ls s):JAny X ops K fuel ls s:=by intro M ρ a w l hl h1 h2;exact h M ρ a a w l [] (by simp) (by simp) ⟨hl.1,fun j hj=>by rw[hl.2 j hj];simp⟩ rfl h1 h2
def LstF.getT{n j:Nat}{l:Array Bool}(h:LstF n ls fr l)(hj:j<n)(d:Bool):l.getD j d=(ls.contains j&&!fr.contains j):=by have:=h.2 j hj;simp[yyx,this]
def LstF.setNew{n i:Nat}{l:Array Bool}(h:LstF n ls fr l)(hi:i<n)(hf:i∉fr):LstF n (i::ls) fr (l.setIfInBounds i true):=by
 refine⟨by simp[h.1],fun j hj=>?_⟩;rw[yxx];by_cases e:i=j
 ·subst e;simp[h.1,hi,hf]
 ·rw[if_neg e,h.2 j hj];simp[Ne.symm e]
def LstF.setOld{n i:Nat}{l:Array Bool}(h:LstF n ls fr l)(hi:i<n)(hl:i∈ls)(hn:fr.Nodup):LstF n ls (fr.erase i) (l.setIfInBounds i true):=by
 refine⟨by simp[h.1],fun j hj=>?_⟩;rw[yxx];by_cases e:i=j
 ·subst e;have:i∉fr.erase i:=fun hm=>by rw[List.Nodup.mem_erase_iff hn] at hm;exact hm.1 rfl
  simp[h.1,hi,hl,this]
 ·rw[if_neg e,h.2 j hj];have:(fr.erase i).contains j=fr.contains j:=by rw[yy5];simp[List.mem_erase_of_ne (Ne.symm e)]
  rw[this]
def LstF.float{n i:Nat}{l:Array Bool}(h:LstF n ls fr l)(hls:ls.contains i=false):LstF n (i::ls) (i::fr) l:=by
 refine⟨h.1,fun j hj=>?_⟩;rw[h.2 j hj];by_cases e:j=i
 ·subst e;simp at hls;simp[hls]
 ·simp[e]
def waits(o:Oper)(f:Nat):Bool:=o.after.toList.any fun e=>Region.binds .any e&&e.on==f
def q1j{o:Oper}{f:Nat}:waits o f=true↔∃ e∈o.after,Region.binds .any e=true∧e.on=f:=by simp only[waits,List.any_eq_true,yyd,beq_iff_eq];exact⟨fun⟨e,h1,h2,h3⟩=>⟨e,by simpa using h1,h2,h3⟩,fun⟨e,h1,h2,h3⟩=>⟨e,by simpa using h1,h2,h3⟩⟩
def halfB(ops:List Oper)(q o:Oper):Bool:=
 match q.dst with
 |some d=>!(o.looksAt ops.toArray).contains d&&o.dst != some d
 |none=>true
def r8{q o:Oper}(h:halfB ops q o=true):(∀ d,q.dst=some d→d∉o.looksAt ops.toArray)∧(∀ d,q.dst=some d→o.dst≠some d):=by
 refine⟨fun d hd=>?_,fun d hd=>?_⟩<;>simp[halfB,hd] at h
 ·exact h.1
 ·exact h.2
def flB(ops:List Oper)(ls fl:List Nat):Bool:=
 fl.all fun f=>ls.contains f&&(match ops[f]? with
  |some o=>edgesL ops.length ls o.after.toList&&o.after.toList.all (fun e=>!Region.binds .any e||Nat.blt e.on f) &&
    (match o.dst with|some d=>!(o.looksAt ops.toArray).contains d|none=>true) &&
    fl.all (fun g=>g==f||waits o g||(match ops[g]? with|some q=>halfB ops q o|none=>false))
  |none=>false)
def apB(ops:List Oper)(fl:List Nat)(i:Nat):Bool:=
 match ops[i]? with
 |some o=>fl.all fun g=>waits o g||(match ops[g]? with|some q=>halfB ops q o|none=>false)
 |none=>false
structure StOne(X:Ctx)(ops:List Oper)(s:S)(f:Nat):Prop where
 ex:∃ o d v,ops[f]?=some o∧o.dst=some d∧ltB d X.n=true∧notDef o.op=true∧lk s.L d=some v∧(TOK X.P X.T→∀ M ρ a w,SAT X M ρ s w→REG X M ρ s a→v.bd s.nx∧∃ z,v.rv M ρ z ∧
  ((Region.wanted o (yielded ops.toArray a.tmps)=true∧(execOp a.eval o).run X.P w=.ok (.value z) w)∨(Region.wanted o (yielded ops.toArray a.tmps)=false∧z=Go.undef)))
def StF(X:Ctx)(ops:List Oper)(s:S):List Nat→Prop
 |[]=>True
 |f::r=>StOne X ops s f∧StF X ops s r
def StF.mem{f:Nat}:∀ {fl:List Nat},StF X ops s fl→f∈fl→StOne X ops s f
 |[],_,h=>by cases h
 |g::r,h,hm=>by
  rcases yyk.1 hm with e|e
  ·subst e;exact h.1
  ·exact StF.mem h.2 e
def BrF(X:Ctx)(ops:List Oper)(K:S→Prop)(fl:List Nat)(fuel:Nat)(ls:List Nat)(s:S):List Nat→Prop
 |[]=>True
 |i::r=>(∃ o fl',ops[i]?=some o∧(fl.filter fun f=>!waits o f)=fl'∧JL X true ops (qN fun s'=>JF X ops K fl' fuel (i::ls) s') [o] s)∧BrF X ops K fl fuel ls s r
def BrF.mem{i:Nat}:∀ {r:List Nat},BrF X ops K fl fuel ls s r→i∈r→∃ o,ops[i]?=some o∧JL X true ops (qN fun s'=>JF X ops K (fl.filter fun f=>!waits o f) fuel (i::ls) s') [o] s
 |[],_,h=>by cases h
 |j::r,h,hm=>by
  rcases yyk.1 hm with e|e
  ·subst e;obtain⟨o,fl',h1,rfl,h2⟩:=h.1;exact⟨o,h1,h2⟩
  ·exact BrF.mem h.2 e
def j40{d:Nat}{v:AV}{L:List (Nat×AV)}{H:List (Nat×HO)}{nx:Nat}(h:REG X M ρ ⟨(d,v)::L,H,nx⟩ a)(hl:lk L d=some v):REG X M ρ ⟨L,H,nx⟩ a:=by
 refine⟨h.size,h.defers,fun e u he=>?_⟩;have:=h.reg e u;simp only[lk] at this;by_cases hd:d=e
 ·subst hd;rw[hl] at he;injection he with he;subst he
  exact this (by simp)
 ·exact this (by rw[if_neg hd];exact he)
def q7b:∀ {fr:List Nat},fr≠[]→∃ m∈fr,∀ j∈fr,m≤j
 |[],h=>absurd rfl h
 |[x],_=>⟨x,by simp,by simp⟩
 |x::y::r,_=>by
  obtain⟨m,hm,h⟩:=q7b (fr:=y::r) (by simp);by_cases hx:x≤m
  ·refine⟨x,by simp,fun j hj=>?_⟩;rcases yyk.1 hj with e|e
   ·omega
   ·have:=h j e;omega
  ·refine⟨m,yyh _ hm,fun j hj=>?_⟩;rcases yyk.1 hj with e|e
   ·omega
   ·exact h j e
def j5j(is:List Nat)(hns:Region.noSelect ops.toArray=true)(hnd0:ndAll ops=true)(hr:rdI ops ls=is)(hfl:(flB ops ls fl&&is.all (apB ops fl))=true)(hst:StF X ops s fl)(hX:XOK X)
  (hB:is=[]∨∃ fuel',fuel=fuel'+1∧BrF X ops K fl fuel' ls s is) (hK:is=[]→K s):JF X ops K fl fuel ls s:=by
 have hsel:NoSel ops:=fun j o cs b h=>Region.noSelect_spec hns j o cs b (by simpa using h);simp only[yyd] at hfl;obtain⟨hfl,hap⟩:=hfl;have hfl:∀ f∈fl,ls.contains f=true∧∃ o,ops[f]?=some o∧edgesL ops.length ls o.after.toList=true∧(∀ e∈o.after,Region.binds .any e=true→e.on<f) ∧
   (∀ d,o.dst=some d→d∉o.looksAt ops.toArray)∧∀ g∈fl,g≠f→waits o g=false→∃ q,ops[g]?=some q∧halfB ops q o=true:=by
  intro f hf;have:=yy9.1 hfl f hf;simp only[yyd] at this;refine⟨this.1,?_⟩;have h2:=this.2;split at h2
  ·rename_i o ho;simp only[yyd] at h2;obtain⟨⟨⟨h3,h4⟩,h5⟩,h6⟩:=h2;refine⟨o,ho,h3,fun e he hb=>?_,fun d hd=>?_,fun g hg hgf hw=>?_⟩
   ·have:=yy9.1 h4 e (by simpa using he);rw[hb] at this;simpa using this
   ·rw[hd] at h5;simpa using h5
   ·have:=yy9.1 h6 g hg;rw[hw] at this;simp only[Bool.or_false,yy1,beq_iff_eq] at this;have:=this.resolve_left hgf;split at this
    ·rename_i q hq;exact⟨q,hq,this⟩
    ·cases this
  ·cases h2
 have hap:∀ i∈is,∀ o,ops[i]?=some o→∀ g∈fl,waits o g=false→∃ q,ops[g]?=some q∧halfB ops q o=true:=by
  intro i hi o ho g hg hw;have:=yy9.1 hap i hi;simp only[apB,ho] at this;have:=yy9.1 this g hg;rw[hw] at this;simp only[Bool.false_or] at this;split at this
  ·rename_i q hq;exact⟨q,hq,this⟩
  ·cases this
 have hrdy:∀ i,i∈is↔∃ o,ops[i]?=some o∧ls.contains i=false∧edgesL ops.length ls o.after.toList=true:=by
  intro i;rw[← hr];simp only[rdI,yy0];constructor
  ·rintro⟨⟨j,o⟩,h,rfl⟩;obtain⟨_,h1,h2,h3⟩:=q07.1 h;exact⟨o,by simpa using h1,h2,h3⟩
  ·rintro⟨o,h1,h2,h3⟩;exact⟨(i,o),q07.2 ⟨by omega,by simpa using h1,h2,h3⟩,rfl⟩
 have main:∀ (n:Nat) M ρ a a' w l fr,fr.length=n→(∀ f∈fr,f∈fl)→fr.Nodup→LstF ops.length ls fr l→PutsR ops fr a a'→SAT X M ρ s w→REG X M ρ s a' →
   wpAnyIn X.fn 0 X.P .any ops.toArray (conc X (qN K)) (fuel+fr.length) l a w:=by
  intro n;induction n with
  |zero=>
   intro M ρ a a' w l fr hn hsub hnd hl hp h1 h2;obtain rfl:fr=[]:=List.length_eq_zero_iff.1 hn;simp only[PutsR] at hp;subst hp;have hl':Lst ops.length ls l:=⟨hl.1,fun j hj=>by rw[hl.2 j hj];simp⟩;rcases hB with hB|⟨fuel',rfl,hB⟩
   ·have hd:rdyL ops.length ls 0 ops=[]:=by rw[hB] at hr;simpa[rdI] using hr
    exact JAny.done hd (hK hB) M ρ a' w l hl' h1 h2
   ·refine⟨fun h0=>?_,fun i hi=>?_⟩
    ·have hd:is=[]:=by rw[List.eq_nil_iff_forall_not_mem];intro i hi;obtain⟨o,ho,h3,h4⟩:=(hrdy i).1 hi;have:i∈Region.ready .any ops.toArray l:=(q6h hl' i).2 ⟨o,q07.2 ⟨by omega,by simpa using ho,h3,h4⟩⟩;rw[h0] at this;cases this
     exact⟨M,ρ,s,h1,h2,hK hd⟩
    ·obtain⟨o,ho⟩:=(q6h hl' i).1 hi;obtain⟨_,h3,h4,h5⟩:=q07.1 ho;have h3:ops[i]?=some o:=by simpa using h3
     obtain⟨o',ho',hJ⟩:=hB.mem ((hrdy i).2 ⟨o,h3,h4,h5⟩);rw[h3] at ho';injection ho' with ho';subst ho'
     have hlt:i<ops.length:=(yxc.1 h3).1;have:=hJ M ρ a' w h1 h2;have this:=q76 (K:=K) h3 this;refine wpOpIn_mono (fun b w' hk=>?_) this;obtain⟨M',ρ',s',k1,k2,k3⟩:=hk;exact k3 M' ρ' b b w' _ [] (by simp) (by simp) (hl.setNew hlt (by simp)) rfl k1 k2
  |succ n ih=>
   intro M ρ a a' w l fr hn hsub hnd hl hp h1 h2;have hfuel:fuel+fr.length=(fuel+n)+1:=by rw[hn];omega
   rw[hfuel];have hne:fr≠[]:=by rintro rfl;simp at hn
   refine⟨fun h0=>?_,fun i hi=>?_⟩
   ·
    obtain⟨m,hm,hmin⟩:=q7b hne;obtain⟨hin,o,ho,hed,hbl,_,_⟩:=hfl m (hsub m hm);have hlt:m<ops.length:=(yxc.1 ho).1;have:m∈Region.ready .any ops.toArray l:=by
     refine mem_ready.2 ⟨by rw[hl.getT hlt];simp[hm],o,by simpa using ho,fun e he hb=>?_⟩;obtain⟨e1,e2⟩:=g8.1 hed e (by simpa using he) hb;rw[hl.getT e1,e2];have:e.on∉fr:=fun hc=>by have:=hmin _ hc;have:=hbl e he hb;omega
     simp[this]
    rw[h0] at this;cases this
   ·obtain⟨hun,o,ho,hall⟩:=mem_ready.1 hi;have ho:ops[i]?=some o:=by simpa using ho
    have hlt:i<ops.length:=(yxc.1 ho).1;rw[hl.getT hlt] at hun;have hall:∀ e∈o.after,Region.binds .any e=true→e.on<ops.length∧ls.contains e.on=true∧e.on∉fr:=by
     intro e he hb;have h3:=hall e he hb;rcases Nat.lt_or_ge e.on ops.length with hlt'|hge
     ·rw[hl.getT hlt'] at h3;simp only[yyd,yy6] at h3;exact⟨hlt',h3.1,fun hc=>by simp[hc] at h3⟩
     ·have:l.size≤e.on:=by rw[hl.1];exact hge
      simp[yyx,Array.getElem?_eq_none this] at h3
    have hnw:∀ g∈fr,waits o g=false:=by intro g hg;rw[Bool.eq_false_iff];intro hw;obtain⟨e,he,hb,rfl⟩:=q1j.1 hw;exact(hall e he hb).2.2 hg
    by_cases hif:i∈fr
    ·
     obtain⟨hin,o',ho',_,_,hself,hpair⟩:=hfl i (hsub i hif);rw[ho] at ho';injection ho' with ho';subst ho'
     obtain⟨o',d,v,hop,hdst,hd,hnd1,hlk,hsem⟩:=(hst.mem (hsub i hif)).ex;rw[ho] at hop;injection hop with hop;subst hop
     obtain⟨hb,z,hz,hrun⟩:=hsem hX.t M ρ a' w h1 h2;have hap':∀ g∈fr,∀ q,ops[g]?=some q→∀ e,q.dst=some e→e∉o.looksAt ops.toArray:=by
      intro g hg q hq e he;by_cases hgi:g=i
      ·subst hgi;rw[ho] at hq;injection hq with hq;subst hq;exact hself e he
      ·obtain⟨q',hq',ha⟩:=hpair g (hsub g hg) hgi (hnw g hg);rw[hq] at hq';injection hq' with hq';subst hq'
       exact(r8 ha).1 e he
     obtain⟨hx1,hx2⟩:=PutsR.exec (hsel i _ · · ho) hp hap';have hlen:(fr.erase i).length=n:=by rw[List.length_erase_of_mem hif];omega
     have next:=ih M ρ (a.put o.dst z) (a'.put o.dst z) w (l.setIfInBounds i true) (fr.erase i) hlen (fun f hf=>hsub f (List.mem_of_mem_erase hf)) (hnd.erase i) (hl.setOld hlt (by simpa using hin) hnd)
      (PutsR.erase ho hp hif hnd fun g hg hgi q hq e he=>by
       obtain⟨q',hq',ha⟩:=hpair g (hsub g hg) hgi (hnw g hg);rw[hq] at hq';injection hq' with hq';subst hq'
       exact(r8 ha).2 e he) h1
      (by rw[hdst];exact j40 (L:=s.L) (h2.putO (d:=some d) (dstOk.spec (y6 hd)) hb hz) hlk)
     rw[hlen] at next;unfold wpOpIn;simp only[yxr,ho];rw[← hx2];rcases hrun with⟨hw1,hrun⟩|⟨hw1,rfl⟩
     ·simp only[hw1,if_true];exact v7 hnd1 (by rw[← hx1];exact hrun) next
     ·simp only[hw1,yyt,if_false];exact⟨fun f _=>q4m f,next⟩
    ·
     have hils:ls.contains i=false:=by
      cases hc:ls.contains i with
      |false=>rfl
      |true=>rw[hc] at hun;simp[hif] at hun
     have hii:i∈is:=(hrdy i).2 ⟨o,ho,hils,g8.2 fun e he hb=>⟨(hall e (by simpa using he) hb).1,(hall e (by simpa using he) hb).2.1⟩⟩;rcases hB with hB|⟨fuel',rfl,hB⟩
     ·rw[hB] at hii;cases hii
     obtain⟨o',ho',hJ⟩:=hB.mem hii;rw[ho] at ho';injection ho' with ho';subst ho'
     have h3:=q76 (K:=K) ho (hJ M ρ a' w h1 h2);have hapf:∀ g∈fr,∀ q,ops[g]?=some q→(∀ d,q.dst=some d→d∉o.looksAt ops.toArray)∧(∀ d,q.dst=some d→o.dst≠some d):=by
      intro g hg q hq;obtain⟨q',hq',ha⟩:=hap i hii o ho g (hsub g hg) (hnw g hg);rw[hq] at hq';injection hq' with hq';subst hq'
      exact r8 ha
     have h4:=PutsR.op (fun _ _ _ h=>z2d h) ho (hsel i o · · ho) (q1o hnd0 i o (by simpa using ho)) hp hapf h3;refine wpOpIn_mono (fun b w' ⟨b',hp',hk⟩=>?_) h4;obtain⟨M',ρ',s',k1,k2,k3⟩:=hk;have:=k3 M' ρ' b b' w' (l.setIfInBounds i true) fr (fun f hf=>yxl.2 ⟨hsub f hf,by rw[hnw f hf];rfl⟩) hnd (hl.setNew hlt hif) hp' k1 k2;rw[hn] at this;rw[show fuel'+1+n=fuel'+(n+1) by omega];exact this
 intro M ρ a a' w l fr;exact main fr.length M ρ a a' w l fr rfl
def sure(ls fl:List Nat):List Nat:=ls.filter fun j=>!fl.contains j
def q12:(sure ls fl).contains j=(ls.contains j&&!fl.contains j):=by rw[yy5];simp[sure,yxl]
def fsB(ops:List Oper)(ls fl:List Nat)(i:Nat):Bool:=!ls.contains i&&!fl.contains i&&frB ops (sure ls fl) i&&apB ops fl i&&(Region.noSelect ops.toArray&&ndAll ops)
def JF.first(i:Nat){d:Nat}{op:Op}{ty:TypeId}{ps:String}{af:Array Edge}{cs:List Prop}{v:AV}{L:List (Nat×AV)}{H:List (Nat×HO)}{nx:Nat}
  (hX:XOK X) (hf:fsB ops ls fl i=true) (ho:ops[i]?=some ⟨some d,op,ty,ps,af,none⟩) (e3:isLoad op=false)
  (h:evq X.T op ⟨L,H,nx⟩=some (cs,v)) (hd:ltB d X.n=true) (hc:allP cs) (k:JF X ops K fl fuel (i::ls) ⟨(d,v)::L,H,nx⟩):JF X ops K fl (fuel+1) ls ⟨L,H,nx⟩:=by
 intro M ρ a a' w l fr hsub hnd hl hp h1 h2;simp only[fsB,yyd,yy6] at hf;obtain⟨⟨⟨⟨hnl,hnf⟩,hf⟩,hap⟩,hs,hnd0⟩:=hf;simp only[frB,ho,yyd,yy6] at hf;obtain⟨⟨_,h4⟩,e4⟩:=hf;have hlt:i<ops.length:=(yxc.1 ho).1;have hif:i∉fr:=fun hc=>by simp at hnf;exact hnf (hsub i hc)
 have hed:=g8.1 h4;have hapf:∀ g∈fr,∀ q,ops[g]?=some q→halfB ops q (⟨some d,op,ty,ps,af,none⟩:Oper)=true:=by intro g hg q hq;simp only[apB,ho] at hap;have:=yy9.1 hap g (hsub g hg);rw[hq] at this;simp only[yy1] at this;refine this.resolve_left fun hw=>?_;obtain⟨e,he,hb,rfl⟩:=q1j.1 hw;have:=(hed e (by simpa using he) hb).2;rw[q12] at this;simp[hsub _ hg] at this
 obtain⟨hb,z,hz,hrun⟩:=z88 hX.t (o:=⟨some d,op,ty,ps,af,none⟩) e3 h hc h1 h2;have hsel:∀ (j:Nat) (o:Oper) cs b,ops.toArray[j]?=some o→o.op≠.select cs b:=Region.noSelect_spec hs;obtain⟨hx1,hx2⟩:=PutsR.exec (o:=⟨some d,op,ty,ps,af,none⟩) (hsel i _ · · (by simpa using ho)) hp fun g hg q hq=>(r8 (hapf g hg q hq)).1;rw[show fuel+1+fr.length=(fuel+fr.length)+1 by omega];refine q61 (fun _ _ _ h=>z2d h) (i:=i) (oi:=⟨some d,op,ty,ps,af,none⟩) (v:=z) (by simpa using ho) hsel (q1o hnd0) (fuel+fr.length) l a w ?_ ?_ (.inl ⟨rfl,by rw[← hx1];exact hrun⟩) ?_
 ·intro j oj hj hne hun hno;have hjl:j<ops.length:=by have:=(yym.1 hj).1;simpa using this
  refine q6s e4 j oj (by simpa using hj) (by omega) ?_ hno;rw[hl.getT hjl] at hun;rw[yxw,q12];cases hc:ls.contains j with
  |false=>rfl
  |true=>rw[hc] at hun;simp at hun;simp[hsub _ hun]
 ·refine mem_ready.2 ⟨by rw[hl.getT hlt,hnl];rfl,_,by simpa using ho,fun e he hb=>?_⟩;obtain⟨e1,e2⟩:=hed e (by simpa using he) hb;rw[q12,yyd] at e2;rw[hl.getT e1,e2.1];have:e.on∉fr:=fun hc=>by have:=e2.2;simp[hsub _ hc] at this
  simp[this]
 ·exact k M ρ _ (a'.put (some d) z) w _ fr hsub hnd (hl.setNew hlt hif) (PutsR.put (d:=some d) hp fun f hf o ho' e he hde=>(r8 (hapf f hf o ho')).2 e he hde)
   (j9 (d:=some d) (v:=v) h1) (h2.putO (d:=some d) (dstOk.spec (y6 hd)) hb hz)
def ftB(ops:List Oper)(ls fl:List Nat)(i d:Nat):Bool:=!ls.contains i&&!fl.contains i&&fl.all fun g=>match ops[g]? with|some q=>q.dst != some d|none=>true
def JF.float(i:Nat){d:Nat}{op:Op}{ty:TypeId}{ps:String}{af:Array Edge}{cs:List Prop}{v:AV}{L:List (Nat×AV)}{H:List (Nat×HO)}{nx:Nat}
  (hX:XOK X) (hf:ftB ops ls fl i d=true) (ho:ops[i]?=some ⟨some d,op,ty,ps,af,none⟩)
  (h:evq X.T op ⟨L,H,nx⟩=some (cs,v)) (hd:ltB d X.n=true) (hc:allP cs) (k:JF X ops K (i::fl) fuel (i::ls) ⟨(d,v)::L,H,nx⟩):JF X ops K fl (fuel+1) ls ⟨L,H,nx⟩:=by
 intro M ρ a a' w l fr hsub hnd hl hp h1 h2;simp only[ftB,yyd,yy6] at hf;obtain⟨⟨hnl,hnf⟩,hds⟩:=hf;have hif:i∉fr:=fun hc=>by simp at hnf;exact hnf (hsub i hc)
 obtain⟨hb,z,hz,_⟩:=q82 hX.t (o:=⟨some d,op,ty,ps,af,none⟩) h hc h1 h2;have hp':PutsR ops (i::fr) a (a'.put (some d) z):=by refine⟨_,z,ho,PutsR.put (d:=some d) hp fun f hf o ho' e he hde=>?_⟩;have:=yy9.1 hds f (hsub f hf);rw[ho'] at this;simp only[bne_iff_ne,ne_eq] at this;exact this (he.trans hde.symm)
 have:=k M ρ a (a'.put (some d) z) w l (i::fr) (fun f hf=>by
  rcases yyk.1 hf with e|e
  ·exact e▸yyg
  ·exact yyh _ (hsub f e)) (yxh.2 ⟨hif,hnd⟩) (hl.float hnl) hp' (j9 (d:=some d) (v:=v) h1) (h2.putO (d:=some d) (dstOk.spec (y6 hd)) hb hz)
 rw[show fuel+1+fr.length=fuel+(i::fr).length by simp;omega];exact this
def StF.one{f:Nat}{r:List Nat}{d:Nat}{op:Op}{ty:TypeId}{ps:String}{af:Array Edge}{cs:List Prop}{v:AV}(ho:ops[f]?=some ⟨some d,op,ty,ps,af,none⟩)
  (h:evq X.T op s=some (cs,v)) (hl:lk s.L d=some v) (hd:ltB d X.n=true) (hc:allP cs) (k:StF X ops s r):StF X ops s (f::r):=
 ⟨⟨_,d,v,ho,rfl,hd,evq_nd h,hl,fun hT M ρ a w h1 h2=>let ⟨e1,z,e2,e3⟩:=q82 hT (o:=⟨some d,op,ty,ps,af,none⟩) h hc h1 h2;⟨e1,z,e2,.inl ⟨rfl,e3 w (Below.refl _ _)⟩⟩⟩,k⟩
def StF.nil:StF X ops s []:=trivial
def BrF.one{r fl':List Nat}{o:Oper}(ho:ops[i]?=some o)(hf:(fl.filter fun f=>!waits o f)=fl')(h:JL X true ops (qN fun s'=>JF X ops K fl' fuel (i::ls) s') [o] s)(h':BrF X ops K fl fuel ls s r) :
  BrF X ops K fl fuel ls s (i::r):=⟨⟨o,fl',ho,hf,h⟩,h'⟩
def BrF.nil:BrF X ops K fl fuel ls s []:=trivial
def ndB(ops:List Oper)(ls fl is:List Nat):Bool:=(Region.noSelect ops.toArray&&ndAll ops)&&(rdI ops ls==is)&&(flB ops ls fl&&is.all (apB ops fl))
def q9r(i:Nat)(is:List Nat)(hX:XOK X)(hc:ndB ops ls fl (i::is)=true)(hst:StF X ops s fl)(hB:BrF X ops K fl fuel ls s (i::is)):JF X ops K fl (fuel+1) ls s:=by simp only[ndB,yyd,beq_iff_eq] at hc;exact j5j (i::is) hc.1.1.1 hc.1.1.2 hc.1.2 (by simp[hc.2]) hst hX (.inr ⟨fuel,rfl,hB⟩) (fun h=>by cases h)
def JF.done(hX:XOK X)(hc:ndB ops ls fl []=true)(hst:StF X ops s fl)(hK:K s):JF X ops K fl fuel ls s:=by simp only[ndB,yyd,beq_iff_eq] at hc;exact j5j [] hc.1.1.1 hc.1.1.2 hc.1.2 (by simp[hc.2]) hst hX (.inl rfl) (fun _=>hK)
variable {o:Oper}
section
variable {P:Program}{b:Frame}{k:List Item}{cs:List Frame}{c:Code}
def o5:step P (lone (b.atR a (.code (.scope c)::k)) cs w)=.next (lone (b.atR a (.code c::.inScope c::k)) cs w):=step_lone_go (by simp[stepG,stepG.exec,Frame.atR])
def z05:step P (lone (b.atR a (.inScope c::k)) cs w)=.next (lone (b.atR a k) cs w):=step_lone_go (by simp[stepG,stepG.exec,Frame.atR])
end
def z8b{F:Fence}{n:Nat}{Q:Exit→Act→World→Prop}(h:c.wpIn F n P (Exit.noGoto Q) a w):(Code.scope c).wpIn F n P Q a w:=by
 intro b k cs hro hb hr;have h0:(lone (b.atR a (.code (.scope c)::k)) cs w).fenced P F:=fenced_calm hb hr rfl;obtain⟨e,a₁,w₁,hq,harr⟩:=h b (.inScope c::k) cs hro hb hr;cases e with
 |normal=>exact⟨.normal,a₁,w₁,hq,.head h0 o5 (StepsIn.trans harr (.one (fenced_calm hb hr rfl) z05))⟩
 |exit id=>
  have hx:exitTo id (.inScope c::k)=exitTo id k:=by simp[exitTo]
  exact⟨.exit id,a₁,w₁,hq,fun k' hk=>.head h0 o5 (harr.1 k' (by rw[hx];exact hk)),
   fun hr' hk=>let ⟨k₁,h1,h2⟩:=harr.2 hr' (by rw[hx];exact hk);⟨k₁,h1,.head h0 o5 h2⟩⟩
 |goto l=>exact hq.elim
 |ret=>exact⟨_,a₁,w₁,hq,.of_steps (.one h0 o5) harr⟩
 |panic ch=>exact⟨_,a₁,w₁,hq,.of_steps (.one h0 o5) harr⟩
 |outgrown=>exact⟨_,a₁,w₁,hq,.of_steps (.one h0 o5) harr⟩
def qScope(QA:Exit→S→Prop):Exit→S→Prop
 |.goto _,_=>False
 |e,s=>QA e s
def JC.scope{c:Code}(h:JC X c (qScope QA) s):JC X (.scope c) QA s:=
 fun M ρ a w h1 h2=>z8b (wpIn_mono (h M ρ a w h1 h2) fun e a' w' ⟨M',ρ',s',k1,k2,k3⟩=>by
  cases e with
  |goto l=>exact k3.elim
  |_=>exact⟨M',ρ',s',k1,k2,k3⟩)
def svL(L:List (Nat×AV)):List Nat→List (Nat×AV)
 |[]=>[]
 |d::r=>match lk L d with
  |some v=>(d,v)::svL L r
  |none=>svL L r
def z04{L:List (Nat×AV)}{p:Nat×AV}:∀ {r:List Nat},p∈svL L r→lk L p.1=some p.2
 |[],h=>by cases h
 |d::r,h=>by
  simp only[svL] at h;split at h
  ·rename_i v hv;rcases yyk.1 h with e|e
   ·subst e;exact hv
   ·exact z04 e
  ·exact z04 h
def noFr(n:Nat):List (Nat×HO)→Bool
 |[]=>true
 |(_,.fr i _)::r=>!(i==n)&&noFr n r
 |_::r=>noFr n r
def z3f{n l i:Nat}{L:List (Nat×AV)}:∀ {H:List (Nat×HO)},noFr n H=true→lk H l=some (.fr i L)→i≠n
 |[],_,h=>by simp[lk] at h
 |(k,o)::r,hn,h=>by
  simp only[lk] at h;have hr:noFr n r=true∧(∀ j L',o=.fr j L'→j≠n):=by cases o<;>simp only[noFr,yyd,yy6,beq_eq_false_iff_ne] at hn<;>first|exact⟨hn,fun j L' e=>by cases e⟩|exact⟨hn.2,fun j L' e=>by injection e with e _;subst e;exact hn.1⟩
  split at h
  ·injection h with h;exact hr.2 i L h
  ·exact z3f hr.1 h
variable{X':Ctx}
def j5p{l:Nat}{o:HO}(hE:X'.E=X.E)(hdp:X.dp≤X'.dp)(hup:∀ i,i<X.dp→X'.up i=X.up i)(h:o.ok X M ρ l w):o.ok X' M ρ l w:=by cases o<;>simp only[HO.ok,hE] at h ⊢<;>first|exact h|exact⟨by omega,fun d v hd=>by rw[hup _ h.1];exact h.2 d v hd⟩
def z9p{l:Nat}{o:HO}(hE:X'.E=X.E)(hdp:X'.dp=X.dp+1)(hup:∀ i,i<X.dp→X'.up i=X.up i)(hf:∀ i L,o=.fr i L→i≠X.dp)(h:o.ok X' M ρ l w):o.ok X M ρ l w:=by
 cases o with
 |fr i L=>
  simp only[HO.ok] at h ⊢;have:=hf i L rfl;have hi:i<X.dp:=by have:=h.1;omega
  exact⟨hi,fun d v hd=>by rw[← hup i hi];exact h.2 d v hd⟩
 |_=>simp only[HO.ok,hE] at h ⊢;exact h
abbrev Ctx.sub(X:Ctx)(M0:Mem)(n:Nat)(rd:Option Nat)(up:Nat→Nat→Value):Ctx:=⟨X.P,X.T,X.ET,X.MT,X.E,M0,n,rd,up,X.dp+1⟩
def upd1(up:Nat→Nat→Value)(i:Nat)(u:Nat→Value):Nat→Nat→Value:=fun j=>if j=i then u else up j
def SAT.enter(h:SAT X M ρ s w){Lf L0:List (Nat×AV)}{n:Nat}{rd:Option Nat}(hb:∀ p∈Lf,p.2.bd s.nx)(hv:∀ d v,lk Lf d=some v→v.rv M ρ (u d)) :
  SAT (X.sub M n rd (upd1 X.up X.dp u)) M ρ ⟨L0,(s.nx,.fr X.dp Lf)::s.H,s.nx+1⟩ w:=by
 have hlk:∀ l o,lk ((s.nx,HO.fr X.dp Lf)::s.H) l=some o→(l=s.nx∧o=.fr X.dp Lf)∨(l<s.nx∧lk s.H l=some o):=by
  intro l o hl;simp only[lk] at hl;split at hl
  ·rename_i e;injection hl with hl;exact .inl ⟨e.symm,hl.symm⟩
  ·exact .inr ⟨(h.own l o hl).1,hl⟩
 refine⟨h.below,fun _ _ h=>h,fun _ _=>rfl,h.mem,fun l o hl=>?_,fun l l' o o' b hl hl' hb1 hb2=>?_,fun l o b hl hb1=>?_⟩
 ·rcases hlk l o hl with⟨rfl,rfl⟩|⟨hlt,hl⟩
  ·refine⟨yxf _,fun p hp=>w5 (yxp _) (hb p hp),?_⟩;simp only[HO.ok];exact⟨yxf _,fun d v hd=>by show v.rv M ρ (upd1 X.up X.dp u X.dp d);simp only[upd1,if_pos];exact hv d v hd⟩
  ·obtain⟨e1,e2,e3⟩:=h.own l o hl;exact⟨Nat.lt_succ_of_lt e1,q60 (yxp _) e2,j5p (X:=X) (X':=X.sub M n rd (upd1 X.up X.dp u)) rfl (yxp _) (fun i hi=>by show upd1 X.up X.dp u i=X.up i;simp only[upd1];rw[if_neg (by omega)]) e3⟩
 ·rcases hlk l o hl with⟨rfl,rfl⟩|⟨hlt,hl⟩
  ·cases hb1
  ·rcases hlk l' o' hl' with⟨rfl,rfl⟩|⟨hlt',hl'⟩
   ·cases hb2
   ·exact h.apart l l' o o' b hl hl' hb1 hb2
 ·rcases hlk l o hl with⟨rfl,rfl⟩|⟨hlt,hl⟩
  ·cases hb1
  ·exact h.notM l o b hl hb1
variable{M':Mem}{ρ':Env}
def SAT.leave(h:SAT X M ρ s w){n:Nat}{rd:Option Nat}(h':SAT (X.sub M n rd (upd1 X.up X.dp u)) M' ρ' s' w'){H':List (Nat×HO)}(hsub:∀ l o,lk H' l=some o→lk s'.H l=some o)
  (hno:noFr X.dp H'=true) (L:List (Nat×AV)):SAT X M' ρ' ⟨L,H',s'.nx⟩ w':=by
 refine⟨h'.below,fun b o hb=>h'.msub b o (h.msub b o hb),fun b hb=>?_,h'.mem,fun l o hl=>?_,fun l l' o o' b hl hl'=>h'.apart l l' o o' b (hsub l o hl) (hsub l' o' hl'),fun l o b hl=>h'.notM l o b (hsub l o hl)⟩
 ·have e1:M' b=M b:=h'.mnew b hb;rw[e1];exact h.mnew b hb
 ·obtain⟨e1,e2,e3⟩:=h'.own l o (hsub l o hl);exact⟨e1,e2,z9p (X:=X) (X':=X.sub M n rd (upd1 X.up X.dp u)) rfl rfl (fun i hi=>by show upd1 X.up X.dp u i=X.up i;simp only[upd1];rw[if_neg (by omega)]) (fun i L' e=>by subst e;exact z3f hno hl) e3⟩
def q45{n l':Nat}{rd:Option Nat}(h':SAT (X.sub M n rd (upd1 X.up X.dp u)) M' ρ' s' w'){L':List (Nat×AV)}(hl:lk s'.H l'=some (.fr X.dp L')) :
  ∀ d v,lk L' d=some v→v.bd s'.nx∧v.rv M' ρ' (u d):=by
 intro d v hd;obtain⟨_,e2,e3⟩:=h'.own l' _ hl;simp only[HO.ok] at e3;have:=e3.2 d v hd;simp only[upd1,if_pos] at this;exact⟨e2 _ (p6 hd),this⟩
def q70(h1:SAT X M ρ s w)(h2:REG X M ρ s a){n:Nat}{rd:Option Nat}{up:Nat→Nat→Value}(h':SAT (X.sub M n rd up) M' ρ' s' w'){L':List (Nat×AV)}{H':List (Nat×HO)}
  (hv:∀ d v,lk L' d=some v→v.bd s'.nx∧v.rv M' ρ' (a.tmps.getD d Go.undef)):REG X M' ρ' ⟨L',H',s'.nx⟩ a:=
 ⟨h2.size,let ⟨Ds,e1,e2,e3,e4⟩:=h2.defers;⟨Ds,e1,e2,fun D hD=>⟨(e3 D hD).1,h'.msub D _ (e3 D hD).2⟩,e4⟩,hv⟩
def q6o{H:List (Nat×α)}{n:Nat}:∀ l o,lk (del H n) l=some o→lk H l=some o:=by
 intro l o h;rw[q67] at h;split at h
 ·cases h
 ·exact h
def resI(L:List (Nat×AV)):List ResultVar→Option AV
 |[]=>some .anil
 |.tmp d::rs=>(lk L d).bind fun v=>(resI L rs).map fun r=>.acons v r
 |_=>none
def resV:AV→AV
 |.acons a .anil=>a
 |l=>.tup l
def q98{P:Program}(h2:REG X M ρ s a):∀ {rs:List ResultVar} {r:AV},resI s.L rs=some r→r.bd s.nx∧∃ vs,r.rvs M ρ vs∧(rs.mapM (resOne a.tmps)).run P w=.ok vs w
 |[],r,h=>by simp only[resI,yya] at h;subst h;exact⟨trivial,[],by simp[AV.rvs],rfl⟩
 |.tmp d::rs,r,h=>by simp only[resI,yyr,yyq] at h;obtain⟨v,hv,r',hr,rfl⟩:=h;obtain⟨b1,vs,e1,e2⟩:=q98 (P:=P) h2 hr;obtain⟨b2,e3⟩:=h2.reg d v hv;refine⟨⟨b2,b1⟩,a.tmps.getD d Go.undef::vs,by simp only[AV.rvs];exact⟨_,_,e3,e1,rfl⟩,?_⟩;simp only[List.mapM_cons,yye,resOne,yyf,yyb,e2]
 |.cell ..::rs,r,h=>by simp[resI] at h
def z8i{r:AV}(h2:REG X M ρ s a)(h:resI s.L fn.results.toList=some r):(resV r).bd s.nx∧∃ v,(resV r).rv M ρ v∧(results fn a.tmps).run P w=.ok v w:=by
 obtain⟨hb,vs,hvs,hrun⟩:=q98 (P:=P) (w:=w) h2 h;have hr:=q14 hrun;unfold resV;split
 ·rename_i x;simp only[AV.rvs] at hvs;obtain⟨v,r',k5,rfl,rfl⟩:=hvs;exact⟨hb.1,v,k5,by simpa using hr⟩
 ·rename_i hne;refine⟨hb,.tuple vs.toArray,by simp only[AV.rv];exact⟨vs,hvs,rfl⟩,?_⟩;have hsz:vs.toArray.size≠1:=by
   intro hsz;cases r with
   |acons x z=>
    simp only[AV.rvs] at hvs;obtain⟨v,r',k5,k6,rfl⟩:=hvs;have:r'=[]:=by simpa using hsz
    subst this;cases z with
    |anil=>exact hne x rfl
    |acons=>simp[AV.rvs] at k6
    |_=>simp only[AV.rvs] at k6
   |anil=>simp only[AV.rvs] at hvs;subst hvs;simp at hsz
   |_=>simp only[AV.rvs] at hvs
  rwa[dif_neg hsz] at hr
def j4m{args:AV}{n:Nat}(h:args.rvs M ρ vs)(hb:args.bd n):∀ {i d:Nat} {v:AV},lk (argL args i) d=some v→v.bd n∧i≤d∧∃ u,vs[d-i]?=some u∧v.rv M ρ u:=by
 induction args generalizing vs with
 |acons x y _ ihy=>
  intro i d v hl;simp only[AV.rvs] at h;obtain⟨u,r,k1,k2,rfl⟩:=h;simp only[argL,lk] at hl;split at hl
  ·rename_i e;subst e;injection hl with hl;subst hl
   exact⟨hb.1,yyn _,u,by simp,k1⟩
  ·obtain⟨e1,e2,u',e3,e4⟩:=ihy k2 hb.2 hl;refine⟨e1,by omega,u',?_,e4⟩;rw[show d-i=(d-(i+1))+1 by omega,yxi];exact e3
 |_=>intro i d v hl;simp[argL,lk] at hl
def REG.args{args:AV}{vs:List Value}{n k:Nat}{H:List (Nat×HO)}(hvs:args.rvs M ρ vs)(hbd:args.bd k)(hX:X.n=n)(hn:argN args≤n) :
  REG X M ρ ⟨argL args 0,H,k⟩ {tmps:=vs.toArray++Array.replicate (n-vs.toArray.size) Go.undef,defers:=[]}:=by
 have hlen:=z7z hvs;refine⟨by simp;omega,⟨[],rfl,yx2,by simp,.inl rfl⟩,fun d v hd=>?_⟩;obtain⟨e1,e2,u,e3,e4⟩:=j4m hvs hbd hd;refine⟨e1,?_⟩;rw[Nat.sub_zero] at e3;have hd':d<vs.length:=by
  rcases Nat.lt_or_ge d vs.length with h|h
  ·exact h
  ·rw[yxe h] at e3;cases e3
 have:(vs.toArray++Array.replicate (n-vs.toArray.size) Go.undef).getD d Go.undef=u:=by rw[yyx,Array.getElem?_append_left (by simpa using hd')];simp[e3]
 rw[this];exact e4
def inlQ(X:Ctx)(rs:List ResultVar)(k:AV→List (Nat×AV)→List (Nat×HO)→Nat→Prop)(e:Exit)(s':S):Prop:=(e=.ret∨e=.normal)∧∃ l' L' r,lk s'.H l'=some (.fr X.dp L')∧resI s'.L rs=some r∧noFr X.dp (del s'.H l')=true∧k (resV r) L' (del s'.H l') s'.nx
def frAt:List (Nat×HO)→Nat→Option Nat
 |[],_=>none
 |(l,.fr i _)::r,n=>match Nat.beq i n with|true=>some l|false=>frAt r n
 |_::r,n=>frAt r n
variable{rs:List ResultVar}{k:AV→List (Nat×AV)→List (Nat×HO)→Nat→Prop}
def z1o{L L':List (Nat×AV)}{H:List (Nat×HO)}{nx l':Nat}{r:AV}(h0:frAt H X.dp=some l')(h1:lk H l'=some (.fr X.dp L'))(h2:resI L rs=some r)
  (h3:noFr X.dp (del H l')=true) (h:k (resV r) L' (del H l') nx):inlQ X rs k .ret ⟨L,H,nx⟩:=⟨.inl rfl,l',L',r,h1,h2,h3,h⟩
def inlQ.nor{L L':List (Nat×AV)}{H:List (Nat×HO)}{nx l':Nat}{r:AV}(h0:frAt H X.dp=some l')(h1:lk H l'=some (.fr X.dp L'))(h2:resI L rs=some r)
  (h3:noFr X.dp (del H l')=true) (h:k (resV r) L' (del H l') nx):inlQ X rs k .normal ⟨L,H,nx⟩:=⟨.inr rfl,l',L',r,h1,h2,h3,h⟩
variable{Lf:List (Nat×AV)}
def j2s{args:AV}{R:Ending→World→Prop}(hf:X.P.funcs[f]?=some fn)(hb:fn.body=some c)(hn:argN args≤fn.ntmps)
  (h1:SAT X M ρ s w) (hbd:args.bd s.nx) (hvs:args.rvs M ρ vs) (hLb:∀ p∈Lf,p.2.bd s.nx) (hLv:∀ d v,lk Lf d=some v→v.rv M ρ (u d))
  (h:∀ M0 up,JC (X.sub M0 fn.ntmps none up) c (inlQ X fn.results.toList k) ⟨argL args 0,(s.nx,.fr X.dp Lf)::s.H,s.nx+1⟩)
  (hR:∀ M' ρ' s' l' L' r v w',SAT (X.sub M fn.ntmps none (upd1 X.up X.dp u)) M' ρ' s' w'→lk s'.H l'=some (.fr X.dp L')→noFr X.dp (del s'.H l')=true→k r L' (del s'.H l') s'.nx→r.bd s'.nx→r.rv M' ρ' v→R (.returned v) w') :
  Calls X.P f vs.toArray w R:=by
 refine(callsIn_wide (n:=0)).1 (callsIn_of_wp_marks hf hb trivial ?_ rfl);have hs:=h1.enter (L0:=argL args 0) (n:=fn.ntmps) (rd:=none) hLb hLv;have hr:REG (X.sub M fn.ntmps none (upd1 X.up X.dp u)) M ρ ⟨argL args 0,(s.nx,.fr X.dp Lf)::s.H,s.nx+1⟩ _:=REG.args hvs (w5 (yxp _) hbd) rfl hn;refine wpIn_mono (h M (upd1 X.up X.dp u) M ρ _ w hs hr) ?_;rintro e a' w' ⟨M',ρ',s',k1,k2,hex,l',L',r,e1,e2,e3,e4⟩;obtain⟨Ds,hds,hnd,hDs,hfr⟩:=k2.defers;have h0:∀ D∈Ds,M D=none:=fun D hD=>by
  rcases hfr with e|⟨_,e⟩
  ·subst e;cases hD
  ·exact e D hD
 have fin:LeavesInM Fence.wide 0 X.P fn a'.tmps R a'.defers .returning w':=by rw[hds];refine q4u hnd (fun D hD=>k1.mem _ _ (hDs D hD).2) fun w'' hbel hkeep=>?_;obtain⟨hle,k1'⟩:=k1.taken h0 hDs hbel hkeep;have k2':REG (X.sub M fn.ntmps none (upd1 X.up X.dp u)) (M'.without Ds) ρ' s' {a' with defers:=[]}:=⟨k2.size,⟨[],rfl,yx2,by simp,.inl rfl⟩,fun d v hd=>⟨(k2.reg d v hd).1,w9 hle (Env.upTo.refl ρ' s'.nx) (k2.reg d v hd).1 (k2.reg d v hd).2⟩⟩;obtain⟨hrb,v,hrv,hrun⟩:=z8i (P:=X.P) (w:=w'') k2' e2;exact⟨v,hrun,hR (M'.without Ds) ρ' s' l' L' _ v w'' k1' e1 e3 e4 hrb hrv⟩
 rcases hex with rfl|rfl
 ·exact fin
 ·exact fin
def svL_spec(h2:REG X M ρ s a)(Kp:List Nat):(∀ p∈svL s.L Kp,p.2.bd s.nx)∧∀ d v,lk (svL s.L Kp) d=some v→v.rv M ρ (a.tmps.getD d Go.undef):=⟨fun p hp=>(h2.reg _ _ (z04 hp)).1,fun d v hd=>(h2.reg _ _ (z04 (p6 hd))).2⟩
def JL.inl(Kp:List Nat){fst cap az:AV}{cs1 cs2:List Prop}{fo:Operand}{args:Array Operand}{tys:Array TypeId}(hg:o.guard=none)(hop:o.op=.call {callee:=.value fo,args:=args,argTypes:=tys})
  (hu:opd s.L fo=some (cs1,.fn f fst cap)) (ha:opds s.L args.toList=some (cs2,az)) (hc:allP (cs1++cs2)) (hf:X.P.funcs[f]?=some fn) (hb:fn.body=some c) (hcall:∀ az w,(callFunc f az).run X.P w=.ok (.enter f az) w)
  (hn:argN (apA fst (apA az cap))≤fn.ntmps) (hd:dstOk X.n o.dst)
  (h:∀ M0 up,JC (X.sub M0 fn.ntmps none up) c (inlQ X fn.results.toList fun r L H nx=>JL X true all QA l (putS o.dst r ⟨L,H,nx⟩)) ⟨argL (apA fst (apA az cap)) 0,(s.nx,.fr X.dp (svL s.L Kp))::s.H,s.nx+1⟩):JL X true all QA (o::l) s:=by
 intro M ρ a w h1 h2;rw[q8] at hc;obtain⟨hub,eu⟩:=z6 hu hc.1 h2;simp only[AV.rv] at eu;obtain⟨fs,ks,k1,k2,k3⟩:=eu;obtain⟨hab,ea⟩:=q3v h2 ha hc.2;have hvs:=z2k k1 (z2k ea k2);have hbd:(apA fst (apA az cap)).bd s.nx:=z73 hub.1 (z73 hab hub.2);have hrun:(execOp a.eval o).run X.P w=.ok (.enter f (fs++(args.toList.map a.eval++ks)).toArray) w:=by
  have hmap:Array.map a.eval args=(List.map a.eval args.toList).toArray:=by rw[← yxk]
  obtain⟨dst,op,ty,pos,after,guard⟩:=o;simp only at hop;subst hop;simp only[execOp,resolve,k3,Deferred.ofValue,yye,yyf,yyb,invoke,hmap];rw[← hcall];simp
 obtain⟨sv1,sv2⟩:=svL_spec h2 Kp;refine j7 (w6 hg) (m5 (by rw[hop];rfl) hrun (j2s (R:=fun e w''=>∃ v,e=.returned v∧wpListIn X.fn 0 X.P all.toArray (conc X QA) l (a.put o.dst v) w'') hf hb hn h1 hbd hvs sv1 sv2 h ?_) fun e w'' hr=>hr);intro M' ρ' s' l' L' r v w' q1 q2 q3 q4 q5 q6;have b1:=h1.leave q1 (H':=del s'.H l') q6o q3 L';have b2:REG X M' ρ' ⟨L',del s'.H l',s'.nx⟩ a:=q70 h1 h2 q1 (q45 q1 q2);exact⟨v,rfl,q4 M' ρ' _ w' (j9 b1) (b2.putO hd.spec q5 q6)⟩
def setPs:List Tmp→AV→List (Nat×AV)→Option (List (Nat×AV))
 |[],.anil,L=>some L
 |p::ps,.acons a r,L=>setPs ps r ((p,a)::L)
 |_,_,_=>none
def q8c{n nx:Nat}:∀ {ps:List Tmp} {az:AV} {vs:List Value} {L L0:List (Nat×AV)} {tm:Array Value},setPs ps az L=some L0→(∀ p∈ps,p<n)→az.bd nx→az.rvs M ρ vs→tm.size=n →
  (∀ d v,lk L d=some v→v.bd nx∧v.rv M ρ (tm.getD d Go.undef))→vs.length=ps.length∧((ps.zip vs).foldl (fun t (q:Tmp×Value)=>t.setIfInBounds q.1 q.2) tm).size=n ∧
  ∀ d v,lk L0 d=some v→v.bd nx∧v.rv M ρ (((ps.zip vs).foldl (fun t (q:Tmp×Value)=>t.setIfInBounds q.1 q.2) tm).getD d Go.undef)
 |[],az,vs,L,L0,tm,h,hp,hb,hv,hs,hL=>by
  cases az with
  |anil=>simp only[setPs,yya] at h;subst h;simp only[AV.rvs] at hv;subst hv;exact⟨rfl,hs,hL⟩
  |_=>simp[setPs] at h
 |p::ps,az,vs,L,L0,tm,h,hp,hb,hv,hs,hL=>by
  cases az with
  |acons x r=>
   simp only[setPs] at h;simp only[AV.rvs] at hv;obtain⟨v,vr,h1,h2,rfl⟩:=hv;have hpn:=hp p yyg;obtain⟨e1,e2,e3⟩:=q8c (tm:=tm.setIfInBounds p v) h (fun q hq=>hp q (yyh _ hq)) hb.2 h2 (by simp[hs]) (fun d y hd=>by
    simp only[lk] at hd;by_cases e:p=d
    ·subst e;rw[if_pos rfl] at hd;injection hd with hd;subst hd
     refine⟨hb.1,?_⟩;rw[yyx,yx6 (by rw[hs];exact hpn)];exact h1
    ·rw[if_neg e] at hd;have:=hL d y hd;rw[yyx,yx4 e,← yyx];exact this)
   exact⟨by simp[e1],by simpa using e2,by simpa using e3⟩
  |_=>simp[setPs] at h
def jumpOf:Exit→Option (Option Code)
 |.normal=>some none
 |.ret=>some (some .ret)
 |.exit id=>some (some (.exit id))
 |_=>none
def z3q(w:World)(l:Nat)(o:Obj):w.grownBy (w.putObj l o) (some l):=⟨rfl,rfl,rfl,by simp,fun k _ hk=>World.putObj_heap_other (fun e=>hk (by rw[e]))⟩
def SAT.turn(h:SAT X M ρ s w){lab:Nat}{st st':LoopState}{pe pe':Option Code}{ps:Array Tmp}{az bd:Code}{n:Nat}{LO:List (Nat×AV)}(hl:lk s.H lab=some (.loop st pe ps az bd n LO)) :
  ∃ fn tm D,w.heap[ρ.blk lab]?=some (.loop ⟨st,pe,fn,tm,ps,az,bd,D⟩)∧tm.size=n∧(∀ d v,lk LO d=some v→v.bd s.nx∧v.rv M ρ (tm.getD d Go.undef)) ∧
   SAT X M ρ ⟨s.L,updH s.H lab (.loop st' pe' ps az bd n LO),s.nx⟩ (w.putObj (ρ.blk lab) (.loop ⟨st',pe',fn,tm,ps,az,bd,D⟩)):=by
 obtain⟨e1,e2,e3⟩:=h.own lab _ hl;have e3':=e3;simp only[HO.ok] at e3;obtain⟨h1,fn,tm,D,h2,h3,h4⟩:=e3;refine⟨fn,tm,D,h2,h3,fun d v hd=>⟨e2 _ (p6 hd),h4 d v hd⟩,h.upd (o:=.loop st pe ps az bd n LO) hl (z3q _ _ _) rfl e2 ?_⟩;simp only[HO.ok];exact⟨h1,fn,tm,D,World.putObj_heap_same (yym.1 h2).1,h3,h4⟩
def z0i{L:List (Nat×α)}{n d:Nat}{v:α}(h:lk (del L n) d=some v):d≠n∧lk L d=some v:=by
 rw[q67] at h;split at h
 ·cases h
 ·rename_i e;exact⟨fun e'=>e e'.symm,h⟩
def endJ(QA:Exit→S→Prop)(s:S):Option Code→Prop
 |none=>QA .normal s
 |some .ret=>QA .ret s
 |some (.exit id)=>QA (.exit id) s
 |_=>False
def SAT.mark(h:SAT X M ρ s w):SAT X (fun b=>if b=w.heap.size then some (.deferred (some [])) else M b) ρ s (w.alloc (.deferred (some [])))∧M.le (fun b=>if b=w.heap.size then some (.deferred (some [])) else M b) ∧
  (∀ b o,M b=some o→(if b=w.heap.size then some (.deferred (some [])) else M b)=some o):=by
 have hlt:∀ b o,M b=some o→b<w.heap.size:=fun b o hm=>(yym.1 (h.mem b o hm)).1;have hful:∀ b o,M b=some o→(if b=w.heap.size then some (Obj.deferred (some [])) else M b)=some o:=fun b o hm=>by rw[if_neg (by have:=hlt b o hm;omega)];exact hm
 have hle:M.le (fun b=>if b=w.heap.size then some (.deferred (some [])) else M b):=fun b c ty fz hm=>hful b _ hm;have hb:Below w.heap.size w (w.alloc (.deferred (some []))):=(Below.refl _ _).alloc (yyn _) _;have h':=h.later hb;have hE:X.E.heap.size≤w.heap.size:=h.below.size;refine⟨⟨h'.below,fun b o hm=>hful b o (h.msub b o hm),fun b hlt'=>?_,fun b o hm=>?_,fun l o hl=>?_,h.apart,fun l o b hl hat=>?_⟩,hle,hful⟩
 ·show(if b=w.heap.size then _ else _)=_;rw[if_neg (by omega)];exact h.mnew b hlt'
 ·have hm':(if b=w.heap.size then some (Obj.deferred (some [])) else M b)=some o:=hm;split at hm'
  ·rename_i e;injection hm' with hm';subst hm' e;exact World.alloc_heap_new w _
  ·exact h'.mem b o hm'
 ·obtain⟨e1,e2,e3⟩:=h'.own l o hl;exact⟨e1,e2,q59 hle (Env.upTo.refl ρ s.nx) e1 e2 e3⟩
 ·show(if b=w.heap.size then _ else _)=_;have:=(g9 (h.own l o hl).2.2 hat).2;rw[if_neg (by omega)];exact h.notM l o b hl hat
def z90{F:Fence}{n:Nat}(h1:SAT X M' ρ' s' w')(h2:REG X M' ρ' s' a')(h:endJ QA s' (some c)):c.wpIn F n P (conc X QA) a' w':=by
 cases c with
 |ret=>exact wpIn_ret ⟨M',ρ',s',h1,h2,h⟩
 |exit id=>exact wpIn_exit ⟨M',ρ',s',h1,h2,h⟩
 |_=>exact h.elim
def j0q{g:Operand}{ks:List Value}{lb:Nat}(hg:a.eval g=.func (.func f) #[] ks.toArray)(hcall:∀ az w,(callFunc f az).run X.P w=.ok (.enter f az) w) :
  (resolve a.eval (rangeCall g lb) 0).run X.P w=.ok {target:=.fn (.func f) ks.toArray,args:=#[.func (.yield lb) #[] #[]]} w ∧
  (invoke (.fn (.func f) ks.toArray) #[.func (.yield lb) #[] #[]]).run X.P w=.ok (.enter f (#[.func (.yield lb) #[] #[]]++ks.toArray)) w:=by
 constructor
 ·simp only[resolve,hg];simp[go_sem]
 ·simp[invoke,go_sem,hcall]
variable {L L':List (Nat×AV)}{H H':List (Nat×HO)}{nx nx' d:Nat}{op:Op}{ty:TypeId}{ps:String}{af:Array Edge}{cs cs1 cs2:List Prop}{v:AV}{g:Bool}{gg:Nat×Bool}{dd:Option Nat}
def JL.gT(hg:gOf all s.L (some gg)=some g)(hgt:g=true)(k:JL X true all QA (⟨dd,op,ty,ps,af,none⟩::l) s):JL X true all QA (⟨dd,op,ty,ps,af,some gg⟩::l) s:=by intro M ρ a w h1 h2;have hw:=(q0j (o:=⟨dd,op,ty,ps,af,some gg⟩) hg h2).trans hgt;have:=k M ρ a w h1 h2;unfold wpListIn at this;rw[if_pos (w6 rfl)] at this;exact j7 hw this
variable{b:Bool}
def JL.pickT{c x y:Operand}(hc:opd L c=some (cs1,.val .bool b))(hb:b=true)(hx:opd L x=some (cs2,v))(hd:ltB d X.n=true)(h1:allP cs1)(h2:allP cs2)(k:JL X true all QA l ⟨(d,v)::L,H,nx⟩) :
  JL X true all QA (⟨some d,.pick c x y,ty,ps,af,none⟩::l) ⟨L,H,nx⟩:=by
 intro M ρ a w s1 s2;have e1:=(z6 hc h1 s2).2;rw[m9] at e1;obtain⟨e2,e3⟩:=z6 hx h2 s2;refine j7 (w6 rfl) (v7 (v:=a.eval x) rfl ?_ (k M ρ _ w (j9 (d:=some d) s1) (s2.putO (d:=some d) (dstOk.spec (y6 hd)) e2 e3)));simp only[execOp,e1,hb,yyf];rfl
def JL.pickF{c x y:Operand}(hc:opd L c=some (cs1,.val .bool b))(hb:b=false)(hy:opd L y=some (cs2,v))(hd:ltB d X.n=true)(h1:allP cs1)(h2:allP cs2)(k:JL X true all QA l ⟨(d,v)::L,H,nx⟩) :
  JL X true all QA (⟨some d,.pick c x y,ty,ps,af,none⟩::l) ⟨L,H,nx⟩:=by
 intro M ρ a w s1 s2;have e1:=(z6 hc h1 s2).2;rw[m9] at e1;obtain⟨e2,e3⟩:=z6 hy h2 s2;refine j7 (w6 rfl) (v7 (v:=a.eval y) rfl ?_ (k M ρ _ w (j9 (d:=some d) s1) (s2.putO (d:=some d) (dstOk.spec (y6 hd)) e2 e3)));simp only[execOp,e1,hb,yyf];rfl
def q1x{n i:Nat}(h:bdL n L):HO.bd n (.fr i L):=fun p hp=>z2i h p.1 p.2 hp
def endJ.n(h:QA .normal s):endJ QA s none:=h
def endJ.r(h:QA .ret s):endJ QA s (some .ret):=h
def endJ.e{id:Nat}(h:QA (.exit id) s):endJ QA s (some (.exit id)):=h
def q4n(hX:XOK X)(h:evb X.T op ⟨L,H,nx⟩=some (cs,v))(hd:ltB d X.n=true)(k:JL X md all QA l ⟨(d,v)::L,H,nx⟩)(hc:allP cs:=by exact zD):JL X md all QA (⟨some d,op,ty,ps,af,none⟩::l) ⟨L,H,nx⟩:=JL.q1 hX h hd hc k
def q7h(hX:XOK X)(h:evm X.T X.ET op ⟨L,H,nx⟩=some (cs,v,⟨L',H',nx'⟩))(hd:ltB d X.n=true)(k:JL X true all QA l ⟨(d,v)::L',H',nx'⟩)(hc:allP cs:=by exact zD):JL X true all QA (⟨some d,op,ty,ps,af,none⟩::l) ⟨L,H,nx⟩:=JL.m1 hX h hd hc k
def JL.M0(hX:XOK X)(h:evm X.T X.ET op ⟨L,H,nx⟩=some (cs,v,⟨L',H',nx'⟩))(k:JL X true all QA l ⟨L',H',nx'⟩)(hc:allP cs:=by exact zD):JL X true all QA (⟨none,op,ty,ps,af,none⟩::l) ⟨L,H,nx⟩:=JL.m0 hX h hc k
def z9j{args r:AV}(h:callA X.T op ⟨L,H,nx⟩=some (cs,f,args))(hf:Fn X.P f args (·=r))(hr:r.scal=true)(hrb:r.bd 0)(hd:ltB d X.n=true)(k:JL X md all QA l ⟨(d,r)::L,H,nx⟩)(hc:allP cs:=by exact zD) :
  JL X md all QA (⟨some d,op,ty,ps,af,none⟩::l) ⟨L,H,nx⟩:=JL.s1 h hf hr hrb hd hc k
def z9k{args:AV}{R:AV→Prop}(h:callA X.T op ⟨L,[],nx⟩=some (cs,f,args))(hf:Fn X.P f args R)(hd:ltB d X.n=true)(k:∀ r,R r→JL X true all QA l ⟨(d,r)::L,H,nx⟩)(hc:allP cs:=by exact zD) :
  JL X true all QA (⟨some d,op,ty,ps,af,none⟩::l) ⟨L,H,nx⟩:=JL.c1 h hf hd hc k
def q9(i:Nat)(hX:XOK X)(ho:ops[i]?=some ⟨some d,op,ty,ps,af,none⟩)(h:evq X.T op ⟨L,H,nx⟩=some (cs,v))(k:JF X ops K fl fuel (i::ls) ⟨(d,v)::L,H,nx⟩)(hf:fsB ops ls fl i=true:=by decide +kernel)(e3:isLoad op=false:=by rfl)(hd:ltB d X.n=true:=by rfl)(hc:allP cs:=by exact zD) :
  JF X ops K fl (fuel+1) ls ⟨L,H,nx⟩:=JF.first i hX hf ho e3 h hd hc k
def z8(i:Nat)(hX:XOK X)(ho:ops[i]?=some ⟨some d,op,ty,ps,af,none⟩)(h:evq X.T op ⟨L,H,nx⟩=some (cs,v))(k:JF X ops K (i::fl) fuel (i::ls) ⟨(d,v)::L,H,nx⟩)(hf:ftB ops ls fl i d=true:=by decide +kernel)(hd:ltB d X.n=true:=by rfl)(hc:allP cs:=by exact zD) :
  JF X ops K fl (fuel+1) ls ⟨L,H,nx⟩:=JF.float i hX hf ho h hd hc k
def j4w{f:Nat}{r:List Nat}(ho:ops[f]?=some ⟨some d,op,ty,ps,af,none⟩)(h:evq X.T op s=some (cs,v))(hl:lk s.L d=some v)(k:StF X ops s r)(hd:ltB d X.n=true:=by rfl)(hc:allP cs:=by exact zD):StF X ops s (f::r):=StF.one ho h hl hd hc k
def q58(i:Nat)(is:List Nat)(hX:XOK X)(hst:StF X ops s fl)(hB:BrF X ops K fl fuel ls s (i::is))(hc:ndB ops ls fl (i::is)=true:=by decide +kernel):JF X ops K fl (fuel+1) ls s:=q9r i is hX hc hst hB
def n8(hX:XOK X)(hst:StF X ops s fl)(hK:K s)(hc:ndB ops ls fl []=true:=by decide +kernel):JF X ops K fl fuel ls s:=JF.done hX hc hst hK
def JW.Auto{ps:List (Nat×Nat)}(h0:pairs s' s=ps)(hL:covL (renOf ps) s'.L s.L:=by(repeat' (first|exact trivial|exact rfl|refine And.intro ?_ ?_|exact yyc rfl|refine q1x ?_|(refine congrArg (fun z:Int=>some (AV.val (.int .i64) z)) ?_;push_cast;omega))))(hH:covH (renOf ps) s'.H s.H:=by(repeat' (first|exact trivial|exact rfl|refine And.intro ?_ ?_|exact yyc rfl|refine q1x ?_|(refine congrArg (fun z:Int=>some (AV.val (.int .i64) z)) ?_;push_cast;omega))))(hbL:bdL s'.nx s'.L:=by(repeat' (first|exact trivial|exact rfl|refine And.intro ?_ ?_|exact yyc rfl|refine q1x ?_|(refine congrArg (fun z:Int=>some (AV.val (.int .i64) z)) ?_;push_cast;omega))))(hbH:bdH s'.nx s'.H:=by(repeat' (first|exact trivial|exact rfl|refine And.intro ?_ ?_|exact yyc rfl|refine q1x ?_|(refine congrArg (fun z:Int=>some (AV.val (.int .i64) z)) ?_;push_cast;omega))))(hi:injH (renOf ps) s'.H=true:=by rfl):JW X s' s:=q1i h0 hL hH hbL hbH hi
def qE(id:Nat)(R:S→Prop)(QA:Exit→S→Prop):Exit→S→Prop
 |.exit j,s=>if j=id then R s else QA (.exit j) s
 |e,s=>QA e s
def QX.er{id:Nat}{R:S→Prop}(h:QA .ret s):qE id R QA .ret s:=h
end Ox
namespace Ox
open Go Go.RowKit
variable {P:Program}{w:World}{M:Mem}
def Ty.flatB:Ty→Bool
 |.int _|.bool|.nil=>true|.arr _ e=>e.flatB|.cons a b=>a.flatB&&b.flatB|_=>false
def Ty.dep:Ty→Nat
 |.arr _ e=>e.dep+1|.cons a b=>max (a.dep+1) b.dep|_=>1
def Fl:Ty→List Value→Prop
 |.int k,cs=>∃ n,cs=[.int k n]
 |.bool,cs=>∃ b,cs=[.bool b]
 |.arr n e,cs=>cs.length=n*e.size∧∀ i,i<n→Fl e ((cs.drop (i*e.size)).take e.size)
 |.nil,cs=>cs=[]
 |.cons a b,cs=>∃ c1 c2,cs=c1++c2∧Fl a c1∧Fl b c2
 |_,_=>False
def Fl.length:∀ {t:Ty} {cs:List Value},Fl t cs→cs.length=t.size
 |.int _,_,h=>by obtain⟨n,rfl⟩:=h;rfl
 |.bool,_,h=>by obtain⟨n,rfl⟩:=h;rfl
 |.arr n e,_,h=>h.1
 |.nil,_,h=>by simp only[Fl] at h;subst h;rfl
 |.cons a b,_,h=>by simp only[Fl] at h;obtain⟨c1,c2,rfl,h1,h2⟩:=h;simp[Ty.size,h1.length,h2.length]
def Rep.fl:∀ {t:Ty} {x:t.den} {cs:List Value},t.flatB=true→Rep M t x cs→Fl t cs
 |.int _,_,_,_,h=>by simp only[Rep] at h;exact⟨_,h⟩
 |.bool,_,_,_,h=>by simp only[Rep] at h;exact⟨_,h⟩
 |.arr n e,l,cs,hf,h=>by simp only[Rep] at h;refine⟨h.2.1,fun i hi=>Rep.fl (by simpa[Ty.flatB] using hf) (h.2.2 i (by omega))⟩
 |.nil,_,_,_,h=>by simp only[Rep] at h;exact h
 |.cons a b,x,cs,hf,h=>by simp only[Rep] at h;simp only[Ty.flatB,yyd] at hf;obtain⟨c1,c2,rfl,h1,h2⟩:=h;exact⟨c1,c2,rfl,h1.fl hf.1,h2.fl hf.2⟩
def z31{n c:Nat}{x y:List Value}(hx:x.length=n*c)(hy:y.length=n*c)(h:∀ i,i<n→(x.drop (i*c)).take c=(y.drop (i*c)).take c):x=y:=by rw[← chunks_flatten c n x hx,← chunks_flatten c n y hy];congr 1;exact List.map_congr_left fun i hi=>h i (yys.1 hi)
def Rep.inj:∀ {t:Ty} {x y:t.den} {cx cy:List Value},t.flatB=true→Rep M t x cx→Rep M t y cy→(cx=cy↔x=y)
 |.int _,_,_,_,_,_,h1,h2=>by simp only[Rep] at h1 h2;subst h1 h2;simp
 |.bool,_,_,_,_,_,h1,h2=>by simp only[Rep] at h1 h2;subst h1 h2;simp
 |.arr n e,l,m,cx,cy,hf,h1,h2=>by
  simp only[Rep] at h1 h2;have hf':e.flatB=true:=by simpa[Ty.flatB] using hf
  constructor
  ·rintro rfl;refine List.ext_getElem (by omega) fun i i1 i2=>?_;exact(Rep.inj hf' (h1.2.2 i i1) (h2.2.2 i i2)).1 rfl
  ·intro e0;have e0:l=m:=e0;subst e0;exact z31 h1.2.1 h2.2.1 fun i hi=>(Rep.inj hf' (h1.2.2 i (by omega)) (h2.2.2 i (by omega))).2 rfl
 |.nil,_,_,_,_,_,h1,h2=>by simp only[Rep] at h1 h2;subst h1 h2;simp
 |.cons a b,x,y,cx,cy,hf,h1,h2=>by
  simp only[Rep] at h1 h2;simp only[Ty.flatB,yyd] at hf;obtain⟨c1,c2,rfl,a1,a2⟩:=h1;obtain⟨d1,d2,rfl,b1,b2⟩:=h2;have hl:c1.length=d1.length:=by rw[a1.length,b1.length]
  rw[show c1++c2=d1++d2↔c1=d1∧c2=d2 from⟨fun e=>List.append_inj e hl,fun⟨e1,e2⟩=>by rw[e1,e2]⟩,Rep.inj hf.1 a1 b1,Rep.inj hf.2 a2 b2];exact⟨fun h=>Prod.ext h.1 h.2,fun h=>by rw[h];exact⟨rfl,rfl⟩⟩
def eqOkB(P:Program):Ty→TypeId→Bool
 |.arr _ e,id=>e.size != 0&&(match P.underlying id with|some (.array _ eid)=>eqOkB P e eid|_=>false)
 |.cons a b,id=>!P.stoodInHeld id&&(match P.underlying id with
   |some (.struct fs)=>(match fs.toList with
    |f::r=>f.name != "_"&&eqOkB P a f.type&&eqOkF P b r
    |[]=>false)
   |_=>false)
 |.nil,_=>false
 |_,_=>true
where
 eqOkF (P:Program):Ty→List Field→Bool
 |.nil,[]=>true
 |.cons a b,f::r=>f.name != "_"&&eqOkB P a f.type&&eqOkF P b r
 |_,_=>false
def z0y{k:IntKind}{n:Int}:(Ty.int k).wrap [.int k n]=.int k n:=rfl
def q75{b:Bool}:Ty.bool.wrap [.bool b]=.bool b:=rfl
def EqA(P:Program)(t:Ty):Prop:=∀ (id:TypeId) (d:Nat),TyOf P t id→eqOkB P t id=true→t.dep≤d→∀ (w:World) (cx cy:List Value),Fl t cx→Fl t cy →
 ∃ r:Bool,(Op.equalIn d id (t.wrap cx) (t.wrap cy)).run P w=.ok r w∧(r=true↔cx=cy)
def EqF(P:Program)(t:Ty):Prop:=∀ (fs:List Field) (off d:Nat),TyOf.fields P t fs off→eqOkB.eqOkF P t fs=true→t.dep≤d+1→∀ (w:World) (xs ys:Array Value),Fl t (xs.toList.drop off)→Fl t (ys.toList.drop off) →
 ∃ r:Bool,(Op.eqFields d xs ys fs).run P w=.ok r w∧(r=true↔xs.toList.drop off=ys.toList.drop off)
def q86{e:Ty}{eid:TypeId}{d:Nat}(IH:EqA P e)(ht:TyOf P e eid)(ho:eqOkB P e eid=true)(hd:e.dep≤d)(hs:0<e.size)(w:World)(xs ys:Array Value) :
  ∀ is:List Nat,(∀ i∈is,i*e.size+e.size≤xs.size∧i*e.size+e.size≤ys.size∧Fl e ((xs.toList.drop (i*e.size)).take e.size)∧Fl e ((ys.toList.drop (i*e.size)).take e.size)) →
  ∃ r:Bool,(Op.eqItems d eid e.size xs ys is).run P w=.ok r w∧(r=true↔∀ i∈is,(xs.toList.drop (i*e.size)).take e.size=(ys.toList.drop (i*e.size)).take e.size)
 |[],_=>⟨true,by simp[Op.eqItems],by simp⟩
 |i::is,h=>by
  obtain⟨h1,h2,h3,h4⟩:=h i (by simp);obtain⟨r,hr,hq⟩:=IH eid d ht ho hd w _ _ h3 h4;obtain⟨r',hr',hq'⟩:=q86 IH ht ho hd hs w xs ys is fun j hj=>h j (by simp[hj]);simp only[Op.eqItems,yye,q0p ht hs h1 w,q0p ht hs h2 w,hr,yyb];cases r
  ·exact⟨false,by simp,by simp only[yyt,false_iff];intro hh;exact absurd (hq.2 (hh i (by simp))) (by simp)⟩
  ·exact⟨r',by simpa using hr',by rw[hq'];simp[hq.1 rfl]⟩
def q19{t:Ty}{id:TypeId}(ht:TyOf P t id):P.cellsOf id=t.size:=by obtain⟨d,h1,h2⟩:=ht.info;have:=h1.size;simp only[yyq] at this;obtain⟨i,hi,he⟩:=this;unfold Program.cellsOf;simp[hi,he]
def z3t:∀ t:Ty,EqA P t∧EqF P t
 |.int k=>by
  refine⟨fun id d ht _ hd w cx cy hx hy=>?_,fun fs off d h=>?_⟩
  ·obtain⟨d,rfl⟩:∃ d',d=d'+1:=⟨d-1,by simp[Ty.dep] at hd;omega⟩;obtain⟨n,rfl⟩:=hx;obtain⟨m,rfl⟩:=hy;exact⟨n==m,run_equalIn_int w d id k k n m ht.under,by simp⟩
  ·cases fs<;>simp[TyOf.fields] at h
 |.bool=>by
  refine⟨fun id d ht _ hd w cx cy hx hy=>?_,fun fs off d h=>?_⟩
  ·obtain⟨d,rfl⟩:∃ d',d=d'+1:=⟨d-1,by simp[Ty.dep] at hd;omega⟩;obtain⟨n,rfl⟩:=hx;obtain⟨m,rfl⟩:=hy;exact⟨n==m,q2h ht.under n m,by simp⟩
  ·cases fs<;>simp[TyOf.fields] at h
 |.slice e=>⟨fun _ _ _ _ _ _ _ _ hx _=>hx.elim,fun fs off d h=>by cases fs<;>simp[TyOf.fields] at h⟩
 |.ptr e=>⟨fun _ _ _ _ _ _ _ _ hx _=>hx.elim,fun fs off d h=>by cases fs<;>simp[TyOf.fields] at h⟩
 |.nil=>by
  refine⟨fun _ _ ht=>ht.elim,fun fs off d h _ _ w xs ys hx hy=>?_⟩;cases fs with
  |nil=>simp only[Fl] at hx hy;exact⟨true,by simp[Op.eqFields],by simp[hx,hy]⟩
  |cons f r=>simp[TyOf.fields] at h
 |.arr n e=>by
  refine⟨fun id d ht ho hd w cx cy hx hy=>?_,fun fs off d h=>by cases fs<;>simp[TyOf.fields] at h⟩;obtain⟨d,rfl⟩:∃ d',d=d'+1:=⟨d-1,by simp[Ty.dep] at hd;omega⟩;obtain⟨eid,h1,h2⟩:=ht;simp only[eqOkB,h1.under,yyd,bne_iff_ne] at ho;obtain⟨hs,ho⟩:=ho;obtain⟨i,hi⟩:=info_of_underlying (h2.info.choose_spec.1.under);have hce:=q19 h2;rw[show(Ty.arr n e).wrap cx=.agg cx.toArray from rfl,show(Ty.arr n e).wrap cy=.agg cy.toArray from rfl,run_equalIn_array w d _ _ h1.under hi,hce];have hb:∀ i,i<n→i*e.size+e.size≤n*e.size:=fun i hi=>by rw[← Nat.succ_mul];exact yyz _ hi
  obtain⟨r,hr,hq⟩:=q86 (z3t e).1 h2 ho (by simp[Ty.dep] at hd;omega) (by omega) w cx.toArray cy.toArray (List.range n) fun i hi=>by have hi:=yys.1 hi;exact⟨by simpa[hx.1] using hb i hi,by simpa[hy.1] using hb i hi,by simpa using hx.2 i hi,by simpa using hy.2 i hi⟩
  exact⟨r,hr,by rw[hq];exact⟨fun h=>z31 hx.1 hy.1 fun i hi=>by simpa using h i (yys.2 hi),fun h=>by rw[h];simp⟩⟩
 |.cons a b=>by
  have hF:EqF P (.cons a b):=by
   intro fs off d h ho hd w xs ys hx hy;cases fs with
   |nil=>simp[TyOf.fields] at h
   |cons f r=>
    simp only[TyOf.fields] at h;simp only[eqOkB.eqOkF,yyd,bne_iff_ne] at ho;obtain⟨h0,h1,h2,h3⟩:=h;simp only[Fl] at hx hy;obtain⟨c1,c2,ex,x1,x2⟩:=hx;obtain⟨d1,d2,ey,y1,y2⟩:=hy;have hxs:xs.size=off+(a.size+b.size)∨xs.size<off+1:=by have:=congrArg List.length ex;simp[x1.length,x2.length] at this;omega
    have hys:ys.size=off+(a.size+b.size)∨ys.size<off+1:=by have:=congrArg List.length ey;simp[y1.length,y2.length] at this;omega
    have tx:(xs.toList.drop off).take a.size=c1:=by rw[ex,← x1.length,List.take_left]
    have ty:(ys.toList.drop off).take a.size=d1:=by rw[ey,← y1.length,List.take_left]
    have dx:xs.toList.drop (off+a.size)=c2:=by rw[← List.drop_drop,ex,← x1.length,List.drop_left]
    have dy:ys.toList.drop (off+a.size)=d2:=by rw[← List.drop_drop,ey,← y1.length,List.drop_left]
    have lx:off+a.size≤xs.size:=by have:=congrArg List.length ex;simp[x1.length] at this;omega
    have ly:off+a.size≤ys.size:=by have:=congrArg List.length ey;simp[y1.length] at this;omega
    simp only[Ty.dep] at hd;obtain⟨q,hq1,hq2⟩:=(z3t a).1 f.type d h1 ho.1.2 (by omega) w c1 d1 x1 y1;obtain⟨q',hq1',hq2'⟩:=(z3t b).2 r (off+a.size) d h3 ho.2 (by omega) w xs ys (by rw[dx];exact x2) (by rw[dy];exact y2);have px:=q0p h1 (cs:=xs) (off:=off) (by omega) lx w;have py:=q0p h1 (cs:=ys) (off:=off) (by omega) ly w;rw[tx] at px;rw[ty] at py;simp only[Op.eqFields,ho.1.1,h0,ne_eq,not_false_eq_true,if_true,yye,px,py,hq1,yyb];rw[ex,ey,show c1++c2=d1++d2↔c1=d1∧c2=d2 from⟨fun e=>List.append_inj e (by rw[x1.length,y1.length]),fun⟨e1,e2⟩=>by rw[e1,e2]⟩];rw[dx,dy] at hq2';cases q
    ·exact⟨false,by simp,by simp only[yyt,false_iff];intro hh;exact absurd (hq2.2 hh.1) (by simp)⟩
    ·exact⟨q',by simpa using hq1',by rw[hq2'];simp[hq2.1 rfl]⟩
  refine⟨fun id d ht ho hd w cx cy hx hy=>?_,hF⟩;obtain⟨d,rfl⟩:∃ d',d=d'+1:=⟨d-1,by simp[Ty.dep] at hd;omega⟩;obtain⟨fs,h1,h2⟩:=ht;simp only[eqOkB,h1.under,yyd,yy6] at ho;have hfo:P.fieldsOf id=fs:=by unfold Program.fieldsOf;rw[h1.under]
  rw[show(Ty.cons a b).wrap cx=.agg cx.toArray from rfl,show(Ty.cons a b).wrap cy=.agg cy.toArray from rfl,run_equalIn_agg w d id _ _ (by rw[hfo];exact h1.under) ho.1,hfo];obtain⟨r,hr,hq⟩:=hF fs.toList 0 d (by
   cases hfs:fs.toList with
   |nil=>rw[hfs] at h2;exact h2.elim
   |cons f r=>rw[hfs] at h2;simp only[TyOf.fields,yxw];exact h2) (by
   have:=ho.2;cases hfs:fs.toList with
   |nil=>rw[hfs] at this;cases this
   |cons f r=>rw[hfs] at this;exact this) hd w cx.toArray cy.toArray (by simpa using hx) (by simpa using hy)
  exact⟨r,hr,by simpa using hq⟩
def q83{t:Ty}{id:TypeId}(ht:TyOf P t id)(ho:eqOkB P t id=true)(hd:t.dep≤10000)(hf:t.flatB=true){x y:t.den}{cx cy:List Value}(hx:Rep M t x cx)(hy:Rep M t y cy)(w:World) :
  ∃ r:Bool,(Op.equal id (t.wrap cx) (t.wrap cy)).run P w=.ok r w∧(r=true↔x=y):=by
 obtain⟨r,hr,hq⟩:=(z3t t).1 id 10000 ht ho hd w cx cy (hx.fl hf) (hy.fl hf);exact⟨r,hr,hq.trans (hx.inj hf hy)⟩
def CkA(P:Program)(em:Bool)(t:Ty):Prop:=∀ (id:TypeId) (d:Nat),TyOf P t id→eqOkB P t id=true→t.dep≤d→∀ (w:World) (cx:List Value),Fl t cx→(Instr.checkKey em d id (t.wrap cx)).run P w=.ok () w
def ckFields(em:Bool)(d:Nat)(xs:Array Value):List Field→Sem Unit
 |[]=>pure ()
 |f::r=>if f.name ≠ "_" then do Instr.checkKey em d f.type (← part f.type xs f.offset);ckFields em d xs r else ckFields em d xs r
def CkF(P:Program)(em:Bool)(t:Ty):Prop:=∀ (fs:List Field) (off d:Nat),TyOf.fields P t fs off→eqOkB.eqOkF P t fs=true→t.dep≤d+1→∀ (w:World) (xs:Array Value),Fl t (xs.toList.drop off)→(ckFields em d xs fs).run P w=.ok () w
def z7q(em:Bool):∀ t:Ty,CkA P em t∧CkF P em t
 |.int k=>by
  refine⟨fun id d ht _ hd w cx hx=>?_,fun fs off d h=>?_⟩
  ·obtain⟨d,rfl⟩:∃ d',d=d'+1:=⟨d-1,by simp[Ty.dep] at hd;omega⟩;obtain⟨n,rfl⟩:=hx;have hu:P.underlying id=some (.int k):=ht.under;simp[Instr.checkKey,run_underlying hu,z0y]
  ·cases fs<;>simp[TyOf.fields] at h
 |.bool=>by
  refine⟨fun id d ht _ hd w cx hx=>?_,fun fs off d h=>?_⟩
  ·obtain⟨d,rfl⟩:∃ d',d=d'+1:=⟨d-1,by simp[Ty.dep] at hd;omega⟩;obtain⟨n,rfl⟩:=hx;have hu:P.underlying id=some .bool:=ht.under;simp[Instr.checkKey,run_underlying hu,q75]
  ·cases fs<;>simp[TyOf.fields] at h
 |.slice e=>⟨fun _ _ _ _ _ _ _ hx=>hx.elim,fun fs off d h=>by cases fs<;>simp[TyOf.fields] at h⟩
 |.ptr e=>⟨fun _ _ _ _ _ _ _ hx=>hx.elim,fun fs off d h=>by cases fs<;>simp[TyOf.fields] at h⟩
 |.nil=>by
  refine⟨fun _ _ ht=>ht.elim,fun fs off d h _ _ w xs hx=>?_⟩;cases fs with
  |nil=>simp[ckFields]
  |cons f r=>simp[TyOf.fields] at h
 |.arr n e=>by
  refine⟨fun id d ht ho hd w cx hx=>?_,fun fs off d h=>by cases fs<;>simp[TyOf.fields] at h⟩;obtain⟨d,rfl⟩:∃ d',d=d'+1:=⟨d-1,by simp[Ty.dep] at hd;omega⟩;obtain⟨eid,h1,h2⟩:=ht;simp only[eqOkB,h1.under,yyd,bne_iff_ne] at ho;obtain⟨hs,ho⟩:=ho;obtain⟨i,hi⟩:=info_of_underlying (h2.info.choose_spec.1.under);have hce:=q19 h2;have hb:∀ i,i<n→i*e.size+e.size≤n*e.size:=fun i hi=>by rw[← Nat.succ_mul];exact yyz _ hi
  rw[show(Ty.arr n e).wrap cx=.agg cx.toArray from rfl,Instr.checkKey];simp only[yye,run_underlying h1.under,yyb];simp only[Std.Legacy.Range.forIn_eq_forIn_range',Std.Legacy.Range.size,Nat.sub_zero,Nat.add_one_sub_one,Nat.div_one];have each:∀ j∈List.range' 0 n,j<n:=fun j hj=>by simpa using hj
  generalize List.range' 0 n=is at each;induction is with
  |nil=>simp
  |cons j is ih=>have hj:=each j (by simp);have p1:=q0p h2 (cs:=cx.toArray) (off:=j*e.size) (by omega) (by simpa[hx.1] using hb j hj) w;have p2:=(z7q em e).1 eid d h2 ho (by simp[Ty.dep] at hd;omega) w _ (by simpa using hx.2 j hj);simp only[List.forIn_cons,yye,run_sizeOf w hi,hce,yyb,p1,p2,yyf];exact ih fun y hy=>each y (by simp[hy])
 |.cons a b=>by
  have hF:CkF P em (.cons a b):=by
   intro fs off d h ho hd w xs hx;cases fs with
   |nil=>simp[TyOf.fields] at h
   |cons f r=>
    simp only[TyOf.fields] at h;simp only[eqOkB.eqOkF,yyd,bne_iff_ne] at ho;obtain⟨h0,h1,h2,h3⟩:=h;simp only[Fl] at hx;obtain⟨c1,c2,ex,x1,x2⟩:=hx;have tx:(xs.toList.drop off).take a.size=c1:=by rw[ex,← x1.length,List.take_left]
    have dx:xs.toList.drop (off+a.size)=c2:=by rw[← List.drop_drop,ex,← x1.length,List.drop_left]
    have lx:off+a.size≤xs.size:=by have:=congrArg List.length ex;simp[x1.length] at this;omega
    simp only[Ty.dep] at hd;have q1:=(z7q em a).1 f.type d h1 ho.1.2 (by omega) w c1 x1;have q2:=(z7q em b).2 r (off+a.size) d h3 ho.2 (by omega) w xs (by rw[dx];exact x2);have px:=q0p h1 (cs:=xs) (off:=off) (by omega) lx w;rw[tx] at px;simp only[ckFields,ho.1.1,h0,ne_eq,not_false_eq_true,if_true,yye,px,q1,yyb];exact q2
  refine⟨fun id d ht ho hd w cx hx=>?_,hF⟩;obtain⟨d,rfl⟩:∃ d',d=d'+1:=⟨d-1,by simp[Ty.dep] at hd;omega⟩;obtain⟨fs,h1,h2⟩:=ht;simp only[eqOkB,h1.under,yyd,yy6] at ho;have hr:=hF fs.toList 0 d (by
   cases hfs:fs.toList with
   |nil=>rw[hfs] at h2;exact h2.elim
   |cons f r=>rw[hfs] at h2;simp only[TyOf.fields,yxw];exact h2) (by
   have:=ho.2;cases hfs:fs.toList with
   |nil=>rw[hfs] at this;cases this
   |cons f r=>rw[hfs] at this;exact this) hd w cx.toArray (by simpa using hx)
  rw[show(Ty.cons a b).wrap cx=.agg cx.toArray from rfl,Instr.checkKey];simp only[yye,run_underlying h1.under,yyb];rw[← Array.forIn_toList];clear h2 ho;generalize fs.toList=L at hr;generalize Result.ok () w=R at hr;induction L generalizing w with
  |nil=>simpa[ckFields] using hr
  |cons f L ih=>
   simp only[List.forIn_cons,yye];by_cases hn:f.name = "_"
   ·simp only[ckFields,hn,ne_eq,not_true_eq_false,if_false] at hr;simp only[hn,ne_eq,not_true_eq_false,if_false,yyf,yyb];exact ih w hr
   ·simp only[ckFields,hn,ne_eq,not_false_eq_true,if_true,yye] at hr;simp only[hn,ne_eq,not_false_eq_true,if_true,yye];generalize (part f.type cx.toArray f.offset).run P w=r1 at hr;cases r1 with
    |ok a w1=>
     simp only[yyb] at hr ⊢;generalize (Instr.checkKey em d f.type a).run P w1=r2 at hr;cases r2 with
     |ok u w2=>simp only[yyb,yyf] at hr ⊢;simpa using ih w2 hr
     |halt x w2=>simpa[Result.andThen] using hr
    |halt x w1=>simpa[Result.andThen] using hr
variable {X:Ctx}{s:S}{ρ:Env}{a:Act}{w':World}{QA:Exit→S→Prop}{all l:List Oper}{o:Oper}
def Ty.dec:(t:Ty)→DecidableEq t.den
 |.int _=>inferInstanceAs (DecidableEq Int)
 |.bool=>inferInstanceAs (DecidableEq Bool)
 |.slice e=>letI:=e.dec;inferInstanceAs (DecidableEq (List e.den))
 |.ptr e=>letI:=e.dec;inferInstanceAs (DecidableEq (Option e.den))
 |.arr _ e=>letI:=e.dec;inferInstanceAs (DecidableEq (List e.den))
 |.nil=>inferInstanceAs (DecidableEq Unit)
 |.cons a b=>letI:=a.dec;letI:=b.dec;inferInstanceAs (DecidableEq (a.den×b.den))
def Ty.eqB(t:Ty)(x y:t.den):Bool:=@decide (x=y) (t.dec x y)
def x3{t:Ty}{x y:t.den}:t.eqB x y=true↔x=y:=by unfold Ty.eqB;exact @decide_eq_true_iff _ (t.dec x y)
abbrev Ent(kt vt:Ty):=kt.den×vt.den×Nat
def mIdx{kt vt:Ty}(es:List (Ent kt vt))(x:kt.den):Option Nat:=es.findIdx? fun e=>kt.eqB x e.1
structure KeyOK(P:Program)(t:Ty)(id:TypeId):Prop where
 ty:TyOf P t id
 ok:eqOkB P t id=true
 dep:t.dep≤10000
 flat:t.flatB=true
def z0l{kt vt:Ty}{kid:TypeId}(hk:KeyOK P kt kid){x:kt.den}{cx:List Value}(hx:Rep M kt x cx)(w:World) :
  ∀ (es:List (Ent kt vt)) (ms:List MapEntry) (i:Nat),MapRep M kt vt es ms →
  match mIdx es x with
  |none=>(Instr.findAsking kid (kt.wrap cx) ms i).run P w=.ok none w
  |some j=>∃ e,ms[j]?=some e∧(Instr.findAsking kid (kt.wrap cx) ms i).run P w=.ok (some (i+j,e.val)) w
 |[],[],i,_=>by simp[mIdx,Instr.findAsking]
 |e::es,m::ms,i,h=>by
  simp only[MapRep] at h;obtain⟨⟨⟨kc,hkc,hke⟩,_,_⟩,h2⟩:=h;obtain⟨r,hr,hq⟩:=q83 hk.ty hk.ok hk.dep hk.flat hx hkc w;have ih:=z0l hk hx w es ms (i+1) h2;simp only[mIdx,List.findIdx?_cons,Instr.findAsking,yye,hke,hr,yyb] at ih ⊢;cases r
  ·have hne:kt.eqB x e.1=false:=by
    cases hb:kt.eqB x e.1
    ·rfl
    ·exact absurd (hq.2 (x3.1 hb)) (by simp)
   rw[hne];simp only[yyt,if_false];cases hf:es.findIdx? (fun e=>kt.eqB x e.1) with
   |none=>rw[hf] at ih;simpa using ih
   |some j=>rw[hf] at ih;obtain⟨e',h3,h4⟩:=ih;refine⟨e',by simpa using h3,?_⟩;rw[h4];simp only[Result.ok.injEq,yya,yyp,and_true];show i+1+j=i+(j+1);omega
  ·rw[x3.2 (hq.1 rfl)];exact⟨m,by simp,by simp⟩
 |[],_::_,_,h=>h.elim
 |_::_,[],_,h=>h.elim
def j1p{kt vt:Ty}{d:TypeDesc}(hd:(∃ k,kt=.int k∧d=.int k)∨(kt=.bool∧d=.bool)){x:kt.den}{cx:List Value}(hx:Rep M kt x cx) :
  ∀ (es:List (Ent kt vt)) (ms:List MapEntry) (i:Nat),MapRep M kt vt es ms →
  match mIdx es x with
  |none=>Instr.findNow d (kt.wrap cx) ms i=some none
  |some j=>∃ e,ms[j]?=some e∧Instr.findNow d (kt.wrap cx) ms i=some (some (i+j,e.val))
 |[],[],i,_=>by simp[mIdx,Instr.findNow]
 |e::es,m::ms,i,h=>by
  simp only[MapRep] at h;obtain⟨⟨⟨kc,hkc,hke⟩,_,_⟩,h2⟩:=h;have ih:=j1p hd hx es ms (i+1) h2;have hs:Instr.sameNow d (kt.wrap cx) m.key=some (kt.eqB x e.1):=by
   rw[hke];rcases hd with⟨k,rfl,rfl⟩|⟨rfl,rfl⟩
   ·simp only[Rep] at hx hkc;subst hx hkc;simp only[z0y,Instr.sameNow,if_true,yya];rw[yy5,x3,beq_iff_eq]
   ·simp only[Rep] at hx hkc;subst hx hkc;simp only[q75,Instr.sameNow,yya];rw[yy5,x3,beq_iff_eq]
  simp only[mIdx,List.findIdx?_cons,Instr.findNow,hs] at ih ⊢;cases hb:kt.eqB x e.1
  ·simp only[yyt,if_false];cases hf:es.findIdx? (fun e=>kt.eqB x e.1) with
   |none=>rw[hf] at ih;simpa using ih
   |some j=>rw[hf] at ih;obtain⟨e',h3,h4⟩:=ih;refine⟨e',by simpa using h3,?_⟩;rw[h4];simp only[yya,yyp,and_true];show i+1+j=i+(j+1);omega
  ·exact⟨m,by simp,by simp⟩
 |[],_::_,_,h=>h.elim
 |_::_,[],_,h=>h.elim
def now_agg{d:TypeDesc}{cs:Array Value}(hd:(∃ n e,d=.array n e)∨∃ fs,d=.struct fs):∀ (ms:List MapEntry) (i:Nat),Instr.findNow d (.agg cs) ms i=if ms=[] then some none else none
 |[],i=>by simp[Instr.findNow]
 |m::ms,i=>by rcases hd with⟨n,e,rfl⟩|⟨fs,rfl⟩<;>simp[Instr.findNow,Instr.sameNow]
def q5r{kt vt:Ty}{kid:TypeId}(hk:KeyOK P kt kid){x:kt.den}{cx:List Value}(hx:Rep M kt x cx)(w:World)(es:List (Ent kt vt))(ms:List MapEntry)(h:MapRep M kt vt es ms) :
  match mIdx es x with
  |none=>(Instr.findKey kid (kt.wrap cx) ms).run P w=.ok none w
  |some j=>∃ e,ms[j]?=some e∧(Instr.findKey kid (kt.wrap cx) ms).run P w=.ok (some (j,e.val)) w:=by
 have ask:=z0l hk hx w es ms 0 h;have wide:∀ d,P.underlying kid=some d→((∃ n e,d=.array n e)∨∃ fs,d=.struct fs)→kt.wrap cx=.agg cx.toArray→_:=fun d hu hd hw=>by
  have hn:=now_agg (cs:=cx.toArray) hd ms 0;rw[← hw] at hn;show match mIdx es x with
   |none=>(Instr.findKey kid (kt.wrap cx) ms).run P w=.ok none w
   |some j=>∃ e,ms[j]?=some e∧(Instr.findKey kid (kt.wrap cx) ms).run P w=.ok (some (j,e.val)) w
  unfold Instr.findKey;simp only[yye,run_underlying hu,yyb,hn];by_cases hms:ms=[]
  ·subst hms;cases es with
   |nil=>simp[mIdx]
   |cons _ _=>exact h.elim
  ·simp only[hms,if_false];cases hf:mIdx es x with
   |none=>rw[hf] at ask;exact ask
   |some j=>rw[hf] at ask;simpa using ask
 obtain⟨hty,_,_,hfl⟩:=hk;have plain:∀ d,P.underlying kid=some d→((∃ k,kt=.int k∧d=.int k)∨(kt=.bool∧d=.bool))→match mIdx es x with
   |none=>(Instr.findKey kid (kt.wrap cx) ms).run P w=.ok none w
   |some j=>∃ e,ms[j]?=some e∧(Instr.findKey kid (kt.wrap cx) ms).run P w=.ok (some (j,e.val)) w:=fun d hu hd=>by
  have hn:=j1p hd hx es ms 0 h;unfold Instr.findKey;simp only[yye,run_underlying hu,yyb];cases hf:mIdx es x with
  |none=>rw[hf] at hn;simp only at hn;rw[hn];rfl
  |some j=>rw[hf] at hn;obtain⟨e,h3,h4⟩:=hn;refine⟨e,h3,?_⟩;rw[h4];simp
 cases kt with
 |int k=>exact plain _ hty.under (.inl ⟨k,rfl,rfl⟩)
 |bool=>exact plain _ hty.under (.inr ⟨rfl,rfl⟩)
 |arr n e=>obtain⟨eid,h1,_⟩:=hty;exact wide _ h1.under (.inl ⟨_,_,rfl⟩) rfl
 |cons a b=>obtain⟨fs,h1,_⟩:=hty;exact wide _ h1.under (.inr ⟨_,rfl⟩) rfl
 |nil=>exact hty.elim
 |slice e=>simp[Ty.flatB] at hfl
 |ptr e=>simp[Ty.flatB] at hfl
def q1q{kt:Ty}{kid:TypeId}(hk:KeyOK P kt kid){x:kt.den}{cx:List Value}(hx:Rep M kt x cx)(em:Bool)(w:World):(Instr.checkKey em 10000 kid (kt.wrap cx)).run P w=.ok () w:=(z7q em kt).1 kid 10000 hk.ty hk.ok hk.dep w cx (hx.fl hk.flat)
def Fl.bits:∀ {t:Ty} {cs:List Value},Fl t cs→∀ c∈cs,∀ n,Instr.sameBits n c c=true
 |.int _,_,h,c,hc,n=>by obtain⟨m,rfl⟩:=h;simp only[yyl] at hc;subst hc;cases n<;>simp[Instr.sameBits]
 |.bool,_,h,c,hc,n=>by obtain⟨m,rfl⟩:=h;simp only[yyl] at hc;subst hc;cases n<;>simp[Instr.sameBits]
 |.nil,_,h,c,hc,n=>by simp only[Fl] at h;subst h;cases hc
 |.cons a b,_,h,c,hc,n=>by
  simp only[Fl] at h;obtain⟨c1,c2,rfl,h1,h2⟩:=h;rcases yy2.1 hc with e|e
  ·exact h1.bits c e n
  ·exact h2.bits c e n
 |.arr k e,cs,h,c,hc,n=>by simp only[Fl] at h;have h2:=h.2;rw[← chunks_flatten e.size k cs h.1] at hc;obtain⟨l,hl,hcl⟩:=List.mem_flatten.1 hc;obtain⟨i,hi,rfl⟩:=yy0.1 hl;exact(h2 i (yys.1 hi)).bits c hcl n
 |.slice _,_,h,_,_,_=>h.elim
 |.ptr _,_,h,_,_,_=>h.elim
def q63{n:Nat}{a:Array Value}(h:∀ c∈a.toList,Instr.sameBits n c c=true):Instr.sameBits (n+1) (.agg a) (.agg a)=true:=by
 simp only[Instr.sameBits,beq_self_eq_true,Bool.true_and,yy9];intro p hp;have:p.1=p.2∧p.1∈a.toList:=by
  generalize a.toList=L at hp;induction L with
  |nil=>simp at hp
  |cons x L ih=>
   simp only[List.zip_cons_cons,yyk] at hp;rcases hp with rfl|hp
   ·exact⟨rfl,by simp⟩
   ·exact⟨(ih hp).1,by simp[(ih hp).2]⟩
 obtain⟨x,y⟩:=p;simp only at this;obtain⟨rfl,hm⟩:=this;exact h x hm
def Fl.same{t:Ty}{cs:List Value}(h:Fl t cs)(hn:t≠.nil):Instr.sameBits 10000 (t.wrap cs) (t.wrap cs)=true:=by
 cases t with
 |int k=>obtain⟨m,rfl⟩:=h;simp[z0y,Instr.sameBits]
 |bool=>obtain⟨m,rfl⟩:=h;simp[q75,Instr.sameBits]
 |nil=>exact absurd rfl hn
 |slice _=>exact h.elim
 |ptr _=>exact h.elim
 |arr k e=>exact q63 (n:=9999) fun c hc=>h.bits c (by simpa using hc) _
 |cons a b=>exact q63 (n:=9999) fun c hc=>h.bits c (by simpa using hc) _
def KeyOK.stays{kt:Ty}{kid:TypeId}(hk:KeyOK P kt kid){x:kt.den}{cx cy:List Value}(hx:Rep M kt x cx)(hy:Rep M kt x cy)(w:World):(Instr.keyThatStays (kt.wrap cy) (kt.wrap cx)).run P w=.ok (kt.wrap cx) w:=by have e:cy=cx:=(hy.inj hk.flat hx).2 rfl;subst e;have hs:=(hx.fl hk.flat).same (by rintro rfl;exact hk.ty.elim);unfold Instr.keyThatStays;simp[hs]
def mGet{kt vt:Ty}(es:List (Ent kt vt))(x:kt.den)(d:vt.den):vt.den:=match mIdx es x with|none=>d|some j=>((es[j]?).map (·.2.1)).getD d
def mBorn{kt vt:Ty}(es:List (Ent kt vt))(clk:Nat)(x:kt.den):Nat:=match mIdx es x with|none=>clk|some j=>((es[j]?).map (·.2.2)).getD 0
def mPut{kt vt:Ty}(es:List (Ent kt vt))(clk:Nat)(x:kt.den)(v:vt.den):List (Ent kt vt):=match mIdx es x with|none=>es++[(x,v,clk)]|some j=>es.modify j fun e=>(e.1,v,e.2.2)
def mEnt{kt vt:Ty}(es:List (Ent kt vt))(clk:Nat)(x:kt.den):List (Ent kt vt):=match mIdx es x with|none=>es++[(x,vt.dflt,clk)]|some _=>es
def mClk{kt vt:Ty}(es:List (Ent kt vt))(clk:Nat)(x:kt.den):Nat:=match mIdx es x with|none=>clk+1|some _=>clk
def mSet{kt vt:Ty}(es:List (Ent kt vt))(b:Int)(v:vt.den):List (Ent kt vt):=match es.findIdx? (fun e=>((e.2.2:Nat):Int)==b) with|none=>es|some j=>es.modify j fun e=>(e.1,v,e.2.2)
def MapRep.length{kt vt:Ty}:∀ {es:List (Ent kt vt)} {ms:List MapEntry},MapRep M kt vt es ms→ms.length=es.length
 |[],[],_=>rfl
 |_::_,_::_,h=>by simp only[MapRep] at h;simp[h.2.length]
 |[],_::_,h=>h.elim
 |_::_,[],h=>h.elim
def MapRep.get{kt vt:Ty}:∀ {es:List (Ent kt vt)} {ms:List MapEntry},MapRep M kt vt es ms→∀ {j:Nat} {m:MapEntry},ms[j]?=some m→∃ e,es[j]?=some e∧EntRep M kt vt e m
 |[],[],_,j,m,h=>by simp at h
 |e::es,m::ms,h,j,m',hj=>by
  simp only[MapRep] at h;cases j with
  |zero=>simp only[List.getElem?_cons_zero,yya] at hj;subst hj;exact⟨e,by simp,h.1⟩
  |succ j=>obtain⟨e',h1,h2⟩:=h.2.get (by simpa using hj);exact⟨e',by simpa using h1,h2⟩
 |[],_::_,h,_,_,_=>h.elim
 |_::_,[],h,_,_,_=>h.elim
def MapRep.snoc{kt vt:Ty}{x:Ent kt vt}{m:MapEntry}(hx:EntRep M kt vt x m):∀ {es:List (Ent kt vt)} {ms:List MapEntry},MapRep M kt vt es ms→MapRep M kt vt (es++[x]) (ms++[m])
 |[],[],_=>by simp only[List.nil_append,MapRep];exact⟨hx,trivial⟩
 |_::_,_::_,h=>by simp only[MapRep,List.cons_append] at h ⊢;exact⟨h.1,h.2.snoc hx⟩
 |[],_::_,h=>h.elim
 |_::_,[],h=>h.elim
def MapRep.mod{kt vt:Ty}{f:Ent kt vt→Ent kt vt}{g:MapEntry→MapEntry}:∀ {es:List (Ent kt vt)} {ms:List MapEntry} (j:Nat),MapRep M kt vt es ms→(∀ e m,es[j]?=some e→ms[j]?=some m→EntRep M kt vt e m→EntRep M kt vt (f e) (g m))→MapRep M kt vt (es.modify j f) (ms.modify j g)
 |[],[],j,_,_=>by simp[MapRep]
 |e::es,m::ms,0,h,hf=>by simp only[MapRep,List.modify_zero_cons] at h ⊢;exact⟨hf e m (by simp) (by simp) h.1,h.2⟩
 |e::es,m::ms,j+1,h,hf=>by simp only[MapRep,List.modify_succ_cons] at h ⊢;exact⟨h.1,h.2.mod j fun e' m' h1 h2=>hf e' m' (by simpa using h1) (by simpa using h2)⟩
 |[],_::_,_,h,_=>h.elim
 |_::_,[],_,h,_=>h.elim
def SAT.setMap(h:SAT X M ρ s w){n:Nat}{kt vt:Ty}{es es':List (Ent kt vt)}{clk clk':Nat}{ms':Array MapEntry}(hl:lk s.H n=some (.map kt vt es clk))(hm:MapRep M kt vt es' ms'.toList) :
  SAT X M ρ ⟨s.L,updH s.H n (.map kt vt es' clk'),s.nx⟩ (ChangeMaps.setBlock w (ρ.blk n) (.map ms' clk')):=by
 have hok:=(h.own _ _ hl).2.2;simp only[HO.ok] at hok;obtain⟨h1,ms,h2,h3⟩:=hok;have hlt:=(yym.1 h2).1;refine h.upd hl ⟨rfl,rfl,rfl,by simp[ChangeMaps.setBlock],fun k hk hne=>?_⟩ rfl trivial ?_
 ·have:ρ.blk n≠k:=fun e=>hne (by simp only[HO.at];rw[e]);simp only[ChangeMaps.setBlock,yxx];rw[if_neg this]
 ·simp only[HO.ok];exact⟨h1,ms',by simp only[ChangeMaps.setBlock,yxx];simp[hlt],hm⟩
structure MapT(P:Program)(kt vt:Ty)(t kid vid:TypeId):Prop where
 under:P.underlying t=some (.map kid vid)
 key:KeyOK P kt kid
 val:TyOf P vt vid
def z02{vt:Ty}{vid:TypeId}(h:TyOf P vt vid)(w:World):(zeroValue vid).run P w=.ok (vt.wrap vt.zc) w:=by obtain⟨d,h1,_⟩:=h.info;exact h1.run_zero w
section
variable {kt vt:Ty}{t kid vid:TypeId}{es:List (Ent kt vt)}{ms:Array MapEntry}{clk b:Nat}{x:kt.den}{cx:List Value}
def z8f(hT:MapT P kt vt t kid vid)(hb:w.heap[b]?=some (.map ms clk))(hm:MapRep M kt vt es ms.toList)(hx:Rep M kt x cx) :
  ∃ vc,Rep M vt (mGet es x vt.dflt) vc∧(Instr.lookup t (.map (some b)) (kt.wrap cx) false).run P w=.ok (vt.wrap vc) w:=by
 have hf:=q5r hT.key hx w es ms.toList hm;unfold Instr.lookup;simp only[yye,run_underlying hT.under,yyb,MapKept.run_getObj_map hb,yyf,q1q hT.key hx];unfold mGet;cases hi:mIdx es x with
 |none=>rw[hi] at hf;refine⟨vt.zc,w7 M vt,?_⟩;simp[hf,z02 hT.val]
 |some j=>rw[hi] at hf;obtain⟨e,h1,h2⟩:=hf;obtain⟨e',h3,⟨_,⟨vc,h4,h5⟩,_⟩⟩:=hm.get h1;refine⟨vc,by simp only[h3,yxg,Option.getD_some];exact h4,?_⟩;simp[h2,h5]
def j0l(hT:MapT P kt vt t kid vid)(hb:w.heap[b]?=some (.map ms clk))(hm:MapRep M kt vt es ms.toList)(hx:Rep M kt x cx){v:vt.den}(hv:Rep M vt v cv) :
  ∃ ms':Array MapEntry,MapRep M kt vt (mPut es clk x v) ms'.toList∧(Instr.mapUpdate t (.map (some b)) (kt.wrap cx) (vt.wrap cv)).run P w=.ok () (ChangeMaps.setBlock w b (.map ms' (mClk es clk x))):=by
 have hf:=q5r hT.key hx w es ms.toList hm;unfold Instr.mapUpdate;simp only[yye,run_underlying hT.under,yyb,MapKept.run_getObj_map hb,q1q hT.key hx];unfold mPut mClk;cases hi:mIdx es x with
 |none=>
  rw[hi] at hf;refine⟨ms.push {key:=kt.wrap cx,val:=vt.wrap cv,born:=clk},?_,?_⟩
  ·simp only[Array.toList_push];exact MapRep.snoc ⟨⟨cx,hx,rfl⟩,⟨cv,hv,rfl⟩,rfl⟩ hm
  ·simp only[hf,yyb,MapKept.run_setObj_map _ hb];rfl
 |some j=>
  rw[hi] at hf;obtain⟨e,h1,h2⟩:=hf;obtain⟨e',h3,⟨⟨kc,h4,h5⟩,h6,h7⟩⟩:=hm.get h1;have hxe:e'.1=x:=by
   have:=List.findIdx?_eq_some_iff_getElem.1 hi;obtain⟨hj,hp,_⟩:=this;have h8:=x3.1 hp;rw[yyo hj] at h3;injection h3 with h3
   rw[← h3];exact h8.symm
  have hkey:((ms[j]?).map (·.key)).getD (kt.wrap cx)=kt.wrap kc:=by rw[← yxs,h1];simp[h5]
  refine⟨ms.modify j fun e=>{e with key:=kt.wrap cx,val:=vt.wrap cv},?_,?_⟩
  ·rw[Array.toList_modify];refine hm.mod j fun e1 m1 g1 g2 g3=>⟨⟨cx,?_,rfl⟩,⟨cv,hv,rfl⟩,g3.2.2⟩;rw[h3] at g1;injection g1 with g1
   subst g1;rw[hxe];exact hx
  ·simp only[h2,yyb,hkey,yye,hT.key.stays hx (show Rep M kt x kc from hxe▸h4),MapKept.run_setObj_map _ hb];rfl
def run_ment(hT:MapT P kt vt t kid vid)(hb:w.heap[b]?=some (.map ms clk))(hm:MapRep M kt vt es ms.toList)(hx:Rep M kt x cx) :
  ∃ (ms':Array MapEntry) (vc:List Value),MapRep M kt vt (mEnt es clk x) ms'.toList∧Rep M vt (mGet es x vt.dflt) vc ∧
   (Instr.mapEntry t (.map (some b)) (kt.wrap cx)).run P w=.ok (.tuple #[vt.wrap vc,goInt (mBorn es clk x)]) (ChangeMaps.setBlock w b (.map ms' (mClk es clk x))):=by
 have hf:=q5r hT.key hx w es ms.toList hm;unfold Instr.mapEntry;simp only[yye,run_underlying hT.under,yyb,MapKept.run_getObj_map hb,q1q hT.key hx];unfold mEnt mClk mGet mBorn;cases hi:mIdx es x with
 |none=>
  rw[hi] at hf;refine⟨ms.push {key:=kt.wrap cx,val:=vt.wrap vt.zc,born:=clk},vt.zc,?_,w7 M vt,?_⟩
  ·simp only[Array.toList_push];exact MapRep.snoc ⟨⟨cx,hx,rfl⟩,⟨vt.zc,w7 M vt,rfl⟩,rfl⟩ hm
  ·simp only[hf,yyb,yye,z02 hT.val,MapKept.run_setObj_map _ hb,yyf];rfl
 |some j=>
  rw[hi] at hf;obtain⟨e,h1,h2⟩:=hf;obtain⟨e',h3,⟨⟨kc,h4,h5⟩,⟨vc,h6,h6'⟩,h7⟩⟩:=hm.get h1;have hxe:e'.1=x:=by
   have:=List.findIdx?_eq_some_iff_getElem.1 hi;obtain⟨hj,hp,_⟩:=this;have h8:=x3.1 hp;rw[yyo hj] at h3;injection h3 with h3
   rw[← h3];exact h8.symm
  have hkey:((ms[j]?).map (·.key)).getD (kt.wrap cx)=kt.wrap kc:=by rw[← yxs,h1];simp[h5]
  have hborn:((ms[j]?).map (fun e=>(e.born:Int))).getD 0=(e'.2.2:Int):=by rw[← yxs,h1];simp[h7]
  have hkx:Rep M kt x kc:=hxe▸h4;refine⟨ms.modify j fun e=>{e with key:=kt.wrap cx},vc,?_,by simp only[h3,yxg,Option.getD_some];exact h6,?_⟩
  ·rw[Array.toList_modify];have:=hm.mod (f:=id) (g:=fun e=>{e with key:=kt.wrap cx}) j fun e1 m1 g1 g2 g3=>⟨⟨cx,by
    rw[h3] at g1;injection g1 with g1
    subst g1;show Rep M kt e'.1 cx;rw[hxe];exact hx,rfl⟩,g3.2.1,g3.2.2⟩
   rwa[List.modify_id] at this
  ·simp only[h2,yyb,hkey,yye,hT.key.stays hx hkx,MapKept.run_setObj_map _ hb,yyf,hborn,h6',h3,yxg,Option.getD_some];rfl
def q7a{n:Int}:∀ {es:List (Ent kt vt)} {ms:List MapEntry},MapRep M kt vt es ms→ms.findIdx? (fun e=>(e.born:Int)==n)=es.findIdx? (fun e=>((e.2.2:Nat):Int)==n)
 |[],[],_=>rfl
 |e::es,m::ms,h=>by simp only[MapRep] at h;simp only[List.findIdx?_cons,h.1.2.2,q7a h.2]
 |[],_::_,h=>h.elim
 |_::_,[],h=>h.elim
def run_est(hb:w.heap[b]?=some (.map ms clk))(hm:MapRep M kt vt es ms.toList){n:Nat}(hn:es.any (fun e=>e.2.2==n)=true){v:vt.den}(hv:Rep M vt v cv) :
  ∃ ms':Array MapEntry,MapRep M kt vt (mSet es n v) ms'.toList∧(Instr.entryStore t (.map (some b)) (.int .i64 n) (vt.wrap cv)).run P w=.ok () (ChangeMaps.setBlock w b (.map ms' clk)):=by
 unfold Instr.entryStore;simp only[yye,yyb,MapKept.run_getObj_map hb,asInt,asIntOf,yyf];have hfi:=q7a (n:=(n:Int)) hm;have hai:ms.findIdx? (fun e=>(e.born:Int)==(n:Int))=ms.toList.findIdx? (fun e=>(e.born:Int)==(n:Int)):=by cases ms;simp
 rw[hai,hfi];unfold mSet;cases hj:es.findIdx? (fun e=>((e.2.2:Nat):Int)==(n:Int)) with
 |none=>exfalso;rw[List.findIdx?_eq_none_iff] at hj;obtain⟨e,he,hq⟩:=List.any_eq_true.1 hn;have:=hj e he;simp at this hq;omega
 |some j=>
  refine⟨ms.modify j fun e=>{e with val:=vt.wrap cv},?_,?_⟩
  ·rw[Array.toList_modify];exact hm.mod j fun e1 m1 _ _ g3=>⟨g3.1,⟨cv,hv,rfl⟩,g3.2.2⟩
  ·simp only[MapKept.run_setObj_map _ hb];rfl
end
variable {kt vt:Ty}{t kid vid:TypeId}{es:List (Ent kt vt)}{ms:Array MapEntry}{clk b n d nx:Nat}{x:kt.den}{cx:List Value}{L:List (Nat×AV)}{H:List (Nat×HO)}{ty:TypeId}{ps:String}{af:Array Edge}{c1 c2 c3:List Prop}{om ok ov:Operand}
variable{s':S}
def q3n{v:AV}(hg:o.guard=none)(hn:notDef o.op=true)(hd:dstOk X.n o.dst)(h:∀ M ρ a w,SAT X M ρ s w→REG X M ρ s a→Did X M ρ s v s' ((execOp a.eval o).run X.P w))(k:JL X true all QA l (putS o.dst v s')):JL X true all QA (o::l) s:=by
 intro M ρ a w h1 h2;obtain⟨ρ',w',nxt,e1,e2,e3,e4,e5,e6,e7⟩:=h M ρ a w h1 h2;refine j7 (w6 hg) ?_;have h2':REG X M ρ' s' a:=by have:=h2.grow (H':=s'.H) (nx':=s'.nx) (Mem.le_refl M) e2 e3 (n5 M);rw[← e4] at this;exact⟨this.size,this.defers,this.reg⟩
 rcases e7 with⟨z,rfl,hz⟩|⟨rfl,rfl⟩
 ·exact v7 hn e1 (k M ρ' _ w' (j9 e5) (h2'.putO hd.spec e6 hz))
 ·exact q3q hn e1 (k M ρ' _ w' (j9 e5) (h2'.putO hd.spec e6 (by simp only[AV.rv])))
def q3d(hu:opd L om=some (c1,.lf (.mp n)))(hc:allP c1)(h2:REG X M ρ ⟨L,H,nx⟩ a):a.eval om=.map (some (ρ.blk n)):=by have:=(z6 (s:=⟨L,H,nx⟩) hu hc h2).2;rw[y7] at this;simp only[Leaf.at,yya] at this;exact this.1.symm
def o8{y:vt.den}(hu:opd L om=some (c1,.val vt y))(hc:allP c1)(h2:REG X M ρ ⟨L,H,nx⟩ a):∃ cs,Rep M vt y cs∧a.eval om=vt.wrap cs:=by have:=(z6 (s:=⟨L,H,nx⟩) hu hc h2).2;simpa only[AV.rv] using this
def q1e(h1:SAT X M ρ ⟨L,H,nx⟩ w)(hl:lk H n=some (.map kt vt es clk)):∃ ms,w.heap[ρ.blk n]?=some (.map ms clk)∧MapRep M kt vt es ms.toList:=by have:=p5 h1 hl;simp only[HO.ok] at this;exact this.2
def JL.mLook(hT:MapT X.P kt vt t kid vid)(hu:opd L om=some (c1,.lf (.mp n)))(hl:lk H n=some (.map kt vt es clk))(hv:opd L ok=some (c2,.val kt x))(hd:ltB d X.n=true)(hc:allP (c1++c2))
  (k:JL X true all QA l ⟨(d,.val vt (mGet es x vt.dflt))::L,H,nx⟩):JL X true all QA (⟨some d,.lookup t om ok false,ty,ps,af,none⟩::l) ⟨L,H,nx⟩:=by
 rw[q8] at hc;refine q3n rfl rfl (y6 hd) (v:=.val vt (mGet es x vt.dflt)) (s':=⟨L,H,nx⟩) (fun M ρ a w h1 h2=>?_) k;obtain⟨ms,hb,hm⟩:=q1e h1 hl;obtain⟨cx,hx,hxe⟩:=o8 hv hc.2 h2;obtain⟨vc,r1,r2⟩:=z8f hT hb hm hx;refine⟨ρ,w,_,?_,Env.upTo.refl _ _,yyn _,rfl,h1,trivial,.inl ⟨_,rfl,by simp only[AV.rv];exact⟨vc,r1,rfl⟩⟩⟩;simp only[execOp,q3d hu hc.1 h2,hxe,yye,r2,yyb,yyf]
def JL.mIns(hT:MapT X.P kt vt t kid vid)(hu:opd L om=some (c1,.lf (.mp n)))(hl:lk H n=some (.map kt vt es clk))(hv:opd L ok=some (c2,.val kt x)){y:vt.den}(hy:opd L ov=some (c3,.val vt y))(hc:allP (c1++(c2++c3)))
  (k:JL X true all QA l ⟨L,updH H n (.map kt vt (mPut es clk x y) (mClk es clk x)),nx⟩):JL X true all QA (⟨none,.insert t om ok ov,ty,ps,af,none⟩::l) ⟨L,H,nx⟩:=by
 rw[q8,q8] at hc;refine q3n rfl rfl trivial (v:=.undef) (s':=⟨L,updH H n (.map kt vt (mPut es clk x y) (mClk es clk x)),nx⟩) (fun M ρ a w h1 h2=>?_) k;obtain⟨ms,hb,hm⟩:=q1e h1 hl;obtain⟨cx,hx,hxe⟩:=o8 hv hc.2.1 h2;obtain⟨cy,hy',hye⟩:=o8 hy hc.2.2 h2;obtain⟨ms',r1,r2⟩:=j0l hT hb hm hx hy';refine⟨ρ,_,_,?_,Env.upTo.refl _ _,yyn _,rfl,h1.setMap hl r1,trivial,.inr ⟨rfl,rfl⟩⟩;simp only[execOp,q3d hu hc.1 h2,hxe,hye,yye,r2,yyb,yyf]
def j47(hT:MapT X.P kt vt t kid vid)(hu:opd L om=some (c1,.lf (.mp n)))(hl:lk H n=some (.map kt vt es clk))(hv:opd L ok=some (c2,.val kt x))(hd:ltB d X.n=true)(hc:allP (c1++c2))
  (k:JL X true all QA l ⟨(d,.tup (.acons (.val vt (mGet es x vt.dflt)) (.acons (.val (.int .i64) ((mBorn es clk x:Nat):Int)) .anil)))::L,updH H n (.map kt vt (mEnt es clk x) (mClk es clk x)),nx⟩) :
  JL X true all QA (⟨some d,.mapEntry t om ok,ty,ps,af,none⟩::l) ⟨L,H,nx⟩:=by
 rw[q8] at hc;refine q3n rfl rfl (y6 hd) (v:=.tup (.acons (.val vt (mGet es x vt.dflt)) (.acons (.val (.int .i64) ((mBorn es clk x:Nat):Int)) .anil))) (s':=⟨L,updH H n (.map kt vt (mEnt es clk x) (mClk es clk x)),nx⟩) (fun M ρ a w h1 h2=>?_) k;obtain⟨ms,hb,hm⟩:=q1e h1 hl;obtain⟨cx,hx,hxe⟩:=o8 hv hc.2 h2;obtain⟨ms',vc,r0,r1,r2⟩:=run_ment hT hb hm hx;refine⟨ρ,_,_,?_,Env.upTo.refl _ _,yyn _,rfl,h1.setMap hl r0,⟨trivial,trivial,trivial⟩,.inl ⟨.tuple #[vt.wrap vc,goInt (mBorn es clk x)],rfl,?_⟩⟩
 ·simp only[execOp,q3d hu hc.1 h2,hxe,yye,r2,yyb,yyf]
 ·simp only[AV.rv,AV.rvs];exact⟨[vt.wrap vc,goInt (mBorn es clk x)],⟨vt.wrap vc,[goInt (mBorn es clk x)],⟨vc,r1,rfl⟩,⟨goInt (mBorn es clk x),[],⟨[goInt (mBorn es clk x)],by simp only[Rep];rfl,rfl⟩,rfl,rfl⟩,rfl⟩,rfl⟩
def JL.mSto(hu:opd L om=some (c1,.lf (.mp n)))(hl:lk H n=some (.map kt vt es clk)){z:Nat}(hv:opd L ok=some (c2,.val (.int .i64) (z:Int))){y:vt.den}(hy:opd L ov=some (c3,.val vt y))(hc:allP (c1++(c2++c3)))(hz:es.any (fun e=>e.2.2==z)=true)
  (k:JL X true all QA l ⟨L,updH H n (.map kt vt (mSet es z y) clk),nx⟩):JL X true all QA (⟨none,.entryStore t om ok ov,ty,ps,af,none⟩::l) ⟨L,H,nx⟩:=by
 rw[q8,q8] at hc;refine q3n rfl rfl trivial (v:=.undef) (s':=⟨L,updH H n (.map kt vt (mSet es z y) clk),nx⟩) (fun M ρ a w h1 h2=>?_) k;obtain⟨ms,hb,hm⟩:=q1e h1 hl;have hze:=(z6 (s:=⟨L,H,nx⟩) hv hc.2.1 h2).2;rw[v8] at hze;obtain⟨cy,hy',hye⟩:=o8 hy hc.2.2 h2;obtain⟨ms',r1,r2⟩:=run_est (P:=X.P) (t:=t) hb hm hz hy';refine⟨ρ,_,_,?_,Env.upTo.refl _ _,yyn _,rfl,h1.setMap hl r1,trivial,.inr ⟨rfl,rfl⟩⟩;simp only[execOp,q3d hu hc.1 h2,hze,hye,yye,r2,yyb,yyf]
def SAT.newOb(h:SAT X M ρ s w){ob:Obj}{o:HO}(hat:∀ ρ':Env,o.at ρ' s.nx=some (ρ'.blk s.nx))(hob:o.bd (s.nx+1))(hok:o.ok X M (ρ.with s.nx w.heap.size .nil Go.undef) s.nx (w.alloc ob)) :
  SAT X M (ρ.with s.nx w.heap.size .nil Go.undef) ⟨s.L,(s.nx,o)::s.H,s.nx+1⟩ (w.alloc ob):=by
 have hlt:∀ b o,M b=some o→b<w.heap.size:=fun b o hb=>(yym.1 (h.mem b o hb)).1;refine h.add (World.grownBy_alloc w _ none) (fun b hb=>by cases hb) (fun l o hl=>⟨hl,fun b _=>by simp⟩) (k9 _ _ _ _ _) hob hok ?_;intro b hb;rw[hat] at hb;simp only[Env.with,if_true,yya] at hb;subst hb;refine⟨?_,fun l o1 hl hb=>?_⟩
 ·cases hM:M w.heap.size with
  |none=>rfl
  |some o=>exact absurd (hlt _ _ hM) (Nat.lt_irrefl _)
 ·exact absurd (g9 (h.own l o1 hl).2.2 hb).2 (Nat.lt_irrefl _)
def q57(hT:MapT X.P kt vt t kid vid)(hd:ltB d X.n=true)
  (k:JL X true all QA l ⟨(d,.lf (.mp nx))::L,(nx,.map kt vt [] 0)::H,nx+1⟩):JL X true all QA (⟨some d,.makeMap t none,ty,ps,af,none⟩::l) ⟨L,H,nx⟩:=by
 refine q3n rfl rfl (y6 hd) (v:=.lf (.mp nx)) (s':=⟨L,(nx,.map kt vt [] 0)::H,nx+1⟩) (fun M ρ a w h1 h2=>?_) k;have hs:=h1.newOb (ob:=.map #[] 0) (o:=.map kt vt [] 0) (fun _=>rfl) trivial (by simp only[HO.ok,Env.with,if_true];exact⟨h1.below.size,#[],heap_alloc_new w _,trivial⟩)
 refine⟨_,_,_,?_,k9 _ _ w.heap.size .nil Go.undef,yxp _,rfl,hs,yxf _,.inl ⟨.map (some w.heap.size),rfl,?_⟩⟩
 ·simp only[execOp,Instr.makeMap,Option.map_none,yye,run_newObj_alloc,yyb,yyf]
 ·rw[y7];simp[Leaf.at,Env.with,Value.oneCell']
def j48(hT:MapT X.P kt vt t kid vid)(hu:opd L om=some (c1,.lf (.mp n)))(hl:lk H n=some (.map kt vt es clk))(hd:ltB d X.n=true)(hc:allP c1)
  (k:JL X true all QA l ⟨(d,.lf (.itr nx))::L,(nx,.iter n clk [] clk)::H,nx+1⟩):JL X true all QA (⟨some d,.range t om,ty,ps,af,none⟩::l) ⟨L,H,nx⟩:=by
 refine q3n rfl rfl (y6 hd) (v:=.lf (.itr nx)) (s':=⟨L,(nx,.iter n clk [] clk)::H,nx+1⟩) (fun M ρ a w h1 h2=>?_) k;obtain⟨ms,hb,hm⟩:=q1e h1 hl;have hn:=(h1.own n _ hl).1;have hs:=h1.newOb (ob:=.mapIter (some (ρ.blk n)) clk #[] clk) (o:=.iter n clk [] clk) (fun _=>rfl) (Nat.lt_succ_of_lt hn) (by
  have hne:n≠nx:=by have:n<nx:=hn;omega
  simp only[HO.ok,Env.with,if_true,hne,if_false];exact⟨h1.below.size,heap_alloc_new w _⟩)
 refine⟨_,_,_,?_,k9 _ _ w.heap.size .nil Go.undef,yxp _,rfl,hs,yxf _,.inl ⟨.pointer (some ⟨w.heap.size,0,none⟩),rfl,?_⟩⟩
 ·simp only[execOp,Instr.range,q3d hu hc h2,yye,run_underlying hT.under,MapKept.run_getObj_map hb,run_newObj_alloc,yyb,yyf]
 ·rw[y7];simp[Leaf.at,Env.with,Value.oneCell']
variable {es:List (Ent kt vt)}{x:kt.den}
def mDel(es:List (Ent kt vt))(x:kt.den):List (Ent kt vt):=match mIdx es x with|none=>es|some j=>es.eraseIdx j
def MapRep.erase{kt vt:Ty}:∀ {es:List (Ent kt vt)} {ms:List MapEntry} (j:Nat),MapRep M kt vt es ms→MapRep M kt vt (es.eraseIdx j) (ms.eraseIdx j)
 |[],[],j,_=>by simp[MapRep]
 |e::es,m::ms,0,h=>by simp only[MapRep] at h;simpa using h.2
 |e::es,m::ms,j+1,h=>by simp only[MapRep,List.eraseIdx_cons_succ] at h ⊢;exact⟨h.1,h.2.erase j⟩
 |[],_::_,_,h=>h.elim
 |_::_,[],_,h=>h.elim
def run_del(hT:MapT P kt vt t kid vid)(hb:w.heap[b]?=some (.map ms clk))(hm:MapRep M kt vt es ms.toList)(hx:Rep M kt x cx){ta:TypeId} :
  ∃ ms':Array MapEntry,MapRep M kt vt (mDel es x) ms'.toList∧(Builtin.delete_ #[t,ta] tt #[.map (some b),kt.wrap cx]).run P w=.ok (.tuple #[]) (ChangeMaps.setBlock w b (.map ms' clk)):=by
 have hf:=q5r hT.key hx w es ms.toList hm;unfold Builtin.delete_;simp only[yxr,List.getElem?_cons_zero,yxi,yye,run_underlying hT.under,yyb,MapKept.run_getObj_map hb,q1q hT.key hx];unfold mDel;cases hi:mIdx es x with
 |none=>rw[hi] at hf;refine⟨ms,hm,?_⟩;simp only[hf,yyb,yye,MapKept.run_setObj_map _ hb,yyf];rfl
 |some j=>
  rw[hi] at hf;obtain⟨e,h1,h2⟩:=hf;refine⟨ms.eraseIdxIfInBounds j,?_,?_⟩
  ·rw[Array.toList_eraseIdxIfInBounds];exact hm.erase j
  ·simp only[h2,yyb,yye,MapKept.run_setObj_map _ hb,yyf];rfl
def z42(hu:opd L om=some (c1,.lf (.itr n)))(hc:allP c1)(h2:REG X M ρ ⟨L,H,nx⟩ a):a.eval om=.pointer (some ⟨ρ.blk n,0,none⟩):=by have:=(z6 (s:=⟨L,H,nx⟩) hu hc h2).2;rw[y7] at this;simp only[Leaf.at,yya] at this;exact this.1.symm
def JL.mDel(hT:MapT X.P kt vt t kid vid){ta:TypeId}(hu:opd L om=some (c1,.lf (.mp n)))(hl:lk H n=some (.map kt vt es clk))(hv:opd L ok=some (c2,.val kt x))(hc:allP (c1++c2))
  (k:JL X true all QA l ⟨L,updH H n (.map kt vt (Ox.mDel es x) clk),nx⟩):JL X true all QA (⟨none,.call {callee:=.builtin .delete,args:=#[om,ok],argTypes:=#[t,ta]},ty,ps,af,none⟩::l) ⟨L,H,nx⟩:=by
 rw[q8] at hc;refine q3n rfl rfl trivial (v:=.tup .anil) (s':=⟨L,updH H n (.map kt vt (Ox.mDel es x) clk),nx⟩) (fun M ρ a w h1 h2=>?_) k;obtain⟨ms,hb,hm⟩:=q1e h1 hl;obtain⟨cx,hx,hxe⟩:=o8 hv hc.2 h2;obtain⟨ms',r1,r2⟩:=run_del (tt:=ty) (ta:=ta) hT hb hm hx;refine⟨ρ,_,_,?_,Env.upTo.refl _ _,yyn _,rfl,h1.setMap hl r1,trivial,.inl ⟨.tuple #[],rfl,?_⟩⟩
 ·simp only[execOp,resolve,invoke,builtin,yye,yyf,yyb,List.map_toArray,yy4,List.map_nil,q3d hu hc.1 h2,hxe,r2]
 ·simp only[AV.rv,AV.rvs];exact⟨[],rfl,rfl⟩
def j49(hu:opd L om=some (c1,.lf (.itr n))){m since last:Nat}(hl:lk H n=some (.iter m since seen last))(hm:lk H m=some (.map kt vt es clk)){e:Ent kt vt}{seen':List Nat}(hs:seen=seen'++[e.2.2])(hlast:last=clk)
  (he:e∈es) (hnd:(es.map (·.2.2)).Nodup) (hd:ltB d X.n=true) (hc:allP c1)
  (k:JL X true all QA l ⟨(d,.tup (.acons (.val kt e.1) (.acons (.val vt e.2.1) .anil)))::L,H,nx⟩):JL X true all QA (⟨some d,.entry om,ty,ps,af,none⟩::l) ⟨L,H,nx⟩:=by
 refine q3n rfl rfl (y6 hd) (v:=.tup (.acons (.val kt e.1) (.acons (.val vt e.2.1) .anil))) (s':=⟨L,H,nx⟩) (fun M ρ a w h1 h2=>?_) k;obtain⟨ms,hb,hmr⟩:=q1e h1 hm;have hit:=p5 h1 hl;simp only[HO.ok] at hit;obtain⟨_,hit⟩:=hit;obtain⟨j,hj,rfl⟩:=yx1.1 he;have hj2:j<ms.toList.length:=by rw[hmr.length];exact hj
 obtain⟨e',g1,⟨⟨kc,g2,g3⟩,⟨vc,g4,g5⟩,g6⟩⟩:=hmr.get (yyo hj2);rw[yyo hj] at g1;injection g1 with g1
 subst g1;have hborn:∀ {es:List (Ent kt vt)} {ms:List MapEntry},MapRep M kt vt es ms→ms.map (·.born)=es.map (·.2.2):=by
  intro es;induction es with
  |nil=>intro ms h;cases ms with
   |nil=>rfl
   |cons _ _=>exact h.elim
  |cons e es ih=>intro ms h;cases ms with
   |nil=>exact h.elim
   |cons m ms=>simp only[MapRep] at h;simp only[yy4,h.1.2.2,ih h.2]
 have hrun:=run_entry_at (P:=X.P) w (ρ.blk n) (ρ.blk m) since seen'.toArray ms clk (ms.toList[j]) (by rw[hit,hs,hlast,g6];simp) hb (yyv hj2) (by rw[hborn hmr];exact hnd);refine⟨ρ,w,_,?_,Env.upTo.refl _ _,yyn _,rfl,h1,⟨trivial,trivial,trivial⟩,.inl ⟨.tuple #[kt.wrap kc,vt.wrap vc],rfl,?_⟩⟩
 ·simp only[execOp,z42 hu hc h2,yye,hrun,yyb,yyf,g3,g5]
 ·simp only[AV.rv,AV.rvs];exact⟨[kt.wrap kc,vt.wrap vc],⟨kt.wrap kc,[vt.wrap vc],⟨kc,g2,rfl⟩,⟨vt.wrap vc,[],⟨vc,g4,rfl⟩,rfl,rfl⟩,rfl⟩,rfl⟩
def JL.mNext(hu:opd L om=some (c1,.lf (.itr n))){m since last:Nat}(hl:lk H n=some (.iter m since seen last))(hm:lk H m=some (.map kt vt es clk))(hold:∀ e∈es,e.2.2<since)(hsl:since≤last)(hd:ltB d X.n=true)(hc:allP c1)
  (k0:(∀ e∈es,e.2.2∈seen)→JL X true all QA l ⟨(d,.tup (.acons (.val .bool false) .anil))::L,H,nx⟩)
  (k1:∀ e∈es,e.2.2∉seen→JL X true all QA l ⟨(d,.tup (.acons (.val .bool true) (.acons (.val kt e.1) (.acons (.val vt e.2.1) .anil))))::L,updH H n (.iter m since (seen++[e.2.2]) clk),nx⟩) :
  JL X true all QA (⟨some d,.next om false,ty,ps,af,none⟩::l) ⟨L,H,nx⟩:=by
 intro M ρ a w h1 h2;obtain⟨ms,hb,hmr⟩:=q1e h1 hm;have hit:=p5 h1 hl;simp only[HO.ok] at hit;obtain⟨hge,hit⟩:=hit;have hent:∀ x∈ms.toList,∃ e∈es,EntRep M kt vt e x:=by intro x hx;obtain⟨j,hj,rfl⟩:=yx1.1 hx;obtain⟨e,g1,g2⟩:=hmr.get (yyo hj);exact⟨e,List.mem_of_getElem? g1,g2⟩
 have hent':∀ e∈es,∃ x∈ms.toList,x.born=e.2.2:=by
  intro e he;obtain⟨j,hj,rfl⟩:=yx1.1 he;have hj2:j<ms.toList.length:=by rw[hmr.length];exact hj
  obtain⟨e',g1,g2⟩:=hmr.get (yyo hj2);rw[yyo hj] at g1;injection g1 with g1
  exact⟨_,yyv hj2,by rw[g2.2.2,← g1]⟩
 refine j7 (w6 rfl) ?_;rcases run_next_at (P:=X.P) w ty (ρ.blk n) (ρ.blk m) since last seen.toArray ms clk hit hb (fun x hx=>by obtain⟨e,he,hr⟩:=hent x hx;rw[hr.2.2];exact hold e he) hsl with⟨h0,hrun⟩|⟨x,hx,w1,hw1,hrun⟩
 ·refine v7 rfl (v:=.tuple #[.bool false]) (by simp only[execOp,z42 hu hc h2,yye,hrun,yyb,yyf];rfl) ?_;refine k0 (fun e he=>?_) M ρ _ w (j9 (d:=some d) (v:=.tup (.acons (.val .bool false) .anil)) h1) (h2.putO (d:=some d) (dstOk.spec (y6 hd)) ⟨trivial,trivial⟩ (by simp only[AV.rv,AV.rvs];exact⟨[.bool false],⟨.bool false,[],⟨[.bool false],by simp only[Rep],rfl⟩,rfl,rfl⟩,rfl⟩));obtain⟨x,hx,hxb⟩:=hent' e he;have:leftOf ms seen.toArray=#[]:=Array.eq_empty_of_size_eq_zero h0;simp only[leftOf,Array.filter_eq_empty_iff] at this;have:=this x (Array.mem_toList_iff.1 hx);rw[hxb] at this;simpa using this
 ·have hx2:x∈ms.toList∧x.born∉seen:=by simp only[leftOf,Array.toList_filter,yxl] at hx;exact⟨hx.1,by simpa using hx.2⟩
  obtain⟨e,he,⟨⟨kc,g2,g3⟩,⟨vc,g4,g5⟩,g6⟩⟩:=hent x hx2.1;refine v7 rfl (v:=.tuple #[.bool true,x.key,x.val]) (by simp only[execOp,z42 hu hc h2,yye,hrun,yyb,yyf];rfl) ?_;have h1':SAT X M ρ ⟨L,H,nx⟩ w1:=by
   rcases hw1 with rfl|rfl
   ·exact h1
   ·exact h1.drew
  have hit1:w1.heap[ρ.blk n]?=some (.mapIter (some (ρ.blk m)) since seen.toArray last):=by rcases hw1 with rfl|rfl<;>exact hit
  have hlt:=(yym.1 hit1).1;have hs:=h1'.upd (o':=.iter m since (seen++[e.2.2]) clk) (w':=ChangeMaps.setBlock w1 (ρ.blk n) (.mapIter (some (ρ.blk m)) since (seen.toArray.push x.born) clk)) hl
   ⟨rfl,rfl,rfl,by simp[ChangeMaps.setBlock],fun k hk hne=>by
    have:ρ.blk n≠k:=fun e=>hne (by simp only[HO.at];rw[e]);simp only[ChangeMaps.setBlock,yxx];rw[if_neg this]⟩ rfl (h1.own n _ hl).2.1 (by
    simp only[HO.ok];exact⟨hge,by simp only[ChangeMaps.setBlock,yxx];simp[hlt,g6]⟩)
  have hr:=h2.grow (H':=updH H n (.iter m since (seen++[e.2.2]) clk)) (nx':=nx) (Mem.le_refl M) (Env.upTo.refl ρ nx) (yyn _) (n5 M);exact k1 e he (by rw[← g6];exact hx2.2) M ρ _ _ (j9 (d:=some d) (v:=.tup (.acons (.val .bool true) (.acons (.val kt e.1) (.acons (.val vt e.2.1) .anil)))) hs) (hr.putO (d:=some d) (dstOk.spec (y6 hd)) ⟨trivial,trivial,trivial,trivial⟩ (by simp only[AV.rv,AV.rvs];exact⟨[.bool true,x.key,x.val],⟨.bool true,[x.key,x.val],⟨[.bool true],by simp only[Rep],rfl⟩,⟨x.key,[x.val],⟨kc,g2,g3⟩,⟨x.val,[],⟨vc,g4,g5⟩,rfl,rfl⟩,rfl⟩,rfl⟩,rfl⟩))
variable {es:List (Ent kt vt)}{x y:kt.den}{v d:vt.den}{e:Ent kt vt}
def d9:mIdx es x=none↔∀ e∈es,e.1≠x:=by
 unfold mIdx;rw[List.findIdx?_eq_none_iff];refine⟨fun h e he hx=>?_,fun h e he=>?_⟩
 ·have:=h e he;rw[x3.2 hx.symm] at this;cases this
 ·cases hb:kt.eqB x e.1
  ·rfl
  ·exact absurd (x3.1 hb).symm (h e he)
def t7(h:mIdx es x=some j):∃ hj:j<es.length,(es[j]).1=x:=by unfold mIdx at h;rw[List.findIdx?_eq_some_iff_getElem] at h;obtain⟨hj,h1,_⟩:=h;exact⟨hj,(x3.1 h1).symm⟩
structure MWF(es:List (Ent kt vt))(clk:Nat):Prop where
 lt:∀ e∈es,e.2.2<clk
 nb:(es.map (·.2.2)).Nodup
 nk:(es.map (·.1)).Nodup
def MWF.nil:MWF ([]:List (Ent kt vt)) clk:=⟨(fun _ h=>by cases h),yx2,yx2⟩
def z1d{α β:Type}{f:α→β}:∀ {l:List α},(l.map f).Nodup→∀ {a b:α},a∈l→b∈l→f a=f b→a=b
 |[],_,_,_,h,_,_=>by cases h
 |c::l,hn,a,b,ha,hb,e=>by
  rw[yy4,yxh] at hn;rcases yyk.1 ha with h1|h1
  ·rcases yyk.1 hb with h2|h2
   ·rw[h1,h2]
   ·exact absurd (yy0.2 ⟨b,h2,by rw[← e,h1]⟩) hn.1
  ·rcases yyk.1 hb with h2|h2
   ·exact absurd (yy0.2 ⟨a,h1,by rw[e,h2]⟩) hn.1
   ·exact z1d hn.2 h1 h2 e
def idx_at{α β:Type}{f:α→β}{l:List α}(hn:(l.map f).Nodup)(hi:i<l.length)(hj:j<l.length)(e:f l[i]=f l[j]):i=j:=by
 have:=yx9.1 hn;rcases Nat.lt_trichotomy i j with hlt|h|hlt
 ·exact absurd (by rw[List.getElem_map,List.getElem_map];exact e) (this i j (by simpa using hi) (by simpa using hj) hlt)
 ·exact h
 ·exact absurd (by rw[List.getElem_map,List.getElem_map];exact e.symm) (this j i (by simpa using hj) (by simpa using hi) hlt)
def MWF.eq(h:MWF es clk){e e':Ent kt vt}(h1:e∈es)(h2:e'∈es)(hk:e.1=e'.1):e=e':=z1d h.nk h1 h2 hk
def MWF.eqb(h:MWF es clk){e e':Ent kt vt}(h1:e∈es)(h2:e'∈es)(hk:e.2.2=e'.2.2):e=e':=z1d h.nb h1 h2 hk
def f8(h:MWF es clk)(he:e∈es):mGet es e.1 d=e.2.1:=by
 unfold mGet;split
 ·rename_i hn;exact absurd rfl (d9.1 hn e he)
 ·rename_i j hj;obtain⟨hl,hk⟩:=t7 hj;rw[yyo hl];have:=h.eq (yyv hl) he hk;rw[this];rfl
def q0r(h:∀ e∈es,e.1≠x):mGet es x d=d:=by unfold mGet;rw[d9.2 h]
def z48{α β:Type}{f:α→α}{g:α→β}(hg:∀ a,g (f a)=g a):∀ (l:List α) (j:Nat),(l.modify j f).map g=l.map g
 |[],j=>by simp
 |a::l,0=>by simp[hg]
 |a::l,j+1=>by simp[z48 hg l j]
def z6y{α:Type}{f:α→α}:∀ (l:List α) (a:α),(l++[a]).modify l.length f=l++[f a]
 |[],a=>by simp
 |b::l,a=>by simp[z6y l a]
def mem_mod{f:α→α}{b:α}:∀ {l:List α} {j:Nat},b∈l.modify j f↔(∃ i,∃ h:i<l.length,i≠j∧l[i]=b)∨(∃ h:j<l.length,f l[j]=b):=by
 intro l j;rw[yx1];constructor
 ·rintro⟨i,hi,rfl⟩;have hi':i<l.length:=by simpa using hi
  by_cases h:i=j
  ·subst h;right;exact⟨hi',by simp⟩
  ·left;exact⟨i,hi',h,by rw[List.getElem_modify,if_neg (fun e=>h e.symm)]⟩
 ·rintro(⟨i,hi,hne,rfl⟩|⟨hj,rfl⟩)
  ·exact⟨i,by simpa using hi,by rw[List.getElem_modify,if_neg (fun e=>hne e.symm)]⟩
  ·exact⟨j,by simpa using hj,by simp⟩
def q0q(h:MWF es clk):e∈mPut es clk x v↔(e∈es∧e.1≠x)∨(e.1=x∧e.2.1=v∧e.2.2=mBorn es clk x):=by
 unfold mPut mBorn;split
 ·rename_i hn;rw[d9] at hn;rw[yy2,yyl];refine or_congr ⟨fun he=>⟨he,hn e he⟩,fun he=>he.1⟩ ?_;obtain⟨a,b,c⟩:=e;simp
 ·rename_i j hj;obtain⟨hl,hk⟩:=t7 hj;rw[mem_mod,yyo hl];constructor
  ·rintro(⟨i,hi,hne,rfl⟩|⟨_,rfl⟩)
   ·refine .inl ⟨yyv hi,fun hx=>hne (idx_at h.nk hi hl (hx.trans hk.symm))⟩
   ·exact .inr ⟨hk,rfl,rfl⟩
  ·rintro(⟨he,hne⟩|⟨h1,h2,h3⟩)
   ·obtain⟨i,hi,rfl⟩:=yx1.1 he;exact .inl ⟨i,hi,fun hij=>hne (by subst hij;exact hk),rfl⟩
   ·refine .inr ⟨hl,?_⟩;obtain⟨a,b,c⟩:=e;simp only[yxg,Option.getD_some] at h1 h2 h3;rw[hk,h1,h2,h3]
def MWF.put(h:MWF es clk):MWF (mPut es clk x v) (mClk es clk x):=by
 unfold mPut mClk;split
 ·rename_i hn;rw[d9] at hn;refine⟨fun e he=>?_,?_,?_⟩
  ·rcases yy2.1 he with he|he
   ·have:=h.lt e he;omega
   ·rw[yyl.1 he];exact yxf _
  ·rw[yx5,List.nodup_append];refine⟨h.nb,by simp,fun a ha b hb=>?_⟩;obtain⟨e,he,rfl⟩:=yy0.1 ha;simp only[yy4,List.map_nil,yyl] at hb;have:=h.lt e he;omega
  ·rw[yx5,List.nodup_append];refine⟨h.nk,by simp,fun a ha b hb=>?_⟩;obtain⟨e,he,rfl⟩:=yy0.1 ha;simp only[yy4,List.map_nil,yyl] at hb;subst hb;exact hn e he
 ·refine⟨fun e he=>?_,?_,?_⟩
  ·obtain⟨i,hi,rfl⟩:=yx1.1 he;have:=h.lt (es[i]'(by simpa using hi)) (yyv _);rw[List.getElem_modify];split
   ·exact this
   ·exact this
  ·rw[z48 (f:=fun e:Ent kt vt=>(e.1,v,e.2.2)) (g:=fun e=>e.2.2) fun _=>rfl];exact h.nb
  ·rw[z48 (f:=fun e:Ent kt vt=>(e.1,v,e.2.2)) (g:=fun e=>e.1) fun _=>rfl];exact h.nk
def z64(h:MWF es clk)(hc:Decidable (y=x)):mGet (mPut es clk x v) y d=if y=x then v else mGet es y d:=by
 split
 ·rename_i e;subst e;exact f8 (h.put) (e:=(y,v,mBorn es clk y)) ((q0q h).2 (.inr ⟨rfl,rfl,rfl⟩))
 ·rename_i hne;cases hi:mIdx es y with
  |none=>
   rw[d9] at hi;rw[q0r hi,q0r];intro e he hk;rcases(q0q h).1 he with⟨h1,_⟩|⟨h1,_⟩
   ·exact hi e h1 hk
   ·exact hne (hk.symm.trans h1)
  |some j=>obtain⟨hl,hk⟩:=t7 hi;rw[← hk] at hne ⊢;rw[f8 h (yyv hl),f8 h.put ((q0q h).2 (.inl ⟨yyv hl,hne⟩))]
def mPut_key(h:MWF es clk){z:kt.den}:(∃ e∈mPut es clk x v,e.1=z)↔z=x∨∃ e∈es,e.1=z:=by
 constructor
 ·rintro⟨e,he,rfl⟩;rcases(q0q h).1 he with⟨h1,_⟩|⟨h1,_⟩
  ·exact .inr ⟨e,h1,rfl⟩
  ·exact .inl h1
 ·intro hz;by_cases hx:z=x
  ·exact⟨(x,v,mBorn es clk x),(q0q h).2 (.inr ⟨rfl,rfl,rfl⟩),hx.symm⟩
  ·rcases hz with hz|⟨e,he,rfl⟩
   ·exact absurd hz hx
   ·exact⟨e,(q0q h).2 (.inl ⟨he,hx⟩),rfl⟩
def q80(h:(es.map (·.2.2)).Nodup)(hj:j<es.length):es.findIdx? (fun e=>((e.2.2:Nat):Int)==((es[j].2.2:Nat):Int))=some j:=by rw[List.findIdx?_eq_some_iff_getElem];refine⟨hj,by simp,fun i hi=>?_⟩;have:=yx9.1 h i j (by simp;omega) (by simpa using hj) hi;simp only[List.getElem_map] at this;simp only[beq_iff_eq,Bool.not_eq_true,beq_eq_false_iff_ne,ne_eq];omega
def mSet_ent(h:MWF es clk):mSet (mEnt es clk x) ((mBorn es clk x:Nat):Int) v=mPut es clk x v:=by
 unfold mSet mEnt mBorn mPut;cases hi:mIdx es x with
 |none=>
  have hx:es.findIdx? (fun e=>((e.2.2:Nat):Int)==((clk:Nat):Int))=none:=by rw[List.findIdx?_eq_none_iff];intro e he;have:=h.lt e he;simp only[beq_eq_false_iff_ne,ne_eq];omega
  simp only[List.findIdx?_append,hx];simp only[Option.none_or,List.findIdx?_cons,beq_self_eq_true,if_true,yxg,yxw];exact z6y _ _
 |some j=>obtain⟨hl,hk⟩:=t7 hi;simp only[yyo hl,yxg,Option.getD_some,q80 h.nb hl]
def j16(h:MWF es clk):(mEnt es clk x).any (fun e=>e.2.2==mBorn es clk x)=true:=by
 unfold mEnt mBorn;cases hi:mIdx es x with
 |none=>simp
 |some j=>obtain⟨hl,hk⟩:=t7 hi;simp only[yyo hl,yxg,Option.getD_some];rw[List.any_eq_true];exact⟨es[j],yyv hl,by simp⟩
def z1i(h:MWF es clk):mGet (mEnt es clk x) x vt.dflt=mGet es x vt.dflt:=by
 cases hi:mIdx es x with
 |none=>
  have:mEnt es clk x=mPut es clk x vt.dflt:=by unfold mEnt mPut;rw[hi]
  rw[this,q0r (d9.1 hi)];exact f8 (h.put) (e:=(x,vt.dflt,mBorn es clk x)) ((q0q h).2 (.inr ⟨rfl,rfl,rfl⟩))
 |some j=>unfold mEnt;rw[hi]
def z1j:(mDel es x).Sublist es:=by
 unfold mDel;split
 ·exact List.Sublist.refl _
 ·exact List.eraseIdx_sublist _ _
def q7p(h:MWF es clk):e∈mDel es x↔e∈es∧e.1≠x:=by
 unfold mDel;split
 ·rename_i hn;rw[d9] at hn;exact⟨fun he=>⟨he,hn e he⟩,fun he=>he.1⟩
 ·rename_i j hj;obtain⟨hl,hk⟩:=t7 hj;rw[List.mem_eraseIdx_iff_getElem];constructor
  ·rintro⟨i,hi,hne,rfl⟩;refine⟨yyv hi,fun hx=>hne (idx_at h.nk hi hl (hx.trans hk.symm))⟩
  ·rintro⟨he,hne⟩;obtain⟨i,hi,rfl⟩:=yx1.1 he;exact⟨i,hi,fun hij=>hne (by subst hij;exact hk),rfl⟩
def MWF.sub{fs:List (Ent kt vt)}(h:MWF es clk)(hs:fs.Sublist es):MWF fs clk:=⟨fun e he=>h.lt e (hs.subset he),(hs.map _).nodup h.nb,(hs.map _).nodup h.nk⟩
def MWF.del(h:MWF es clk):MWF (mDel es x) clk:=h.sub z1j
def mLeft(es:List (Ent kt vt))(seen:List Nat):Nat:=(es.filter fun e=>!seen.contains e.2.2).length
def z1h(he:e∈es)(hs:e.2.2∉seen):mLeft es (seen++[e.2.2])<mLeft es seen:=by
 unfold mLeft;have key:∀ (l:List (Ent kt vt)),(l.filter fun a=>!(seen++[e.2.2]).contains a.2.2).length≤(l.filter fun a=>!seen.contains a.2.2).length ∧
   (e∈l→(l.filter fun a=>!(seen++[e.2.2]).contains a.2.2).length<(l.filter fun a=>!seen.contains a.2.2).length):=by
  intro l;induction l with
  |nil=>exact⟨yyn _,fun h=>by cases h⟩
  |cons a l ih=>
   simp only[List.filter_cons];by_cases h1:a.2.2∈seen
   ·have e1:(!(seen++[e.2.2]).contains a.2.2)=false:=by simp[h1]
    have e2:(!seen.contains a.2.2)=false:=by simp[h1]
    rw[e1,e2];simp only[yyt,if_false];refine⟨ih.1,fun h=>?_⟩;rcases yyk.1 h with rfl|h
    ·exact absurd h1 hs
    ·exact ih.2 h
   ·have e2:(!seen.contains a.2.2)=true:=by simp[h1]
    rw[e2];simp only[if_true];by_cases h3:a.2.2=e.2.2
    ·have e1:(!(seen++[e.2.2]).contains a.2.2)=false:=by simp[h3]
     rw[e1];simp only[yyt,if_false,List.length_cons];exact⟨by omega,fun _=>by omega⟩
    ·have e1:(!(seen++[e.2.2]).contains a.2.2)=true:=by simp[h1,h3]
     rw[e1];simp only[if_true,List.length_cons];refine⟨by omega,fun h=>?_⟩;rcases yyk.1 h with rfl|h
     ·exact absurd rfl h3
     ·have:=ih.2 h;omega
 exact(key es).2 he
def j15{fs:List (Ent kt vt)}(hs:fs.Sublist es):mLeft fs seen≤mLeft es seen:=(hs.filter _).length_le
section
variable {X:Ctx}{s:S}{M:Mem}{ρ:Env}{a:Act}{w w':World}{QA:Exit→S→Prop}{all l:List Oper}{o:Oper}{P:Program}{md:Bool}
variable {t kid vid:TypeId}{n dd nx:Nat}{L:List (Nat×AV)}{H:List (Nat×HO)}{ty:TypeId}{ps:String}{af:Array Edge}{c1 c2 c3:List Prop}{om ok ov:Operand}
def JL.vq{v:AV}(hg:o.guard=none)(hn:notDef o.op=true)(hd:dstOk X.n o.dst)(hb:v.bd s.nx)(h:∀ M ρ a w,SAT X M ρ s w→REG X M ρ s a→∃ z,v.rv M ρ z∧∀ w1,(execOp a.eval o).run X.P w1=.ok (.value z) w1)
  (k:JL X md all QA l (putS o.dst v s)):JL X md all QA (o::l) s:=by
 cases md
 ·intro M ρ a w0 h1 h2;obtain⟨z,hz,hr⟩:=h M ρ a w0 h1 h2;simp only[wpQuiet,Region.wanted,hg,if_true];refine⟨z,fun w hw=>?_,k M ρ _ w0 (j9 h1) (h2.putO hd.spec hb hz)⟩;unfold Oper.quietAt;rw[hr w];exact⟨rfl,rfl⟩
 ·intro M ρ a w h1 h2;obtain⟨z,hz,hr⟩:=h M ρ a w h1 h2;exact j7 (w6 hg) (v7 hn (hr w) (k M ρ _ w (j9 h1) (h2.putO hd.spec hb hz)))
def JL.eqQ(hK:KeyOK X.P kt t)(hag:kt.agg=true)(hgt:X.P.eqGuardType X.P.depth t=false)(hu:opd L om=some (c1,.val kt x))(hv:opd L ok=some (c2,.val kt y))(hd:ltB dd X.n=true)(hc:allP (c1++c2))
  (k:JL X md all QA l ⟨(dd,.val .bool (kt.eqB x y))::L,H,nx⟩):JL X md all QA (⟨some dd,.binOp .eql t om ok tt,ty,ps,af,none⟩::l) ⟨L,H,nx⟩:=by
 rw[q8] at hc;refine JL.vq rfl rfl (y6 hd) trivial (v:=.val .bool (kt.eqB x y)) (s:=⟨L,H,nx⟩) (fun M ρ a w h1 h2=>⟨.bool (kt.eqB x y),m9.2 rfl,fun w1=>?_⟩) k;obtain⟨cx,hx,hxe⟩:=o8 (vt:=kt) hu hc.1 h2;obtain⟨cy,hy,hye⟩:=o8 (vt:=kt) hv hc.2 h2;obtain⟨r,hr,hq⟩:=q83 hK.ty hK.ok hK.dep hK.flat hx hy w1;have hrb:r=kt.eqB x y:=by rw[yy5,x3];exact hq
 rw[x4 hag,x4 hag] at hr;simp only[execOp,hxe,hye,x4 hag,yye,run_eqGuard_agg w1 _ _ _ _ _ _ hgt,yyb,binOp,hr,yyf,hrb]
def JL.neQ(hK:KeyOK X.P kt t)(hag:kt.agg=true)(hgt:X.P.eqGuardType X.P.depth t=false)(hu:opd L om=some (c1,.val kt x))(hv:opd L ok=some (c2,.val kt y))(hd:ltB dd X.n=true)(hc:allP (c1++c2))
  (k:JL X md all QA l ⟨(dd,.val .bool (!kt.eqB x y))::L,H,nx⟩):JL X md all QA (⟨some dd,.binOp .neq t om ok tt,ty,ps,af,none⟩::l) ⟨L,H,nx⟩:=by
 rw[q8] at hc;refine JL.vq rfl rfl (y6 hd) trivial (v:=.val .bool (!kt.eqB x y)) (s:=⟨L,H,nx⟩) (fun M ρ a w h1 h2=>⟨.bool (!kt.eqB x y),m9.2 rfl,fun w1=>?_⟩) k;obtain⟨cx,hx,hxe⟩:=o8 (vt:=kt) hu hc.1 h2;obtain⟨cy,hy,hye⟩:=o8 (vt:=kt) hv hc.2 h2;obtain⟨r,hr,hq⟩:=q83 hK.ty hK.ok hK.dep hK.flat hx hy w1;have hrb:r=kt.eqB x y:=by rw[yy5,x3];exact hq
 rw[x4 hag,x4 hag] at hr;simp only[execOp,hxe,hye,x4 hag,yye,run_eqGuard_agg w1 _ _ _ _ _ _ hgt,yyb,binOp,hr,yyf,hrb]
def JL.gF{gg:Nat×Bool}{g:Bool}{op:Op}(hg:gOf all L (some gg)=some g)(hgf:g=false)(hd:ltB dd X.n=true)(k:JL X true all QA l ⟨(dd,.undef)::L,H,nx⟩) :
  JL X true all QA (⟨some dd,op,ty,ps,af,some gg⟩::l) ⟨L,H,nx⟩:=by
 subst hgf;intro M ρ a w h1 h2;have hw:=q0j (s:=⟨L,H,nx⟩) (o:=⟨some dd,op,ty,ps,af,some gg⟩) hg h2;refine q10 hw ?_;exact k M ρ _ w (j9 (d:=some dd) (v:=.undef) h1) (h2.putO (d:=some dd) (dstOk.spec (y6 hd)) trivial (by simp only[AV.rv]))
end
variable {md:Bool}
variable {es:List (Ent kt vt)}{d:Nat}{x y:kt.den}
structure EqT(P:Program)(kt:Ty)(t:TypeId):Prop where
 key:KeyOK P kt t
 ag:kt.agg=true
 gt:P.eqGuardType P.depth t=false
def keyB(P:Program)(kt:Ty)(t:TypeId):Bool:=tyB P kt t&&(eqOkB P kt t&&(Nat.ble kt.dep 10000&&kt.flatB))
def KeyOK.of(h:keyB P kt t=true):KeyOK P kt t:=by simp only[keyB,yyd] at h;exact⟨s9 h.1,h.2.1,yyc h.2.2.1,h.2.2.2⟩
def eqtB(P:Program)(kt:Ty)(t:TypeId):Bool:=keyB P kt t&&(kt.agg&&!P.eqGuardType P.depth t)
def EqT.of{P:Program}{kt:Ty}{t:TypeId}(h:eqtB P kt t=true):EqT P kt t:=by simp only[eqtB,yyd,yy6] at h;exact⟨.of h.1,h.2.1,h.2.2⟩
def MapT.of{P:Program}{kt vt:Ty}{t kid vid:TypeId}(h:P.underlying t=some (.map kid vid))(hb:(keyB P kt kid&&tyB P vt vid)=true):MapT P kt vt t kid vid:=by simp only[yyd] at hb;exact⟨h,.of hb.1,s9 hb.2⟩
def q73(hT:MapT X.P kt vt t kid vid)(hu:opd L om=some (c1,.lf (.mp n)))(hl:lk H n=some (.map kt vt es clk))(hv:opd L ok=some (c2,.val kt x))(hd:ltB d X.n=true)
  (k:JL X true all QA l ⟨(d,.val vt (mGet es x vt.dflt))::L,H,nx⟩) (hc:allP (c1++c2):=by exact zD):JL X true all QA (⟨some d,.lookup t om ok false,ty,ps,af,none⟩::l) ⟨L,H,nx⟩:=JL.mLook hT hu hl hv hd hc k
def z2p(hT:MapT X.P kt vt t kid vid)(hu:opd L om=some (c1,.lf (.mp n)))(hl:lk H n=some (.map kt vt es clk))(hv:opd L ok=some (c2,.val kt x))(hd:ltB d X.n=true)
  (k:JL X true all QA l ⟨(d,.tup (.acons (.val vt (mGet es x vt.dflt)) (.acons (.val (.int .i64) ((mBorn es clk x:Nat):Int)) .anil)))::L,updH H n (.map kt vt (mEnt es clk x) (mClk es clk x)),nx⟩) (hc:allP (c1++c2):=by exact zD) :
  JL X true all QA (⟨some d,.mapEntry t om ok,ty,ps,af,none⟩::l) ⟨L,H,nx⟩:=j47 hT hu hl hv hd hc k
def q72(hw:MWF es clk)(hu:opd L om=some (c1,.lf (.mp n)))(hl:lk H n=some (.map kt vt (mEnt es clk x) (mClk es clk x)))(hv:opd L ok=some (c2,.val (.int .i64) ((mBorn es clk x:Nat):Int))){y:vt.den}(hy:opd L ov=some (c3,.val vt y))
  (k:JL X true all QA l ⟨L,updH H n (.map kt vt (mPut es clk x y) (mClk es clk x)),nx⟩) (hc:allP (c1++(c2++c3)):=by exact zD):JL X true all QA (⟨none,.entryStore t om ok ov,ty,ps,af,none⟩::l) ⟨L,H,nx⟩:=
 JL.mSto hu hl hv hy hc (j16 hw) (by rw[mSet_ent hw];exact k)
def z0r(hK:EqT X.P kt t)(hu:opd L om=some (c1,.val kt x))(hv:opd L ok=some (c2,.val kt y))(hd:ltB d X.n=true)
  (k:JL X md all QA l ⟨(d,.val .bool (!kt.eqB x y))::L,H,nx⟩) (hc:allP (c1++c2):=by exact zD):JL X md all QA (⟨some d,.binOp .neq t om ok tt,ty,ps,af,none⟩::l) ⟨L,H,nx⟩:=JL.neQ hK.key hK.ag hK.gt hu hv hd hc k
variable {op:Op}{v:AV}{cs:List Prop}{g:Bool}{gg:Nat×Bool}
mutual
def q4a{n:Nat}:∀ {a:AV},a.scal=true→a.bd n
 |.val ..,_=>trivial
 |.undef,_=>trivial
 |.tup a,h=>q9v (a:=a) (by simpa only[AV.scal] using h)
 |.mix ..,h=>by simp[AV.scal] at h
 |.lf ..,h=>by simp[AV.scal] at h
 |.fn ..,h=>by simp[AV.scal] at h
 |.anil,h=>by simp[AV.scal] at h
 |.acons ..,h=>by simp[AV.scal] at h
 |.gd ..,h=>by simp[AV.scal] at h
 |.full ..,h=>by simp[AV.scal] at h
def q9v{n:Nat}:∀ {a:AV},a.scalL=true→a.bd n
 |.anil,_=>trivial
 |.acons a b,h=>by simp only[AV.scalL,yyd] at h;exact⟨q4a h.1,q9v h.2⟩
 |.val ..,h=>by simp[AV.scalL] at h
 |.undef,h=>by simp[AV.scalL] at h
 |.tup ..,h=>by simp[AV.scalL] at h
 |.mix ..,h=>by simp[AV.scalL] at h
 |.lf ..,h=>by simp[AV.scalL] at h
 |.fn ..,h=>by simp[AV.scalL] at h
 |.gd ..,h=>by simp[AV.scalL] at h
 |.full ..,h=>by simp[AV.scalL] at h
end
inductive Fr
 |code (c:Code)
 |blk (id:Nat)
 |ops (md:Bool) (all l:List Oper)
 |fin (P:S→Prop)
 |scp
def qq(X:Ctx):List Fr→(Exit→S→Prop)→Exit→S→Prop
 |[],QA=>QA
 |.code c::r,QA=>qThen (fun s=>JC X c (qq X r QA) s) (qq X r QA)
 |.blk id::r,QA=>qBlock id (qq X r QA)
 |.ops md all l::r,QA=>qThen (fun s=>JL X md all (qq X r QA) l s) (qq X r QA)
 |.fin P::r,QA=>qThen P (qq X r QA)
 |.scp::r,QA=>qScope (qq X r QA)
def JK(X:Ctx)(st:List Fr)(QA:Exit→S→Prop)(s:S):Prop:=qq X st QA .normal s
def popF:Nat→List Fr→Option (List Fr)
 |_,[]=>none
 |id,.blk j::r=>if j=id then some r else popF id r
 |id,_::r=>popF id r
def q1n{id:Nat}:∀ {r r':List Fr},popF id r=some r'→JK X r' QA s→qq X r QA (.exit id) s
 |[],_,h,_=>by simp[popF] at h
 |.blk j::r,r',h,k=>by
  simp only[popF] at h;simp only[qq,qBlock];by_cases e:j=id
  ·rw[if_pos e] at h;injection h with h;subst h;rw[if_pos e.symm];exact k
  ·rw[if_neg e] at h;rw[if_neg (fun h=>e h.symm)];exact q1n h k
 |.code _::r,_,h,k=>q1n (r:=r) h k
 |.ops ..::r,_,h,k=>q1n (r:=r) h k
 |.fin _::r,_,h,k=>q1n (r:=r) h k
 |.scp::r,_,h,k=>q1n (r:=r) h k
def q99:∀ {r:List Fr},QA .ret s→qq X r QA .ret s
 |[],h=>h
 |.blk _::r,h=>q99 (r:=r) h
 |.code _::r,h=>q99 (r:=r) h
 |.ops ..::r,h=>q99 (r:=r) h
 |.fin _::r,h=>q99 (r:=r) h
 |.scp::r,h=>q99 (r:=r) h
def stepO(T:List (Nat×Ty))(ET:List (Nat×Nat))(n:Nat)(md:Bool)(o:Oper)(s:S):Option (List Prop×S):=
 match o,s with
 |⟨some d,op,_,_,_,none⟩,⟨L,H,nx⟩=>match ltB d n with
  |true=>match evb T op ⟨L,H,nx⟩ with
   |some (cs,v)=>some (cs,⟨(d,v)::L,H,nx⟩)
   |none=>match md with
    |true=>match evm T ET op ⟨L,H,nx⟩ with
     |some (cs,v,⟨L',H',nx'⟩)=>some (cs,⟨(d,v)::L',H',nx'⟩)
     |none=>none
    |false=>none
  |false=>none
 |⟨none,op,_,_,_,none⟩,⟨L,H,nx⟩=>match md with
  |true=>match evm T ET op ⟨L,H,nx⟩ with
   |some (cs,_,s')=>some (cs,s')
   |none=>match evb T op ⟨L,H,nx⟩ with
    |some (cs,_)=>some (cs,⟨L,H,nx⟩)
    |none=>none
  |false=>match evb T op ⟨L,H,nx⟩ with
   |some (cs,_)=>some (cs,⟨L,H,nx⟩)
   |none=>none
 |_,_=>none
def z4o(hX:XOK X)(h:stepO X.T X.ET X.n md o s=some (cs,s'))(hc:allP cs)(k:JL X md all QA l s'):JL X md all QA (o::l) s:=by
 obtain⟨d,op,ty,ps,af,g⟩:=o;obtain⟨L,H,nx⟩:=s;unfold stepO at h;split at h
 ·rename_i heq heq2;injection heq with e1 e2 _ _ _ e3
  injection heq2 with e4 e5 e6
  subst e1;subst e2;subst e3;subst e4;subst e5;subst e6;split at h
  ·rename_i hd;split at h
   ·rename_i cs' v hv;simp only[yya,yyp] at h;obtain⟨rfl,rfl⟩:=h;exact JL.q hX rfl hv (y6 hd) hc k
   ·split at h
    ·split at h
     ·rename_i cs' v L' H' nx' hv;simp only[yya,yyp] at h;obtain⟨rfl,rfl⟩:=h;exact JL.m hX rfl hv (y6 hd) hc k
     ·cases h
    ·cases h
  ·cases h
 ·rename_i heq heq2;injection heq with e1 e2 _ _ _ e3
  injection heq2 with e4 e5 e6
  subst e1;subst e2;subst e3;subst e4;subst e5;subst e6;split at h
  ·split at h
   ·rename_i cs' v s'' hv;simp only[yya,yyp] at h;obtain⟨rfl,rfl⟩:=h;exact JL.m hX rfl hv trivial hc k
   ·split at h
    ·rename_i cs' v hv;simp only[yya,yyp] at h;obtain⟨rfl,rfl⟩:=h;exact JL.q hX rfl hv trivial hc k
    ·cases h
  ·split at h
   ·rename_i cs' v hv;simp only[yya,yyp] at h;obtain⟨rfl,rfl⟩:=h;exact JL.q hX rfl hv trivial hc k
   ·cases h
 ·cases h
def stepC(T:List (Nat×Ty))(ET:List (Nat×Nat))(n:Nat)(u:Bool):List Fr→S→Option (List Prop×List Fr×S)
 |.ops md all (o::l)::r,s=>match stepO T ET n md o s with
  |some (cs,s')=>some (cs,.ops md all l::r,s')
  |none=>none
 |.ops _ _ []::r,s=>some ([],r,s)
 |.blk _::r,s=>some ([],r,s)
 |.scp::r,s=>some ([],r,s)
 |.code c::r,s=>match c with
  |.skip=>some ([],r,s)
  |.label _=>some ([],r,s)
  |.seq (.region id ops d) (.cond x a b)=>match u with
   |true=>none
   |false=>some ([],.code (.region id ops d)::.code (.cond x a b)::r,s)
  |.seq a b=>some ([],.code a::.code b::r,s)
  |.block id c=>some ([],.code c::.blk id::r,s)
  |.scope c=>some ([],.code c::.scp::r,s)
  |.exit id=>match popF id r with
   |some r'=>some ([],r',s)
   |none=>none
  |.region _ ⟨ops⟩ false=>some ([],.ops true ops ops::r,s)
  |_=>none
 |_,_=>none
def JK.step{u:Bool}{st st':List Fr}(hX:XOK X)(h:stepC X.T X.ET X.n u st s=some (cs,st',s'))(k:JK X st' QA s')(hc:allP cs):JK X st QA s:=by
 unfold stepC at h;split at h
 ·split at h
  ·rename_i hv;simp only[yya,yyp] at h;obtain⟨rfl,rfl,rfl⟩:=h;exact z4o hX hv hc k
  ·cases h
 ·simp only[yya,yyp] at h;obtain⟨rfl,rfl,rfl⟩:=h;exact JL.nil k
 ·simp only[yya,yyp] at h;obtain⟨rfl,rfl,rfl⟩:=h;exact k
 ·simp only[yya,yyp] at h;obtain⟨rfl,rfl,rfl⟩:=h;exact k
 ·split at h
  ·simp only[yya,yyp] at h;obtain⟨rfl,rfl,rfl⟩:=h;exact j5m k
  ·simp only[yya,yyp] at h;obtain⟨rfl,rfl,rfl⟩:=h;exact z8a k
  ·split at h
   ·cases h
   ·simp only[yya,yyp] at h;obtain⟨rfl,rfl,rfl⟩:=h;exact z0s k
  ·simp only[yya,yyp] at h;obtain⟨rfl,rfl,rfl⟩:=h;exact z0s k
  ·simp only[yya,yyp] at h;obtain⟨rfl,rfl,rfl⟩:=h;exact JC.block k
  ·simp only[yya,yyp] at h;obtain⟨rfl,rfl,rfl⟩:=h;exact JC.scope k
  ·split at h
   ·rename_i hp;simp only[yya,yyp] at h;obtain⟨rfl,rfl,rfl⟩:=h;exact j5o (q1n hp k)
   ·cases h
  ·simp only[yya,yyp] at h;obtain⟨rfl,rfl,rfl⟩:=h;exact q3p k
  ·cases h
 ·cases h
def JK.gd{L:List (Nat×AV)}{H:List (Nat×HO)}{nx d:Nat}{gg:Nat×Bool}{op:Op}{ty:TypeId}{ps:String}{af:Array Edge}{r:List Fr}{g:Bool}{cs:List Prop}{v:AV}(hX:XOK X)(hg:gOf all L (some gg)=some g)(h:evb X.T op ⟨L,H,nx⟩=some (cs,v))(hd:ltB d X.n=true)
  (k:JK X (.ops md all l::r) QA ⟨(d,.gd g v)::L,H,nx⟩) (hc:g=true→allP cs):JK X (.ops md all (⟨some d,op,ty,ps,af,some gg⟩::l)::r) QA ⟨L,H,nx⟩:=JL.g (s:=⟨L,H,nx⟩) hX hg h (y6 hd) hc k
def q7{x:Operand}{c d:Code}{r:List Fr}{b:Bool}(hb:opB s.L x=some b)(ht:b=true→JK X (.code c::r) QA s)(hf:b=false→JK X (.code d::r) QA s):JK X (.code (.cond x c d)::r) QA s:=JC.cond hb ht hf
def JK.draw{id:Nat}{ops:List Oper}{r:List Fr}(hX:XOK X)(k:JK X (.ops false ops ops::r) QA s)(hB:(Region.lexB .any ops.toArray&&ndAll ops)=true:=by decide +kernel):JK X (.code (.region id ⟨ops⟩ true)::r) QA s:=JC.draw hX hB k
def j5{r:List Fr}(h:QA .ret s):JK X (.code .ret::r) QA s:=JC.ret (q99 h)
def JK.done(h:QA .normal s):JK X [] QA s:=h
def j6{P:S→Prop}{r:List Fr}(h:P s):JK X (.fin P::r) QA s:=h
def z5(h:JK X [.code c] QA s):JC X c QA s:=h
def JK.toL{r:List Fr}(h:JK X (.ops md all l::r) QA s):JL X md all (qq X r QA) l s:=h
def JK.ofC{r:List Fr}(h:JC X c (qq X r QA) s):JK X (.code c::r) QA s:=h
def JK.ofL{r:List Fr}(h:JL X md all (qq X r QA) l s):JK X (.ops md all l::r) QA s:=h
def JK.loop{c:Code}{r:List Fr}{σ:Type}(st:σ→S)(I:σ→Prop)(μ:σ→Nat)(i0:σ)(h0:I i0)(hs:JW X (st i0) s)
  (round:∀ i,I i→JK X (.code c::.fin (fun s'=>∃ i',JW X (st i') s'∧I i'∧μ i'<μ i)::r) QA (st i)):JK X (.code (.loop c)::r) QA s:=JC.loop st I μ i0 h0 hs round
def qq_fin{P:S→Prop}{r:List Fr}(k:∀ s,P s→JK X r QA s):∀ e s,qq X (.fin P::r) QA e s→qq X r QA e s:=by
 intro e s h;cases e with
 |normal=>exact k s h
 |_=>exact h
def JK.cutP{r:List Fr}(P:S→Prop)(h:JK X (.code c::.fin P::r) QA s)(k:∀ s,P s→JK X r QA s):JK X (.code c::r) QA s:=JC.mono h (qq_fin k)
def q0m{r:List Fr}(h:JW X s' s)(k:JK X (.code c::r) QA s'):JK X (.code c::r) QA s:=n9 h k
def JK.cut{x y:Code}{r:List Fr}(st:σ→S)(P:σ→Prop)(h:JK X (.code x::.fin (fun s=>∃ q,JW X (st q) s∧P q)::.code y::r) QA s)(k:∀ q,P q→JK X (.code y::r) QA (st q)):JK X (.code x::.code y::r) QA s:=JK.cutP _ h fun _ ⟨q,hw,hp⟩=>q0m hw (k q hp)
def z2q{id:Nat}{y:Code}{r:List Fr}{σ τ:Type}(st:σ→S)(I:σ→Prop)(μ:σ→Nat)(i0:σ)(h0:I i0)(hs:JW X (st i0) s)(E:τ→S)(PE:τ→Prop)(k:∀ q,PE q→JK X (.code y::r) QA (E q))
  (round:∀ i,I i→JK X (.code c::.fin (fun s'=>∃ i',JW X (st i') s'∧I i'∧μ i'<μ i)::.blk id::.fin (fun s'=>∃ q,JW X (E q) s'∧PE q)::.code y::r) QA (st i)):JK X (.code (.loop c)::.blk id::.code y::r) QA s:=by
 have h1:JK X (.code (.loop c)::.blk id::.fin (fun s'=>∃ q,JW X (E q) s'∧PE q)::.code y::r) QA s:=JK.loop st I μ i0 h0 hs round;refine JC.mono h1 ?_;intro e s' h;have hk:=qq_fin (X:=X) (QA:=QA) (r:=.code y::r) (P:=fun s'=>∃ q,JW X (E q) s'∧PE q) fun s ⟨q,hw,hp⟩=>q0m hw (k q hp);cases e with
 |exit j=>
  simp only[qq,qBlock] at h ⊢;split at h
  ·rename_i e;rw[if_pos e];exact hk .normal _ h
  ·rename_i e;rw[if_neg e];exact hk (.exit j) _ h
 |normal=>exact hk .normal _ h
 |_=>exact h
def q05{id:Nat}{y:Code}{r:List Fr}(hX:XOK X)(c:Code)(st:S)(ho:rgn id c=ops)(n:Nat)(hn:(rgn id c).length=n)
  (h:JF X (rgn id c) (fun s'=>JW X st s') [] n [] s) (k:JK X (.code y::r) QA st):JK X (.code (.region id ⟨ops⟩ true)::.code y::r) QA s:=by
 subst ho;subst hn;exact q38 hX _ h.any fun s' hs=>q0m hs k
def q37{id j:Nat}{y:Code}{r:List Fr}(hX:XOK X)(c:Code)(st:S)(ho:rgn id c=ops)(n:Nat)(hn:(rgn id c).length=n)
  (h:JF X (rgn id c) (fun s'=>JW X st s') [] n [] s) (k:JK X (.code y::r) QA st):JK X (.code (.region id ⟨ops⟩ true)::.blk j::.code y::r) QA s:=by
 subst ho;subst hn;exact q38 hX _ h.any fun s' hs=>q0m hs k
def z79{id:Nat}{r:List Fr}(hX:XOK X)(c:Code)(ho:rgn id c=ops)(n:Nat)(hn:(rgn id c).length=n)
  (h:JF X (rgn id c) (fun s'=>JK X r QA s') [] n [] s):JK X (.code (.region id ⟨ops⟩ true)::r) QA s:=by
 subst ho;subst hn;exact q38 hX _ h.any fun _ h=>h
def JK.lenOf{c:Code}{r:List Fr}(d:Nat){t:Ty}{x:t.den}(h:lk s.L d=some (.val t x))(k:t.lens x→JK X (.code c::r) QA s):JK X (.code c::r) QA s:=JC.lenOf d h k
def JK.ghost{c:Code}{r:List Fr}(d:Nat)(eid:TypeId)(e:Ty)(hd:lk s.L d=some (.lf .nils))(k:JK X (.code c::r) QA ⟨(d,.lf (.osl s.nx))::s.L,(s.nx,.sl eid e [])::s.H,s.nx+1⟩):JK X (.code c::r) QA s:=JC.ghost d eid e hd k
def JK.frz{c:Code}{r:List Fr}{cs:List Prop}{s':S}(F K:List Nat)(h:Ox.frz F K s=some (cs,s'))(hc:allP cs)(k:JK X (.code c::r) QA s'):JK X (.code c::r) QA s:=JC.frz F K h hc k
def q9x{r:List Fr}(F K:List Nat)(h:Ox.frz F K s=some (cs,s'))(k:JK X (.code c::r) QA s')(hc:allP cs:=by exact zD):JK X (.code c::r) QA s:=JC.frz F K h hc k
def JK.fzL{r:List Fr}(F K:List Nat)(h:Ox.frz F K s=some (cs,s'))(k:JK X (.ops md all l::r) QA s')(hc:allP cs:=by exact zD):JK X (.ops md all l::r) QA s:=JL.frz F K h hc k
section
variable {L:List (Nat×AV)}{H:List (Nat×HO)}{nx d n:Nat}{rr:List Fr}{om:Operand}{c1:List Prop}{kt vt:Ty}{es:List (Ent kt vt)}{clk m since last:Nat}{seen seen':List Nat}{ty:TypeId}{ps:String}{af:Array Edge}{e:Ent kt vt}
def j5g(hu:opd L om=some (c1,.lf (.itr n)))(hl:lk H n=some (.iter m since seen last))(hm:lk H m=some (.map kt vt es clk))(hs:seen=seen'++[e.2.2])(hlast:last=clk)
  (he:e∈es) (hw:MWF es clk) (hd:ltB d X.n=true)
  (k:JK X (.ops true all l::rr) QA ⟨(d,.tup (.acons (.val kt e.1) (.acons (.val vt e.2.1) .anil)))::L,H,nx⟩) (hc:allP c1:=by exact zD):JK X (.ops true all (⟨some d,.entry om,ty,ps,af,none⟩::l)::rr) QA ⟨L,H,nx⟩:=j49 hu hl hm hs hlast he hw.nb hd hc k
def j5f(hu:opd L om=some (c1,.lf (.itr n)))(hl:lk H n=some (.iter m since seen last))(hm:lk H m=some (.map kt vt es clk))(hold:∀ e∈es,e.2.2<since)(hsl:since≤last)(hd:ltB d X.n=true)
  (k0:(∀ e∈es,e.2.2∈seen)→JK X (.ops true all l::rr) QA ⟨(d,.tup (.acons (.val .bool false) .anil))::L,H,nx⟩)
  (k1:∀ e∈es,e.2.2∉seen→JK X (.ops true all l::rr) QA ⟨(d,.tup (.acons (.val .bool true) (.acons (.val kt e.1) (.acons (.val vt e.2.1) .anil))))::L,updH H n (.iter m since (seen++[e.2.2]) clk),nx⟩) (hc:allP c1:=by exact zD) :
  JK X (.ops true all (⟨some d,.next om false,ty,ps,af,none⟩::l)::rr) QA ⟨L,H,nx⟩:=JL.mNext hu hl hm hold hsl hd hc k0 k1
end
section
variable {op:Op}{L:List (Nat×AV)}{H:List (Nat×HO)}{nx d:Nat}{cs:List Prop}{ty:TypeId}{ps:String}{af:Array Edge}{g:Bool}{gg:Nat×Bool}{rr:List Fr}{f:FuncId}{args r:AV}
def JK.sc(h:callA X.T op ⟨L,H,nx⟩=some (cs,f,args))(hf:Fn X.P f args (·=r))(hr:r.scal=true)(hd:ltB d X.n=true)(k:JK X (.ops md all l::rr) QA ⟨(d,r)::L,H,nx⟩)(hc:allP cs) :
  JK X (.ops md all (⟨some d,op,ty,ps,af,none⟩::l)::rr) QA ⟨L,H,nx⟩:=JL.s1 (L:=L) (H:=H) (nx:=nx) h hf hr (q4a hr) hd hc k
def JK.scg(hg:gOf all L (some gg)=some g)(h:callA X.T op ⟨L,H,nx⟩=some (cs,f,args))(hf:g=true→Fn X.P f args (·=r))(hr:r.scal=true)(hd:ltB d X.n=true)(k:JK X (.ops md all l::rr) QA ⟨(d,.gd g r)::L,H,nx⟩)(hc:g=true→allP cs) :
  JK X (.ops md all (⟨some d,op,ty,ps,af,some gg⟩::l)::rr) QA ⟨L,H,nx⟩:=JL.s1g (L:=L) (H:=H) (nx:=nx) hg h hf hr (q4a hr) hd hc k
def JK.cl{R:AV→Prop}(h:callA X.T op ⟨L,[],nx⟩=some (cs,f,args))(hf:Fn X.P f args R)(hd:ltB d X.n=true)(k:∀ r,R r→JK X (.ops true all l::rr) QA ⟨(d,r)::L,H,nx⟩)(hc:allP cs) :
  JK X (.ops true all (⟨some d,op,ty,ps,af,none⟩::l)::rr) QA ⟨L,H,nx⟩:=JL.c1 (L:=L) (H:=H) (nx:=nx) h hf hd hc k
def JK.ce(h:callA X.T op ⟨L,[],nx⟩=some (cs,f,args))(hf:Fn X.P f args (·=r))(hd:ltB d X.n=true)(k:JK X (.ops true all l::rr) QA ⟨(d,r)::L,H,nx⟩)(hc:allP cs) :
  JK X (.ops true all (⟨some d,op,ty,ps,af,none⟩::l)::rr) QA ⟨L,H,nx⟩:=JK.cl h hf hd (fun _ e=>e▸k) hc
def JK.gT(hg:gOf all L (some gg)=some g)(hgt:g=true){dd:Option Nat}(k:JK X (.ops true all (⟨dd,op,ty,ps,af,none⟩::l)::rr) QA ⟨L,H,nx⟩):JK X (.ops true all (⟨dd,op,ty,ps,af,some gg⟩::l)::rr) QA ⟨L,H,nx⟩:=JL.gT hg hgt k
def JK.gF(hg:gOf all L (some gg)=some g)(hgf:g=false)(hd:ltB d X.n=true)(k:JK X (.ops true all l::rr) QA ⟨(d,.undef)::L,H,nx⟩):JK X (.ops true all (⟨some d,op,ty,ps,af,some gg⟩::l)::rr) QA ⟨L,H,nx⟩:=JL.gF (L:=L) (H:=H) (nx:=nx) hg hgf hd k
end
variable {a':Act}
abbrev Ctx.at(X:Ctx)(M0:Mem)(n:Nat)(rd:Option Nat):Ctx:=⟨X.P,X.T,X.ET,X.MT,X.E,M0,n,rd,X.up,X.dp⟩
def HO.ok_at{M0:Mem}{n:Nat}{rd:Option Nat}{l:Nat}{o:HO}(h:o.ok X M ρ l w):o.ok (X.at M0 n rd) M ρ l w:=by cases o<;>exact h
def HO.of_at{M0:Mem}{n:Nat}{rd:Option Nat}{l:Nat}{o:HO}(h:o.ok (X.at M0 n rd) M ρ l w):o.ok X M ρ l w:=by cases o<;>exact h
def SAT.at(h:SAT X M ρ s w){M0:Mem}(n:Nat)(rd:Option Nat)(L:List (Nat×AV))(h1:∀ b o,M0 b=some o→M b=some o)(h2:∀ b,b<X.E.heap.size→M b=M0 b):SAT (X.at M0 n rd) M ρ ⟨L,s.H,s.nx⟩ w:=⟨h.below,h1,h2,h.mem,fun l o hl=>let ⟨a,b,c⟩:=h.own l o hl;⟨a,b,HO.ok_at c⟩,h.apart,h.notM⟩
def SAT.since(h0:SAT X M ρ s w){M':Mem}{ρ':Env}{n:Nat}{rd:Option Nat}(h:SAT (X.at M n rd) M' ρ' s' w')(L:List (Nat×AV)):SAT X M' ρ' ⟨L,s'.H,s'.nx⟩ w':=⟨h.below,fun b o hb=>h.msub b o (h0.msub b o hb),fun b hb=>(h.mnew b hb).trans (h0.mnew b hb),h.mem,fun l o hl=>let ⟨a,b,c⟩:=h.own l o hl;⟨a,b,HO.of_at c⟩,h.apart,h.notM⟩
def SAT.regs(h:SAT X M ρ s w)(L:List (Nat×AV)):SAT X M ρ ⟨L,s.H,s.nx⟩ w:=⟨h.below,h.msub,h.mnew,h.mem,h.own,h.apart,h.notM⟩
def hasY(i n lab:Nat)(H:List (Nat×HO)):Prop:=∃ lf Lf,lk H lf=some (.fr i Lf)∧lk Lf n=some (.lf (.yld lab))
def hasY.blk{i n lab:Nat}(hy:hasY i n lab s.H)(h:SAT X M ρ s w):X.up i n=.func (.yield (ρ.blk lab)) #[] #[]∧lab<s.nx:=by obtain⟨lf,Lf,h1,h2⟩:=hy;obtain⟨_,e2,e3⟩:=h.own lf _ h1;simp only[HO.ok] at e3;have h3:=e3.2 n _ h2;rw[y7] at h3;simp only[Leaf.at,yya] at h3;exact⟨h3.1.symm,e2 _ (p6 h2)⟩
def FO(X:Ctx)(f:FuncId)(args:AV)(H:List (Nat×HO))(nx:Nat)(Q:AV→List (Nat×HO)→Nat→Prop):Prop:=∀ M0 M ρ w vs,SAT (X.at M0 0 none) M ρ ⟨[],H,nx⟩ w→args.bd nx→args.rvs M ρ vs→Calls X.P f vs.toArray w fun e w'=>∃ v r H' nx' M' ρ',e=.returned v∧SAT (X.at M 0 none) M' ρ' ⟨[],H',nx'⟩ w'∧r.bd nx'∧r.rv M' ρ' v∧Q r H' nx'
def q56(h:JW X s' s)(k:JL X true all QA l s'):JL X true all QA l s:=fun M ρ a w h1 h2=>by obtain⟨ρ',e1,e2⟩:=h M ρ a w h1 h2;exact k M ρ' a w e1 e2
variable {rr:List Fr}
section
variable {kt vt:Ty}{t kid vid:TypeId}{es:List (Ent kt vt)}{ms:Array MapEntry}{clk b:Nat}{x:kt.den}{cx:List Value}
def mHas(es:List (Ent kt vt))(x:kt.den):Bool:=(mIdx es x).isSome
def z22(hT:MapT P kt vt t kid vid)(hb:w.heap[b]?=some (.map ms clk))(hm:MapRep M kt vt es ms.toList)(hx:Rep M kt x cx) :
  ∃ vc,Rep M vt (mGet es x vt.dflt) vc∧(Instr.lookup t (.map (some b)) (kt.wrap cx) true).run P w=.ok (.tuple #[vt.wrap vc,.bool (mHas es x)]) w:=by
 have hf:=q5r hT.key hx w es ms.toList hm;unfold Instr.lookup;simp only[yye,run_underlying hT.under,yyb,MapKept.run_getObj_map hb,yyf,q1q hT.key hx];unfold mGet mHas;cases hi:mIdx es x with
 |none=>rw[hi] at hf;refine⟨vt.zc,w7 M vt,?_⟩;simp[hf,z02 hT.val]
 |some j=>rw[hi] at hf;obtain⟨e,h1,h2⟩:=hf;obtain⟨e',h3,⟨_,⟨vc,h4,h5⟩,_⟩⟩:=hm.get h1;refine⟨vc,by simp only[h3,yxg,Option.getD_some];exact h4,?_⟩;simp[h2,h5]
def z9i(hT:MapT X.P kt vt t kid vid)(hu:opd L om=some (c1,.lf (.mp n)))(hl:lk H n=some (.map kt vt es clk))(hv:opd L ok=some (c2,.val kt x))(hd:ltB d X.n=true)(hc:allP (c1++c2))
  (k:JL X true all QA l ⟨(d,.tup (.acons (.val vt (mGet es x vt.dflt)) (.acons (.val .bool (mHas es x)) .anil)))::L,H,nx⟩):JL X true all QA (⟨some d,.lookup t om ok true,ty,ps,af,none⟩::l) ⟨L,H,nx⟩:=by
 rw[q8] at hc;refine q3n rfl rfl (y6 hd) (v:=.tup (.acons (.val vt (mGet es x vt.dflt)) (.acons (.val .bool (mHas es x)) .anil))) (s':=⟨L,H,nx⟩) (fun M ρ a w h1 h2=>?_) k;obtain⟨ms,hb,hm⟩:=q1e h1 hl;obtain⟨cx,hx,hxe⟩:=o8 hv hc.2 h2;obtain⟨vc,r1,r2⟩:=z22 hT hb hm hx;refine⟨ρ,w,_,?_,Env.upTo.refl _ _,yyn _,rfl,h1,⟨trivial,trivial,trivial⟩,.inl ⟨.tuple #[vt.wrap vc,.bool (mHas es x)],rfl,?_⟩⟩
 ·simp only[execOp,q3d hu hc.1 h2,hxe,yye,r2,yyb,yyf]
 ·simp only[AV.rv,AV.rvs];exact⟨[vt.wrap vc,.bool (mHas es x)],⟨vt.wrap vc,[.bool (mHas es x)],⟨vc,r1,rfl⟩,⟨.bool (mHas es x),[],⟨[.bool (mHas es x)],by simp only[Rep],rfl⟩,rfl,rfl⟩,rfl⟩,rfl⟩
def z9l(hT:MapT X.P kt vt t kid vid)(hu:opd L om=some (c1,.lf (.mp n)))(hl:lk H n=some (.map kt vt es clk))(hv:opd L ok=some (c2,.val kt x))(hd:ltB d X.n=true)
  (k:JK X (.ops true all l::rr) QA ⟨(d,.tup (.acons (.val vt (mGet es x vt.dflt)) (.acons (.val .bool (mHas es x)) .anil)))::L,H,nx⟩) (hc:allP (c1++c2)):JK X (.ops true all (⟨some d,.lookup t om ok true,ty,ps,af,none⟩::l)::rr) QA ⟨L,H,nx⟩:=
 z9i hT hu hl hv hd hc k
end
variable {ty2:TypeId}{ps2:String}{af2:Array Edge}
def funB(P:Program)(t:TypeId):Bool:=match P.info? t with
 |some i=>(match i.zero with|some .nilFunc=>true|_=>false)&&(i.size==1)&&(match P.underlying t with|some (.func ..)=>true|_=>false)
 |none=>false
structure FunT(P:Program)(t:TypeId):Prop where
 zero:∀ w,(zeroValue t).run P w=.ok .nilFunc w
 size:∀ w,(Go.sizeOf t).run P w=.ok 1 w
 agg:∀ w,(isAgg t).run P w=.ok false w
def FunT.of(h:funB P t=true):FunT P t:=by
 unfold funB at h;cases hi:P.info? t with
 |none=>rw[hi] at h;cases h
 |some i=>
  rw[hi] at h;simp only[yyd,beq_iff_eq] at h;obtain⟨⟨h1,h2⟩,h3⟩:=h;refine⟨fun w=>?_,fun w=>?_,fun w=>?_⟩
  ·split at h1
   ·rename_i hz;simp[zeroValue,typeInfo,hi,hz]
   ·cases h1
  ·simp[Go.sizeOf,typeInfo,hi,h2]
  ·split at h3
   ·rename_i hu;simp[isAgg,run_underlying hu]
   ·cases h3
def AV.fnB:AV→Bool
 |.fn ..=>true
 |_=>false
def fnB_rv(h:v.fnB=true){u:Value}(hu:v.rv M ρ u):∃ f fs ks,u=.func (.func f) fs ks:=by
 cases v with
 |fn f x y=>simp only[AV.rv] at hu;obtain⟨fs,ks,_,_,rfl⟩:=hu;exact⟨_,_,_,rfl⟩
 |_=>simp[AV.fnB] at h
def z4v(a:Array α)(x:α)(f:α→α):(a.push x).modify a.size f=a.push (f x):=by
 apply Array.ext
 ·simp
 ·intro i h1 h2;rw[Array.getElem_modify];have hi:i<a.size+1:=by simpa using h2
  by_cases e:a.size=i
  ·subst e;simp
  ·rw[if_neg e,Array.getElem_push_lt (by omega),Array.getElem_push_lt (by omega)]
def JL.layF{x:Operand}(hF:funB X.P t=true)(hu:opd (del L d) x=some (c1,v))(hv:v.fnB=true)(hc:allP c1)(hd:ltB d X.n=true)(k:JL X true all QA l ⟨(d,.pfn v)::L,H,nx⟩) :
  JL X true all QA (⟨some d,.alloc t,ty,ps,af,none⟩::⟨none,.store t (.tmp d) x,ty2,ps2,af2,none⟩::l) ⟨L,H,nx⟩:=by
 have hf:=FunT.of hF;intro M ρ a w h1 h2
 let p:Value:=.pointer (some ⟨w.heap.size,0,none⟩)
 let w1:World:=w.alloc (.cells #[.nilFunc] t)
 have hE:=h1.below.size;have hdn:d<X.n:=y6 hd;have hsz:=h2.size;have hr1:(execOp a.eval ⟨some d,.alloc t,ty,ps,af,none⟩).run X.P w=.ok (.value p) w1:=by simp only[execOp,Instr.alloc,yye,hf.zero,yyb,newVar,newRow,run_newObj,yyf];rfl
 have hreg:REG X M ρ ⟨del L d,H,nx⟩ (a.put (some d) p):=⟨by simp[Act.put,hsz],h2.defers,fun e y he=>by
  obtain⟨e1,e2⟩:=z0i he;have:=h2.reg e y e2;refine⟨this.1,?_⟩;have e3:((a.put (some d) p).tmps.getD e Go.undef)=a.tmps.getD e Go.undef:=by simp only[Act.put,yyx];rw[yx4 (Ne.symm e1)]
  rw[e3];exact this.2⟩
 obtain⟨hvb,hvr⟩:=z6 (s:=⟨del L d,H,nx⟩) hu hc hreg;obtain⟨f,fs,ks,hfv⟩:=fnB_rv hv hvr
 let w2:World:=w.alloc (.cells #[(a.put (some d) p).eval x] t)
 have hnew:w1.heap[w.heap.size]?=some (.cells #[.nilFunc] t (0,0)):=World.alloc_heap_new w _;have hpd:(a.put (some d) p).eval (.tmp d)=p:=by simp only[Act.eval,Act.put,yyx];rw[yx6 (by omega)];rfl
 have hone:∀ y∈[(a.put (some d) p).eval x],y.oneCell'=true:=fun y hy=>by rw[yyl.1 hy,hfv];rfl
 have hst:=run_storeCells_at X.P w.heap.size 0 t [(a.put (some d) p).eval x] 0 #[.nilFunc] w1 hnew (by simp) hone;have hcells:((a.put (some d) p).eval x).cells=#[(a.put (some d) p).eval x]:=by rw[hfv];rfl
 have hset:w1.setRow w.heap.size (([Value.nilFunc].take (0+0)++[(a.put (some d) p).eval x]++[Value.nilFunc].drop (0+0+1)).toArray)=w2:=by show({heap:=(w.heap.push (.cells #[.nilFunc] t)).modify w.heap.size _,tape:=w.tape,drawn:=w.drawn,os:=w.os,output:=w.output}:World)={heap:=w.heap.push _,tape:=w.tape,drawn:=w.drawn,os:=w.os,output:=w.output};rw[z4v];rfl
 have hr2:(execOp (a.put (some d) p).eval ⟨none,.store t (.tmp d) x,ty2,ps2,af2,none⟩).run X.P w1=.ok .skip w2:=by
  have h3:(storeVar t ⟨w.heap.size,0,none⟩ ((a.put (some d) p).eval x)).run X.P w1=.ok () w2:=by unfold storeVar;simp only[yye,hf.size,yyb,hcells];simp only[List.size_toArray,List.length_cons,List.length_nil,ne_eq,not_true_eq_false,if_false,Array.toList];rw[hst];exact congrArg (Result.ok ()) hset
  simp only[execOp,Instr.storeAt,hpd,p,Instr.sureAddr,yye,yyf,yyb];rw[h3];rfl
 let M':Mem:=fun b=>if b=w.heap.size then some (.cells #[(a.put (some d) p).eval x] t (0,0)) else M b
 have hfull:∀ b o,M b=some o→M' b=some o:=fun b o hb=>by show(if b=w.heap.size then _ else _)=_;rw[if_neg (by have:=(yym.1 (h1.mem _ _ hb)).1;omega)];exact hb
 have hM:Mem.le M M':=fun b c ty fz hb=>hfull b _ hb;have hat:w2.heap[w.heap.size]?=some (.cells #[(a.put (some d) p).eval x] t (0,0)):=World.alloc_heap_new w _;have hbl:Below w.heap.size w w2:=(Below.refl _ _).alloc (yyn _) _;have hs2:SAT X M' ρ ⟨L,H,nx⟩ w2:=h1.ext hbl hM (fun b o hb=>by
  by_cases e:b=w.heap.size
  ·subst e;have:some (Obj.cells #[(a.put (some d) p).eval x] t (0,0))=some o:=by have hb':(if w.heap.size=w.heap.size then some (Obj.cells #[(a.put (some d) p).eval x] t (0,0)) else M w.heap.size)=some o:=hb;rwa[if_pos rfl] at hb'
   rw[← this];exact hat
  ·have hb':(if b=w.heap.size then some (Obj.cells #[(a.put (some d) p).eval x] t (0,0)) else M b)=some o:=hb;rw[if_neg e] at hb';have hlt:=(yym.1 (h1.mem b o hb')).1;rw[hbl.block b hlt];exact h1.mem b o hb') (fun b hb=>by
  show(if b=w.heap.size then _ else _)=_;rw[if_neg (by omega)])
 have hreg2:REG X M' ρ ⟨(d,.pfn v)::L,H,nx⟩ ((a.put (some d) p).put none Go.undef):=by
  refine⟨by simp[Act.put,hsz],let ⟨Ds,e1,e2,e3,e4⟩:=h2.defers;⟨Ds,e1,e2,fun D hD=>⟨(e3 D hD).1,hfull _ _ (e3 D hD).2⟩,e4⟩,fun e y he=>?_⟩;simp only[lk] at he;by_cases hde:d=e
  ·subst hde;rw[if_pos rfl] at he;injection he with he;subst he
   refine⟨hvb,?_⟩;simp only[AV.rv];refine⟨w.heap.size,_,t,(0,0),?_,?_,w9 hM (Env.upTo.refl ρ nx) hvb hvr⟩
   ·show(a.put (some d) p).tmps.getD d Go.undef=p;simp only[Act.put,yyx];rw[yx6 (by omega)];rfl
   ·show(if w.heap.size=w.heap.size then _ else _)=_;rw[if_pos rfl]
  ·rw[if_neg hde] at he;have:=h2.reg e y he;refine⟨this.1,?_⟩;have e3:(((a.put (some d) p).put none Go.undef).tmps.getD e Go.undef)=a.tmps.getD e Go.undef:=by simp only[Act.put,yyx];rw[yx4 hde]
   rw[e3];exact w9 hM (Env.upTo.refl ρ nx) this.1 this.2
 refine j7 (w6 rfl) (v7 rfl hr1 (j7 (w6 rfl) (q3q rfl hr2 ?_)));exact k M' ρ _ w2 (hs2.regs _) hreg2
def j2m{x:Operand}(hF:funB X.P t=true)(hu:opd s.L x=some (c1,.pfn v))(hc:allP c1):∀ {M ρ a w0} {d:Option Nat} {gu:Option (Nat×Bool)},SAT X M ρ s w0→REG X M ρ s a→v.bd s.nx∧∃ z,v.rv M ρ z∧∀ w1,Below w0.heap.size w0 w1→(execOp a.eval ⟨d,.load t x,ty,ps,af,gu⟩).run X.P w1=.ok (.value z) w1:=by
 have hf:=FunT.of hF;intro M ρ a w0 d gu h1 h2;obtain⟨hb,hr⟩:=z6 hu hc h2;simp only[AV.rv] at hr;obtain⟨b,fv,ty',fz,e1,e2,e3⟩:=hr;refine⟨hb,fv,e3,fun w1 hw=>?_⟩;have hm:=h1.mem b _ e2;have hlt:=(yym.1 hm).1;have hm1:w1.heap[b]?=some (.cells #[fv] ty' fz):=by rw[hw.block b hlt];exact hm
 have h3:(loadVar t ⟨b,0,none⟩).run X.P w1=.ok fv w1:=by unfold loadVar;simp only[yye,hf.agg,yyb];simp[u4 hm1]
 simp only[execOp,e1,Instr.loadAt,Instr.sureAddr,yye,yyf,yyb,h3]
def JL.ldF{x:Operand}(hF:funB X.P t=true)(hu:opd s.L x=some (c1,.pfn v))(hc:allP c1)(hd:ltB d X.n=true)(k:JL X md all QA l ⟨(d,v)::s.L,s.H,s.nx⟩):JL X md all QA (⟨some d,.load t x,ty,ps,af,none⟩::l) s:=by
 cases md
 ·intro M ρ a w0 h1 h2;obtain⟨hb,z,hz,hr⟩:=j2m (d:=some d) (gu:=none) (ty:=ty) (ps:=ps) (af:=af) hF hu hc h1 h2;simp only[wpQuiet,Region.wanted,if_true];refine⟨z,fun w hw=>?_,k M ρ _ w0 (h1.regs _) (h2.putO (d:=some d) (dstOk.spec (y6 hd)) hb hz)⟩;unfold Oper.quietAt;rw[hr w hw];exact⟨rfl,rfl⟩
 ·intro M ρ a w h1 h2;obtain⟨hb,z,hz,hr⟩:=j2m (d:=some d) (gu:=none) (ty:=ty) (ps:=ps) (af:=af) hF hu hc h1 h2;exact j7 (w6 rfl) (v7 rfl (hr w (Below.refl _ _)) (k M ρ _ w (h1.regs _) (h2.putO (d:=some d) (dstOk.spec (y6 hd)) hb hz)))
def JK.layF{t:TypeId}{x:Operand}{v:AV}(hF:funB X.P t=true)(hu:opd (del L d) x=some (c1,v))(hv:v.fnB=true)(hd:ltB d X.n=true)(hc:allP c1)(k:JK X (.ops true all l::rr) QA ⟨(d,.pfn v)::L,H,nx⟩) :
  JK X (.ops true all (⟨some d,.alloc t,ty,ps,af,none⟩::⟨none,.store t (.tmp d) x,ty2,ps2,af2,none⟩::l)::rr) QA ⟨L,H,nx⟩:=JL.layF hF hu hv hc hd k
def JK.ldF{t:TypeId}{x:Operand}{v:AV}(hF:funB X.P t=true)(hu:opd L x=some (c1,.pfn v))(hd:ltB d X.n=true)(hc:allP c1)(k:JK X (.ops md all l::rr) QA ⟨(d,v)::L,H,nx⟩):JK X (.ops md all (⟨some d,.load t x,ty,ps,af,none⟩::l)::rr) QA ⟨L,H,nx⟩:=JL.ldF (s:=⟨L,H,nx⟩) hF hu hc hd k
section
variable {kt:Ty}{t:TypeId}{om ok:Operand}{c2:List Prop}{x y:kt.den}{dd:Nat}{g:Bool}{gg:Nat×Bool}
end
end Ox
