/- Texts of the proof of the statement that the last text proves. -/
import Derived.Test.YtjecebccchhmhaaGreatDoorPta
import Derived.RangeFuncNested
import Derived.DeepKeys3
import Derived.MapKept
import Derived.ChangeMaps4
import Derived.Maps.RangeRun
set_option linter.all false
set_option maxHeartbeats 2000000
variable{w1:Go.World}{i j lab last lb m since:Nat}{assign az bd body c:Go.Code}{seen:List Nat}{ks vs:List Go.Value}{pe:Option Go.Code}{P:Go.Program}{f:Go.FuncId}{oi oj:Go.Oper}{p:Nat×Go.Oper}{ops:List Go.Oper}{fn:Go.Func}{α:Type}{tt:Go.TypeId}{u:Nat→Go.Value}
namespace Ox
open Go Go.RowKit
variable {X:Ctx}{s:S}{M:Mem}{ρ:Env}{a:Act}{w w':World}{QA:Exit→S→Prop}{all l:List Oper}{md:Bool}{o:Oper}
variable{Mx:Mem}
def q3v(h1:SAT X M ρ s w)(hx:Seen ρ s M Mx w):∀ {v:AV} {R:Type} {k:List Prop→AV→Option R} {r:R},capK s.H v k=some r →
  ∃ cs y,k cs y=some r∧y.bd 0∧(allP cs→(∀ u,v.rv M ρ u→y.rv Mx ρ u)∧(∀ us,v.rvs M ρ us→y.rvs Mx ρ us)):=by
 intro v;induction v with
 |val t x=>intro R k r h;simp only[capK] at h;refine⟨_,_,h,trivial,fun _=>⟨fun u hu=>?_,fun us hu=>by simp only[AV.rvs] at hu⟩⟩;simp only[AV.rv] at hu ⊢;obtain⟨cs,k1,k2⟩:=hu;exact⟨cs,k1.mono hx.le,k2⟩
 |fn f x y ihx ihy=>intro R k r h;simp only[capK] at h;obtain⟨c1,x',h,b1,e1⟩:=ihx h;obtain⟨c2,y',h,b2,e2⟩:=ihy h;refine⟨_,_,h,⟨b1,b2⟩,fun hc=>?_⟩;rw[z7] at hc;refine⟨fun u hu=>?_,fun us hu=>by simp only[AV.rvs] at hu⟩;simp only[AV.rv] at hu ⊢;obtain⟨fs,ks,k1,k2,k3⟩:=hu;exact⟨fs,ks,(e1 hc.1).2 _ k1,(e2 hc.2).2 _ k2,k3⟩
 |anil=>intro R k r h;simp only[capK] at h;exact⟨_,_,h,trivial,fun _=>⟨fun u hu=>by simp only[AV.rv] at hu,fun us hu=>by simp only[AV.rvs] at hu ⊢;exact hu⟩⟩
 |acons x y ihx ihy=>intro R k r h;simp only[capK] at h;obtain⟨c1,x',h,b1,e1⟩:=ihx h;obtain⟨c2,y',h,b2,e2⟩:=ihy h;refine⟨_,_,h,⟨b1,b2⟩,fun hc=>?_⟩;rw[z7] at hc;refine⟨fun u hu=>by simp only[AV.rv] at hu,fun us hu=>?_⟩;simp only[AV.rvs] at hu ⊢;obtain⟨v,r',k1,k2,k3⟩:=hu;exact⟨v,r',(e1 hc.1).1 _ k1,(e2 hc.2).2 _ k2,k3⟩
 |raw g=>intro R k r h;simp[capK] at h
 |pfn g ih=>intro R k r h;simp only[capK] at h;obtain⟨c1,g',h,b1,e1⟩:=ih h;refine⟨_,_,h,b1,fun hc=>⟨fun u hu=>?_,fun us hu=>by simp only[AV.rvs] at hu⟩⟩;simp only[AV.rv] at hu ⊢;obtain⟨b,fv,ty,fz,k1,k2,k3⟩:=hu;exact⟨b,fv,ty,fz,k1,hx.le _ _ _ _ k2,(e1 hc).1 _ k3⟩
 |lf x=>
  intro R k r h;cases x with
  |optr l p=>
   simp only[capK] at h;split at h
   ·split at h
    ·rename_i t _;obtain⟨cs,y,hk,hy⟩:=q1o h1 hx 8 h;refine⟨_,_,hk,trivial,fun hc=>⟨fun u hu=>?_,fun us hu=>by simp only[AV.rvs] at hu⟩⟩;simp only[AV.rv];exact(hy hc).1 u hu
    ·cases h
   ·cases h
  |osl l=>
   simp only[capK] at h;split at h
   ·rename_i eid e xs hl;obtain⟨cs,y,hk,hy⟩:=q1o (R:=List Prop×List e.den) h1 hx 8 (t:=.slice e) (v:=.lf (.osl l)) (k:=fun cs xs=>some (cs,xs)) (r:=([],xs)) (by simp[toK,hl,castK]);simp only[yya,yyn] at hk;obtain⟨rfl,rfl⟩:=hk;refine⟨_,_,h,trivial,fun _=>⟨fun u hu=>?_,fun us hu=>by simp only[AV.rvs] at hu⟩⟩;simp only[AV.rv];exact(hy trivial).1 u hu
   ·cases h
  |_=>simp[capK] at h
 |_=>intro R k r h;simp[capK] at h
def z7k(h1:SAT X M ρ s w)(hx:Seen ρ s M Mx w)(h2:REG X M ρ s a):∀ {os:List Operand} {ts:List TypeId} {R:Type} {k:List Prop→AV→Option R} {r:R},argK X.T s.H s.L os ts k=some r →
  ∃ cs y,k cs y=some r∧y.bd 0∧(allP cs→y.rvs Mx ρ (os.map a.eval)):=by
 intro os;induction os with
 |nil=>
  intro ts R k r h;cases ts with
  |nil=>simp only[argK] at h;exact⟨_,_,h,trivial,fun _=>by simp[AV.rvs]⟩
  |cons t ts=>simp[argK] at h
 |cons o os ih=>
  intro ts R k r h;cases ts with
  |nil=>simp[argK] at h
  |cons t ts=>
   simp only[argK,yyo] at h;obtain⟨v,hv,h⟩:=h;split at h
   ·rename_i ty _;obtain⟨c,x,h,ha⟩:=q1o h1 hx 8 h;obtain⟨cs,az,h,hb,hd⟩:=ih h;refine⟨_,_,h,⟨trivial,hb⟩,fun hc=>?_⟩;simp only[z7] at hc;have ev:=z5 hv hc.1 h2;simp only[AV.rvs,yy0];exact⟨_,_,by simp only[AV.rv];exact(ha hc.2.1).1 _ ev.2,hd hc.2.2,rfl⟩
   ·obtain⟨c,x,h,he,ha⟩:=q3v h1 hx h;obtain⟨cs,az,h,hb,hd⟩:=ih h;refine⟨_,_,h,⟨he,hb⟩,fun hc=>?_⟩;simp only[z7] at hc;have ev:=z5 hv hc.1 h2;simp only[AV.rvs,yy0];exact⟨_,_,(ha hc.2.1).1 _ ev.2,hd hc.2.2,rfl⟩
def q61{x y:AV}{us vs:List Value}(hx:x.rvs Mx ρ us)(hy:y.rvs Mx ρ vs):(apA x y).rvs Mx ρ (us++vs):=by
 induction x generalizing us with
 |acons p q _ ihq=>simp only[AV.rvs] at hx;obtain⟨v,r,k1,k2,rfl⟩:=hx;simp only[apA,AV.rvs,List.cons_append];exact⟨v,r++vs,k1,ihq k2,rfl⟩
 |anil=>simp only[AV.rvs] at hx;subst hx;simpa[apA] using hy
 |_=>simp only[AV.rvs] at hx
def q9r{x y:AV}{n:Nat}(hx:x.bd n)(hy:y.bd n):(apA x y).bd n:=by
 induction x with
 |acons p q _ ihq=>exact⟨hx.1,ihq hx.2⟩
 |_=>exact hy
def f7(h1:SAT X M ρ s w)(hx:Seen ρ s M Mx w)(h2:REG X M ρ s a){cs:List Prop}{args:AV}(h:callA X.T o.op s=some (cs,f,args))(hc:allP cs) :
  args.bd 0∧∃ vs,args.rvs Mx ρ vs∧∀ w',(execOp a.eval o).run X.P w'=(callFunc f vs.toArray).run X.P w':=by
 obtain⟨dst,op,ty,pos,after,guard⟩:=o;simp only at h;unfold callA at h;split at h
 ·rename_i fo args' tys;simp only[yyo] at h;obtain⟨u,hu,h⟩:=h;split at h
  ·rename_i f' fst cap hb;obtain⟨c1,fst',h,b1,e1⟩:=q3v h1 hx h;obtain⟨c2,az,h,b2,e2⟩:=z7k h1 hx h2 h;obtain⟨c3,cap',h,b3,e3⟩:=q3v h1 hx h;simp only[yya,yyn] at h;obtain⟨rfl,rfl,rfl⟩:=h;simp only[z7] at hc;have eu:=(z5 hu hc.1 h2).2;rw[hb] at eu;simp only[AV.rv] at eu;obtain⟨fs,ks,k1,k2,k3⟩:=eu;refine⟨q9r b1 (q9r b2 b3),_,q61 ((e1 hc.2.1).2 _ k1) (q61 (e2 hc.2.2.1) ((e3 hc.2.2.2).2 _ k2)),fun w'=>?_⟩;have ha:Array.map a.eval args'=(List.map a.eval args'.toList).toArray:=by rw[← yxc]
   simp only[execOp,resolve,k3,Deferred.ofValue,yye,yyf,yyb,invoke,ha];simp
  ·cases h
 ·cases h
variable{T:List (Nat×Ty)}
def q00{o:Op}{r:List Prop×FuncId×AV}(h:callA T o s=some r):notDef o=true:=by cases o<;>first|rfl|(simp[callA] at h)
def q5r(h1:SAT X M ρ s w):Seen ρ s M (fun b=>w.heap[b]?) w:=⟨fun b _ _ _ hb=>h1.mem b _ hb,fun _ _ _ _ _=>rfl⟩
def q5q(hw:Below w.heap.size w w1):MemIn (fun b=>w.heap[b]?) w1:=fun b o hb=>by rw[hw.block b (yyi.1 hb).1];exact hb
def q6b{cs:List Prop}{args r:AV}(h:callA X.T o.op s=some (cs,f,args))(hf:Fn X.P f args (·=r))(hr:r.scal=true)(hc:allP cs)(h1:SAT X M ρ s w)(h2:REG X M ρ s a)(hw:Below w.heap.size w w1) :
  ∃ az,(execOp a.eval o).run X.P w1=.ok (.enter f az) w1∧Calls X.P f az w1 (fun e w'=>e=.returned r.toV∧Below w.heap.size w w'):=by
 obtain⟨hb,vs,hd,ha⟩:=f7 h1 (q5r h1) h2 h hc;refine⟨vs.toArray,by rw[ha,hf.call],(hf.run _ ρ w1 vs (q5q hw) hd hb).mono ?_⟩;rintro e w' ⟨v,r',M',rfl,rfl,_,hv,he,_⟩;exact⟨by rw[(x5 hr).1 hv],hw.trans (he.mono hw.size)⟩
def JL.callS{cs:List Prop}{args r:AV}(hg:o.guard=none)(h:callA X.T o.op s=some (cs,f,args))(hf:Fn X.P f args (·=r))(hr:r.scal=true)(ha:r.bd 0)(hd:dstOk X.n o.dst)(hc:allP cs)
  (k:JL X md all QA l (putS o.dst r s)):JL X md all QA (o::l) s:=by
 cases md
 ·intro M ρ a w0 h1 h2;simp only[wpQuiet,Region.wanted,hg,if_true];refine⟨r.toV,fun w hw=>?_,k M ρ _ w0 (z8 h1) (h2.putO hd.spec (j3 (yyw _) ha) ((x5 hr).2 rfl))⟩;obtain⟨az,e1,e2⟩:=q6b h hf hr hc h1 h2 hw;unfold Oper.quietAt;rw[e1];exact⟨rfl,e2⟩
 ·intro M ρ a w h1 h2;obtain⟨az,e1,e2⟩:=q6b h hf hr hc h1 h2 (Below.refl w.heap.size w);refine z9 (j6 hg) (x8 (q00 h) e1 e2 ?_);rintro e w' ⟨rfl,hb⟩;exact⟨_,rfl,k M ρ _ w' (z8 (h1.later hb)) (h2.putO hd.spec (j3 (yyw _) ha) ((x5 hr).2 rfl))⟩
def JL.callG{g:Bool}{cs:List Prop}{args r:AV}(hg:gOf all s.L o.guard=some g)(h:callA X.T o.op s=some (cs,f,args))(hf:g=true→Fn X.P f args (·=r))(hr:r.scal=true)(ha:r.bd 0)(hd:dstOk X.n o.dst)(hc:g=true→allP cs)
  (k:JL X md all QA l (putS o.dst (.gd g r) s)):JL X md all QA (o::l) s:=by
 cases md
 ·intro M ρ a w0 h1 h2;have hw:=u7 hg h2;simp only[wpQuiet,hw];cases g with
  |true=>simp only[if_true];refine⟨r.toV,fun w hw=>?_,k M ρ _ w0 (z8 h1) (h2.putO hd.spec (by exact fun _=>j3 (yyw _) ha) (by simp only[AV.rv];exact⟨fun _=>(x5 hr).2 rfl,fun h=>(by cases h)⟩))⟩;obtain⟨az,e1,e2⟩:=q6b h (hf rfl) hr (hc rfl) h1 h2 hw;unfold Oper.quietAt;rw[e1];exact⟨rfl,e2⟩
  |false=>simp only[yys,if_false];exact k M ρ _ w0 (z8 h1) (h2.putO hd.spec (by exact fun h=>(by cases h)) (by simp[AV.rv]))
 ·intro M ρ a w h1 h2;have hw:=u7 hg h2;cases g with
  |true=>obtain⟨az,e1,e2⟩:=q6b h (hf rfl) hr (hc rfl) h1 h2 (Below.refl w.heap.size w);refine z9 hw (x8 (q00 h) e1 e2 ?_);rintro e w' ⟨rfl,hb⟩;exact⟨_,rfl,k M ρ _ w' (z8 (h1.later hb)) (h2.putO hd.spec (by exact fun _=>j3 (yyw _) ha) (by simp only[AV.rv];exact⟨fun _=>(x5 hr).2 rfl,fun h=>(by cases h)⟩))⟩
  |false=>refine o7 hw ?_;exact k M ρ _ w (z8 h1) (h2.putO hd.spec (by exact fun h=>(by cases h)) (by simp[AV.rv]))
def AV.pure:AV→Bool
 |.val _ _|.anil|.undef|.full _ _=>true
 |.lf .nils|.lf .nilp=>true
 |.lf _=>false
 |.mix a b|.acons a b|.fn _ a b=>a.pure&&b.pure
 |.tup a|.pfn a=>a.pure
 |.raw _=>false
 |.gd _ a=>a.pure
def SAT.ext(h:SAT X M ρ s w)(hl:Below w.heap.size w w'){M':Mem}(hm:M.le M')(hd:MemIn M' w')(ha:∀ b,b<w.heap.size→M' b=M b):SAT X M' ρ s w':=by
 have h':=h.later hl;have hE:=h.below.size;refine⟨h'.below,fun b o hb=>by rw[ha b (yyi.1 (h.mem b o (h.msub b o hb))).1];exact h.msub b o hb,fun b hb=>(ha b (by omega)).trans (h.mnew b hb),hd,?_,h.apart,?_⟩
 ·intro k o hk;obtain⟨e1,e2,e3⟩:=h'.own k o hk;exact⟨e1,e2,t9 hm (Env.upTo.refl ρ s.nx) e1 e2 e3⟩
 ·intro k o b hk hb;rw[ha b (p4 (h.own k o hk).2.2 hb).2];exact h.notM k o b hk hb
def JL.call{cs:List Prop}{f:FuncId}{args:AV}{R:AV→Prop}(hg:o.guard=none)(h:callA X.T o.op ⟨s.L,[],s.nx⟩=some (cs,f,args))(hf:Fn X.P f args R)(hd:dstOk X.n o.dst)(hc:allP cs)
  (k:∀ r,R r→JL X true all QA l (putS o.dst r s)):JL X true all QA (o::l) s:=by
 intro M ρ a w h1 h2;have hh:SAT X M ρ ⟨s.L,[],s.nx⟩ w:=⟨h1.below,h1.msub,h1.mnew,h1.mem,fun l o h=>by simp[lk] at h,fun l l' o o' b h=>by simp[lk] at h,fun l o b h=>by simp[lk] at h⟩;have hj:REG X M ρ ⟨s.L,[],s.nx⟩ a:=⟨h2.size,h2.defers,h2.reg⟩;obtain⟨hb,vs,hk,he⟩:=f7 hh (Mx:=M) ⟨Mem.le_refl M,fun l o b h=>by simp[lk] at h⟩ hj h hc;refine z9 (j6 hg) (x8 (q00 h) (by rw[he,hf.call]) (hf.run M ρ w vs h1.mem hk hb) ?_);rintro e w' ⟨v,r,M',rfl,hR,hu,hv,hw,hm,hy,ha⟩;have h3:=h1.ext hw hm hy ha;have h4:REG X M' ρ s a:=h2.grow hm (Env.upTo.refl ρ s.nx) (yyl _) fun D hD=>by rw[ha D (yyi.1 (h1.mem _ _ hD)).1];exact hD
 exact⟨_,rfl,k r hR M' ρ _ w' (z8 h3) (h4.putO hd.spec (j3 (yyw _) hu) hv)⟩
def argL:AV→Nat→List (Nat×AV)
 |.acons a b,i=>(i,a)::argL b (i+1)
 |_,_=>[]
def resK{R:Type}(T:List (Nat×Ty))(s:S):List ResultVar→List TypeId→(List Prop→AV→Option R)→Option R
 |[],[],k=>k [] .anil
 |.tmp d::rs,t::ts,k=>match lk s.L d with
  |some v=>(match lk T t with
   |some ty=>toK s.H 8 ty v fun c x=>resK T s rs ts fun cs az=>k (c++cs) (.acons (.val ty x) az)
   |none=>capK s.H v fun c x=>resK T s rs ts fun cs az=>k (c++cs) (.acons x az))
  |none=>none
 |.cell d t'::rs,t::ts,k=>match lk s.L d with
  |some (.lf (.optr l p))=>match lk T t with
   |some ty=>if t'=t∧0<ty.size then toK s.H 8 (.ptr ty) (.lf (.optr l p)) fun c x=>match x with
    |some x=>resK T s rs ts fun cs az=>k (c++cs) (.acons (.val ty x) az)
    |none=>none else none
   |none=>none
  |_=>none
 |_,_,_=>none
def resA(T:List (Nat×Ty))(fn:Func)(s:S):Option (List Prop×AV):=
 resK T s fn.results.toList fn.resultTypes.toList fun cs az=>match az with
  |.acons a .anil=>some (cs,a)
  |az=>some (cs,.tup az)
def retQ(T:List (Nat×Ty))(fn:Func)(R:AV→Prop)(e:Exit)(s:S):Prop:=(e=.ret∨e=.normal)∧∃ cs r,resA T fn s=some (cs,r)∧allP cs∧R r
def resOne(tmps:Array Value):ResultVar→Sem Value
 |.tmp t=>pure (tmps.getD t Go.undef)
 |.cell ad t=>do loadVar t (← asAddr (tmps.getD ad Go.undef))
def q2r{tmps:Array Value}(h:(fn.results.toList.mapM (resOne tmps)).run P w=.ok vs w) :
  (results fn tmps).run P w=.ok (if h:vs.toArray.size=1 then vs.toArray[0] else .tuple vs.toArray) w:=by
 have e:results fn tmps=(do let vs ← fn.results.mapM (resOne tmps);pure (if h:vs.size=1 then vs[0] else .tuple vs)):=rfl;rw[e,yye,Array.mapM_eq_mapM_toList,Sem.run_map,h];rfl
def z62(hT:TOK X.P X.T)(h1:SAT X M ρ s w)(h2:REG X M ρ s a)(hx:Seen ρ s M Mx w):∀ {rs:List ResultVar} {ts:List TypeId} {R:Type} {k:List Prop→AV→Option R} {r:R},resK X.T s rs ts k=some r →
  ∃ cs y,k cs y=some r∧y.bd 0∧(allP cs→∃ vs,y.rvs Mx ρ vs∧(rs.mapM (resOne a.tmps)).run X.P w=.ok vs w):=by
 intro rs;induction rs with
 |nil=>
  intro ts R k r h;cases ts with
  |nil=>simp only[resK] at h;exact⟨_,_,h,trivial,fun _=>⟨[],by simp[AV.rvs],rfl⟩⟩
  |cons t ts=>simp[resK] at h
 |cons rv rs ih=>
  intro ts R k r h;cases ts with
  |nil=>cases rv<;>simp[resK] at h
  |cons t ts=>
   cases rv with
   |tmp d=>
    simp only[resK] at h;split at h
    ·rename_i v hl;have hv:=h2.reg _ _ hl;split at h
     ·rename_i ty hw;obtain⟨c,x,h,ha⟩:=q1o h1 hx 8 h;obtain⟨cs,az,h,hb,hd⟩:=ih h;refine⟨_,_,h,⟨trivial,hb⟩,fun hc=>?_⟩;rw[z7] at hc;obtain⟨vs,k1,k2⟩:=hd hc.2;refine⟨a.tmps.getD d Go.undef::vs,?_,?_⟩
      ·simp only[AV.rvs];exact⟨_,_,by simp only[AV.rv];exact(ha hc.1).1 _ hv.2,k1,rfl⟩
      ·simp only[List.mapM_cons,resOne,yye,yyf,yyb,k2]
     ·obtain⟨c,x,h,hA,ha⟩:=q3v h1 hx h;obtain⟨cs,az,h,hb,hd⟩:=ih h;refine⟨_,_,h,⟨hA,hb⟩,fun hc=>?_⟩;rw[z7] at hc;obtain⟨vs,k1,k2⟩:=hd hc.2;refine⟨a.tmps.getD d Go.undef::vs,?_,?_⟩
      ·simp only[AV.rvs];exact⟨_,_,(ha hc.1).1 _ hv.2,k1,rfl⟩
      ·simp only[List.mapM_cons,resOne,yye,yyf,yyb,k2]
    ·cases h
   |cell d t'=>
    simp only[resK] at h;split at h
    ·rename_i l p hl;have hv:=h2.reg _ _ hl;split at h
     ·rename_i ty hw;split at h
      ·rename_i ht;obtain⟨rfl,hB⟩:=ht;have hj:∃ t0 a0,lk s.H l=some (.cell t0 a0):=by
        unfold toK at h;simp only at h;split at h
        ·rename_i t0 a0 hC;exact⟨t0,a0,hC⟩
        ·cases h
       obtain⟨t0,a0,hj⟩:=hj;obtain⟨c,x,h,ha⟩:=q1o h1 hx 8 h;split at h
       ·rename_i x';obtain⟨cs,az,h,hb,hd⟩:=ih h;refine⟨_,_,h,⟨trivial,hb⟩,fun hc=>?_⟩;rw[z7] at hc;obtain⟨vs,k1,k2⟩:=hd hc.2;obtain⟨vc,hr,hu⟩:=(ha hc.1).1 _ hv.2;simp only[Rep] at hr;obtain⟨b,off,cc,tg,fz,rfl,hM,hr⟩:=hr;have hk:=hv.2;rw[w9] at hk;simp only[Leaf.at,yya] at hk;have hy:a.tmps.getD d Go.undef=.pointer (some ⟨b,off,none⟩):=by rw[hu];rfl
        have hD:ρ.blk l=b:=by have:=hk.1.trans hy;simp only[Value.pointer.injEq,yya,Addr.mk.injEq] at this;exact this.1
        have he:w.heap[b]?=some (.cells cc tg fz):=by rw[← hM,← hD];exact(hx.own l _ _ hj rfl).symm
        have hg:=hr.length;simp only[yxr,List.length_drop] at hg;have hh:=f8 (hT _ _ hw) he (off:=off) (by simp at hg;omega);refine⟨ty.wrap ((cc.toList.drop off).take ty.size)::vs,?_,?_⟩
        ·simp only[AV.rvs];exact⟨_,_,by simp only[AV.rv];exact⟨_,hr,rfl⟩,k1,rfl⟩
        ·simp only[List.mapM_cons,resOne,yye,hy,asAddr,yyf,yyb,hh,k2]
       ·cases h
      ·cases h
     ·cases h
    ·cases h
def argL_rvs{args:AV}(h:args.rvs M ρ vs)(hb:args.bd 0):∀ {i d:Nat} {v:AV},lk (argL args i) d=some v→v.bd 0∧i≤d∧∃ u,vs[d-i]?=some u∧v.rv M ρ u:=by
 induction args generalizing vs with
 |acons x y _ ihy=>
  intro i d v hl;simp only[AV.rvs] at h;obtain⟨u,r,k1,k2,rfl⟩:=h;simp only[argL,lk] at hl;split at hl
  ·rename_i e;subst e;injection hl with hl;subst hl
   exact⟨hb.1,yyl _,u,by simp,k1⟩
  ·obtain⟨e1,e2,u',e3,e4⟩:=ihy k2 hb.2 hl;refine⟨e1,by omega,u',?_,e4⟩;rw[show d-i=(d-(i+1))+1 by omega,yxi];exact e3
 |_=>intro i d v hl;simp[argL,lk] at hl
def argN:AV→Nat
 |.acons _ b=>argN b+1
 |_=>0
def z6e{args:AV}(h:args.rvs M ρ vs):vs.length=argN args:=by
 induction args generalizing vs with
 |acons x y _ ihy=>simp only[AV.rvs] at h;obtain⟨u,r,k1,k2,rfl⟩:=h;simp[argN,ihy k2]
 |anil=>simp only[AV.rvs] at h;subst h;rfl
 |_=>simp only[AV.rvs] at h
def q2p{P:Program}{fn:Func}{tmps:Array Value}{R:Ending→World→Prop}:∀ {Ds:List Nat} {w:World},Ds.Nodup→(∀ D∈Ds,w.heap[D]?=some (.deferred (some []))) →
  (∀ w'',(∀ n,(∀ D∈Ds,n≤D)→Below n w w'')→(∀ b,b∉Ds→w''.heap[b]?=w.heap[b]?)→LeavesIn Fence.wide 0 P fn tmps R [] .returning w'') →
  LeavesInM Fence.wide 0 P fn tmps R (Ds.map fun D=>({target:=.collected D,args:=#[]}:Deferred)) .returning w
 |[],w,_,_,h=>h w (fun n _=>Below.refl n w) (fun _ _=>rfl)
 |D::r,w,hn,hD,h=>by
  have he:=hD D yyh;obtain⟨hg,hh⟩:=yx4.1 hn;refine⟨by simp,.inl ⟨D,_,rfl,run_takeDeferred he,q2p hh (fun D' ha=>?_) fun w'' h1 h2=>?_⟩⟩
  ·rw[World.putObj_heap_other (fun e=>hg (by rw[← e];exact ha))];exact hD D' (yyj _ ha)
  ·refine h w'' (fun n hd=>?_) fun b hb=>?_
   ·have e1:Below n w (w.putObj D (.deferred none)):=⟨rfl,rfl,rfl,by simp,fun k hk=>World.putObj_heap_other (by have:=hd D yyh;omega)⟩;exact e1.trans (h1 n fun D' ha=>hd D' (yyj _ ha))
   ·rw[h2 b (fun hc=>hb (yyj _ hc)),World.putObj_heap_other (fun e=>hb (by rw[e];exact yyh))]
def Mem.without(M:Mem)(Ds:List Nat):Mem:=fun b=>if b∈Ds then none else M b
def SAT.taken{Ds:List Nat}(h:SAT X M ρ s w)(h0:∀ D∈Ds,X.M0 D=none)(hD:∀ D∈Ds,X.E.heap.size≤D∧M D=some (.deferred (some [])))(hb:∀ n,(∀ D∈Ds,n≤D)→Below n w w')(hk:∀ b,b∉Ds→w'.heap[b]?=w.heap[b]?) :
  M.le (M.without Ds)∧SAT X (M.without Ds) ρ s w':=by
 have he:M.le (M.without Ds):=fun b c ty fz hm=>by unfold Mem.without;rw[if_neg];exact hm;intro hc;rw[(hD b hc).2] at hm;cases hm
 have hE:Below X.E.heap.size w w':=hb _ fun D hd=>(hD D hd).1;refine⟨he,h.below.trans hE,fun b o hm=>(by unfold Mem.without;rw[if_neg (fun hc=>by rw[h0 b hc] at hm;cases hm)];exact h.msub b o hm),fun b hg=>?_,fun b o hm=>?_,fun l o hl=>?_,h.apart,fun l o b hl ha=>?_⟩
 ·unfold Mem.without;rw[if_neg (fun hc=>by have:=(hD b hc).1;omega)];exact h.mnew b hg
 ·unfold Mem.without at hm;split at hm
  ·cases hm
  ·rename_i hc;rw[hk b hc];exact h.mem b o hm
 ·obtain⟨e1,e2,e3⟩:=h.own l o hl;refine⟨e1,e2,t9 he (Env.upTo.refl ρ s.nx) e1 e2 (q32 e3 fun b ha=>hk b fun hc=>?_)⟩;have:=h.notM l o b hl ha;rw[(hD b hc).2] at this;cases this
 ·unfold Mem.without;split
  ·rfl
  ·exact h.notM l o b hl ha
structure FnX(Z:Mem→World→Prop)(P:Program)(f:FuncId)(args:AV)(R:AV→Prop):Prop where
 call:∀ az w,(callFunc f az).run P w=.ok (.enter f az) w
 run:∀ (M:Mem) (ρ:Env) (w:World) (vs:List Value),Z M w→MemIn M w→args.rvs M ρ vs→args.bd 0 →
  Calls P f vs.toArray w (fun e w'=>∃ v r M',e=.returned v∧R r∧r.bd 0∧r.rv M' ρ v∧Below w.heap.size w w'∧M.le M'∧MemIn M' w'∧∀ b,b<w.heap.size→M' b=M b)
abbrev FnL(Z:Mem→Prop):=FnX fun M _=>Z M
def FnX.intro{Z:Mem→World→Prop}{P:Program}{T:List (Nat×Ty)}{ET:List (Nat×Nat)}{MT:List (Nat×(Nat×Nat))}(hK:∀ {X:Ctx},X.P=P→X.T=T→X.ET=ET→X.MT=MT→XOK X){f:FuncId}{fn:Func}{c:Code}{args:AV}{R:AV→Prop}(hf:P.funcs[f]?=some fn)(hb:fn.body=some c)
  (he:∀ az w,(callFunc f az).run P w=.ok (.enter f az) w) (hn:argN args≤fn.ntmps) (h:∀ E M0 up,Z M0 E→JC ⟨P,T,ET,MT,E,M0,fn.ntmps,none,up,0⟩ c (retQ T fn R) ⟨argL args 0,[],0⟩):FnX Z P f args R:=by
 refine⟨he,fun M ρ w vs hz hM hG hL=>(callsIn_wide (n:=0)).1 (callsIn_of_wp_marks hf hb trivial ?_ rfl)⟩
 let up0:Nat→Nat→Value:=fun _ _=>Go.undef
 have hN:=z6e hG;have hv:SAT ⟨P,T,ET,MT,w,M,fn.ntmps,none,up0,0⟩ M ρ ⟨argL args 0,[],0⟩ w:=⟨Below.refl _ _,fun _ _ h=>h,fun _ _=>rfl,hM,fun l o h=>by simp[lk] at h,fun l l' o o' b h=>by simp[lk] at h,fun l o b h=>by simp[lk] at h⟩
 have hw:REG ⟨P,T,ET,MT,w,M,fn.ntmps,none,up0,0⟩ M ρ ⟨argL args 0,[],0⟩ {tmps:=vs.toArray++Array.replicate (fn.ntmps-vs.toArray.size) Go.undef,defers:=[]}:=by
  refine⟨by simp;omega,⟨[],rfl,yxv,by simp,.inl rfl⟩,fun d v hd=>?_⟩;obtain⟨e1,e2,u,e3,e4⟩:=argL_rvs hG hL hd;refine⟨e1,?_⟩;rw[Nat.sub_zero] at e3;have hP:d<vs.length:=by
   rcases Nat.lt_or_ge d vs.length with h|h
   ·exact h
   ·rw[yxe h] at e3;cases e3
  have:(vs.toArray++Array.replicate (fn.ntmps-vs.toArray.size) Go.undef).getD d Go.undef=u:=by rw[yyr,Array.getElem?_append_left (by simpa using hP)];simp[e3]
  rw[this];exact e4
 refine wpIn_mono (h w M up0 hz M ρ _ w hv hw) ?_;rintro e a1 w1 ⟨M2,ρ1,s1,k1',k2',hQ,cs,r,hr,hc,hR⟩;obtain⟨Ds,hT,hU,hA,_⟩:=k2'.defers;have fin:LeavesInM Fence.wide 0 P fn a1.tmps (fun e w'=>∃ v r M',e=Ending.returned v∧R r∧r.bd 0∧r.rv M' ρ v∧Below w.heap.size w w'∧M.le M'∧MemIn M' w'∧∀ b,b<w.heap.size→M' b=M b) a1.defers .returning w1:=by
  rw[hT];refine q2p hU (fun D hD=>k1'.mem _ _ (hA D hD).2) fun w' hB hg=>?_;obtain⟨hW,k1⟩:=k1'.taken (fun D hD=>by
   show M D=none;cases hY:M D with
   |none=>rfl
   |some o=>have h1:=(yyi.1 (hM D o hY)).1;have h2:w.heap.size≤D:=(hA D hD).1;omega) hA hB hg
  let a':Act:={a1 with defers:=[]}
  let M1:=M2.without Ds
  have k2:REG ⟨P,T,ET,MT,w,M,fn.ntmps,none,up0,0⟩ M1 ρ1 s1 a':=⟨k2'.size,⟨[],rfl,yxv,by simp,.inl rfl⟩,fun d v hd=>⟨(k2'.reg d v hd).1,j5 hW (Env.upTo.refl ρ1 s1.nx) (k2'.reg d v hd).1 (k2'.reg d v hd).2⟩⟩
  let Mx:Mem:=fun b=>if b<w.heap.size then M b else w'.heap[b]?
  have hE:w.heap.size≤w'.heap.size:=k1.below.size;have hh:Seen ρ1 s1 M1 Mx w':=by
   refine⟨fun b c ty fz hb=>?_,fun l o b hl hb=>?_⟩
   ·show(if b<w.heap.size then M b else w'.heap[b]?)=_;split
    ·rename_i hC;rw[← hb];exact(k1.mnew b hC).symm
    ·exact k1.mem b _ hb
   ·show(if b<w.heap.size then M b else w'.heap[b]?)=_;have:=(p4 (k1.own l o hl).2.2 hb).1;rw[if_neg (by exact Nat.not_lt.2 this)]
  have hF:∃ v,(results fn a'.tmps).run P w'=.ok v w'∧r.bd 0∧r.rv Mx ρ1 v:=by
   unfold resA at hr;obtain⟨cs',y,hr,hH,hy⟩:=z62 (X:=⟨P,T,ET,MT,w,M,fn.ntmps,none,up0,0⟩) (hK rfl rfl rfl rfl).t k1 k2 hh hr;have ha:∀ vs,(fn.results.toList.mapM (resOne a'.tmps)).run P w'=.ok vs w'→(results fn a'.tmps).run P w'=.ok (if h:vs.toArray.size=1 then vs.toArray[0] else .tuple vs.toArray) w':=fun vs h=>q2r h;split at hr
   ·rename_i x;simp only[yya,yyn] at hr;obtain⟨rfl,rfl⟩:=hr;obtain⟨vs,k3,k4⟩:=hy hc;simp only[AV.rvs] at k3;obtain⟨v,r',k5,rfl,rfl⟩:=k3;exact⟨v,by have:=ha _ k4;simpa using this,hH.1,k5⟩
   ·rename_i hZ;simp only[yya,yyn] at hr;obtain⟨rfl,rfl⟩:=hr;obtain⟨vs,k3,k4⟩:=hy hc;refine⟨.tuple vs.toArray,?_,hH,by simp only[AV.rv];exact⟨vs,k3,rfl⟩⟩;have:=ha _ k4;have hu:vs.toArray.size≠1:=by
     intro hu;cases y with
     |acons x z=>
      simp only[AV.rvs] at k3;obtain⟨v,r',k5,k6,rfl⟩:=k3;have:r'=[]:=by simpa using hu
      subst this;cases z with
      |anil=>exact hZ x rfl
      |acons=>simp[AV.rvs] at k6
      |_=>simp only[AV.rvs] at k6
     |anil=>simp only[AV.rvs] at k3;subst k3;simp at hu
     |_=>simp only[AV.rvs] at k3
    rwa[dif_neg hu] at this
  obtain⟨v,ha,hJ,h0⟩:=hF;have hj:∃ v' r M',Ending.returned v=.returned v'∧R r∧r.bd 0∧r.rv M' ρ v'∧Below w.heap.size w w'∧M.le M'∧MemIn M' w'∧∀ b,b<w.heap.size→M' b=M b:=by
   refine⟨v,r,Mx,rfl,hR,hJ,j5 (Mem.le_refl Mx) (fun l hl=>absurd hl (Nat.not_lt_zero _)) hJ h0,k1.below,fun b c ty fz hb=>?_,fun b o hb=>?_,fun b hb=>?_⟩
   ·show(if b<w.heap.size then M b else w'.heap[b]?)=_;rw[if_pos (yyi.1 (hM b _ hb)).1];exact hb
   ·have hk:(if b<w.heap.size then M b else w'.heap[b]?)=some o:=hb;split at hk
    ·rename_i hC;rw[← hk];exact((congrArg (w'.heap[·]?) rfl).trans (k1.below.block b hC)).trans ((hM b o hk).trans hk.symm)
    ·exact hk
   ·show(if b<w.heap.size then M b else w'.heap[b]?)=M b;rw[if_pos hb]
  exact⟨v,ha,hj⟩
 rcases hQ with rfl|rfl
 ·exact fin
 ·exact fin
def FnL.intro{Z:Mem→Prop}{P:Program}{T:List (Nat×Ty)}{ET:List (Nat×Nat)}{MT:List (Nat×(Nat×Nat))}(hd:∀ {X:Ctx},X.P=P→X.T=T→X.ET=ET→X.MT=MT→XOK X){f:FuncId}{fn:Func}{c:Code}{args:AV}{R:AV→Prop}(hf:P.funcs[f]?=some fn)(hb:fn.body=some c)
  (ha:∀ az w,(callFunc f az).run P w=.ok (.enter f az) w) (hn:argN args≤fn.ntmps) (h:∀ E M0 up,Z M0→JC ⟨P,T,ET,MT,E,M0,fn.ntmps,none,up,0⟩ c (retQ T fn R) ⟨argL args 0,[],0⟩):FnL Z P f args R:=FnX.intro hd hf hb ha hn h
def Fn.intro{P:Program}{T:List (Nat×Ty)}{ET:List (Nat×Nat)}{MT:List (Nat×(Nat×Nat))}(hd:∀ {X:Ctx},X.P=P→X.T=T→X.ET=ET→X.MT=MT→XOK X){f:FuncId}{fn:Func}{c:Code}{args:AV}{R:AV→Prop}(hf:P.funcs[f]?=some fn)(hb:fn.body=some c)
  (ha:∀ az w,(callFunc f az).run P w=.ok (.enter f az) w) (hn:argN args≤fn.ntmps) (h:∀ E M0 up,JC ⟨P,T,ET,MT,E,M0,fn.ntmps,none,up,0⟩ c (retQ T fn R) ⟨argL args 0,[],0⟩):Fn P f args R:=
 let x:=FnL.intro (Z:=fun _=>True) hd hf hb ha hn fun E M0 up _=>h E M0 up
 ⟨x.call,fun M ρ w vs=>x.run M ρ w vs trivial⟩
def cellEq:Value→Value→Bool
 |.int k n,.int k' m=>k==k'&&n==m
 |.bool a,.bool b=>a==b
 |.slice none 0 0,.slice none 0 0=>true
 |.pointer none,.pointer none=>true
 |_,_=>false
def q7g{a b:Value}(h:cellEq a b=true):a=b:=by
 unfold cellEq at h;split at h
 ·simp only[yyc,beq_iff_eq] at h;rw[h.1,h.2]
 ·simp only[beq_iff_eq] at h;rw[h]
 ·rfl
 ·rfl
 ·cases h
def cellsEq:List Value→List Value→Bool
 |[],[]=>true
 |a::x,b::y=>cellEq a b&&cellsEq x y
 |_,_=>false
def q6a:∀ {x y:List Value},cellsEq x y=true→x=y
 |[],[],_=>rfl
 |a::x,b::y,h=>by simp only[cellsEq,yyc] at h;rw[q7g h.1,q6a h.2]
 |[],_::_,h=>by simp[cellsEq] at h
 |_::_,[],h=>by simp[cellsEq] at h
def zeroEq:Value→Value→Bool
 |.agg x,.agg y=>cellsEq x.toList y.toList
 |a,b=>cellEq a b
def z1d{a b:Value}(h:zeroEq a b=true):a=b:=by
 unfold zeroEq at h;split at h
 ·have:=q6a h;rw[Array.ext' this]
 ·exact q7g h
def infoB(P:Program)(id:TypeId)(t:Ty):Bool:=
 match P.info? id with
 |some i=>i.size==t.size&&decide (i.bytes≤65536)&&(match i.zero with|some z=>zeroEq z (t.wrap t.zc)|none=>false)
 |none=>false
def q0s{id:TypeId}{t:Ty}{d:TypeDesc}(h:infoB P id t=true)(hd:P.underlying id=some d):InfoOf P id t d:=by
 unfold infoB at h;split at h
 ·rename_i i hi;simp only[yyc,beq_iff_eq,yyu] at h;refine⟨hd,by rw[hi];simp[h.1.1],?_,by rw[hi];simp[h.1.2]⟩;have h2:=h.2;split at h2
  ·rename_i z hz;rw[hi];simp[hz,z1d h2]
  ·cases h2
 ·cases h
def tyB(P:Program):Ty→TypeId→Bool
 |.int k,id=>infoB P id (.int k)&&(match P.underlying id with|some (.int k')=>k'==k|_=>false)
 |.bool,id=>infoB P id .bool&&(match P.underlying id with|some .bool=>true|_=>false)
 |.slice e,id=>infoB P id (.slice e)&&(match P.underlying id with|some (.slice eid)=>tyB P e eid|_=>false)
 |.ptr e,id=>infoB P id (.ptr e)&&(match P.underlying id with|some (.pointer _)=>true|_=>false)
 |.arr n e,id=>infoB P id (.arr n e)&&(match P.underlying id with|some (.array m eid)=>m==n&&tyB P e eid|_=>false)
 |.nil,_=>false
 |.cons a b,id=>infoB P id (.cons a b)&&(match P.underlying id with
   |some (.struct fs)=>(match fs.toList with
    |f::r=>f.offset==0&&tyB P a f.type&&a.size != 0&&fieldsB P b r a.size
    |[]=>false)
   |_=>false)
where
 fieldsB (P:Program):Ty→List Field→Nat→Bool
 |.nil,[],_=>true
 |.cons a b,f::r,off=>f.offset==off&&tyB P a f.type&&a.size != 0&&fieldsB P b r (off+a.size)
 |_,_,_=>false
mutual
def q03{P:Program}:∀ {t:Ty} {id:TypeId},tyB P t id=true→TyOf P t id
 |.int k,id,h=>by
  simp only[tyB,yyc] at h;obtain⟨h1,h2⟩:=h;split at h2
  ·rename_i k' hk;simp only[beq_iff_eq] at h2;subst h2;simp only[TyOf];exact q0s h1 hk
  ·cases h2
 |.bool,id,h=>by
  simp only[tyB,yyc] at h;obtain⟨h1,h2⟩:=h;split at h2
  ·rename_i hk;simp only[TyOf];exact q0s h1 hk
  ·cases h2
 |.slice e,id,h=>by
  simp only[tyB,yyc] at h;obtain⟨h1,h2⟩:=h;split at h2
  ·rename_i eid hk;simp only[TyOf];exact⟨eid,q0s h1 hk,q03 h2⟩
  ·cases h2
 |.ptr e,id,h=>by
  simp only[tyB,yyc] at h;obtain⟨h1,h2⟩:=h;split at h2
  ·rename_i eid hk;simp only[TyOf];exact⟨eid,q0s h1 hk⟩
  ·cases h2
 |.arr n e,id,h=>by
  simp only[tyB,yyc] at h;obtain⟨h1,h2⟩:=h;split at h2
  ·rename_i m eid hk;simp only[yyc,beq_iff_eq] at h2;obtain⟨rfl,h2⟩:=h2;simp only[TyOf];exact⟨eid,q0s h1 hk,q03 h2⟩
  ·cases h2
 |.nil,id,h=>by simp[tyB] at h
 |.cons a b,id,h=>by
  simp only[tyB,yyc] at h;obtain⟨h1,h2⟩:=h;split at h2
  ·rename_i fs hk;simp only[TyOf];refine⟨fs,q0s h1 hk,?_⟩;split at h2
   ·rename_i f r hf;simp only[yyc,beq_iff_eq,bne_iff_ne] at h2;simp only[hf];exact⟨h2.1.1.1,q03 h2.1.1.2,h2.1.2,q54 h2.2⟩
   ·cases h2
  ·cases h2
def q54{P:Program}:∀ {t:Ty} {r:List Field} {off:Nat},tyB.fieldsB P t r off=true→TyOf.fields P t r off
 |.nil,[],_,_=>by simp[TyOf.fields]
 |.cons a b,f::r,off,h=>by simp only[tyB.fieldsB,yyc,beq_iff_eq,bne_iff_ne] at h;simp only[TyOf.fields];exact⟨h.1.1.1,q03 h.1.1.2,h.1.2,q54 h.2⟩
 |.nil,_::_,_,h=>by simp[tyB.fieldsB] at h
 |.cons _ _,[],_,h=>by simp[tyB.fieldsB] at h
 |.int _,_,_,h=>by simp[tyB.fieldsB] at h
 |.bool,_,_,h=>by simp[tyB.fieldsB] at h
 |.slice _,_,_,h=>by simp[tyB.fieldsB] at h
 |.ptr _,_,_,h=>by simp[tyB.fieldsB] at h
 |.arr _ _,_,_,h=>by simp[tyB.fieldsB] at h
end
def tabB(P:Program)(T:List (Nat×Ty))(ET:List (Nat×Nat))(MT:List (Nat×(Nat×Nat))):Bool:=T.all (fun p=>tyB P p.2 p.1)&&ET.all (fun p=>match P.underlying p.1 with|some (.slice e)=>e==p.2|_=>false)&&MT.all (fun p=>match P.underlying p.1 with|some (.map k e)=>k==p.2.1&&e==p.2.2|_=>false)&&P.follows .mixedOrders
def z7l{ET:List (Nat×Nat)}{MT:List (Nat×(Nat×Nat))}(h:tabB P T ET MT=true)(h1:X.P=P)(h2:X.T=T)(h3:X.ET=ET)(h4:X.MT=MT):XOK X:=by
 subst h1 h2 h3 h4;simp only[tabB,yyc] at h;obtain⟨⟨⟨h1,h2⟩,h4⟩,h3⟩:=h;refine⟨fun id t hl=>q03 (yyx.1 h1 (id,t) (w5 hl)),fun id e hl=>?_,fun id kv hl=>?_,h3⟩
 ·have:=yyx.1 h2 (id,e) (w5 hl);simp only at this;split at this
  ·rename_i e' he;simp only[beq_iff_eq] at this;subst this;exact he
  ·cases this
 ·have:=yyx.1 h4 (id,kv) (w5 hl);simp only at this;split at this
  ·rename_i k e he;simp only[beq_iff_eq,yyc] at this;obtain⟨e1,e2⟩:=this;rw[he,e1,e2]
  ·cases this
def Leaf.ren(f:Nat→Nat):Leaf→Leaf
 |.nils=>.nils|.nilp=>.nilp
 |.osl l=>.osl (f l)|.ovw l a b c=>.ovw (f l) a b c|.optr l p=>.optr (f l) p|.oelt l k p=>.oelt (f l) k p|.oarr l p n c=>.oarr (f l) p n c
 |.mp l=>.mp (f l)|.itr l=>.itr (f l)|.yld l=>.yld (f l)
def RV.ren(f:Nat→Nat):RV→RV
 |.p l q=>.p (f l) q|.s l q k c=>.s (f l) q k c|.o l e lo hi w z=>.o (f l) e lo hi w z|.m l=>.m (f l)|.it l=>.it (f l)|.y l=>.y (f l)
 |.f fi a c=>.f fi (a.ren f) (c.ren f)|.g c=>.g (c.ren f)|.t c=>.t (c.ren f)|.cons a r=>.cons (a.ren f) (r.ren f)
 |r=>r
def AV.ren(f:Nat→Nat):AV→AV
 |.val t x=>.val t x|.anil=>.anil|.undef=>.undef|.full e l=>.full e l
 |.lf x=>.lf (x.ren f)
 |.mix a b=>.mix (a.ren f) (b.ren f)|.acons a b=>.acons (a.ren f) (b.ren f)|.fn g a b=>.fn g (a.ren f) (b.ren f)
 |.tup a=>.tup (a.ren f)|.gd g a=>.gd g (a.ren f)|.pfn a=>.pfn (a.ren f)
 |.raw r=>.raw (r.ren f)
def HO.ren(f:Nat→Nat):HO→HO
 |.cell t a=>.cell t (a.ren f)
 |.sl eid e xs=>.sl eid e xs
 |.map kt vt es clk=>.map kt vt es clk
 |.iter m since seen last=>.iter (f m) since seen last
 |.cus Q=>.cus Q
 |.loop st pe ps az bd n L=>.loop st pe ps az bd n (L.map fun p=>(p.1,p.2.ren f))
 |.fr i L=>.fr i (L.map fun p=>(p.1,p.2.ren f))
 |.raw ty k n c=>.raw ty k n fun i=>(c i).ren f
 |.rmap es clk=>.rmap (es.map fun x=>(x.1.ren f,x.2.1.ren f,x.2.2)) clk
 |.riter m since seen last bk=>.riter (f m) since seen last bk
 |.gl g ty n c=>.gl g ty n fun i=>(c i).ren f
 |.mrow g n c=>.mrow (fun k=>f (g k)) n c
 |.dlk A y m=>.dlk A y (f m)
def j0c{f:AV→AV}:∀ {L:List (Nat×AV)} {d:Nat},lk (L.map fun p=>(p.1,f p.2)) d=(lk L d).map f
 |[],_=>rfl
 |(k,v)::r,d=>by
  simp only[yy0,lk];split
  ·rfl
  ·exact j0c
def Env.via(ρ:Env)(f:Nat→Nat):Env:=⟨fun l=>ρ.blk (f l),fun l=>ρ.ty (f l),fun l=>ρ.sv (f l)⟩
def q8z(ρ:Env)(f:Nat→Nat)(x:Leaf):x.at (ρ.via f)=(x.ren f).at ρ:=by cases x<;>rfl
mutual
def q3m(ρ:Env)(f:Nat→Nat):∀ r:RV,r.cv (ρ.via f)=(r.ren f).cv ρ
 |.i ..|.b _|.np|.ns|.fz|.nm|.u|.nil|.cons _ _|.p ..|.s ..|.m _|.it _|.y _|.o ..=>rfl
 |.f _ a c=>by simp only[RV.cv,RV.ren];rw[q6g ρ f a,q6g ρ f c]
 |.g c|.t c=>by simp only[RV.cv,RV.ren];rw[q6g ρ f c]
def q6g(ρ:Env)(f:Nat→Nat):∀ r:RV,r.cl (ρ.via f)=(r.ren f).cl ρ
 |.cons a r=>by simp only[RV.cl,RV.ren];rw[q3m ρ f a,q6g ρ f r]
 |.i ..|.b _|.np|.ns|.fz|.nm|.u|.nil|.p ..|.s ..|.m _|.it _|.y _|.o ..|.f ..|.g _|.t _=>rfl
end
mutual
def q35(M:Mem)(ρ:Env)(f:Nat→Nat):∀ (a:AV) (v:Value),(a.ren f).rv M ρ v→a.rv M (ρ.via f) v
 |.val _ _,v,h=>by simp only[AV.ren,AV.rv] at h ⊢;exact h
 |.anil,v,h=>by simp only[AV.ren,AV.rv] at h
 |.undef,v,h=>by simp only[AV.ren,AV.rv] at h ⊢;exact h
 |.full _ _,v,h=>by simp only[AV.ren,AV.rv] at h ⊢;exact h
 |.lf x,v,h=>by simp only[AV.ren,AV.rv] at h ⊢;rw[q8z];exact h
 |.mix a b,v,h=>by simp only[AV.ren,AV.rv] at h ⊢;obtain⟨c1,c2,h1,h2,h3⟩:=h;exact⟨c1,c2,z1q M ρ f a c1 h1,z1q M ρ f b c2 h2,h3⟩
 |.acons _ _,v,h=>by simp only[AV.ren,AV.rv] at h
 |.fn g a b,v,h=>by simp only[AV.ren,AV.rv] at h ⊢;obtain⟨c1,c2,h1,h2,h3⟩:=h;exact⟨c1,c2,q6m M ρ f a c1 h1,q6m M ρ f b c2 h2,h3⟩
 |.tup a,v,h=>by simp only[AV.ren,AV.rv] at h ⊢;obtain⟨c1,h1,h2⟩:=h;exact⟨c1,q6m M ρ f a c1 h1,h2⟩
 |.gd g a,v,h=>by simp only[AV.ren,AV.rv] at h ⊢;exact⟨fun e=>q35 M ρ f a v (h.1 e),h.2⟩
 |.pfn a,v,h=>by simp only[AV.ren,AV.rv] at h ⊢;obtain⟨b,fv,ty,fz,h1,h2,h3⟩:=h;exact⟨b,fv,ty,fz,h1,h2,q35 M ρ f a fv h3⟩
 |.raw r,v,h=>by simp only[AV.ren,AV.rv] at h ⊢;rw[h,q3m]
def q6m(M:Mem)(ρ:Env)(f:Nat→Nat):∀ (a:AV) (v:List Value),(a.ren f).rvs M ρ v→a.rvs M (ρ.via f) v
 |.anil,v,h=>by simp only[AV.ren,AV.rvs] at h ⊢;exact h
 |.acons a b,v,h=>by simp only[AV.ren,AV.rvs] at h ⊢;obtain⟨c1,c2,h1,h2,h3⟩:=h;exact⟨c1,c2,q35 M ρ f a c1 h1,q6m M ρ f b c2 h2,h3⟩
 |.val _ _,v,h=>by simp only[AV.ren,AV.rvs] at h
 |.undef,v,h=>by simp only[AV.ren,AV.rvs] at h
 |.full _ _,v,h=>by simp only[AV.ren,AV.rvs] at h
 |.lf x,v,h=>by simp only[AV.ren,AV.rvs] at h
 |.mix a b,v,h=>by simp only[AV.ren,AV.rvs] at h
 |.fn g a b,v,h=>by simp only[AV.ren,AV.rvs] at h
 |.tup a,v,h=>by simp only[AV.ren,AV.rvs] at h
 |.gd g a,v,h=>by simp only[AV.ren,AV.rvs] at h
 |.pfn a,v,h=>by simp only[AV.ren,AV.rvs] at h
 |.raw a,v,h=>by simp only[AV.ren,AV.rvs] at h
def z1q(M:Mem)(ρ:Env)(f:Nat→Nat):∀ (a:AV) (v:List Value),(a.ren f).rc M ρ v→a.rc M (ρ.via f) v
 |.val _ _,v,h=>by simp only[AV.ren,AV.rc] at h ⊢;exact h
 |.lf x,v,h=>by simp only[AV.ren,AV.rc] at h ⊢;rw[q8z];exact h
 |.mix a b,v,h=>by simp only[AV.ren,AV.rc] at h ⊢;obtain⟨c1,c2,h1,h2,h3⟩:=h;exact⟨c1,c2,z1q M ρ f a c1 h1,z1q M ρ f b c2 h2,h3⟩
 |.fn g a b,v,h=>by simp only[AV.ren,AV.rc] at h ⊢;obtain⟨c1,c2,h1,h2,h3⟩:=h;exact⟨c1,c2,q6m M ρ f a c1 h1,q6m M ρ f b c2 h2,h3⟩
 |.anil,v,h=>by simp only[AV.ren,AV.rc] at h
 |.undef,v,h=>by simp only[AV.ren,AV.rc] at h
 |.full _ _,v,h=>by simp only[AV.ren,AV.rc] at h
 |.acons _ _,v,h=>by simp only[AV.ren,AV.rc] at h
 |.tup a,v,h=>by simp only[AV.ren,AV.rc] at h
 |.gd g a,v,h=>by simp only[AV.ren,AV.rc] at h
 |.pfn a,v,h=>by simp only[AV.ren,AV.rc] at h
 |.raw a,v,h=>by simp only[AV.ren,AV.rc] at h
end
def conf_ren(f:Nat→Nat):∀ {t:Ty} {a:AV},confB t (a.ren f)=confB t a:=by
 intro t a;induction a generalizing t with
 |mix x y ihx ihy=>
  cases t with
  |arr n e=>cases n<;>simp[AV.ren,confB,ihx,ihy]
  |_=>simp[AV.ren,confB,ihx,ihy]
 |lf x=>cases x<;>cases t<;>rfl
 |_=>cases t<;>rfl
def covL(f:Nat→Nat):List (Nat×AV)→List (Nat×AV)→Prop
 |[],_=>True
 |(d,v)::r,L=>lk L d=some (v.ren f)∧covL f r L
def covH(f:Nat→Nat):List (Nat×HO)→List (Nat×HO)→Prop
 |[],_=>True
 |(d,o)::r,H=>lk H (f d)=some (o.ren f)∧covH f r H
def q8q{f:Nat→Nat}{L:List (Nat×AV)}:∀ {r:List (Nat×AV)},covL f r L→∀ d v,(d,v)∈r→lk L d=some (v.ren f)
 |[],_,d,v,h=>by simp at h
 |(k,u)::r,hc,d,v,h=>by
  rcases yyk.1 h with h|h
  ·injection h with h1 h2;subst h1 h2;exact hc.1
  ·exact q8q hc.2 d v h
def q58{f:Nat→Nat}{L:List (Nat×HO)}:∀ {r:List (Nat×HO)},covH f r L→∀ d v,(d,v)∈r→lk L (f d)=some (v.ren f)
 |[],_,d,v,h=>by simp at h
 |(k,u)::r,hc,d,v,h=>by
  rcases yyk.1 h with h|h
  ·injection h with h1 h2;subst h1 h2;exact hc.1
  ·exact q58 hc.2 d v h
def bdL(n:Nat):List (Nat×AV)→Prop
 |[]=>True
 |(_,v)::r=>v.bd n∧bdL n r
def bdH(n:Nat):List (Nat×HO)→Prop
 |[]=>True
 |(d,o)::r=>d<n∧o.bd n∧bdH n r
def q1i{n:Nat}:∀ {r:List (Nat×AV)},bdL n r→∀ d v,(d,v)∈r→v.bd n
 |[],_,d,v,h=>by simp at h
 |(k,u)::r,hc,d,v,h=>by
  rcases yyk.1 h with h|h
  ·injection h with h1 h2;subst h1 h2;exact hc.1
  ·exact q1i hc.2 d v h
def g8{n:Nat}:∀ {r:List (Nat×HO)},bdH n r→∀ d v,(d,v)∈r→d<n∧v.bd n
 |[],_,d,v,h=>by simp at h
 |(k,u)::r,hc,d,v,h=>by
  rcases yyk.1 h with h|h
  ·injection h with h1 h2;subst h1 h2;exact⟨hc.1,hc.2.1⟩
  ·exact g8 hc.2.2 d v h
def injH(f:Nat→Nat):List (Nat×HO)→Bool
 |[]=>true
 |(d,_)::r=>r.all (fun p=>p.1==d||f p.1 != f d)&&injH f r
def q51{f:Nat→Nat}:∀ {r:List (Nat×HO)},injH f r=true→∀ d o d' o',(d,o)∈r→(d',o')∈r→f d=f d'→d=d'
 |[],_,d,o,d',o',h,_,_=>by simp at h
 |(k,u)::r,hc,d,o,d',o',h,h',e=>by
  simp only[injH,yyc,yyx,yyy,beq_iff_eq,bne_iff_ne] at hc;rcases yyk.1 h with g|g<;>rcases yyk.1 h' with g'|g'
  ·injection g with h1;injection g' with h2;omega
  ·injection g with h1 h2
   rcases hc.1 _ g' with h3|h3
   ·exact h1.trans h3.symm
   ·exact absurd (h1▸e.symm) h3
  ·injection g' with h1 h2
   rcases hc.1 _ g with h3|h3
   ·exact h3.trans h1.symm
   ·exact absurd (h1▸e) h3
  ·exact q51 hc.2 d o d' o' g g' e
def q3o{f:Nat→Nat}{l:Nat}{o:HO}(h:(o.ren f).ok X M ρ (f l) w):o.ok X M (ρ.via f) l w:=by
 cases o with
 |cell t a=>simp only[HO.ren,HO.ok] at h ⊢;obtain⟨h1,h2,h3,c,ty,h4,h5⟩:=h;exact⟨h1,by rw[← conf_ren f];exact h2,h3,c,ty,h4,z1q M ρ f a _ h5⟩
 |sl eid e xs=>exact h
 |map kt vt es clk=>exact h
 |iter m since seen last=>exact h
 |cus Q=>exact h
 |loop st pe ps az bd n L=>simp only[HO.ren,HO.ok] at h ⊢;obtain⟨h1,fn,tm,D,h2,h3,h4⟩:=h;exact⟨h1,fn,tm,D,h2,h3,fun d v hd=>q35 M ρ f v _ (h4 d _ (by rw[j0c,hd];rfl))⟩
 |fr i L=>simp only[HO.ren,HO.ok] at h ⊢;exact⟨h.1,fun d v hd=>q35 M ρ f v _ (h.2 d _ (by rw[j0c,hd];rfl))⟩
 |raw ty k n c=>simp only[HO.ren,HO.ok] at h ⊢;obtain⟨h1,cs,h2,h3,h4,h5⟩:=h;exact⟨h1,cs,h2,h3,fun i hi=>by rw[q3m];exact h4 i hi,h5⟩
 |rmap es clk=>simp only[HO.ren,HO.ok] at h ⊢;obtain⟨h1,ms,h2,h3⟩:=h;refine⟨h1,ms,h2,h3.trans ?_⟩;rw[List.map_map];exact List.map_congr_left fun x _=>by simp only[Function.comp,q3m]
 |riter m since seen last bk=>exact h
 |gl g ty n c=>simp only[HO.ren,HO.ok] at h ⊢;obtain⟨h1,cs,ty',fz,h2,h3,h4⟩:=h;exact⟨h1,cs,ty',fz,h2,h3,fun i hi=>by rw[q3m];exact h4 i hi⟩
 |mrow g n c=>exact h
 |dlk A y m=>exact h
def q0h{f:Nat→Nat}{l:Nat}(o:HO):o.at (ρ.via f) l=(o.ren f).at ρ (f l):=by cases o<;>rfl
def JW.of(f:Nat→Nat){L':List (Nat×AV)}{H':List (Nat×HO)}{nx':Nat}(hL:covL f L' s.L)(hH:covH f H' s.H)(hg:bdL nx' L')(hh:bdH nx' H')(hi:injH f H'=true):JW X ⟨L',H',nx'⟩ s:=by
 intro M ρ a w h1 h2;have lkH:∀ l o,lk H' l=some o→lk s.H (f l)=some (o.ren f):=fun l o h=>q58 hH l o (w5 h);refine⟨ρ.via f,⟨h1.below,h1.msub,h1.mnew,h1.mem,fun l o hl=>?_,fun l l' o o' b hl ha hb he=>?_,fun l o b hl hb=>?_⟩,⟨h2.size,h2.defers,fun d v hd=>?_⟩⟩
 ·have e:=g8 hh l o (w5 hl);exact⟨e.1,e.2,q3o (h1.own _ _ (lkH l o hl)).2.2⟩
 ·rw[q0h] at hb he;exact q51 hi l o l' o' (w5 hl) (w5 ha) (h1.apart _ _ _ _ b (lkH l o hl) (lkH l' o' ha) hb he)
 ·rw[q0h] at hb;exact h1.notM _ _ b (lkH l o hl) hb
 ·have e:=q8q hL d v (w5 hd);exact⟨q1i hg d v (w5 hd),q35 M ρ f v _ (h2.reg _ _ e).2⟩
def q0g{s':S}(h:JW X s' s)(k:JC X c QA s'):JC X c QA s:=fun M ρ a w h1 h2=>by obtain⟨ρ',e1,e2⟩:=h M ρ a w h1 h2;exact k M ρ' a w e1 e2
variable {K:S→Prop}
variable {L L':List (Nat×AV)}{H H':List (Nat×HO)}{nx nx' d:Nat}{op:Op}{ty:TypeId}{ps:String}{af:Array Edge}{cs:List Prop}{v:AV}{g:Bool}{gg:Nat×Bool}
def ltB(d n:Nat):Bool:=Nat.blt d n
def j9{d n:Nat}(h:ltB d n=true):d<n:=by simpa[ltB] using h
def JL.fin(h:K s):JL X md all (qThen K QA) [] s:=JL.nil h
def JL.q1(hX:XOK X)(h:evb X.T op ⟨L,H,nx⟩=some (cs,v))(hd:ltB d X.n=true)(hc:allP cs)(k:JL X md all QA l ⟨(d,v)::L,H,nx⟩):JL X md all QA (⟨some d,op,ty,ps,af,none⟩::l) ⟨L,H,nx⟩:=JL.q hX rfl h (j9 hd) hc k
def JL.q0(hX:XOK X)(h:evb X.T op ⟨L,H,nx⟩=some (cs,v))(hc:allP cs)(k:JL X md all QA l ⟨L,H,nx⟩):JL X md all QA (⟨none,op,ty,ps,af,none⟩::l) ⟨L,H,nx⟩:=JL.q hX rfl h trivial hc k
def JL.m1(hX:XOK X)(h:evm X.T X.ET op ⟨L,H,nx⟩=some (cs,v,⟨L',H',nx'⟩))(hd:ltB d X.n=true)(hc:allP cs)(k:JL X true all QA l ⟨(d,v)::L',H',nx'⟩):JL X true all QA (⟨some d,op,ty,ps,af,none⟩::l) ⟨L,H,nx⟩:=JL.m hX rfl h (j9 hd) hc k
def JL.m0(hX:XOK X)(h:evm X.T X.ET op ⟨L,H,nx⟩=some (cs,v,⟨L',H',nx'⟩))(hc:allP cs)(k:JL X true all QA l ⟨L',H',nx'⟩):JL X true all QA (⟨none,op,ty,ps,af,none⟩::l) ⟨L,H,nx⟩:=JL.m hX rfl h trivial hc k
def JL.g1(hX:XOK X)(hg:gOf all L (some gg)=some g)(h:evb X.T op ⟨L,H,nx⟩=some (cs,v))(hd:ltB d X.n=true)(hc:g=true→allP cs)(k:JL X md all QA l ⟨(d,.gd g v)::L,H,nx⟩):JL X md all QA (⟨some d,op,ty,ps,af,some gg⟩::l) ⟨L,H,nx⟩:=JL.g hX hg h (j9 hd) hc k
def JL.s1{args r:AV}(h:callA X.T op ⟨L,H,nx⟩=some (cs,f,args))(hf:Fn X.P f args (·=r))(hr:r.scal=true)(ha:r.bd 0)(hd:ltB d X.n=true)(hc:allP cs)(k:JL X md all QA l ⟨(d,r)::L,H,nx⟩) :
  JL X md all QA (⟨some d,op,ty,ps,af,none⟩::l) ⟨L,H,nx⟩:=JL.callS rfl h hf hr ha (j9 hd) hc k
def JL.s1g{args r:AV}(hg:gOf all L (some gg)=some g)(h:callA X.T op ⟨L,H,nx⟩=some (cs,f,args))(hf:g=true→Fn X.P f args (·=r))(hr:r.scal=true)(ha:r.bd 0)(hd:ltB d X.n=true)(hc:g=true→allP cs)(k:JL X md all QA l ⟨(d,.gd g r)::L,H,nx⟩) :
  JL X md all QA (⟨some d,op,ty,ps,af,some gg⟩::l) ⟨L,H,nx⟩:=JL.callG hg h hf hr ha (j9 hd) hc k
def JL.c1{args:AV}{R:AV→Prop}(h:callA X.T op ⟨L,[],nx⟩=some (cs,f,args))(hf:Fn X.P f args R)(hd:ltB d X.n=true)(hc:allP cs)(k:∀ r,R r→JL X true all QA l ⟨(d,r)::L,H,nx⟩) :
  JL X true all QA (⟨some d,op,ty,ps,af,none⟩::l) ⟨L,H,nx⟩:=JL.call rfl h hf (j9 hd) hc k
def QX.tr(h:QA .ret s):qThen K QA .ret s:=h
def bif_or(a b:Bool):(bif a then true else b)=(a||b):=by cases a<;>rfl
def bif_and(a b:Bool):(bif a then b else false)=(a&&b):=by cases a<;>rfl
def cdL:(∀ a b:Bool,(bif a then true else b)=(a||b))∧(∀ a b:Bool,(bif a then b else false)=(a&&b))∧(∀ a b:Bool,((a||b)=true)=(a=true∨b=true))∧(∀ a b:Bool,((a||b)=false)↔(a=false∧b=false))∧(∀ a b:Bool,((a&&b)=true)=(a=true∧b=true))∧(∀ a b:Bool,((a&&b)=false)=(a=false∨b=false))
  ∧ (∀ b:Bool,((!b)=true)=(b=false))∧(∀ b:Bool,((!b)=false)=(b=true))∧(∀ (p:Prop) [Decidable p],(decide p=true)=p)∧(∀ (p:Prop) [Decidable p],(decide p=false)↔¬ p)∧(∀ {α:Type} [BEq α] [LawfulBEq α] (a b:α),(a==b)=true↔a=b)∧(∀ {α:Type} [BEq α] [LawfulBEq α] (a b:α),(a != b)=true↔a≠b)
  ∧ (∀ {α:Type} [BEq α] [LawfulBEq α] (a b:α),(a != b)=false↔a=b)∧(∀ {α:Type} (a b:α),(a≠b)=¬ (a=b))∧(∀ {α:Type} [BEq α] [LawfulBEq α] (a b:α),(a==b)=false↔a≠b)∧(∀ b:Bool,(¬ b=true)=(b=false)):=
 ⟨bif_or,bif_and,yyy,fun a b=>Bool.or_eq_false_iff,yyc,fun a b=>by cases a<;>cases b<;>simp,fun b=>by cases b<;>simp,fun b=>by cases b<;>simp,fun p _=>yyu,fun p _=>decide_eq_false_iff_not,fun a b=>beq_iff_eq,fun a b=>bne_iff_ne,fun a b=>bne_eq_false_iff_eq,fun a b=>rfl,fun a b=>beq_eq_false_iff_ne,fun b=>by cases b<;>simp⟩
def Ty.lens:(t:Ty)→t.den→Prop
 |.int _,_=>True|.bool,_=>True
 |.slice e,l=>List.length l≤9223372036854775807∧∀ i (h:i<List.length l),e.lens (List.get l ⟨i,h⟩)
 |.ptr e,x=>match x with|none=>True|some y=>e.lens y
 |.arr n e,l=>List.length l=n∧∀ i (h:i<List.length l),e.lens (List.get l ⟨i,h⟩)
 |.nil,_=>True
 |.cons a b,x=>a.lens x.1∧b.lens x.2
def Rep.lens{M:Mem}:∀ {t:Ty} {x:t.den} {cs:List Value},Rep M t x cs→t.lens x
 |.int _,_,_,h=>trivial
 |.bool,_,_,h=>trivial
 |.slice e,l,cs,h=>by
  simp only[Rep] at h;obtain⟨ad,cap,h1,h2,h3,ha,h4⟩:=h;have h3:cap≤9223372036854775807:=h3;refine⟨by omega,fun i hi=>?_⟩;rcases h4 with h4|⟨b,off,c,ty,fz,e1,e2,e3⟩
  ·omega
  ·exact Rep.lens (e3 i hi)
 |.ptr e,x,cs,h=>by
  cases x with
  |none=>trivial
  |some y=>simp only[Rep] at h;obtain⟨b,off,c,ty,fz,_,_,h⟩:=h;exact @Rep.lens M e y _ h
 |.arr n e,l,cs,h=>by simp only[Rep] at h;exact⟨h.1,fun i hi=>Rep.lens (h.2.2 i hi)⟩
 |.nil,_,cs,h=>trivial
 |.cons a b,x,cs,h=>by simp only[Rep] at h;obtain⟨c1,c2,_,h1,h2⟩:=h;exact⟨Rep.lens h1,Rep.lens h2⟩
def JC.lenOf(d:Nat){t:Ty}{x:t.den}(h:lk s.L d=some (.val t x))(k:t.lens x→JC X c QA s):JC X c QA s:=fun M ρ a w h1 h2=>by obtain⟨_,hv⟩:=h2.reg _ _ h;simp only[AV.rv] at hv;obtain⟨cs,e1,e5⟩:=hv;exact k e1.lens M ρ a w h1 h2
end Ox
namespace Ox
open Go Go.RowKit
variable {X:Ctx}{s:S}{M:Mem}{ρ:Env}{a:Act}{w w':World}{QA:Exit→S→Prop}{K:S→Prop}{ops:List Oper}{ls:List Nat}{fuel:Nat}
section
variable {P:Program}{md:Region.Mode}{opsA:Array Oper}{Q:Exit→Act→World→Prop}
def YA(P:Program)(ops:Array Oper)(o:Oper)(v:Value)(a:Act):Prop:=
 (Region.wanted o (yielded ops a.tmps)=true∧∀ w,(execOp a.eval o).run P w=.ok (.value v) w) ∨
 (Region.wanted o (yielded ops a.tmps)=false∧v=undef)
def YA.op{i:Nat}{o:Oper}{v:Value}{a:Act}{w:World}(hi:opsA[i]?=some o)(hn:notDef o.op=true)(hy:YA X.P opsA o v a){K:Act→World→Prop}(h:K (a.put o.dst v) w):wpOpIn X.fn 0 X.P opsA Q i K a w:=by
 unfold wpOpIn;simp only[hi];rcases hy with⟨hw,hv⟩|⟨hw,rfl⟩
 ·simp only[hw,if_true];exact w3 hn (hv w) h
 ·simp only[hw,yys,if_false];exact⟨fun f _=>q1x f,h⟩
def YA.keep{o oj:Oper}{v:Value}(ha:∀ cs b,o.op≠.select cs b)(h3:∀ d,oj.dst=some d→d∉o.looksAt opsA)(hy:YA P opsA o v a)(u:Value):YA P opsA o v (a.put oj.dst u):=by unfold YA at *;rw[wanted_put o a oj.dst u h3,execOp_put o ha a oj.dst u h3];exact hy
def z4s{d:Option Tmp}{v:Value}{K K':Act→World→Prop}(hQ:∀ e a w,e≠.normal→¬ Q e a w)(ha:∀ e,d=some e→oj.dst≠some e)
  (h:∀ (a':Act) u w,a'=a∨(∃ x,a'={a with defers:=x::a.defers})→K ((a'.put d v).put oj.dst u) w→K' (a'.put oj.dst u) w) {r:Result Next}
  (hh:oj.uponIn X.fn 0 X.P (a.put d v) K Q r):oj.uponIn X.fn 0 X.P a K' Q r:=by
 cases r with
 |ok n w'=>
  cases n with
  |value u=>simp only[Oper.uponIn] at hh ⊢;exact h a u _ (.inl rfl) hh
  |skip=>simp only[Oper.uponIn] at hh ⊢;exact h a _ _ (.inl rfl) hh
  |defer x=>simp only[Oper.uponIn] at hh ⊢;rw[Act.put_defers] at hh;exact h _ _ _ (.inr ⟨x,rfl⟩) hh
  |enter f args=>
   simp only[Oper.uponIn] at hh ⊢;refine⟨hh.1,CallsIn.mono hh.2 fun e w'' he=>?_⟩;cases e with
   |returned u=>exact h a u _ (.inl rfl) he
   |panicked c=>exact absurd he (hQ _ _ _ (by simp))
   |outgrown=>exact he
  |row r args=>simp only[Oper.uponIn] at hh ⊢;exact⟨hh.1,RowsIn.mono hh.2 (fun _ _ he=>h a _ _ (.inl rfl) he)⟩
  |round l f tmps assign body=>
   simp only[Oper.uponIn] at hh ⊢;refine⟨hh.1,RoundIn.mono hh.2 fun e w'' he=>?_⟩;cases e with
   |returned u=>exact h a u _ (.inl rfl) he
   |panicked c=>exact absurd he (hQ _ _ _ (by simp))
   |outgrown=>exact he
  |_=>simp only[Oper.uponIn] at hh
 |halt x w'=>
  cases x with
  |panic v=>simp only[Oper.uponIn] at hh;exact absurd hh (hQ _ _ _ (by simp))
  |_=>simp only[Oper.uponIn] at hh
def z76{v:Value}{K:Act→World→Prop}(hQ:∀ e a w,e≠.normal→¬ Q e a w)(hj:opsA[j]?=some oj)
  (h1:∀ d,oi.dst=some d→d∉oj.looksAt opsA) (h2:∀ d,oi.dst=some d→oj.dst≠some d) (ha:∀ cs b,oj.op≠.select cs b) (hn:notDef oj.op=true) (h:wpOpIn X.fn 0 X.P opsA Q j K (a.put oi.dst v) w) :
  wpOpIn X.fn 0 X.P opsA Q j (fun a' w'=>K (a'.put oi.dst v) w') a w:=by
 unfold wpOpIn at *;simp only[hj] at *;rw[wanted_put oj a oi.dst v h1] at h;split
 ·rename_i hw;simp only[hw,if_true] at h;refine⟨fun f _=>q1x f,?_⟩;have h:=h.2;rw[q0d hn,execOp_put oj ha a oi.dst v h1] at h;rw[q0d hn];refine z4s hQ h2 (fun a' u w'' _ hk=>?_) h;rw[← Act.put_comm a' v u h2];exact hk
 ·rename_i hw;simp only[hw] at h;refine⟨fun f _=>q1x f,?_⟩;show K _ _;rw[← Act.put_comm a v undef h2];exact h.2
def wpOp_put{v:Value}{K:Act→World→Prop}(hQ:∀ e a w,e≠.normal→¬ Q e a w)(hj:opsA[j]?=some oj)(hb:oi.apart opsA oj=true)
  (ha:∀ cs b,oi.op≠.select cs b) (hd:∀ cs b,oj.op≠.select cs b) (hn:notDef oj.op=true) (hy:YA X.P opsA oi v a) (h:wpOpIn X.fn 0 X.P opsA Q j K (a.put oi.dst v) w) :
  wpOpIn X.fn 0 X.P opsA Q j (fun a' w'=>YA X.P opsA oi v a'∧K (a'.put oi.dst v) w') a w:=by
 obtain⟨h1,h2,h3⟩:=Oper.apart_spec hb;have he:∀ (a':Act),a'=a∨(∃ x,a'={a with defers:=x::a.defers})→YA X.P opsA oi v a':=fun a' e=>by
  rcases e with rfl|⟨x,rfl⟩
  ·exact hy
  ·exact hy
 unfold wpOpIn at *;simp only[hj] at *;rw[wanted_put oj a oi.dst v h1] at h;split
 ·rename_i hw;simp only[hw,if_true] at h;refine⟨fun f _=>q1x f,?_⟩;have h:=h.2;rw[q0d hn,execOp_put oj hd a oi.dst v h1] at h;rw[q0d hn];refine z4s hQ h2 (fun a' u w'' e hk=>⟨(he a' e).keep ha h3 u,?_⟩) h;rw[← Act.put_comm a' v u h2];exact hk
 ·rename_i hw;simp only[hw] at h;exact⟨fun f _=>q1x f,hy.keep ha h3 _,by rw[← Act.put_comm a v undef h2];exact h.2⟩
def q02{v:Value}(hQ:∀ e a w,e≠.normal→¬ Q e a w)(hi:opsA[i]?=some oi)(hh:∀ (j:Nat) (o:Oper) cs b,opsA[j]?=some o→o.op≠.select cs b)(hw:∀ (j:Nat) o,opsA[j]?=some o→notDef o.op=true) :
  ∀ (fuel:Nat) (listed:Array Bool) (a:Act) (w:World),
   (∀ j oj,opsA[j]?=some oj→j≠i→listed.getD j true=false→(∀ e∈oj.after,Region.binds md e=true→e.on≠i)→oi.apart opsA oj=true) →
   i∈Region.ready md opsA listed→YA X.P opsA oi v a →
   wpAnyIn X.fn 0 X.P md opsA Q fuel (listed.setIfInBounds i true) (a.put oi.dst v) w→wpAnyIn X.fn 0 X.P md opsA Q (fuel+1) listed a w:=by
 intro fuel;induction fuel with
 |zero=>
  intro listed a w _ hr hy H;refine⟨fun h=>(by rw[h] at hr;cases hr),fun j hj=>?_⟩;by_cases ha:j=i
  ·subst ha;exact hy.op hi (hw _ _ hi) H
  ·have:=ready_mono hj ha;rw[H.1] at this;cases this
 |succ fuel ih=>
  intro listed a w hd hr hy H;refine⟨fun h=>(by rw[h] at hr;cases hr),fun j hj=>?_⟩;by_cases ha:j=i
  ·subst ha;exact hy.op hi (hw _ _ hi) H
  ·have h1:=H.2 j (ready_mono hj ha);obtain⟨hu,oj,hv,hall⟩:=mem_ready.1 hj;have hA:∀ e∈oj.after,Region.binds md e=true→e.on≠i:=fun e he hb hD=>by
    have h1:=hall e he hb;have h0:=(mem_ready.1 hr).1;rw[hD] at h1;rcases Nat.lt_or_ge i listed.size with h'|h'
    ·simp[h'] at h0 h1;rw[h0] at h1;cases h1
    ·simp[Array.getElem?_eq_none h'] at h1
   have h2:=wpOp_put hQ hv (hd j oj hv ha hu hA) (fun cs b=>hh i oi cs b hi) (fun cs b=>hh j oj cs b hv) (hw _ _ hv) hy h1;have hg:∀ k ok,opsA[k]?=some ok→k≠i→(listed.setIfInBounds j true).getD k true=false →
     (∀ e∈ok.after,Region.binds md e=true→e.on≠i)→oi.apart opsA ok=true:=fun k ok hk hE hB hF=>by
    refine hd k ok hk hE ?_ hF;by_cases hC:j=k
    ·subst hC;exact hu
    ·rw[getD_set_ne true hC] at hB;exact hB
   refine wpOpIn_mono (fun a' w' h3=>ih (listed.setIfInBounds j true) a' w' hg (ready_mono hr (Ne.symm ha)) h3.1 ?_) h2;rw[Array.setIfInBounds_comm _ _ ha];exact h3.2
end
def Lst(n:Nat)(ls:List Nat)(l:Array Bool):Prop:=l.size=n∧∀ j,j<n→l[j]?=some (ls.contains j)
def Lst.getT{n j:Nat}{l:Array Bool}(h:Lst n ls l)(hj:j<n)(d:Bool):l.getD j d=ls.contains j:=by have:=h.2 j hj;simp[yyr,this]
def Lst.set{n i:Nat}{l:Array Bool}(h:Lst n ls l)(hi:i<n):Lst n (i::ls) (l.setIfInBounds i true):=by
 refine⟨by simp[h.1],fun j hj=>?_⟩;rw[yxo];by_cases e:i=j
 ·subst e;simp[h.1,hi]
 ·rw[if_neg e,h.2 j hj];simp[Ne.symm e]
def edgesL(n:Nat)(ls:List Nat):List Edge→Bool
 |[]=>true
 |e::r=>(!Region.binds .any e||(Nat.blt e.on n&&ls.contains e.on))&&edgesL n ls r
def rdyL(n:Nat)(ls:List Nat):Nat→List Oper→List (Nat×Oper)
 |_,[]=>[]
 |i,o::r=>match ls.contains i||!edgesL n ls o.after.toList with
  |true=>rdyL n ls (i+1) r
  |false=>(i,o)::rdyL n ls (i+1) r
def u0{n:Nat}{es:List Edge}:edgesL n ls es=true↔∀ e∈es,Region.binds .any e=true→e.on<n∧ls.contains e.on=true:=by
 induction es with
 |nil=>simp[edgesL]
 |cons e r ih=>
  simp only[edgesL,yyc,yyy,yyv,ih,yyk,forall_eq_or_imp,Nat.blt_eq];refine⟨fun⟨h1,h2⟩=>⟨fun hb=>?_,h2⟩,fun⟨h1,h2⟩=>⟨?_,h2⟩⟩
  ·rcases h1 with h1|h1
   ·rw[h1] at hb;cases hb
   ·exact h1
  ·cases hb:Region.binds .any e with
   |false=>exact .inl rfl
   |true=>exact .inr (h1 hb)
def q1y{n:Nat}:∀ {r:List Oper} {k i:Nat} {o:Oper},(i,o)∈rdyL n ls k r↔k≤i∧r[i-k]?=some o∧ls.contains i=false∧edgesL n ls o.after.toList=true
 |[],k,i,o=>by simp[rdyL]
 |x::r,k,i,o=>by
  have ih:=@q1y n r (k+1) i o;have step:(k≤i∧(x::r)[i-k]?=some o∧ls.contains i=false∧edgesL n ls o.after.toList=true) ↔
    ((i=k∧x=o∧ls.contains i=false∧edgesL n ls o.after.toList=true)∨(k+1≤i∧r[i-(k+1)]?=some o∧ls.contains i=false∧edgesL n ls o.after.toList=true)):=by
   rcases Nat.lt_trichotomy i k with h|h|h
   ·constructor
    ·intro e;omega
    ·rintro(e|e)<;>omega
   ·subst h;rw[Nat.sub_self,List.getElem?_cons_zero];constructor
    ·rintro⟨_,e,f⟩;injection e with e;exact .inl ⟨rfl,e,f⟩
    ·rintro(⟨_,e,f⟩|e)
     ·exact⟨yyl _,by rw[e],f⟩
     ·omega
   ·have e:i-k=(i-(k+1))+1:=by omega
    rw[e,yxi];constructor
    ·intro e;exact .inr ⟨by omega,e.2⟩
    ·rintro(e|e)
     ·omega
     ·exact⟨by omega,e.2⟩
  rw[step];simp only[rdyL];split
  ·rename_i hb;rw[ih];refine⟨fun h=>.inr h,fun h=>?_⟩;rcases h with⟨rfl,rfl,e1,e2⟩|h
   ·simp only[yyy,yyv] at hb;rw[e1,e2] at hb;simp at hb
   ·exact h
  ·rename_i hb;simp only[Bool.or_eq_false_iff,Bool.not_eq_false'] at hb;rw[yyk,ih];constructor
   ·rintro(e|e)
    ·injection e with e1 e2;subst e1 e2;exact .inl ⟨rfl,rfl,hb⟩
    ·exact .inr e
   ·rintro(⟨rfl,rfl,_⟩|e)
    ·exact .inl rfl
    ·exact .inr e
def q6o{l:Array Bool}(h:Lst ops.length ls l)(i:Nat):i∈Region.ready .any ops.toArray l↔∃ o,(i,o)∈rdyL ops.length ls 0 ops:=by
 rw[mem_ready];constructor
 ·rintro⟨h1,o,h2,h3⟩;have hi:i<ops.length:=by have:=(yyi.1 h2).1;simpa using this
  refine⟨o,q1y.2 ⟨by omega,by simpa using h2,by rw[h.getT hi] at h1;exact h1,u0.2 fun e he hb=>?_⟩⟩;have h4:=h3 e (by simpa using he) hb;rcases Nat.lt_or_ge e.on ops.length with hl|hl
  ·rw[h.getT hl] at h4;exact⟨hl,h4⟩
  ·have:l.size≤e.on:=by rw[h.1];exact hl
   simp[yyr,Array.getElem?_eq_none this] at h4
 ·rintro⟨o,ho⟩;obtain⟨_,h2,h3,h4⟩:=q1y.1 ho;have h2:ops[i]?=some o:=by simpa using h2
  have hi:i<ops.length:=(yy6.1 h2).1;refine⟨by rw[h.getT hi];exact h3,o,by simpa using h2,fun e he hb=>?_⟩;obtain⟨e1,e2⟩:=u0.1 h4 e (by simpa using he) hb;rw[h.getT e1];exact e2
def qN(K:S→Prop):Exit→S→Prop:=qThen K (fun _ _=>False)
def JAny(X:Ctx)(ops:List Oper)(K:S→Prop)(fuel:Nat)(ls:List Nat)(s:S):Prop:=∀ M ρ a w l,Lst ops.length ls l→SAT X M ρ s w→REG X M ρ s a→wpAnyIn X.fn 0 X.P .any ops.toArray (conc X (qN K)) fuel l a w
def q46{e:Exit}(he:e≠.normal):¬ conc X (qN K) e a w:=by rintro⟨M,ρ,s,_,_,h⟩;cases e<;>simp[qN,qThen] at h he
def upon_to{K1 K2:Act→World→Prop}{Q1 Q2:Exit→Act→World→Prop}{o:Oper}{r:Result Next}(hQ:∀ e a w,e≠.normal→¬ Q1 e a w)(h:∀ a w,K1 a w→K2 a w)(hh:o.uponIn X.fn 0 X.P a K1 Q1 r):o.uponIn X.fn 0 X.P a K2 Q2 r:=by
 cases r with
 |ok n w'=>
  cases n<;>simp only[Oper.uponIn] at hh ⊢ <;>
   first
    |exact h _ _ hh
    |exact⟨hh.1,CallsIn.mono hh.2 (fun e w'' he=>by
      cases e with
      |returned v=>exact h _ _ he
      |panicked c=>exact absurd he (hQ _ _ _ (by simp))
      |outgrown=>obtain⟨a0,w0,h0⟩:=he;exact absurd h0 (hQ _ _ _ (by simp)))⟩
    |exact⟨hh.1,RoundIn.mono hh.2 (fun e w'' he=>by
      cases e with
      |returned v=>exact h _ _ he
      |panicked c=>exact absurd he (hQ _ _ _ (by simp))
      |outgrown=>obtain⟨a0,w0,h0⟩:=he;exact absurd h0 (hQ _ _ _ (by simp)))⟩
    |exact⟨hh.1,RowsIn.mono hh.2 (fun _ _ he=>h _ _ he)⟩
 |halt x w'=>cases x<;>simp only[Oper.uponIn] at hh ⊢<;>exact absurd hh (hQ _ _ _ (by simp))
def q72{K1:S→Prop}{o:Oper}(ho:ops[i]?=some o)(h:wpListIn X.fn 0 X.P ops.toArray (conc X (qN K1)) [o] a w) :
  wpOpIn X.fn 0 X.P ops.toArray (conc X (qN K)) i (fun b w'=>∃ M ρ s,SAT X M ρ s w'∧REG X M ρ s b∧K1 s) a w:=by
 unfold wpOpIn;simp only[yxp,ho];unfold wpListIn at h;split
 ·rename_i hw;simp only[hw,if_true] at h;exact⟨h.1,upon_to (fun _ _ _ h=>q46 h) (fun a w hk=>hk) h.2⟩
 ·rename_i hw;simp only[hw] at h;exact⟨h.1,h.2⟩
def j3o(hr:rdyL ops.length ls 0 ops=[])(h:K s):JAny X ops K fuel ls s:=by
 intro M ρ a w l hl h1 h2;have h0:Region.ready .any ops.toArray l=[]:=by rw[List.eq_nil_iff_forall_not_mem];intro i hi;obtain⟨o,ho⟩:=(q6o hl i).1 hi;rw[hr] at ho;cases ho
 cases fuel with
 |zero=>exact⟨h0,M,ρ,s,h1,h2,h⟩
 |succ n=>exact⟨fun _=>⟨M,ρ,s,h1,h2,h⟩,fun i hi=>by rw[h0] at hi;cases hi⟩
def BrA(X:Ctx)(ops:List Oper)(K:S→Prop)(fuel:Nat)(ls:List Nat)(s:S):List (Nat×Oper)→Prop
 |[]=>True
 |p::r=>JL X true ops (qN fun s'=>JAny X ops K fuel (p.1::ls) s') [p.2] s∧BrA X ops K fuel ls s r
def BrA.mem{r:List (Nat×Oper)}(h:BrA X ops K fuel ls s r)(hp:p∈r):JL X true ops (qN fun s'=>JAny X ops K fuel (p.1::ls) s') [p.2] s:=by
 induction r with
 |nil=>cases hp
 |cons q r ih=>
  rcases yyk.1 hp with e|e
  ·subst e;exact h.1
  ·exact ih h.2 e
def BrA.one{r:List (Nat×Oper)}(h:JL X true ops (qN fun s'=>JAny X ops K fuel (p.1::ls) s') [p.2] s)(h':BrA X ops K fuel ls s r):BrA X ops K fuel ls s (p::r):=⟨h,h'⟩
def BrA.nil:BrA X ops K fuel ls s []:=trivial
def freeL(n:Nat)(ops:List Oper)(ls:List Nat)(i:Nat)(oi:Oper):Nat→List Oper→Bool
 |_,[]=>true
 |j,oj::r=>(j==i||ls.contains j||oj.after.toList.any (fun e=>Region.binds .any e&&e.on==i)||oi.apart ops.toArray oj)&&freeL n ops ls i oi (j+1) r
def q1n{n i:Nat}{oi:Oper}:∀ {r:List Oper} {k:Nat},freeL n ops ls i oi k r=true→∀ j oj,r[j]?=some oj→k+j≠i→ls.contains (k+j)=false→(∀ e∈oj.after,Region.binds .any e=true→e.on≠i)→oi.apart ops.toArray oj=true
 |[],_,_,j,oj,h,_,_,_=>by simp at h
 |x::r,k,hf,j,oj,h,hb,hc,he=>by
  simp only[freeL,yyc,yyy,beq_iff_eq] at hf;cases j with
  |zero=>
   simp at h;subst h;rcases hf.1 with((h1|h1)|h1)|h1
   ·exact absurd h1 hb
   ·rw[Nat.add_zero] at hc;rw[h1] at hc;cases hc
   ·obtain⟨e,hd,ha⟩:=List.any_eq_true.1 h1;simp only[yyc,beq_iff_eq] at ha;exact absurd ha.2 (he e (by simpa using hd) ha.1)
   ·exact h1
  |succ j=>rw[yxi] at h;exact q1n hf.2 j oj h (by omega) (by rw[show k+1+j=k+(j+1) by omega];exact hc) he
def q31{id:Nat}(hX:XOK X)(K:S→Prop)(h:JAny X ops K ops.length [] s)(hK:∀ s,K s→QA .normal s):JC X (.region id ⟨ops⟩ true) QA s:=by
 have h':JC X (.region id ⟨ops⟩ true) (qN K) s:=by intro M ρ a w h1 h2;refine wpIn_region_any hX.mixed ?_;have hl:Lst ops.length [] (Array.replicate ops.length false):=⟨by simp,fun j hj=>by simp[hj]⟩;exact h M ρ a _ _ hl h1.drew h2
 exact h'.mono fun e s h=>by
  cases e with
  |normal=>exact hK s h
  |_=>exact False.elim h
variable {all l:List Oper}{md:Bool}{F:List Nat}
def fzL(HF:List (Nat×HO))(F:List Nat)(x:Leaf):Option (List Prop×AV):=
 match x with
 |.nils|.nilp=>some ([],.lf x)
 |.osl l=>match F.contains l with
  |true=>(match lk HF l with
   |some (.sl _ e _)=>(toK HF 8 (.slice e) (.lf x) fun c y=>some (c,y)).map fun r=>(r.1,.val (.slice e) r.2)
   |_=>none)
  |false=>some ([],.lf x)
 |.ovw l _ _ _=>match F.contains l with
  |true=>(match lk HF l with
   |some (.sl _ e _)=>(toK HF 8 (.slice e) (.lf x) fun c y=>some (c,y)).map fun r=>(r.1,.val (.slice e) r.2)
   |_=>none)
  |false=>some ([],.lf x)
 |.optr l p=>match F.contains l with
  |true=>(match lk HF l with
   |some (.cell t0 _)=>(match t0.sub p with
    |some t=>(toK HF 8 (.ptr t) (.lf x) fun c y=>some (c,y)).map fun r=>(r.1,.val (.ptr t) r.2)
    |none=>none)
   |_=>none)
  |false=>some ([],.lf x)
 |.oelt l _ _|.oarr l _ _ _|.mp l|.itr l|.yld l=>match F.contains l with
  |true=>none
  |false=>some ([],.lf x)
def fzV(HF:List (Nat×HO))(F:List Nat):AV→Option (List Prop×AV)
 |.lf x=>fzL HF F x
 |.mix a b=>(fzV HF F a).bind fun a=>(fzV HF F b).map fun b=>(a.1++b.1,.mix a.2 b.2)
 |.acons a b=>(fzV HF F a).bind fun a=>(fzV HF F b).map fun b=>(a.1++b.1,.acons a.2 b.2)
 |.fn f a b=>(fzV HF F a).bind fun a=>(fzV HF F b).map fun b=>(a.1++b.1,.fn f a.2 b.2)
 |.tup a=>(fzV HF F a).map fun a=>(a.1,.tup a.2)
 |.gd g a=>(fzV HF F a).map fun a=>(a.1,.gd g a.2)
 |.pfn a=>(fzV HF F a).map fun a=>(a.1,.pfn a.2)
 |.raw _=>none
 |v=>some ([],v)
def fzR(HF:List (Nat×HO))(F:List Nat)(L:List (Nat×AV)):List Nat→Option (List Prop×List (Nat×AV))
 |[]=>some ([],[])
 |d::r=>match lk L d with
  |some v=>(fzV HF F v).bind fun v=>(fzR HF F L r).map fun r=>(v.1++r.1,(d,v.2)::r.2)
  |none=>none
def fzH(HF:List (Nat×HO))(F:List Nat):List (Nat×HO)→Option (List Prop×List (Nat×HO))
 |[]=>some ([],[])
 |(l,o)::r=>match F.contains l with
  |true=>fzH HF F r
  |false=>match o with
   |.cell t a=>(fzV HF F a).bind fun a=>if confB t a.2 then(fzH HF F r).map fun r=>(a.1++r.1,(l,.cell t a.2)::r.2) else none
   |.sl eid e xs=>(fzH HF F r).map fun r=>(r.1,(l,.sl eid e xs)::r.2)
   |.map kt vt es clk=>(fzH HF F r).map fun r=>(r.1,(l,.map kt vt es clk)::r.2)
   |.iter m since seen last=>(fzH HF F r).map fun r=>(r.1,(l,.iter m since seen last)::r.2)
   |.cus Q=>(fzH HF F r).map fun r=>(r.1,(l,.cus Q)::r.2)
   |.loop st pe ps az bd n L=>(fzR HF F L (L.map (·.1))).bind fun q=>(fzH HF F r).map fun r=>(q.1++r.1,(l,.loop st pe ps az bd n q.2)::r.2)
   |.fr i L=>(fzR HF F L (L.map (·.1))).bind fun q=>(fzH HF F r).map fun r=>(q.1++r.1,(l,.fr i q.2)::r.2)
   |.raw ..|.rmap ..|.riter ..|.gl ..|.mrow ..|.dlk ..=>none
def pickF(H:List (Nat×HO))(F:List Nat):List (Nat×HO):=H.filter fun p=>F.contains p.1
def frz(F K:List Nat)(s:S):Option (List Prop×S):=(fzR (pickF s.H F) F s.L K).bind fun l=>(fzH (pickF s.H F) F s.H).map fun h=>(l.1++h.1,⟨l.2,h.2,s.nx⟩)
def q7s{m:Nat}:∀ {H:List (Nat×HO)},lk (pickF H F) m=if F.contains m=true then lk H m else none
 |[]=>by simp only[pickF,List.filter_nil,lk,ite_self]
 |(k,v)::H=>by
  have ih:=@q7s m H;unfold pickF at ih ⊢;rw[List.filter_cons];by_cases hk:F.contains k=true
  ·rw[if_pos hk];simp only[lk,ih];by_cases h2:k=m
   ·subst h2;rw[if_pos rfl,if_pos rfl,if_pos hk]
   ·rw[if_neg h2,if_neg h2]
  ·rw[if_neg hk,ih];simp only[lk];by_cases h2:k=m
   ·subst h2;rw[if_neg hk,if_neg hk]
   ·rw[if_neg h2]
noncomputable def frzM(F:List Nat)(s:S)(M:Mem)(ρ:Env)(w:World):Mem:=fun b=>open Classical in if ∃ l o,lk (pickF s.H F) l=some o∧o.at ρ l=some b then w.heap[b]? else M b
def z0r(h1:SAT X M ρ s w):∀ b o,M b=some o→frzM F s M ρ w b=some o:=fun b o hb=>by
 unfold frzM;split
 ·rename_i h;obtain⟨l,o',h2,h3⟩:=h;rw[q7s] at h2;split at h2
  ·rw[h1.notM l o' b h2 h3] at hb;cases hb
  ·cases h2
 ·exact hb
def q6x(h1:SAT X M ρ s w):M.le (frzM F s M ρ w):=fun b _ _ _ hb=>z0r h1 b _ hb
def j01(h1:SAT X M ρ s w):SAT X M ρ ⟨s.L,pickF s.H F,s.nx⟩ w:=by
 have hs:∀ l o,lk (pickF s.H F) l=some o→lk s.H l=some o:=fun l o h=>by
  rw[q7s] at h;split at h
  ·exact h
  ·cases h
 exact⟨h1.below,h1.msub,h1.mnew,h1.mem,fun l o h=>h1.own l o (hs l o h),fun l l' o o' b h h'=>h1.apart l l' o o' b (hs _ _ h) (hs _ _ h'),fun l o b h=>h1.notM l o b (hs _ _ h)⟩
def frz_seen(h1:SAT X M ρ s w):Seen ρ ⟨s.L,pickF s.H F,s.nx⟩ M (frzM F s M ρ w) w:=⟨q6x h1,fun l o b h hb=>by unfold frzM;rw[if_pos ⟨l,o,h,hb⟩]⟩
def j00(h1:SAT X M ρ s w){x:Leaf}{r:List Prop×AV}(h:fzL (pickF s.H F) F x=some r)(hc:allP r.1)(hb:x.bd s.nx) :
  r.2.bd s.nx∧(∀ u,(AV.lf x).rv M ρ u→r.2.rv (frzM F s M ρ w) ρ u)∧(∀ cs,(AV.lf x).rc M ρ cs→r.2.rc (frzM F s M ρ w) ρ cs):=by
 have keep:∀ {x:Leaf},x.bd s.nx→(AV.lf x).bd s.nx∧(∀ u,(AV.lf x).rv M ρ u→(AV.lf x).rv (frzM F s M ρ w) ρ u)∧(∀ cs,(AV.lf x).rc M ρ cs→(AV.lf x).rc (frzM F s M ρ w) ρ cs):=fun hb=>⟨hb,fun u hu=>j5 (q6x h1) (Env.upTo.refl ρ s.nx) (a:=.lf _) hb hu,fun cs hu=>p7 (q6x h1) (Env.upTo.refl ρ s.nx) (a:=.lf _) hb hu⟩
 have data:∀ {t:Ty} {v:AV} {q:List Prop×AV},((toK (pickF s.H F) 8 t v fun c y=>some (c,y)).map fun r=>(r.1,AV.val t r.2))=some q→allP q.1 →
   q.2.bd s.nx∧(∀ u,v.rv M ρ u→q.2.rv (frzM F s M ρ w) ρ u)∧(∀ cs,v.rc M ρ cs→q.2.rc (frzM F s M ρ w) ρ cs):=fun {t v q} hq hc=>by
  simp only[yym] at hq;obtain⟨p,hp,rfl⟩:=hq;obtain⟨cs,y,hk,hy⟩:=q1o (j01 (F:=F) h1) (frz_seen h1) 8 hp;injection hk with hk;subst hk
  have hy:=hy hc;refine⟨trivial,fun u hu=>?_,fun cs hu=>?_⟩
  ·simp only[AV.rv];exact hy.1 u hu
  ·simp only[AV.rc];exact hy.2 cs hu
 unfold fzL at h;split at h
 ·injection h with h;subst h;exact keep hb
 ·injection h with h;subst h;exact keep hb
 ·split at h
  ·split at h
   ·exact data h hc
   ·cases h
  ·injection h with h;subst h;exact keep hb
 ·split at h
  ·split at h
   ·exact data h hc
   ·cases h
  ·injection h with h;subst h;exact keep hb
 ·split at h
  ·split at h
   ·split at h
    ·exact data h hc
    ·cases h
   ·cases h
  ·injection h with h;subst h;exact keep hb
 ·split at h
  ·cases h
  ·injection h with h;subst h;exact keep hb
 ·split at h
  ·cases h
  ·injection h with h;subst h;exact keep hb
 ·split at h
  ·cases h
  ·injection h with h;subst h;exact keep hb
 ·split at h
  ·cases h
  ·injection h with h;subst h;exact keep hb
 ·split at h
  ·cases h
  ·injection h with h;subst h;exact keep hb
def q2h(h1:SAT X M ρ s w):∀ {v:AV} {r:List Prop×AV},fzV (pickF s.H F) F v=some r→allP r.1→v.bd s.nx →
  r.2.bd s.nx∧(∀ u,v.rv M ρ u→r.2.rv (frzM F s M ρ w) ρ u)∧(∀ us,v.rvs M ρ us→r.2.rvs (frzM F s M ρ w) ρ us)∧(∀ cs,v.rc M ρ cs→r.2.rc (frzM F s M ρ w) ρ cs):=by
 intro v;have ha:=q6x (F:=F) h1;have hr:=Env.upTo.refl ρ s.nx;induction v with
 |lf x=>intro r h hc hb;simp only[fzV] at h;obtain⟨e1,e2,e3⟩:=j00 h1 h hc hb;exact⟨e1,e2,fun us hu=>by simp only[AV.rvs] at hu,e3⟩
 |mix x y ihx ihy=>
  intro r h hc hb;simp only[fzV,yyo,yym] at h;obtain⟨p,hp,q,hq,rfl⟩:=h;rw[z7] at hc;obtain⟨a1,a2,a3,a4⟩:=ihx hp hc.1 hb.1;obtain⟨b1,b2,b3,b4⟩:=ihy hq hc.2 hb.2;refine⟨⟨a1,b1⟩,fun u hu=>?_,fun us hu=>by simp only[AV.rvs] at hu,fun cs hu=>?_⟩
  ·simp only[AV.rv] at hu ⊢;obtain⟨c1,c2,k1,k2,k3⟩:=hu;exact⟨c1,c2,a4 _ k1,b4 _ k2,k3⟩
  ·simp only[AV.rc] at hu ⊢;obtain⟨c1,c2,k1,k2,k3⟩:=hu;exact⟨c1,c2,a4 _ k1,b4 _ k2,k3⟩
 |acons x y ihx ihy=>intro r h hc hb;simp only[fzV,yyo,yym] at h;obtain⟨p,hp,q,hq,rfl⟩:=h;rw[z7] at hc;obtain⟨a1,a2,a3,a4⟩:=ihx hp hc.1 hb.1;obtain⟨b1,b2,b3,b4⟩:=ihy hq hc.2 hb.2;refine⟨⟨a1,b1⟩,fun u hu=>by simp only[AV.rv] at hu,fun us hu=>?_,fun cs hu=>by simp only[AV.rc] at hu⟩;simp only[AV.rvs] at hu ⊢;obtain⟨v,r',k1,k2,k3⟩:=hu;exact⟨v,r',a2 _ k1,b3 _ k2,k3⟩
 |fn f x y ihx ihy=>
  intro r h hc hb;simp only[fzV,yyo,yym] at h;obtain⟨p,hp,q,hq,rfl⟩:=h;rw[z7] at hc;obtain⟨a1,a2,a3,a4⟩:=ihx hp hc.1 hb.1;obtain⟨b1,b2,b3,b4⟩:=ihy hq hc.2 hb.2;refine⟨⟨a1,b1⟩,fun u hu=>?_,fun us hu=>by simp only[AV.rvs] at hu,fun cs hu=>?_⟩
  ·simp only[AV.rv] at hu ⊢;obtain⟨fs,ks,k1,k2,k3⟩:=hu;exact⟨fs,ks,a3 _ k1,b3 _ k2,k3⟩
  ·simp only[AV.rc] at hu ⊢;obtain⟨fs,ks,k1,k2,k3⟩:=hu;exact⟨fs,ks,a3 _ k1,b3 _ k2,k3⟩
 |tup x ihx=>intro r h hc hb;simp only[fzV,yym] at h;obtain⟨p,hp,rfl⟩:=h;obtain⟨a1,a2,a3,a4⟩:=ihx hp hc hb;refine⟨a1,fun u hu=>?_,fun us hu=>by simp only[AV.rvs] at hu,fun cs hu=>by simp only[AV.rc] at hu⟩;simp only[AV.rv] at hu ⊢;obtain⟨vs,k1,k2⟩:=hu;exact⟨vs,a3 _ k1,k2⟩
 |raw x=>intro r h hc hb;simp[fzV] at h
 |pfn x ihx=>intro r h hc hb;simp only[fzV,yym] at h;obtain⟨p,hp,rfl⟩:=h;obtain⟨a1,a2,a3,a4⟩:=ihx hp hc hb;refine⟨a1,fun u hu=>?_,fun us hu=>by simp only[AV.rvs] at hu,fun cs hu=>by simp only[AV.rc] at hu⟩;simp only[AV.rv] at hu ⊢;obtain⟨b,fv,ty,fz,k1,k2,k3⟩:=hu;exact⟨b,fv,ty,fz,k1,ha _ _ _ _ k2,a2 _ k3⟩
 |gd g x ihx=>
  intro r h hc hb;simp only[fzV,yym] at h;obtain⟨p,hp,rfl⟩:=h;refine⟨fun hg=>(ihx hp hc (hb hg)).1,fun u hu=>?_,fun us hu=>by simp only[AV.rvs] at hu,fun cs hu=>by simp only[AV.rc] at hu⟩;simp only[AV.rv] at hu ⊢;cases g with
  |true=>exact⟨fun hg=>(ihx hp hc (hb rfl)).2.1 _ (hu.1 hg),fun h=>by cases h⟩
  |false=>exact⟨fun h=>(by cases h),hu.2⟩
 |val t x=>intro r h hc hb;simp only[fzV,yya] at h;subst h;exact⟨hb,fun u hu=>j5 ha hr hb hu,fun us hu=>y5 ha hr hb hu,fun cs hu=>p7 ha hr hb hu⟩
 |anil=>intro r h hc hb;simp only[fzV,yya] at h;subst h;exact⟨hb,fun u hu=>j5 ha hr hb hu,fun us hu=>y5 ha hr hb hu,fun cs hu=>p7 ha hr hb hu⟩
 |undef=>intro r h hc hb;simp only[fzV,yya] at h;subst h;exact⟨hb,fun u hu=>j5 ha hr hb hu,fun us hu=>y5 ha hr hb hu,fun cs hu=>p7 ha hr hb hu⟩
 |full e x=>intro r h hc hb;simp only[fzV,yya] at h;subst h;exact⟨hb,fun u hu=>j5 ha hr hb hu,fun us hu=>y5 ha hr hb hu,fun cs hu=>p7 ha hr hb hu⟩
def q1h{HF:List (Nat×HO)}:∀ {H:List (Nat×HO)} {r:List Prop×List (Nat×HO)},fzH HF F H=some r→allP r.1→∀ l o',lk r.2 l=some o'→F.contains l=false∧∃ o,lk H l=some o ∧
  (match o with
   |.cell t a=>∃ q,fzV HF F a=some q∧allP q.1∧confB t q.2=true∧o'=.cell t q.2
   |.sl eid e xs=>o'=.sl eid e xs
   |.map kt vt es clk=>o'=.map kt vt es clk
   |.iter m since seen last=>o'=.iter m since seen last
   |.cus Q=>o'=.cus Q
   |.loop st pe ps az bd n L=>∃ q,fzR HF F L (L.map (·.1))=some q∧allP q.1∧o'=.loop st pe ps az bd n q.2
   |.fr i L=>∃ q,fzR HF F L (L.map (·.1))=some q∧allP q.1∧o'=.fr i q.2
   |.raw ..|.rmap ..|.riter ..|.gl ..|.mrow ..|.dlk ..=>False)
 |[],r,h,_,l,o',hl=>by simp only[fzH,yya] at h;subst h;simp[lk] at hl
 |(k,u)::H,r,h,hc,l,o',hl=>by
  simp only[fzH] at h;split at h
  ·rename_i hk;obtain⟨e1,o,e2,e3⟩:=q1h h hc l o' hl;refine⟨e1,o,?_,e3⟩;have:k≠l:=by rintro rfl;rw[hk] at e1;cases e1
   simp only[lk,if_neg this,e2]
  ·rename_i hk;cases u with
   |raw ty k n c=>cases h
   |rmap es clk=>cases h
   |riter m since seen last bk=>cases h
   |gl g ty n c=>cases h
   |mrow f n c=>cases h
   |dlk A y m=>cases h
   |cell t a=>
    simp only[yyo] at h;obtain⟨q,hq,h⟩:=h;split at h
    ·rename_i ha;simp only[yym] at h;obtain⟨p,hp,rfl⟩:=h;rw[z7] at hc;simp only[lk] at hl ⊢;by_cases e:k=l
     ·subst e;rw[if_pos rfl] at hl;injection hl with hl;subst hl
      exact⟨hk,.cell t a,by rw[if_pos rfl],q,hq,hc.1,ha,rfl⟩
     ·rw[if_neg e] at hl ⊢;exact q1h hp hc.2 l o' hl
    ·cases h
   |sl eid e' xs=>
    simp only[yym] at h;obtain⟨p,hp,rfl⟩:=h;simp only[lk] at hl ⊢;by_cases e:k=l
    ·subst e;rw[if_pos rfl] at hl;injection hl with hl;subst hl
     exact⟨hk,.sl eid e' xs,by rw[if_pos rfl],rfl⟩
    ·rw[if_neg e] at hl ⊢;exact q1h hp hc l o' hl
   |map kt vt es clk=>
    simp only[yym] at h;obtain⟨p,hp,rfl⟩:=h;simp only[lk] at hl ⊢;by_cases e:k=l
    ·subst e;rw[if_pos rfl] at hl;injection hl with hl;subst hl
     exact⟨hk,.map kt vt es clk,by rw[if_pos rfl],rfl⟩
    ·rw[if_neg e] at hl ⊢;exact q1h hp hc l o' hl
   |iter m since seen last=>
    simp only[yym] at h;obtain⟨p,hp,rfl⟩:=h;simp only[lk] at hl ⊢;by_cases e:k=l
    ·subst e;rw[if_pos rfl] at hl;injection hl with hl;subst hl
     exact⟨hk,.iter m since seen last,by rw[if_pos rfl],rfl⟩
    ·rw[if_neg e] at hl ⊢;exact q1h hp hc l o' hl
   |cus Q=>
    simp only[yym] at h;obtain⟨p,hp,rfl⟩:=h;simp only[lk] at hl ⊢;by_cases e:k=l
    ·subst e;rw[if_pos rfl] at hl;injection hl with hl;subst hl
     exact⟨hk,.cus Q,by rw[if_pos rfl],rfl⟩
    ·rw[if_neg e] at hl ⊢;exact q1h hp hc l o' hl
   |loop st pe ps az bd n L=>
    simp only[yyo,yym] at h;obtain⟨q,hq,p,hp,rfl⟩:=h;rw[z7] at hc;simp only[lk] at hl ⊢;by_cases e:k=l
    ·subst e;rw[if_pos rfl] at hl;injection hl with hl;subst hl
     exact⟨hk,.loop st pe ps az bd n L,by rw[if_pos rfl],q,hq,hc.1,rfl⟩
    ·rw[if_neg e] at hl ⊢;exact q1h hp hc.2 l o' hl
   |fr i L=>
    simp only[yyo,yym] at h;obtain⟨q,hq,p,hp,rfl⟩:=h;rw[z7] at hc;simp only[lk] at hl ⊢;by_cases e:k=l
    ·subst e;rw[if_pos rfl] at hl;injection hl with hl;subst hl
     exact⟨hk,.fr i L,by rw[if_pos rfl],q,hq,hc.1,rfl⟩
    ·rw[if_neg e] at hl ⊢;exact q1h hp hc.2 l o' hl
def z37{HF:List (Nat×HO)}{L:List (Nat×AV)}:∀ {K:List Nat} {r:List Prop×List (Nat×AV)},fzR HF F L K=some r→allP r.1→∀ d v',(d,v')∈r.2 →
  ∃ v q,lk L d=some v∧fzV HF F v=some q∧allP q.1∧v'=q.2
 |[],r,h,_,d,v',hl=>by simp only[fzR,yya] at h;subst h;cases hl
 |k::K,r,h,hc,d,v',hl=>by
  simp only[fzR] at h;split at h
  ·rename_i v hv;simp only[yyo,yym] at h;obtain⟨q,hq,p,hp,rfl⟩:=h;rw[z7] at hc;rcases yyk.1 hl with e|e
   ·injection e with e1 e2;subst e1 e2
    exact⟨v,q,hv,hq,hc.1,rfl⟩
   ·exact z37 hp hc.2 d v' e
  ·cases h
def q7v{HF:List (Nat×HO)}{L:List (Nat×AV)}:∀ {K:List Nat} {r:List Prop×List (Nat×AV)},fzR HF F L K=some r→allP r.1→∀ d v',lk r.2 d=some v' →
  ∃ v q,lk L d=some v∧fzV HF F v=some q∧allP q.1∧v'=q.2
 |[],r,h,_,d,v',hl=>by simp only[fzR,yya] at h;subst h;simp[lk] at hl
 |k::K,r,h,hc,d,v',hl=>by
  simp only[fzR] at h;split at h
  ·rename_i v hv;simp only[yyo,yym] at h;obtain⟨q,hq,p,hp,rfl⟩:=h;rw[z7] at hc;simp only[lk] at hl;by_cases e:k=d
   ·subst e;rw[if_pos rfl] at hl;injection hl with hl
    exact⟨v,q,hv,hq,hc.1,hl.symm⟩
   ·rw[if_neg e] at hl;exact q7v hp hc.2 d v' hl
  ·cases h
def q53{K:List Nat}{r:List Prop×S}(h:frz F K s=some r)(hc:allP r.1)(h1:SAT X M ρ s w)(h2:REG X M ρ s a) :
  SAT X (frzM F s M ρ w) ρ r.2 w∧REG X (frzM F s M ρ w) ρ r.2 a:=by
 simp only[frz,yyo,yym] at h;obtain⟨p,hp,q,hq,rfl⟩:=h;rw[z7] at hc;have hg:=q6x (F:=F) h1;have hr:=Env.upTo.refl ρ s.nx;have hH:=q1h hq hc.2;have ha:∀ l o',lk q.2 l=some o'→∃ o,lk s.H l=some o∧∀ b,o'.at ρ l=some b→o.at ρ l=some b:=fun l o' hl=>by
  obtain⟨e1,o,e2,e3⟩:=hH l o' hl;refine⟨o,e2,fun b hb=>?_⟩;cases o with
  |cell t a0=>obtain⟨q',_,_,_,rfl⟩:=e3;exact hb
  |sl eid e xs=>subst e3;exact hb
  |map kt vt es clk=>subst e3;exact hb
  |iter m since seen last=>subst e3;exact hb
  |cus Q=>subst e3;exact hb
  |loop st pe ps az bd n L=>obtain⟨q',_,_,rfl⟩:=e3;exact hb
  |fr i L=>obtain⟨q',_,_,rfl⟩:=e3;exact hb
  |raw ty k n c=>exact e3.elim
  |rmap es clk=>exact e3.elim
  |riter m since seen last bk=>exact e3.elim
  |gl g ty n c=>exact e3.elim
  |mrow f n c=>exact e3.elim
  |dlk A y m=>exact e3.elim
 have he:∀ b,(∃ l o,lk (pickF s.H F) l=some o∧o.at ρ l=some b)→X.E.heap.size≤b:=fun b ⟨l,o,e1,e2⟩=>(p4 ((j01 (F:=F) h1).own l o e1).2.2 e2).1
 refine⟨⟨h1.below,fun b o hb=>z0r h1 b o (h1.msub b o hb),fun b hb=>?_,fun b o hb=>?_,fun l o' hl=>?_,fun l l' o o' b hl hh hb hj=>?_,fun l o b hl hb=>?_⟩,⟨h2.size,let ⟨Ds,e1,e2,e3,e4⟩:=h2.defers;⟨Ds,e1,e2,fun D hD=>⟨(e3 D hD).1,z0r h1 _ _ (e3 D hD).2⟩,e4⟩,fun d v' hd=>?_⟩⟩
 ·unfold frzM;split
  ·rename_i h;have:=he b h;omega
  ·exact h1.mnew b hb
 ·unfold frzM at hb;split at hb
  ·exact hb
  ·exact h1.mem b o hb
 ·obtain⟨e1,o,e2,e3⟩:=hH l o' hl;obtain⟨f1,f2,f3⟩:=h1.own l o e2;cases o with
  |raw ty k n c=>exact e3.elim
  |rmap es clk=>exact e3.elim
  |riter m since seen last bk=>exact e3.elim
  |gl g ty n c=>exact e3.elim
  |mrow f n c=>exact e3.elim
  |dlk A y m=>exact e3.elim
  |cell t a0=>obtain⟨q',g1,g2,g3,rfl⟩:=e3;simp only[HO.ok] at f3;obtain⟨k1,k2,k3,c,ty,k4,k5⟩:=f3;obtain⟨b1,_,_,b4⟩:=q2h h1 g1 g2 f2;refine⟨f1,b1,?_⟩;simp only[HO.ok];exact⟨k1,g3,k3,c,ty,k4,b4 _ k5⟩
  |sl eid e xs=>subst e3;simp only[HO.ok] at f3;obtain⟨k1,cs,k2,k3⟩:=f3;refine⟨f1,f2,?_⟩;simp only[HO.ok];exact⟨k1,cs,k2,k3.mono hg⟩
  |map kt vt es clk=>subst e3;simp only[HO.ok] at f3;obtain⟨k1,ms,k2,k3⟩:=f3;refine⟨f1,f2,?_⟩;simp only[HO.ok];exact⟨k1,ms,k2,k3.mono hg⟩
  |iter m since seen last=>subst e3;refine⟨f1,f2,?_⟩;simp only[HO.ok] at f3 ⊢;exact f3
  |cus Q=>subst e3;refine⟨f1,f2,?_⟩;simp only[HO.ok] at f3 ⊢;exact f3
  |loop st pe ps az bd n L=>
   obtain⟨q',g1,g2,rfl⟩:=e3;simp only[HO.ok] at f3;obtain⟨k1,fn,tm,D,k2,k3,k4⟩:=f3;refine⟨f1,fun p hp=>?_,?_⟩
   ·obtain⟨v,q2,m1,m2,m3,m4⟩:=z37 g1 g2 p.1 p.2 hp;rw[m4];exact(q2h h1 m2 m3 (f2 _ (w5 m1))).1
   ·simp only[HO.ok];refine⟨k1,fn,tm,D,k2,k3,fun d v' hd=>?_⟩;obtain⟨v,q2,m1,m2,m3,rfl⟩:=q7v g1 g2 d v' hd;exact(q2h h1 m2 m3 (f2 _ (w5 m1))).2.1 _ (k4 d v m1)
  |fr i L=>
   obtain⟨q',g1,g2,rfl⟩:=e3;simp only[HO.ok] at f3;refine⟨f1,fun p hp=>?_,?_⟩
   ·obtain⟨v,q2,m1,m2,m3,m4⟩:=z37 g1 g2 p.1 p.2 hp;rw[m4];exact(q2h h1 m2 m3 (f2 _ (w5 m1))).1
   ·simp only[HO.ok];refine⟨f3.1,fun d v' hd=>?_⟩;obtain⟨v,q2,m1,m2,m3,rfl⟩:=q7v g1 g2 d v' hd;exact(q2h h1 m2 m3 (f2 _ (w5 m1))).2.1 _ (f3.2 d v m1)
 ·obtain⟨o1,e1,e2⟩:=ha l o hl;obtain⟨o2,e3,e4⟩:=ha l' o' hh;exact h1.apart l l' o1 o2 b e1 e3 (e2 b hb) (e4 b hj)
 ·obtain⟨o1,e1,e2⟩:=ha l o hl;unfold frzM;split
  ·rename_i h;obtain⟨l',o',f1,f2⟩:=h;rw[q7s] at f1;split at f1
   ·rename_i hF;have:=h1.apart l l' o1 o' b e1 f1 (e2 b hb) f2;subst this;rw[(hH l o hl).1] at hF;cases hF
   ·cases f1
  ·exact h1.notM l o1 b e1 (e2 b hb)
 ·obtain⟨v,q',e1,e2,e3,rfl⟩:=q7v hp hc.1 d v' hd;obtain⟨f1,f2⟩:=h2.reg d v e1;obtain⟨b1,b2,_,_⟩:=q2h h1 e2 e3 f1;exact⟨b1,b2 _ f2⟩
def JC.frz{c:Code}{cs:List Prop}{s':S}(F K:List Nat)(h:Ox.frz F K s=some (cs,s'))(hc:allP cs)(k:JC X c QA s'):JC X c QA s:=fun M ρ a w h1 h2=>by obtain⟨e1,e2⟩:=q53 h hc h1 h2;exact k _ ρ a w e1 e2
def JL.frz{cs:List Prop}{s':S}(F K:List Nat)(h:Ox.frz F K s=some (cs,s'))(hc:allP cs)(k:JL X md all QA l s'):JL X md all QA l s:=by
 cases md
 ·intro M ρ a w h1 h2;obtain⟨e1,e2⟩:=q53 h hc h1 h2;exact k _ ρ a w e1 e2
 ·intro M ρ a w h1 h2;obtain⟨e1,e2⟩:=q53 h hc h1 h2;exact k _ ρ a w e1 e2
def q11(w:World)(row:Option Nat):w.grownBy w row:=⟨rfl,rfl,rfl,yyl _,fun _ _ _=>rfl⟩
def Env.nilAt(ρ:Env)(n:Nat)(e:Ty):Env:=⟨ρ.blk,fun k=>if k=n then e else ρ.ty k,fun k=>if k=n then .slice none 0 0 else ρ.sv k⟩
def q1l(ρ:Env)(n:Nat)(e:Ty):ρ.upTo (ρ.nilAt n e) n:=fun l hl=>by
 have:l≠n:=by omega
 simp[Env.nilAt,this]
def SAT.ghost(h1:SAT X M ρ s w)(eid:TypeId)(e:Ty):SAT X M (ρ.nilAt s.nx e) ⟨s.L,(s.nx,.sl eid e [])::s.H,s.nx+1⟩ w:=by
 refine h1.add (row:=none) (q11 w none) (fun b h=>by cases h) (fun l o h=>⟨h,fun b _ hb=>by cases hb⟩) (q1l ρ s.nx e) trivial ?_ (fun b hb=>?_)
 ·simp only[HO.ok];refine⟨by simp[Env.nilAt],[],⟨by simp,.inl ⟨by simp[Env.nilAt],rfl⟩⟩,by simp,fun i h=>absurd h (by simp)⟩
 ·simp[HO.at,Env.nilAt,Value.ownBlock] at hb
def z9w{n:Nat}{e:Ty}:(AV.lf (.osl n)).rv M (ρ.nilAt n e) (.slice none 0 0):=by simp only[AV.rv,Leaf.at];exact⟨by simp[Env.nilAt],rfl⟩
def nils_rv{u:Value}(h:(AV.lf .nils).rv M ρ u):u=.slice none 0 0:=by simp only[AV.rv,Leaf.at] at h;exact(Option.some.inj h.1).symm
def JC.ghost{c:Code}(d:Nat)(eid:TypeId)(e:Ty)(hd:lk s.L d=some (.lf .nils))(k:JC X c QA ⟨(d,.lf (.osl s.nx))::s.L,(s.nx,.sl eid e [])::s.H,s.nx+1⟩):JC X c QA s:=fun M ρ a w h1 h2=>by
 have g1:=h1.ghost eid e;have hr:=q1l ρ s.nx e;have g2:REG X M (ρ.nilAt s.nx e) ⟨(d,.lf (.osl s.nx))::s.L,(s.nx,.sl eid e [])::s.H,s.nx+1⟩ a:=by
  refine⟨h2.size,h2.defers,fun d' v hv=>?_⟩;simp only[lk] at hv;split at hv
  ·rename_i ha;injection hv with hv;subst hv;subst ha
   refine⟨yy2 _,?_⟩;rw[nils_rv (h2.reg d _ hd).2];exact z9w
  ·obtain⟨f1,f2⟩:=h2.reg d' v hv;exact⟨j3 (yy5 _) f1,j5 (Mem.le_refl M) hr f1 f2⟩
 exact k M _ a w ⟨g1.below,g1.msub,g1.mnew,g1.mem,g1.own,g1.apart,g1.notM⟩ g2
def ghA(n:Nat):AV→Nat→Option AV
 |.mix (.lf .nils) b,0=>some (.mix (.lf (.osl n)) b)
 |.mix a b,i+1=>(ghA n b i).map (.mix a)
 |_,_=>none
def q8(h:K s):JL X md all (qN K) [] s:=JL.nil h
def mtL:Leaf→Leaf→List (Nat×Nat)
 |.osl a,.osl b|.optr a _,.optr b _|.oelt a _ _,.oelt b _ _|.oarr a _ _ _,.oarr b _ _ _|.ovw a _ _ _,.ovw b _ _ _|.mp a,.mp b|.itr a,.itr b|.yld a,.yld b=>[(a,b)]
 |_,_=>[]
def mtV:AV→AV→List (Nat×Nat)
 |.lf x,.lf y=>mtL x y
 |.mix a b,.mix c d|.acons a b,.acons c d|.fn _ a b,.fn _ c d=>mtV a c++mtV b d
 |.tup a,.tup b|.gd _ a,.gd _ b|.pfn a,.pfn b=>mtV a b
 |_,_=>[]
def mtR(L:List (Nat×AV)):List (Nat×AV)→List (Nat×Nat)
 |[]=>[]
 |(d,v)::r=>(match lk L d with|some u=>mtV v u|none=>[])++mtR L r
def mtH(H' H:List (Nat×HO)):List (Nat×Nat)→List (Nat×Nat)
 |[]=>[]
 |(a,b)::r=>(match lk H' a,lk H b with|some (.cell _ v),some (.cell _ u)=>mtV v u|some (.iter m _ _ _),some (.iter m' _ _ _)=>[(m,m')]|some (.loop _ _ _ _ _ _ L),some (.loop _ _ _ _ _ _ L')=>mtR L' L|_,_=>[])++mtH H' H r
def frL:List (Nat×HO)→List (Nat×Nat×List (Nat×AV))
 |[]=>[]
 |(l,.fr i L)::r=>(i,l,L)::frL r
 |_::r=>frL r
def mtF(F F':List (Nat×Nat×List (Nat×AV))):List (Nat×Nat) :=
 match F with
 |[]=>[]
 |(i,l,L)::r=>(match lk F' i with|some (l',L')=>(l,l')::mtR L' L|none=>[])++mtF r F'
def pairs(s' s:S):List (Nat×Nat):=
 let p1:=mtR s.L s'.L++mtF (frL s'.H) (frL s.H)
 let p2:=mtH s'.H s.H p1
 let p3:=mtH s'.H s.H p2
 p1++(p2++p3)
def renOf(ps:List (Nat×Nat))(n:Nat):Nat:=(lk ps n).getD n
variable{s':S}
def JW.auto{ps:List (Nat×Nat)}(_:pairs s' s=ps)(hL:covL (renOf ps) s'.L s.L)(hH:covH (renOf ps) s'.H s.H)(ha:bdL s'.nx s'.L)(hb:bdH s'.nx s'.H)(hi:injH (renOf ps) s'.H=true):JW X s' s:=JW.of (renOf ps) hL hH ha hb hi
def frB(ops:List Oper)(ls:List Nat)(i:Nat):Bool:=
 match ops[i]? with
 |some o=>!ls.contains i&&edgesL ops.length ls o.after.toList&&freeL ops.length ops ls i o 0 ops
 |none=>false
def rdI(ops:List Oper)(ls:List Nat):List Nat:=(rdyL ops.length ls 0 ops).map (·.1)
def BrI(X:Ctx)(ops:List Oper)(K:S→Prop)(fuel:Nat)(ls:List Nat)(s:S):List Nat→Prop
 |[]=>True
 |i::r=>(∃ o,ops[i]?=some o∧JL X true ops (qN fun s'=>JAny X ops K fuel (i::ls) s') [o] s)∧BrI X ops K fuel ls s r
def BrI.one{r:List Nat}{o:Oper}(ho:ops[i]?=some o)(h:JL X true ops (qN fun s'=>JAny X ops K fuel (i::ls) s') [o] s)(h':BrI X ops K fuel ls s r):BrI X ops K fuel ls s (i::r):=⟨⟨o,ho,h⟩,h'⟩
def BrI.nil:BrI X ops K fuel ls s []:=trivial
def rgn(id:Nat):Code→List Oper
 |.region id' ops _=>match Nat.beq id' id with|true=>ops.toList|false=>[]
 |.seq a b=>match rgn id a with|[]=>rgn id b|l=>l
 |.block _ c=>rgn id c
 |.loop c=>rgn id c
 |.scope c=>rgn id c
 |.rangeFunc _ _ a b=>match rgn id a with|[]=>rgn id b|l=>l
 |.cond _ a b=>match rgn id a with|[]=>rgn id b|l=>l
 |_=>[]
variable {a':Act}{fl fr:List Nat}
def PutsR(ops:List Oper):List Nat→Act→Act→Prop
 |[],a,a'=>a'=a
 |f::r,a,a'=>∃ o z,ops[f]?=some o∧PutsR ops r (a.put o.dst z) a'
def NoSel(ops:List Oper):Prop:=∀ (j:Nat) (o:Oper) cs b,ops[j]?=some o→o.op≠.select cs b
def PutsR.put{d:Option Nat}{z:Value}:∀ {fr:List Nat} {a a':Act},PutsR ops fr a a'→(∀ f∈fr,∀ o,ops[f]?=some o→∀ e,o.dst=some e→d≠some e)→PutsR ops fr (a.put d z) (a'.put d z)
 |[],a,a',h,_=>by simp only[PutsR] at h ⊢;rw[h]
 |f::r,a,a',h,hd=>by simp only[PutsR] at h ⊢;obtain⟨o,y,ho,h⟩:=h;refine⟨o,y,ho,?_⟩;have h1:=PutsR.put (d:=d) (z:=z) h fun g hg=>hd g (yyj _ hg);rw[Act.put_comm a (x:=o.dst) (y:=d) y z (fun e he=>hd f yyh o ho e he)] at h1;exact h1
def z4p(a:Act)(d:Option Nat)(y z:Value):(a.put d y).put d z=a.put d z:=by
 cases d with
 |none=>rfl
 |some d=>simp only[Act.put];congr 1;exact Array.setIfInBounds_setIfInBounds _
def PutsR.erase{k:Nat}{ok:Oper}{z:Value}(hk:ops[k]?=some ok):∀ {fr:List Nat} {a a':Act},PutsR ops fr a a'→k∈fr→fr.Nodup →
  (∀ f∈fr,f≠k→∀ o,ops[f]?=some o→∀ e,o.dst=some e→ok.dst≠some e)→PutsR ops (fr.erase k) (a.put ok.dst z) (a'.put ok.dst z)
 |[],_,_,_,hm,_,_=>by cases hm
 |f::r,a,a',h,hm,hn,hd=>by
  simp only[PutsR] at h;obtain⟨o,y,ho,h⟩:=h;by_cases hf:f=k
  ·subst hf;rw[hk] at ho;injection ho with ho;subst ho
   rw[List.erase_cons_head];have h1:=PutsR.put (d:=ok.dst) (z:=z) h fun g hg o' ha e he=>hd g (yyj _ hg) (fun e'=>by subst e';exact(yx4.1 hn).1 hg) o' ha e he;rw[z4p] at h1;exact h1
  ·rw[List.erase_cons_tail (by simpa using hf)];have h1:=PutsR.erase (z:=z) hk h ((yyk.1 hm).resolve_left (Ne.symm hf)) (yx4.1 hn).2 fun g hg=>hd g (yyj _ hg);refine⟨o,y,ho,?_⟩;rw[Act.put_comm a (x:=o.dst) (y:=ok.dst) y z (fun e he=>hd f yyh hf o ho e he)] at h1;exact h1
def PutsR.exec{o:Oper}(hs:∀ cs b,o.op≠.select cs b):∀ {fr:List Nat} {a a':Act},PutsR ops fr a a'→(∀ f∈fr,∀ q,ops[f]?=some q→∀ d,q.dst=some d→d∉o.looksAt ops.toArray) →
  execOp a'.eval o=execOp a.eval o∧Region.wanted o (yielded ops.toArray a'.tmps)=Region.wanted o (yielded ops.toArray a.tmps)
 |[],a,a',h,_=>by simp only[PutsR] at h;subst h;exact⟨rfl,rfl⟩
 |f::r,a,a',h,hd=>by simp only[PutsR] at h;obtain⟨q,y,hq,h⟩:=h;obtain⟨h1,h2⟩:=PutsR.exec hs h fun g hg=>hd g (yyj _ hg);have hn:=hd f yyh q hq;exact⟨h1.trans (execOp_put o hs a q.dst y hn),h2.trans (wanted_put o a q.dst y hn)⟩
def PutsR.op{Q:Exit→Act→World→Prop}{j:Nat}{oj:Oper}(hQ:∀ e a w,e≠.normal→¬ Q e a w)(hj:ops[j]?=some oj)(ha:∀ cs b,oj.op≠.select cs b)(hn:notDef oj.op=true) :
  ∀ {fr:List Nat} {K:Act→World→Prop} {a a':Act},PutsR ops fr a a'→(∀ f∈fr,∀ q,ops[f]?=some q→(∀ d,q.dst=some d→d∉oj.looksAt ops.toArray)∧(∀ d,q.dst=some d→oj.dst≠some d)) →
  wpOpIn X.fn 0 X.P ops.toArray Q j K a' w→wpOpIn X.fn 0 X.P ops.toArray Q j (fun b w'=>∃ b',PutsR ops fr b b'∧K b' w') a w
 |[],K,a,a',h,_,hw=>by simp only[PutsR] at h;subst h;exact wpOpIn_mono (fun b w' hk=>⟨b,rfl,hk⟩) hw
 |f::r,K,a,a',h,hd,hw=>by simp only[PutsR] at h;obtain⟨q,y,hq,h⟩:=h;have h1:=PutsR.op hQ hj ha hn h (fun g hg=>hd g (yyj _ hg)) hw;obtain⟨e1,e2⟩:=hd f yyh q hq;have h2:=z76 (oi:=q) hQ (by simpa using hj) e1 e2 ha hn h1;exact wpOpIn_mono (fun b w' ⟨b',hp,hk⟩=>⟨b',⟨q,y,hq,hp⟩,hk⟩) h2
def LstF(n:Nat)(ls fr:List Nat)(l:Array Bool):Prop:=l.size=n∧∀ j,j<n→l[j]?=some (ls.contains j&&!fr.contains j)
def JF(X:Ctx)(ops:List Oper)(K:S→Prop)(fl:List Nat)(fuel:Nat)(ls:List Nat)(s:S):Prop:=∀ M ρ a a' w l fr,(∀ f∈fr,f∈fl)→fr.Nodup→LstF ops.length ls fr l→PutsR ops fr a a'→SAT X M ρ s w→REG X M ρ s a'→wpAnyIn X.fn 0 X.P .any ops.toArray (conc X (qN K)) (fuel+fr.length) l a w
def JF.any(h:JF X ops K [] fuel ls s):JAny X ops K fuel ls s:=by intro M ρ a w l hl h1 h2;exact h M ρ a a w l [] (by simp) (by simp) ⟨hl.1,fun j hj=>by rw[hl.2 j hj];simp⟩ rfl h1 h2
def LstF.getT{n j:Nat}{l:Array Bool}(h:LstF n ls fr l)(hj:j<n)(d:Bool):l.getD j d=(ls.contains j&&!fr.contains j):=by have:=h.2 j hj;simp[yyr,this]
def LstF.setNew{n i:Nat}{l:Array Bool}(h:LstF n ls fr l)(hi:i<n)(hf:i∉fr):LstF n (i::ls) fr (l.setIfInBounds i true):=by
 refine⟨by simp[h.1],fun j hj=>?_⟩;rw[yxo];by_cases e:i=j
 ·subst e;simp[h.1,hi,hf]
 ·rw[if_neg e,h.2 j hj];simp[Ne.symm e]
def LstF.setOld{n i:Nat}{l:Array Bool}(h:LstF n ls fr l)(hi:i<n)(hl:i∈ls)(hn:fr.Nodup):LstF n ls (fr.erase i) (l.setIfInBounds i true):=by
 refine⟨by simp[h.1],fun j hj=>?_⟩;rw[yxo];by_cases e:i=j
 ·subst e;have:i∉fr.erase i:=fun hm=>by rw[List.Nodup.mem_erase_iff hn] at hm;exact hm.1 rfl
  simp[h.1,hi,hl,this]
 ·rw[if_neg e,h.2 j hj];have:(fr.erase i).contains j=fr.contains j:=by rw[yxb];simp[List.mem_erase_of_ne (Ne.symm e)]
  rw[this]
def LstF.float{n i:Nat}{l:Array Bool}(h:LstF n ls fr l)(ha:ls.contains i=false):LstF n (i::ls) (i::fr) l:=by
 refine⟨h.1,fun j hj=>?_⟩;rw[h.2 j hj];by_cases e:j=i
 ·subst e;simp at ha;simp[ha]
 ·simp[e]
def waits(o:Oper)(f:Nat):Bool:=o.after.toList.any fun e=>Region.binds .any e&&e.on==f
def r9{o:Oper}{f:Nat}:waits o f=true↔∃ e∈o.after,Region.binds .any e=true∧e.on=f:=by simp only[waits,List.any_eq_true,yyc,beq_iff_eq];exact⟨fun⟨e,h1,h2,h3⟩=>⟨e,by simpa using h1,h2,h3⟩,fun⟨e,h1,h2,h3⟩=>⟨e,by simpa using h1,h2,h3⟩⟩
def halfB(ops:List Oper)(q o:Oper):Bool:=
 match q.dst with
 |some d=>!(o.looksAt ops.toArray).contains d&&o.dst != some d
 |none=>true
def p6{q o:Oper}(h:halfB ops q o=true):(∀ d,q.dst=some d→d∉o.looksAt ops.toArray)∧(∀ d,q.dst=some d→o.dst≠some d):=by
 refine⟨fun d hd=>?_,fun d hd=>?_⟩<;>simp[halfB,hd] at h
 ·exact h.1
 ·exact h.2
def flB(ops:List Oper)(ls fl:List Nat):Bool:=
 fl.all fun f=>ls.contains f&&(match ops[f]? with
  |some o=>edgesL ops.length ls o.after.toList&&o.after.toList.all (fun e=>!Region.binds .any e||Nat.blt e.on f) &&
    (match o.dst with|some d=>!(o.looksAt ops.toArray).contains d|none=>true) &&
    fl.all (fun g=>g==f||waits o g||(match ops[g]? with|some q=>halfB ops q o|none=>false))
  |none=>false)
def apB(ops:List Oper)(fl:List Nat)(i:Nat):Bool:=
 match ops[i]? with
 |some o=>fl.all fun g=>waits o g||(match ops[g]? with|some q=>halfB ops q o|none=>false)
 |none=>false
structure StOne(X:Ctx)(ops:List Oper)(s:S)(f:Nat):Prop where
 ex:∃ o d v,ops[f]?=some o∧o.dst=some d∧ltB d X.n=true∧notDef o.op=true∧lk s.L d=some v∧(TOK X.P X.T→∀ M ρ a w,SAT X M ρ s w→REG X M ρ s a→v.bd s.nx∧∃ z,v.rv M ρ z ∧
  ((Region.wanted o (yielded ops.toArray a.tmps)=true∧(execOp a.eval o).run X.P w=.ok (.value z) w)∨(Region.wanted o (yielded ops.toArray a.tmps)=false∧z=Go.undef)))
def StF(X:Ctx)(ops:List Oper)(s:S):List Nat→Prop
 |[]=>True
 |f::r=>StOne X ops s f∧StF X ops s r
def StF.mem{f:Nat}:∀ {fl:List Nat},StF X ops s fl→f∈fl→StOne X ops s f
 |[],_,h=>by cases h
 |g::r,h,hm=>by
  rcases yyk.1 hm with e|e
  ·subst e;exact h.1
  ·exact StF.mem h.2 e
def BrF(X:Ctx)(ops:List Oper)(K:S→Prop)(fl:List Nat)(fuel:Nat)(ls:List Nat)(s:S):List Nat→Prop
 |[]=>True
 |i::r=>(∃ o fl',ops[i]?=some o∧(fl.filter fun f=>!waits o f)=fl'∧JL X true ops (qN fun s'=>JF X ops K fl' fuel (i::ls) s') [o] s)∧BrF X ops K fl fuel ls s r
def BrF.mem{i:Nat}:∀ {r:List Nat},BrF X ops K fl fuel ls s r→i∈r→∃ o,ops[i]?=some o∧JL X true ops (qN fun s'=>JF X ops K (fl.filter fun f=>!waits o f) fuel (i::ls) s') [o] s
 |[],_,h=>by cases h
 |j::r,h,hm=>by
  rcases yyk.1 hm with e|e
  ·subst e;obtain⟨o,fl',h1,rfl,h2⟩:=h.1;exact⟨o,h1,h2⟩
  ·exact BrF.mem h.2 e
def j2j{d:Nat}{v:AV}{L:List (Nat×AV)}{H:List (Nat×HO)}{nx:Nat}(h:REG X M ρ ⟨(d,v)::L,H,nx⟩ a)(hl:lk L d=some v):REG X M ρ ⟨L,H,nx⟩ a:=by
 refine⟨h.size,h.defers,fun e u he=>?_⟩;have:=h.reg e u;simp only[lk] at this;by_cases hd:d=e
 ·subst hd;rw[hl] at he;injection he with he;subst he
  exact this (by simp)
 ·exact this (by rw[if_neg hd];exact he)
def q7d:∀ {fr:List Nat},fr≠[]→∃ m∈fr,∀ j∈fr,m≤j
 |[],h=>absurd rfl h
 |[x],_=>⟨x,by simp,by simp⟩
 |x::y::r,_=>by
  obtain⟨m,hm,h⟩:=q7d (fr:=y::r) (by simp);by_cases hx:x≤m
  ·refine⟨x,by simp,fun j hj=>?_⟩;rcases yyk.1 hj with e|e
   ·omega
   ·have:=h j e;omega
  ·refine⟨m,yyj _ hm,fun j hj=>?_⟩;rcases yyk.1 hj with e|e
   ·omega
   ·exact h j e
def j3b(is:List Nat)(Hj:Region.noSelect ops.toArray=true)(hW:ndAll ops=true)(hr:rdI ops ls=is)(hA:(flB ops ls fl&&is.all (apB ops fl))=true)(hst:StF X ops s fl)(hX:XOK X)
  (hB:is=[]∨∃ fuel',fuel=fuel'+1∧BrF X ops K fl fuel' ls s is) (hK:is=[]→K s):JF X ops K fl fuel ls s:=by
 have hG:NoSel ops:=fun j o cs b h=>Region.noSelect_spec Hj j o cs b (by simpa using h);simp only[yyc] at hA;obtain⟨hA,hY⟩:=hA;have hA:∀ f∈fl,ls.contains f=true∧∃ o,ops[f]?=some o∧edgesL ops.length ls o.after.toList=true∧(∀ e∈o.after,Region.binds .any e=true→e.on<f) ∧
   (∀ d,o.dst=some d→d∉o.looksAt ops.toArray)∧∀ g∈fl,g≠f→waits o g=false→∃ q,ops[g]?=some q∧halfB ops q o=true:=by
  intro f hf;have:=yyx.1 hA f hf;simp only[yyc] at this;refine⟨this.1,?_⟩;have h2:=this.2;split at h2
  ·rename_i o ho;simp only[yyc] at h2;obtain⟨⟨⟨h3,h4⟩,h5⟩,h6⟩:=h2;refine⟨o,ho,h3,fun e he hb=>?_,fun d hd=>?_,fun g hg Hk hw=>?_⟩
   ·have:=yyx.1 h4 e (by simpa using he);rw[hb] at this;simpa using this
   ·rw[hd] at h5;simpa using h5
   ·have:=yyx.1 h6 g hg;rw[hw] at this;simp only[Bool.or_false,yyy,beq_iff_eq] at this;have:=this.resolve_left Hk;split at this
    ·rename_i q hq;exact⟨q,hq,this⟩
    ·cases this
  ·cases h2
 have hY:∀ i∈is,∀ o,ops[i]?=some o→∀ g∈fl,waits o g=false→∃ q,ops[g]?=some q∧halfB ops q o=true:=by
  intro i hi o ho g hg hw;have:=yyx.1 hY i hi;simp only[apB,ho] at this;have:=yyx.1 this g hg;rw[hw] at this;simp only[Bool.false_or] at this;split at this
  ·rename_i q hq;exact⟨q,hq,this⟩
  ·cases this
 have hC:∀ i,i∈is↔∃ o,ops[i]?=some o∧ls.contains i=false∧edgesL ops.length ls o.after.toList=true:=by
  intro i;rw[← hr];simp only[rdI,yy7];constructor
  ·rintro⟨⟨j,o⟩,h,rfl⟩;obtain⟨_,h1,h2,h3⟩:=q1y.1 h;exact⟨o,by simpa using h1,h2,h3⟩
  ·rintro⟨o,h1,h2,h3⟩;exact⟨(i,o),q1y.2 ⟨by omega,by simpa using h1,h2,h3⟩,rfl⟩
 have main:∀ (n:Nat) M ρ a a' w l fr,fr.length=n→(∀ f∈fr,f∈fl)→fr.Nodup→LstF ops.length ls fr l→PutsR ops fr a a'→SAT X M ρ s w→REG X M ρ s a' →
   wpAnyIn X.fn 0 X.P .any ops.toArray (conc X (qN K)) (fuel+fr.length) l a w:=by
  intro n;induction n with
  |zero=>
   intro M ρ a a' w l fr hn hh hH hl hp h1 h2;obtain rfl:fr=[]:=List.length_eq_zero_iff.1 hn;simp only[PutsR] at hp;subst hp;have hZ:Lst ops.length ls l:=⟨hl.1,fun j hj=>by rw[hl.2 j hj];simp⟩;rcases hB with hB|⟨fuel',rfl,hB⟩
   ·have hd:rdyL ops.length ls 0 ops=[]:=by rw[hB] at hr;simpa[rdI] using hr
    exact j3o hd (hK hB) M ρ a' w l hZ h1 h2
   ·refine⟨fun h0=>?_,fun i hi=>?_⟩
    ·have hd:is=[]:=by rw[List.eq_nil_iff_forall_not_mem];intro i hi;obtain⟨o,ho,h3,h4⟩:=(hC i).1 hi;have:i∈Region.ready .any ops.toArray l:=(q6o hZ i).2 ⟨o,q1y.2 ⟨by omega,by simpa using ho,h3,h4⟩⟩;rw[h0] at this;cases this
     exact⟨M,ρ,s,h1,h2,hK hd⟩
    ·obtain⟨o,ho⟩:=(q6o hZ i).1 hi;obtain⟨_,h3,h4,h5⟩:=q1y.1 ho;have h3:ops[i]?=some o:=by simpa using h3
     obtain⟨o',hu,hJ⟩:=hB.mem ((hC i).2 ⟨o,h3,h4,h5⟩);rw[h3] at hu;injection hu with hu;subst hu
     have hD:i<ops.length:=(yy6.1 h3).1;have:=hJ M ρ a' w h1 h2;have this:=q72 (K:=K) h3 this;refine wpOpIn_mono (fun b w' hk=>?_) this;obtain⟨M',ρ',s',k1,k2,k3⟩:=hk;exact k3 M' ρ' b b w' _ [] (by simp) (by simp) (hl.setNew hD (by simp)) rfl k1 k2
  |succ n ih=>
   intro M ρ a a' w l fr hn hh hH hl hp h1 h2;have hL:fuel+fr.length=(fuel+n)+1:=by rw[hn];omega
   rw[hL];have Hl:fr≠[]:=by rintro rfl;simp at hn
   refine⟨fun h0=>?_,fun i hi=>?_⟩
   ·
    obtain⟨m,hm,h7⟩:=q7d Hl;obtain⟨Hi,o,ho,Hm,Hn,_,_⟩:=hA m (hh m hm);have hD:m<ops.length:=(yy6.1 ho).1;have:m∈Region.ready .any ops.toArray l:=by
     refine mem_ready.2 ⟨by rw[hl.getT hD];simp[hm],o,by simpa using ho,fun e he hb=>?_⟩;obtain⟨e1,e2⟩:=u0.1 Hm e (by simpa using he) hb;rw[hl.getT e1,e2];have:e.on∉fr:=fun hc=>by have:=h7 _ hc;have:=Hn e he hb;omega
     simp[this]
    rw[h0] at this;cases this
   ·obtain⟨h9,o,ho,hall⟩:=mem_ready.1 hi;have ho:ops[i]?=some o:=by simpa using ho
    have hD:i<ops.length:=(yy6.1 ho).1;rw[hl.getT hD] at h9;have hall:∀ e∈o.after,Region.binds .any e=true→e.on<ops.length∧ls.contains e.on=true∧e.on∉fr:=by
     intro e he hb;have h3:=hall e he hb;rcases Nat.lt_or_ge e.on ops.length with hM|hge
     ·rw[hl.getT hM] at h3;simp only[yyc,yyv] at h3;exact⟨hM,h3.1,fun hc=>by simp[hc] at h3⟩
     ·have:l.size≤e.on:=by rw[hl.1];exact hge
      simp[yyr,Array.getElem?_eq_none this] at h3
    have hQ:∀ g∈fr,waits o g=false:=by intro g hg;rw[Bool.eq_false_iff];intro hw;obtain⟨e,he,hb,rfl⟩:=r9.1 hw;exact(hall e he hb).2.2 hg
    by_cases hF:i∈fr
    ·
     obtain⟨Hi,o',hu,_,_,hN,hy⟩:=hA i (hh i hF);rw[ho] at hu;injection hu with hu;subst hu
     obtain⟨o',d,v,hR,Ha,hd,Hb,Ho,Hc⟩:=(hst.mem (hh i hF)).ex;rw[ho] at hR;injection hR with hR;subst hR
     obtain⟨hb,z,hz,hE⟩:=Hc hX.t M ρ a' w h1 h2;have Hd:∀ g∈fr,∀ q,ops[g]?=some q→∀ e,q.dst=some e→e∉o.looksAt ops.toArray:=by
      intro g hg q hq e he;by_cases hT:g=i
      ·subst hT;rw[ho] at hq;injection hq with hq;subst hq;exact hN e he
      ·obtain⟨q',hv,ha⟩:=hy g (hh g hg) hT (hQ g hg);rw[hq] at hv;injection hv with hv;subst hv
       exact(p6 ha).1 e he
     obtain⟨Hp,Hq⟩:=PutsR.exec (hG i _ · · ho) hp Hd;have hP:(fr.erase i).length=n:=by rw[List.length_erase_of_mem hF];omega
     have next:=ih M ρ (a.put o.dst z) (a'.put o.dst z) w (l.setIfInBounds i true) (fr.erase i) hP (fun f hf=>hh f (List.mem_of_mem_erase hf)) (hH.erase i) (hl.setOld hD (by simpa using Hi) hH)
      (PutsR.erase ho hp hF hH fun g hg hT q hq e he=>by
       obtain⟨q',hv,ha⟩:=hy g (hh g hg) hT (hQ g hg);rw[hq] at hv;injection hv with hv;subst hv
       exact(p6 ha).2 e he) h1
      (by rw[Ha];exact j2j (L:=s.L) (h2.putO (d:=some d) (dstOk.spec (j9 hd)) hb hz) Ho)
     rw[hP] at next;unfold wpOpIn;simp only[yxp,ho];rw[← Hq];rcases hE with⟨He,hE⟩|⟨He,rfl⟩
     ·simp only[He,if_true];exact w3 Hb (by rw[← Hp];exact hE) next
     ·simp only[He,yys,if_false];exact⟨fun f _=>q1x f,next⟩
    ·
     have Hf:ls.contains i=false:=by
      cases hc:ls.contains i with
      |false=>rfl
      |true=>rw[hc] at h9;simp[hF] at h9
     have hU:i∈is:=(hC i).2 ⟨o,ho,Hf,u0.2 fun e he hb=>⟨(hall e (by simpa using he) hb).1,(hall e (by simpa using he) hb).2.1⟩⟩;rcases hB with hB|⟨fuel',rfl,hB⟩
     ·rw[hB] at hU;cases hU
     obtain⟨o',hu,hJ⟩:=hB.mem hU;rw[ho] at hu;injection hu with hu;subst hu
     have h3:=q72 (K:=K) ho (hJ M ρ a' w h1 h2);have Hh:∀ g∈fr,∀ q,ops[g]?=some q→(∀ d,q.dst=some d→d∉o.looksAt ops.toArray)∧(∀ d,q.dst=some d→o.dst≠some d):=by
      intro g hg q hq;obtain⟨q',hv,ha⟩:=hY i hU o ho g (hh g hg) (hQ g hg);rw[hq] at hv;injection hv with hv;subst hv
      exact p6 ha
     have h4:=PutsR.op (fun _ _ _ h=>q46 h) ho (hG i o · · ho) (q0a hW i o (by simpa using ho)) hp Hh h3;refine wpOpIn_mono (fun b w' ⟨b',Hr,hk⟩=>?_) h4;obtain⟨M',ρ',s',k1,k2,k3⟩:=hk;have:=k3 M' ρ' b b' w' (l.setIfInBounds i true) fr (fun f hf=>yx0.2 ⟨hh f hf,by rw[hQ f hf];rfl⟩) hH (hl.setNew hD hF) Hr k1 k2;rw[hn] at this;rw[show fuel'+1+n=fuel'+(n+1) by omega];exact this
 intro M ρ a a' w l fr;exact main fr.length M ρ a a' w l fr rfl
def sure(ls fl:List Nat):List Nat:=ls.filter fun j=>!fl.contains j
def m5:(sure ls fl).contains j=(ls.contains j&&!fl.contains j):=by rw[yxb];simp[sure,yx0]
def fsB(ops:List Oper)(ls fl:List Nat)(i:Nat):Bool:=!ls.contains i&&!fl.contains i&&frB ops (sure ls fl) i&&apB ops fl i&&(Region.noSelect ops.toArray&&ndAll ops)
def JF.first(i:Nat){d:Nat}{op:Op}{ty:TypeId}{ps:String}{af:Array Edge}{cs:List Prop}{v:AV}{L:List (Nat×AV)}{H:List (Nat×HO)}{nx:Nat}
  (hX:XOK X) (hf:fsB ops ls fl i=true) (ho:ops[i]?=some ⟨some d,op,ty,ps,af,none⟩) (e3:isLoad op=false)
  (h:evq X.T op ⟨L,H,nx⟩=some (cs,v)) (hd:ltB d X.n=true) (hc:allP cs) (k:JF X ops K fl fuel (i::ls) ⟨(d,v)::L,H,nx⟩):JF X ops K fl (fuel+1) ls ⟨L,H,nx⟩:=by
 intro M ρ a a' w l fr ha hE hl hp h1 h2;simp only[fsB,yyc,yyv] at hf;obtain⟨⟨⟨⟨hF,hA⟩,hf⟩,hB⟩,hs,hv⟩:=hf;simp only[frB,ho,yyc,yyv] at hf;obtain⟨⟨_,h4⟩,e4⟩:=hf;have hC:i<ops.length:=(yy6.1 ho).1;have hG:i∉fr:=fun hc=>by simp at hA;exact hA (ha i hc)
 have hD:=u0.1 h4;have hh:∀ g∈fr,∀ q,ops[g]?=some q→halfB ops q (⟨some d,op,ty,ps,af,none⟩:Oper)=true:=by intro g hg q hq;simp only[apB,ho] at hB;have:=yyx.1 hB g (ha g hg);rw[hq] at this;simp only[yyy] at this;refine this.resolve_left fun hw=>?_;obtain⟨e,he,hb,rfl⟩:=r9.1 hw;have:=(hD e (by simpa using he) hb).2;rw[m5] at this;simp[ha _ hg] at this
 obtain⟨hb,z,hz,hy⟩:=q6z hX.t (o:=⟨some d,op,ty,ps,af,none⟩) e3 h hc h1 h2;have hk:∀ (j:Nat) (o:Oper) cs b,ops.toArray[j]?=some o→o.op≠.select cs b:=Region.noSelect_spec hs;obtain⟨hH,hN⟩:=PutsR.exec (o:=⟨some d,op,ty,ps,af,none⟩) (hk i _ · · (by simpa using ho)) hp fun g hg q hq=>(p6 (hh g hg q hq)).1;rw[show fuel+1+fr.length=(fuel+fr.length)+1 by omega];refine q02 (fun _ _ _ h=>q46 h) (i:=i) (oi:=⟨some d,op,ty,ps,af,none⟩) (v:=z) (by simpa using ho) hk (q0a hv) (fuel+fr.length) l a w ?_ ?_ (.inl ⟨rfl,by rw[← hH];exact hy⟩) ?_
 ·intro j oj hj hP hu hJ;have hK:j<ops.length:=by have:=(yyi.1 hj).1;simpa using this
  refine q1n e4 j oj (by simpa using hj) (by omega) ?_ hJ;rw[hl.getT hK] at hu;rw[yxt,m5];cases hc:ls.contains j with
  |false=>rfl
  |true=>rw[hc] at hu;simp at hu;simp[ha _ hu]
 ·refine mem_ready.2 ⟨by rw[hl.getT hC,hF];rfl,_,by simpa using ho,fun e he hb=>?_⟩;obtain⟨e1,e2⟩:=hD e (by simpa using he) hb;rw[m5,yyc] at e2;rw[hl.getT e1,e2.1];have:e.on∉fr:=fun hc=>by have:=e2.2;simp[ha _ hc] at this
  simp[this]
 ·exact k M ρ _ (a'.put (some d) z) w _ fr ha hE (hl.setNew hC hG) (PutsR.put (d:=some d) hp fun f hf o hL e he hM=>(p6 (hh f hf o hL)).2 e he hM)
   (z8 (d:=some d) (v:=v) h1) (h2.putO (d:=some d) (dstOk.spec (j9 hd)) hb hz)
def ftB(ops:List Oper)(ls fl:List Nat)(i d:Nat):Bool:=!ls.contains i&&!fl.contains i&&fl.all fun g=>match ops[g]? with|some q=>q.dst != some d|none=>true
def JF.float(i:Nat){d:Nat}{op:Op}{ty:TypeId}{ps:String}{af:Array Edge}{cs:List Prop}{v:AV}{L:List (Nat×AV)}{H:List (Nat×HO)}{nx:Nat}
  (hX:XOK X) (hf:ftB ops ls fl i d=true) (ho:ops[i]?=some ⟨some d,op,ty,ps,af,none⟩)
  (h:evq X.T op ⟨L,H,nx⟩=some (cs,v)) (hd:ltB d X.n=true) (hc:allP cs) (k:JF X ops K (i::fl) fuel (i::ls) ⟨(d,v)::L,H,nx⟩):JF X ops K fl (fuel+1) ls ⟨L,H,nx⟩:=by
 intro M ρ a a' w l fr ha hh hl hp h1 h2;simp only[ftB,yyc,yyv] at hf;obtain⟨⟨hj,hg⟩,hk⟩:=hf;have hu:i∉fr:=fun hc=>by simp at hg;exact hg (ha i hc)
 obtain⟨hb,z,hz,_⟩:=q8l hX.t (o:=⟨some d,op,ty,ps,af,none⟩) h hc h1 h2;have hv:PutsR ops (i::fr) a (a'.put (some d) z):=by refine⟨_,z,ho,PutsR.put (d:=some d) hp fun f hf o hw e he hy=>?_⟩;have:=yyx.1 hk f (ha f hf);rw[hw] at this;simp only[bne_iff_ne,ne_eq] at this;exact this (he.trans hy.symm)
 have:=k M ρ a (a'.put (some d) z) w l (i::fr) (fun f hf=>by
  rcases yyk.1 hf with e|e
  ·exact e▸yyh
  ·exact yyj _ (ha f e)) (yx4.2 ⟨hu,hh⟩) (hl.float hj) hv (z8 (d:=some d) (v:=v) h1) (h2.putO (d:=some d) (dstOk.spec (j9 hd)) hb hz)
 rw[show fuel+1+fr.length=fuel+(i::fr).length by simp;omega];exact this
def StF.one{f:Nat}{r:List Nat}{d:Nat}{op:Op}{ty:TypeId}{ps:String}{af:Array Edge}{cs:List Prop}{v:AV}(ho:ops[f]?=some ⟨some d,op,ty,ps,af,none⟩)
  (h:evq X.T op s=some (cs,v)) (hl:lk s.L d=some v) (hd:ltB d X.n=true) (hc:allP cs) (k:StF X ops s r):StF X ops s (f::r):=
 ⟨⟨_,d,v,ho,rfl,hd,evq_nd h,hl,fun hT M ρ a w h1 h2=>let ⟨e1,z,e2,e3⟩:=q8l hT (o:=⟨some d,op,ty,ps,af,none⟩) h hc h1 h2;⟨e1,z,e2,.inl ⟨rfl,e3 w (Below.refl _ _)⟩⟩⟩,k⟩
def StF.nil:StF X ops s []:=trivial
def BrF.one{r fl':List Nat}{o:Oper}(ho:ops[i]?=some o)(hf:(fl.filter fun f=>!waits o f)=fl')(h:JL X true ops (qN fun s'=>JF X ops K fl' fuel (i::ls) s') [o] s)(h':BrF X ops K fl fuel ls s r) :
  BrF X ops K fl fuel ls s (i::r):=⟨⟨o,fl',ho,hf,h⟩,h'⟩
def BrF.nil:BrF X ops K fl fuel ls s []:=trivial
def ndB(ops:List Oper)(ls fl is:List Nat):Bool:=(Region.noSelect ops.toArray&&ndAll ops)&&(rdI ops ls==is)&&(flB ops ls fl&&is.all (apB ops fl))
def q85(i:Nat)(is:List Nat)(hX:XOK X)(hc:ndB ops ls fl (i::is)=true)(hst:StF X ops s fl)(hB:BrF X ops K fl fuel ls s (i::is)):JF X ops K fl (fuel+1) ls s:=by simp only[ndB,yyc,beq_iff_eq] at hc;exact j3b (i::is) hc.1.1.1 hc.1.1.2 hc.1.2 (by simp[hc.2]) hst hX (.inr ⟨fuel,rfl,hB⟩) (fun h=>by cases h)
def j3h(hX:XOK X)(hc:ndB ops ls fl []=true)(hst:StF X ops s fl)(hK:K s):JF X ops K fl fuel ls s:=by simp only[ndB,yyc,beq_iff_eq] at hc;exact j3b [] hc.1.1.1 hc.1.1.2 hc.1.2 (by simp[hc.2]) hst hX (.inl rfl) (fun _=>hK)
variable {o:Oper}
section
variable {P:Program}{b:Frame}{k:List Item}{cs:List Frame}{c:Code}
def q0l:step P (lone (b.atR a (.code (.scope c)::k)) cs w)=.next (lone (b.atR a (.code c::.inScope c::k)) cs w):=step_lone_go (by simp[stepG,stepG.exec,Frame.atR])
def q95:step P (lone (b.atR a (.inScope c::k)) cs w)=.next (lone (b.atR a k) cs w):=step_lone_go (by simp[stepG,stepG.exec,Frame.atR])
end
def z6v{F:Fence}{n:Nat}{Q:Exit→Act→World→Prop}(h:c.wpIn F n P (Exit.noGoto Q) a w):(Code.scope c).wpIn F n P Q a w:=by
 intro b k cs hd hb hr;have h0:(lone (b.atR a (.code (.scope c)::k)) cs w).fenced P F:=fenced_calm hb hr rfl;obtain⟨e,a₁,w₁,hq,ha⟩:=h b (.inScope c::k) cs hd hb hr;cases e with
 |normal=>exact⟨.normal,a₁,w₁,hq,.head h0 q0l (StepsIn.trans ha (.one (fenced_calm hb hr rfl) q95))⟩
 |exit id=>
  have hx:exitTo id (.inScope c::k)=exitTo id k:=by simp[exitTo]
  exact⟨.exit id,a₁,w₁,hq,fun k' hk=>.head h0 q0l (ha.1 k' (by rw[hx];exact hk)),
   fun he hk=>let ⟨k₁,h1,h2⟩:=ha.2 he (by rw[hx];exact hk);⟨k₁,h1,.head h0 q0l h2⟩⟩
 |goto l=>exact hq.elim
 |ret=>exact⟨_,a₁,w₁,hq,.of_steps (.one h0 q0l) ha⟩
 |panic ch=>exact⟨_,a₁,w₁,hq,.of_steps (.one h0 q0l) ha⟩
 |outgrown=>exact⟨_,a₁,w₁,hq,.of_steps (.one h0 q0l) ha⟩
def qScope(QA:Exit→S→Prop):Exit→S→Prop
 |.goto _,_=>False
 |e,s=>QA e s
def JC.scope{c:Code}(h:JC X c (qScope QA) s):JC X (.scope c) QA s:=
 fun M ρ a w h1 h2=>z6v (wpIn_mono (h M ρ a w h1 h2) fun e a' w' ⟨M',ρ',s',k1,k2,k3⟩=>by
  cases e with
  |goto l=>exact k3.elim
  |_=>exact⟨M',ρ',s',k1,k2,k3⟩)
def svL(L:List (Nat×AV)):List Nat→List (Nat×AV)
 |[]=>[]
 |d::r=>match lk L d with
  |some v=>(d,v)::svL L r
  |none=>svL L r
def q76{L:List (Nat×AV)}{p:Nat×AV}:∀ {r:List Nat},p∈svL L r→lk L p.1=some p.2
 |[],h=>by cases h
 |d::r,h=>by
  simp only[svL] at h;split at h
  ·rename_i v hv;rcases yyk.1 h with e|e
   ·subst e;exact hv
   ·exact q76 e
  ·exact q76 h
def noFr(n:Nat):List (Nat×HO)→Bool
 |[]=>true
 |(_,.fr i _)::r=>!(i==n)&&noFr n r
 |_::r=>noFr n r
def z10{n l i:Nat}{L:List (Nat×AV)}:∀ {H:List (Nat×HO)},noFr n H=true→lk H l=some (.fr i L)→i≠n
 |[],_,h=>by simp[lk] at h
 |(k,o)::r,hn,h=>by
  simp only[lk] at h;have hr:noFr n r=true∧(∀ j L',o=.fr j L'→j≠n):=by cases o<;>simp only[noFr,yyc,yyv,beq_eq_false_iff_ne] at hn<;>first|exact⟨hn,fun j L' e=>by cases e⟩|exact⟨hn.2,fun j L' e=>by injection e with e _;subst e;exact hn.1⟩
  split at h
  ·injection h with h;exact hr.2 i L h
  ·exact z10 hr.1 h
variable{X':Ctx}
def j3p{l:Nat}{o:HO}(hE:X'.E=X.E)(hb:X.dp≤X'.dp)(ha:∀ i,i<X.dp→X'.up i=X.up i)(h:o.ok X M ρ l w):o.ok X' M ρ l w:=by cases o<;>simp only[HO.ok,hE] at h ⊢<;>first|exact h|exact⟨by omega,fun d v hd=>by rw[ha _ h.1];exact h.2 d v hd⟩
def z70{l:Nat}{o:HO}(hE:X'.E=X.E)(hb:X'.dp=X.dp+1)(ha:∀ i,i<X.dp→X'.up i=X.up i)(hf:∀ i L,o=.fr i L→i≠X.dp)(h:o.ok X' M ρ l w):o.ok X M ρ l w:=by
 cases o with
 |fr i L=>
  simp only[HO.ok] at h ⊢;have:=hf i L rfl;have hi:i<X.dp:=by have:=h.1;omega
  exact⟨hi,fun d v hd=>by rw[← ha i hi];exact h.2 d v hd⟩
 |_=>simp only[HO.ok,hE] at h ⊢;exact h
abbrev Ctx.sub(X:Ctx)(M0:Mem)(n:Nat)(rd:Option Nat)(up:Nat→Nat→Value):Ctx:=⟨X.P,X.T,X.ET,X.MT,X.E,M0,n,rd,up,X.dp+1⟩
def upd1(up:Nat→Nat→Value)(i:Nat)(u:Nat→Value):Nat→Nat→Value:=fun j=>if j=i then u else up j
def SAT.enter(h:SAT X M ρ s w){Lf L0:List (Nat×AV)}{n:Nat}{rd:Option Nat}(hb:∀ p∈Lf,p.2.bd s.nx)(hv:∀ d v,lk Lf d=some v→v.rv M ρ (u d)) :
  SAT (X.sub M n rd (upd1 X.up X.dp u)) M ρ ⟨L0,(s.nx,.fr X.dp Lf)::s.H,s.nx+1⟩ w:=by
 have he:∀ l o,lk ((s.nx,HO.fr X.dp Lf)::s.H) l=some o→(l=s.nx∧o=.fr X.dp Lf)∨(l<s.nx∧lk s.H l=some o):=by
  intro l o hl;simp only[lk] at hl;split at hl
  ·rename_i e;injection hl with hl;exact .inl ⟨e.symm,hl.symm⟩
  ·exact .inr ⟨(h.own l o hl).1,hl⟩
 refine⟨h.below,fun _ _ h=>h,fun _ _=>rfl,h.mem,fun l o hl=>?_,fun l l' o o' b hl hg ha hh=>?_,fun l o b hl ha=>?_⟩
 ·rcases he l o hl with⟨rfl,rfl⟩|⟨hj,hl⟩
  ·refine⟨yy2 _,fun p hp=>j3 (yy5 _) (hb p hp),?_⟩;simp only[HO.ok];exact⟨yy2 _,fun d v hd=>by show v.rv M ρ (upd1 X.up X.dp u X.dp d);simp only[upd1,if_pos];exact hv d v hd⟩
  ·obtain⟨e1,e2,e3⟩:=h.own l o hl;exact⟨Nat.lt_succ_of_lt e1,s6 (yy5 _) e2,j3p (X:=X) (X':=X.sub M n rd (upd1 X.up X.dp u)) rfl (yy5 _) (fun i hi=>by show upd1 X.up X.dp u i=X.up i;simp only[upd1];rw[if_neg (by omega)]) e3⟩
 ·rcases he l o hl with⟨rfl,rfl⟩|⟨hj,hl⟩
  ·cases ha
  ·rcases he l' o' hg with⟨rfl,rfl⟩|⟨hk,hg⟩
   ·cases hh
   ·exact h.apart l l' o o' b hl hg ha hh
 ·rcases he l o hl with⟨rfl,rfl⟩|⟨hj,hl⟩
  ·cases ha
  ·exact h.notM l o b hl ha
variable{M':Mem}{ρ':Env}
def SAT.leave(h:SAT X M ρ s w){n:Nat}{rd:Option Nat}(h':SAT (X.sub M n rd (upd1 X.up X.dp u)) M' ρ' s' w'){H':List (Nat×HO)}(ha:∀ l o,lk H' l=some o→lk s'.H l=some o)
  (hd:noFr X.dp H'=true) (L:List (Nat×AV)):SAT X M' ρ' ⟨L,H',s'.nx⟩ w':=by
 refine⟨h'.below,fun b o hb=>h'.msub b o (h.msub b o hb),fun b hb=>?_,h'.mem,fun l o hl=>?_,fun l l' o o' b hl he=>h'.apart l l' o o' b (ha l o hl) (ha l' o' he),fun l o b hl=>h'.notM l o b (ha l o hl)⟩
 ·have e1:M' b=M b:=h'.mnew b hb;rw[e1];exact h.mnew b hb
 ·obtain⟨e1,e2,e3⟩:=h'.own l o (ha l o hl);exact⟨e1,e2,z70 (X:=X) (X':=X.sub M n rd (upd1 X.up X.dp u)) rfl rfl (fun i hi=>by show upd1 X.up X.dp u i=X.up i;simp only[upd1];rw[if_neg (by omega)]) (fun i L' e=>by subst e;exact z10 hd hl) e3⟩
def r0{n l':Nat}{rd:Option Nat}(h':SAT (X.sub M n rd (upd1 X.up X.dp u)) M' ρ' s' w'){L':List (Nat×AV)}(hl:lk s'.H l'=some (.fr X.dp L')) :
  ∀ d v,lk L' d=some v→v.bd s'.nx∧v.rv M' ρ' (u d):=by
 intro d v hd;obtain⟨_,e2,e3⟩:=h'.own l' _ hl;simp only[HO.ok] at e3;have:=e3.2 d v hd;simp only[upd1,if_pos] at this;exact⟨e2 _ (w5 hd),this⟩
def q22(h1:SAT X M ρ s w)(h2:REG X M ρ s a){n:Nat}{rd:Option Nat}{up:Nat→Nat→Value}(h':SAT (X.sub M n rd up) M' ρ' s' w'){L':List (Nat×AV)}{H':List (Nat×HO)}
  (hv:∀ d v,lk L' d=some v→v.bd s'.nx∧v.rv M' ρ' (a.tmps.getD d Go.undef)):REG X M' ρ' ⟨L',H',s'.nx⟩ a:=
 ⟨h2.size,let ⟨Ds,e1,e2,e3,e4⟩:=h2.defers;⟨Ds,e1,e2,fun D hD=>⟨(e3 D hD).1,h'.msub D _ (e3 D hD).2⟩,e4⟩,hv⟩
def q1m{H:List (Nat×α)}{n:Nat}:∀ l o,lk (del H n) l=some o→lk H l=some o:=by
 intro l o h;rw[q5z] at h;split at h
 ·cases h
 ·exact h
def resI(L:List (Nat×AV)):List ResultVar→Option AV
 |[]=>some .anil
 |.tmp d::rs=>(lk L d).bind fun v=>(resI L rs).map fun r=>.acons v r
 |_=>none
def resV:AV→AV
 |.acons a .anil=>a
 |l=>.tup l
def q9j{P:Program}(h2:REG X M ρ s a):∀ {rs:List ResultVar} {r:AV},resI s.L rs=some r→r.bd s.nx∧∃ vs,r.rvs M ρ vs∧(rs.mapM (resOne a.tmps)).run P w=.ok vs w
 |[],r,h=>by simp only[resI,yya] at h;subst h;exact⟨trivial,[],by simp[AV.rvs],rfl⟩
 |.tmp d::rs,r,h=>by simp only[resI,yyo,yym] at h;obtain⟨v,hv,r',hr,rfl⟩:=h;obtain⟨b1,vs,e1,e2⟩:=q9j (P:=P) h2 hr;obtain⟨b2,e3⟩:=h2.reg d v hv;refine⟨⟨b2,b1⟩,a.tmps.getD d Go.undef::vs,by simp only[AV.rvs];exact⟨_,_,e3,e1,rfl⟩,?_⟩;simp only[List.mapM_cons,yye,resOne,yyf,yyb,e2]
 |.cell ..::rs,r,h=>by simp[resI] at h
def q6n{r:AV}(h2:REG X M ρ s a)(h:resI s.L fn.results.toList=some r):(resV r).bd s.nx∧∃ v,(resV r).rv M ρ v∧(results fn a.tmps).run P w=.ok v w:=by
 obtain⟨hb,vs,ha,he⟩:=q9j (P:=P) (w:=w) h2 h;have hr:=q2r he;unfold resV;split
 ·rename_i x;simp only[AV.rvs] at ha;obtain⟨v,r',k5,rfl,rfl⟩:=ha;exact⟨hb.1,v,k5,by simpa using hr⟩
 ·rename_i hg;refine⟨hb,.tuple vs.toArray,by simp only[AV.rv];exact⟨vs,ha,rfl⟩,?_⟩;have hd:vs.toArray.size≠1:=by
   intro hd;cases r with
   |acons x z=>
    simp only[AV.rvs] at ha;obtain⟨v,r',k5,k6,rfl⟩:=ha;have:r'=[]:=by simpa using hd
    subst this;cases z with
    |anil=>exact hg x rfl
    |acons=>simp[AV.rvs] at k6
    |_=>simp only[AV.rvs] at k6
   |anil=>simp only[AV.rvs] at ha;subst ha;simp at hd
   |_=>simp only[AV.rvs] at ha
  rwa[dif_neg hd] at hr
def j16{args:AV}{n:Nat}(h:args.rvs M ρ vs)(hb:args.bd n):∀ {i d:Nat} {v:AV},lk (argL args i) d=some v→v.bd n∧i≤d∧∃ u,vs[d-i]?=some u∧v.rv M ρ u:=by
 induction args generalizing vs with
 |acons x y _ ihy=>
  intro i d v hl;simp only[AV.rvs] at h;obtain⟨u,r,k1,k2,rfl⟩:=h;simp only[argL,lk] at hl;split at hl
  ·rename_i e;subst e;injection hl with hl;subst hl
   exact⟨hb.1,yyl _,u,by simp,k1⟩
  ·obtain⟨e1,e2,u',e3,e4⟩:=ihy k2 hb.2 hl;refine⟨e1,by omega,u',?_,e4⟩;rw[show d-i=(d-(i+1))+1 by omega,yxi];exact e3
 |_=>intro i d v hl;simp[argL,lk] at hl
def REG.args{args:AV}{vs:List Value}{n k:Nat}{H:List (Nat×HO)}(ha:args.rvs M ρ vs)(hb:args.bd k)(hX:X.n=n)(hn:argN args≤n) :
  REG X M ρ ⟨argL args 0,H,k⟩ {tmps:=vs.toArray++Array.replicate (n-vs.toArray.size) Go.undef,defers:=[]}:=by
 have he:=z6e ha;refine⟨by simp;omega,⟨[],rfl,yxv,by simp,.inl rfl⟩,fun d v hd=>?_⟩;obtain⟨e1,e2,u,e3,e4⟩:=j16 ha hb hd;refine⟨e1,?_⟩;rw[Nat.sub_zero] at e3;have hg:d<vs.length:=by
  rcases Nat.lt_or_ge d vs.length with h|h
  ·exact h
  ·rw[yxe h] at e3;cases e3
 have:(vs.toArray++Array.replicate (n-vs.toArray.size) Go.undef).getD d Go.undef=u:=by rw[yyr,Array.getElem?_append_left (by simpa using hg)];simp[e3]
 rw[this];exact e4
def inlQ(X:Ctx)(rs:List ResultVar)(k:AV→List (Nat×AV)→List (Nat×HO)→Nat→Prop)(e:Exit)(s':S):Prop:=(e=.ret∨e=.normal)∧∃ l' L' r,lk s'.H l'=some (.fr X.dp L')∧resI s'.L rs=some r∧noFr X.dp (del s'.H l')=true∧k (resV r) L' (del s'.H l') s'.nx
def frAt:List (Nat×HO)→Nat→Option Nat
 |[],_=>none
 |(l,.fr i _)::r,n=>match Nat.beq i n with|true=>some l|false=>frAt r n
 |_::r,n=>frAt r n
variable{rs:List ResultVar}{k:AV→List (Nat×AV)→List (Nat×HO)→Nat→Prop}
def n8{L L':List (Nat×AV)}{H:List (Nat×HO)}{nx l':Nat}{r:AV}(h0:frAt H X.dp=some l')(h1:lk H l'=some (.fr X.dp L'))(h2:resI L rs=some r)
  (h3:noFr X.dp (del H l')=true) (h:k (resV r) L' (del H l') nx):inlQ X rs k .ret ⟨L,H,nx⟩:=⟨.inl rfl,l',L',r,h1,h2,h3,h⟩
def z5r{L L':List (Nat×AV)}{H:List (Nat×HO)}{nx l':Nat}{r:AV}(h0:frAt H X.dp=some l')(h1:lk H l'=some (.fr X.dp L'))(h2:resI L rs=some r)
  (h3:noFr X.dp (del H l')=true) (h:k (resV r) L' (del H l') nx):inlQ X rs k .normal ⟨L,H,nx⟩:=⟨.inr rfl,l',L',r,h1,h2,h3,h⟩
variable{Lf LO:List (Nat×AV)}
def j0r{args:AV}{R:Ending→World→Prop}(hf:X.P.funcs[f]?=some fn)(hb:fn.body=some c)(hn:argN args≤fn.ntmps)
  (h1:SAT X M ρ s w) (hj:args.bd s.nx) (hk:args.rvs M ρ vs) (hu:∀ p∈Lf,p.2.bd s.nx) (hv:∀ d v,lk Lf d=some v→v.rv M ρ (u d))
  (h:∀ M0 up,JC (X.sub M0 fn.ntmps none up) c (inlQ X fn.results.toList k) ⟨argL args 0,(s.nx,.fr X.dp Lf)::s.H,s.nx+1⟩)
  (hR:∀ M' ρ' s' l' L' r v w',SAT (X.sub M fn.ntmps none (upd1 X.up X.dp u)) M' ρ' s' w'→lk s'.H l'=some (.fr X.dp L')→noFr X.dp (del s'.H l')=true→k r L' (del s'.H l') s'.nx→r.bd s'.nx→r.rv M' ρ' v→R (.returned v) w') :
  Calls X.P f vs.toArray w R:=by
 refine(callsIn_wide (n:=0)).1 (callsIn_of_wp_marks hf hb trivial ?_ rfl);have hs:=h1.enter (L0:=argL args 0) (n:=fn.ntmps) (rd:=none) hu hv;have hr:REG (X.sub M fn.ntmps none (upd1 X.up X.dp u)) M ρ ⟨argL args 0,(s.nx,.fr X.dp Lf)::s.H,s.nx+1⟩ _:=REG.args hk (j3 (yy5 _) hj) rfl hn;refine wpIn_mono (h M (upd1 X.up X.dp u) M ρ _ w hs hr) ?_;rintro e a' w' ⟨M',ρ',s',k1,k2,hw,l',L',r,e1,e2,e3,e4⟩;obtain⟨Ds,hy,hA,hh,hB⟩:=k2.defers;have h0:∀ D∈Ds,M D=none:=fun D hD=>by
  rcases hB with e|⟨_,e⟩
  ·subst e;cases hD
  ·exact e D hD
 have fin:LeavesInM Fence.wide 0 X.P fn a'.tmps R a'.defers .returning w':=by rw[hy];refine q2p hA (fun D hD=>k1.mem _ _ (hh D hD).2) fun w'' he ha=>?_;obtain⟨hC,k1'⟩:=k1.taken h0 hh he ha;have k2':REG (X.sub M fn.ntmps none (upd1 X.up X.dp u)) (M'.without Ds) ρ' s' {a' with defers:=[]}:=⟨k2.size,⟨[],rfl,yxv,by simp,.inl rfl⟩,fun d v hd=>⟨(k2.reg d v hd).1,j5 hC (Env.upTo.refl ρ' s'.nx) (k2.reg d v hd).1 (k2.reg d v hd).2⟩⟩;obtain⟨hE,v,hF,hg⟩:=q6n (P:=X.P) (w:=w'') k2' e2;exact⟨v,hg,hR (M'.without Ds) ρ' s' l' L' _ v w'' k1' e1 e3 e4 hE hF⟩
 rcases hw with rfl|rfl
 ·exact fin
 ·exact fin
def q5n(h2:REG X M ρ s a)(Kp:List Nat):(∀ p∈svL s.L Kp,p.2.bd s.nx)∧∀ d v,lk (svL s.L Kp) d=some v→v.rv M ρ (a.tmps.getD d Go.undef):=⟨fun p hp=>(h2.reg _ _ (q76 hp)).1,fun d v hd=>(h2.reg _ _ (q76 (w5 hd))).2⟩
def z6l(Kp:List Nat){fst cap az:AV}{cs1 cs2:List Prop}{fo:Operand}{args:Array Operand}{tys:Array TypeId}(hg:o.guard=none)(hh:o.op=.call {callee:=.value fo,args:=args,argTypes:=tys})
  (hu:opd s.L fo=some (cs1,.fn f fst cap)) (ha:opds s.L args.toList=some (cs2,az)) (hc:allP (cs1++cs2)) (hf:X.P.funcs[f]?=some fn) (hb:fn.body=some c) (he:∀ az w,(callFunc f az).run X.P w=.ok (.enter f az) w)
  (hn:argN (apA fst (apA az cap))≤fn.ntmps) (hd:dstOk X.n o.dst)
  (h:∀ M0 up,JC (X.sub M0 fn.ntmps none up) c (inlQ X fn.results.toList fun r L H nx=>JL X true all QA l (putS o.dst r ⟨L,H,nx⟩)) ⟨argL (apA fst (apA az cap)) 0,(s.nx,.fr X.dp (svL s.L Kp))::s.H,s.nx+1⟩):JL X true all QA (o::l) s:=by
 intro M ρ a w h1 h2;rw[z7] at hc;obtain⟨hv,eu⟩:=z5 hu hc.1 h2;simp only[AV.rv] at eu;obtain⟨fs,ks,k1,k2,k3⟩:=eu;obtain⟨hw,ea⟩:=q0p h2 ha hc.2;have hy:=q61 k1 (q61 ea k2);have hA:(apA fst (apA az cap)).bd s.nx:=q9r hv.1 (q9r hw hv.2);have hj:(execOp a.eval o).run X.P w=.ok (.enter f (fs++(args.toList.map a.eval++ks)).toArray) w:=by
  have hk:Array.map a.eval args=(List.map a.eval args.toList).toArray:=by rw[← yxc]
  obtain⟨dst,op,ty,pos,after,guard⟩:=o;simp only at hh;subst hh;simp only[execOp,resolve,k3,Deferred.ofValue,yye,yyf,yyb,invoke,hk];rw[← he];simp
 obtain⟨sv1,sv2⟩:=q5n h2 Kp;refine z9 (j6 hg) (x8 (by rw[hh];rfl) hj (j0r (R:=fun e w''=>∃ v,e=.returned v∧wpListIn X.fn 0 X.P all.toArray (conc X QA) l (a.put o.dst v) w'') hf hb hn h1 hA hy sv1 sv2 h ?_) fun e w'' hr=>hr);intro M' ρ' s' l' L' r v w' q1 q2 q3 q4 q5 q6;have b1:=h1.leave q1 (H':=del s'.H l') q1m q3 L';have b2:REG X M' ρ' ⟨L',del s'.H l',s'.nx⟩ a:=q22 h1 h2 q1 (r0 q1 q2);exact⟨v,rfl,q4 M' ρ' _ w' (z8 b1) (b2.putO hd.spec q5 q6)⟩
def setPs:List Tmp→AV→List (Nat×AV)→Option (List (Nat×AV))
 |[],.anil,L=>some L
 |p::ps,.acons a r,L=>setPs ps r ((p,a)::L)
 |_,_,_=>none
def q2q{n nx:Nat}:∀ {ps:List Tmp} {az:AV} {vs:List Value} {L L0:List (Nat×AV)} {tm:Array Value},setPs ps az L=some L0→(∀ p∈ps,p<n)→az.bd nx→az.rvs M ρ vs→tm.size=n →
  (∀ d v,lk L d=some v→v.bd nx∧v.rv M ρ (tm.getD d Go.undef))→vs.length=ps.length∧((ps.zip vs).foldl (fun t (q:Tmp×Value)=>t.setIfInBounds q.1 q.2) tm).size=n ∧
  ∀ d v,lk L0 d=some v→v.bd nx∧v.rv M ρ (((ps.zip vs).foldl (fun t (q:Tmp×Value)=>t.setIfInBounds q.1 q.2) tm).getD d Go.undef)
 |[],az,vs,L,L0,tm,h,hp,hb,hv,hs,hL=>by
  cases az with
  |anil=>simp only[setPs,yya] at h;subst h;simp only[AV.rvs] at hv;subst hv;exact⟨rfl,hs,hL⟩
  |_=>simp[setPs] at h
 |p::ps,az,vs,L,L0,tm,h,hp,hb,hv,hs,hL=>by
  cases az with
  |acons x r=>
   simp only[setPs] at h;simp only[AV.rvs] at hv;obtain⟨v,vr,h1,h2,rfl⟩:=hv;have ha:=hp p yyh;obtain⟨e1,e2,e3⟩:=q2q (tm:=tm.setIfInBounds p v) h (fun q hq=>hp q (yyj _ hq)) hb.2 h2 (by simp[hs]) (fun d y hd=>by
    simp only[lk] at hd;by_cases e:p=d
    ·subst e;rw[if_pos rfl] at hd;injection hd with hd;subst hd
     refine⟨hb.1,?_⟩;rw[yyr,yxq (by rw[hs];exact ha)];exact h1
    ·rw[if_neg e] at hd;have:=hL d y hd;rw[yyr,yxs e,← yyr];exact this)
   exact⟨by simp[e1],by simpa using e2,by simpa using e3⟩
  |_=>simp[setPs] at h
def q6k{b l:Nat}(h:(AV.lf (.yld l)).rv M ρ (.func (.yield b) #[] #[])):ρ.blk l=b:=by
 rw[w9] at h;simp only[Leaf.at,yya] at h;injection h.1 with h1
 injection h1
def asgQ(X:Ctx)(nO:Nat)(k:S→Prop)(e:Exit)(s1:S):Prop:=e=.normal∧∃ l1 L1 lab ps az bd n LO,lk s1.H l1=some (.fr X.dp L1)∧lk L1 X.n=some (.lf (.yld lab))∧lk s1.H lab=some (.loop .ready none ps az bd n LO)∧k ⟨s1.L,updH s1.H lab (.loop .busy none ps az bd n LO),s1.nx⟩
def jumpOf:Exit→Option (Option Code)
 |.normal=>some none
 |.ret=>some (some .ret)
 |.exit id=>some (some (.exit id))
 |_=>none
def bodyQ(X:Ctx)(k:Bool→List (Nat×AV)→List (Nat×HO)→Nat→Prop)(e:Exit)(s2:S):Prop:=
 ∃ jmp,jumpOf e=some jmp∧∃ l2 L2 lab st pe ps az bd n LO,lk s2.H l2=some (.fr X.dp L2)∧lk L2 X.n=some (.lf (.yld lab))∧lk (del s2.H l2) lab=some (.loop st pe ps az bd n LO)∧noFr X.dp (del s2.H l2)=true ∧
  k jmp.isNone (del L2 X.n) (updH (del s2.H l2) lab (.loop (if jmp.isNone then .ready else .done) jmp ps az bd n LO)) s2.nx
def z2d(w:World)(l:Nat)(o:Obj):w.grownBy (w.putObj l o) (some l):=⟨rfl,rfl,rfl,by simp,fun k _ hk=>World.putObj_heap_other (fun e=>hk (by rw[e]))⟩
def SAT.turn(h:SAT X M ρ s w){st st':LoopState}{pe pe':Option Code}{ps:Array Tmp}{n:Nat}(hl:lk s.H lab=some (.loop st pe ps az bd n LO)) :
  ∃ fn tm D,w.heap[ρ.blk lab]?=some (.loop ⟨st,pe,fn,tm,ps,az,bd,D⟩)∧tm.size=n∧(∀ d v,lk LO d=some v→v.bd s.nx∧v.rv M ρ (tm.getD d Go.undef)) ∧
   SAT X M ρ ⟨s.L,updH s.H lab (.loop st' pe' ps az bd n LO),s.nx⟩ (w.putObj (ρ.blk lab) (.loop ⟨st',pe',fn,tm,ps,az,bd,D⟩)):=by
 obtain⟨e1,e2,e3⟩:=h.own lab _ hl;have e3':=e3;simp only[HO.ok] at e3;obtain⟨h1,fn,tm,D,h2,h3,h4⟩:=e3;refine⟨fn,tm,D,h2,h3,fun d v hd=>⟨e2 _ (w5 hd),h4 d v hd⟩,h.upd (o:=.loop st pe ps az bd n LO) hl (z2d _ _ _) rfl e2 ?_⟩;simp only[HO.ok];exact⟨h1,fn,tm,D,World.putObj_heap_same (yyi.1 h2).1,h3,h4⟩
def q3h{L:List (Nat×α)}{n d:Nat}{v:α}(h:lk (del L n) d=some v):d≠n∧lk L d=some v:=by
 rw[q5z] at h;split at h
 ·cases h
 ·rename_i e;exact⟨fun e'=>e e'.symm,h⟩
def JL.yield(Kp:List Nat){lab:Nat}{ps:Array Tmp}{assign body:Code}{nO:Nat}{LO L0:List (Nat×AV)}{az:AV}{cs1 cs2:List Prop}{fo:Operand}{args:Array Operand}{tys:Array TypeId}(hg:o.guard=none)(hh:o.op=.call {callee:=.value fo,args:=args,argTypes:=tys})
  (hu:opd s.L fo=some (cs1,.lf (.yld lab))) (ha:opds s.L args.toList=some (cs2,az)) (hc:allP (cs1++cs2)) (hl:lk s.H lab=some (.loop .ready none ps assign body nO LO))
  (hA:setPs ps.toList az LO=some L0) (hB:ps.toList.all (fun p=>Nat.blt p nO)=true) (hd:dstOk X.n o.dst)
  (h:∀ M0 up bl,up X.dp X.n=.func (.yield bl) #[] #[]→JC (X.sub M0 nO (some bl) up) assign
   (asgQ X nO fun s1=>JC (X.sub M0 nO (some bl) up) body (bodyQ X fun b L H nx=>JL X true all QA l (putS o.dst (.val .bool b) ⟨L,H,nx⟩)) s1)
   ⟨L0,(s.nx,.fr X.dp ((X.n,.lf (.yld lab))::svL s.L Kp))::s.H,s.nx+1⟩):JL X true all QA (o::l) s:=by
 intro M ρ a w h1 h2;rw[z7] at hc;obtain⟨hM,eu⟩:=z5 hu hc.1 h2;obtain⟨hC,ea⟩:=q0p h2 ha hc.2;have eu':a.eval fo=.func (.yield (ρ.blk lab)) #[] #[]:=by have:=(w9.1 eu).1;simp only[Leaf.at,yya] at this;exact this.symm
 obtain⟨fn,tm,D,e1,e2,e3,_⟩:=h1.turn (st':=.ready) (pe':=none) hl;obtain⟨p1,p2,p3⟩:=q2q hA (fun p hp=>by have:=yyx.1 hB p hp;simpa using this) hC ea e2 e3
 let bl:=ρ.blk lab
 let u:Nat→Value:=fun d=>if d=X.n then .func (.yield bl) #[] #[] else a.tmps.getD d Go.undef
 obtain⟨sv1,sv2⟩:=q5n h2 Kp;have hD:lab<s.nx:=(h1.own lab _ hl).1;have hE:(AV.lf (.yld lab)).rv M ρ (.func (.yield bl) #[] #[]):=by rw[← eu'];exact eu
 have hF:∀ p∈((X.n,AV.lf (.yld lab))::svL s.L Kp),p.2.bd s.nx:=fun p hp=>by
  rcases yyk.1 hp with e|e
  ·subst e;exact hD
  ·exact sv1 p e
 have hG:∀ d v,lk (svL s.L Kp) d=some v→v.rv M ρ (a.tmps.getD d Go.undef):=sv2;have hH:∀ d v,lk ((X.n,AV.lf (.yld lab))::svL s.L Kp) d=some v→v.rv M ρ (u d):=fun d v hd=>by
  simp only[lk] at hd;by_cases e:X.n=d
  ·subst e;rw[if_pos rfl] at hd;injection hd with hd;subst hd
   show(AV.lf (.yld lab)).rv M ρ (if X.n=X.n then _ else _);rw[if_pos rfl];exact hE
  ·rw[if_neg e] at hd;show v.rv M ρ (if d=X.n then _ else _);rw[if_neg (Ne.symm e)];exact sv2 d v hd
 have hJ:upd1 X.up X.dp u X.dp X.n=.func (.yield bl) #[] #[]:=by simp[upd1,u]
 have hs:=h1.enter (L0:=L0) (n:=nO) (rd:=some bl) hF hH;have hk:Array.map a.eval args=(List.map a.eval args.toList).toArray:=by rw[← yxc]
 refine z9 (j6 hg) ⟨fun f _=>q1x f,?_⟩;rw[q0d (by rw[hh];rfl)];have hv:(execOp a.eval o).run X.P w=.ok (.round bl fn ((ps.zip (List.map a.eval args.toList).toArray).foldl (fun t (q:Tmp×Value)=>t.setIfInBounds q.1 q.2) tm) assign body) w:=by obtain⟨dst,op,ty,pos,after,guard⟩:=o;simp only at hh;subst hh;have hy:=run_yield (P:=X.P) (args:=(List.map a.eval args.toList).toArray) e1 (by simp only[List.size_toArray];rw[p1];simp);simp only[execOp,resolve,eu',Deferred.ofValue,yye,yyf,yyb,invoke,hk];simpa using hy
 rw[hv,Oper.uponIn_round];refine⟨fun h=>(by cases h),roundIn_of_wpIn (q1x _) ?_⟩;have he:(ps.zip (List.map a.eval args.toList).toArray).foldl (fun t (q:Tmp×Value)=>t.setIfInBounds q.1 q.2) tm=(ps.toList.zip (List.map a.eval args.toList)).foldl (fun t (q:Tmp×Value)=>t.setIfInBounds q.1 q.2) tm:=by rw[← Array.foldl_toList];simp
 rw[he];have hr:REG (X.sub M nO (some bl) (upd1 X.up X.dp u)) M ρ ⟨L0,(s.nx,.fr X.dp ((X.n,.lf (.yld lab))::svL s.L Kp))::s.H,s.nx+1⟩ {tmps:=(ps.toList.zip (List.map a.eval args.toList)).foldl (fun t (q:Tmp×Value)=>t.setIfInBounds q.1 q.2) tm,defers:=[]}:=⟨p2,⟨[],rfl,yxv,by simp,.inl rfl⟩,fun d v hd=>⟨j3 (yy5 _) (p3 d v hd).1,(p3 d v hd).2⟩⟩
 refine wpIn_mono (h M (upd1 X.up X.dp u) bl hJ M ρ _ w hs hr) ?_;rintro e a1 w1 ⟨M1,ρ1,s1,k1,k2,rfl,l1,L1,lab1,ps1,as1,bd1,n1,LO1,q1,q2,q3,q4⟩;have hK:ρ1.blk lab1=bl:=by have:=(r0 k1 q1 _ _ q2).2;simp only[u,if_pos] at this;exact q6k this
 obtain⟨fn1,tm1,D1,f1,_,_,f4⟩:=k1.turn (st':=.busy) (pe':=none) q3;rw[hK] at f1 f4;refine⟨_,run_beginRound f1 rfl,wpIn_mono (q4 M1 ρ1 a1 _ f4 ⟨k2.size,k2.defers,k2.reg⟩) ?_⟩;rintro e2 a2 w2 ⟨M2,ρ2,s2,g1,g2,jmp,hj,l2,L2,lab2,st2,pe2,ps2,as2,bd2,n2,LO2,r1,r2,r3,r4,r5⟩;have hL:ρ2.blk lab2=bl:=by have:=(r0 g1 r1 _ _ r2).2;simp only[u,if_pos] at this;exact q6k this
 have b1:=h1.leave g1 (H':=del s2.H l2) q1m r4 (del L2 X.n);obtain⟨fn2,tm2,D2,t1,_,_,t4⟩:=b1.turn (st':=if jmp.isNone then .ready else .done) (pe':=jmp) r3;rw[hL] at t1 t4;have b2:REG X M2 ρ2 ⟨del L2 X.n,updH (del s2.H l2) lab2 (.loop (if jmp.isNone then .ready else .done) jmp ps2 as2 bd2 n2 LO2),s2.nx⟩ a:=q22 h1 h2 g1 fun d v hd=>by obtain⟨d1,d2⟩:=q3h hd;have:=r0 g1 r1 d v d2;simp only[u,if_neg d1] at this;exact this
 have hb:=run_endRound (P:=X.P) jmp t1;have hw:=r5 M2 ρ2 (a.put o.dst (.bool jmp.isNone)) _ (z8 t4) (b2.putO hd.spec trivial (by rw[n5]));cases e2 with
 |normal=>simp only[jumpOf,yya] at hj;subst hj;exact⟨_,_,hb,hw⟩
 |ret=>simp only[jumpOf,yya] at hj;subst hj;exact⟨_,_,hb,hw⟩
 |exit id=>simp only[jumpOf,yya] at hj;subst hj;exact⟨_,_,hb,hw⟩
 |_=>simp[jumpOf] at hj
def endJ(QA:Exit→S→Prop)(s:S):Option Code→Prop
 |none=>QA .normal s
 |some .ret=>QA .ret s
 |some (.exit id)=>QA (.exit id) s
 |_=>False
def rngQ(X:Ctx)(rs:List ResultVar)(QA:Exit→S→Prop)(e:Exit)(s':S):Prop:=
 (e=.ret∨e=.normal)∧∃ l' L' lab st pe ps az bd n LO r,resI s'.L rs=some r∧lk s'.H l'=some (.fr X.dp L')∧lk L' X.n=some (.lf (.yld lab))∧lk s'.H lab=some (.loop st pe ps az bd n LO)∧(st==.busy)=false ∧
  noFr X.dp (del (del s'.H l') lab)=true∧endJ QA ⟨del L' X.n,del (del s'.H l') lab,s'.nx⟩ pe
def SAT.mark(h:SAT X M ρ s w):SAT X (fun b=>if b=w.heap.size then some (.deferred (some [])) else M b) ρ s (w.alloc (.deferred (some [])))∧M.le (fun b=>if b=w.heap.size then some (.deferred (some [])) else M b) ∧
  (∀ b o,M b=some o→(if b=w.heap.size then some (.deferred (some [])) else M b)=some o):=by
 have hj:∀ b o,M b=some o→b<w.heap.size:=fun b o hm=>(yyi.1 (h.mem b o hm)).1;have ha:∀ b o,M b=some o→(if b=w.heap.size then some (Obj.deferred (some [])) else M b)=some o:=fun b o hm=>by rw[if_neg (by have:=hj b o hm;omega)];exact hm
 have hg:M.le (fun b=>if b=w.heap.size then some (.deferred (some [])) else M b):=fun b c ty fz hm=>ha b _ hm;have hb:Below w.heap.size w (w.alloc (.deferred (some []))):=(Below.refl _ _).alloc (yyl _) _;have h':=h.later hb;have hE:X.E.heap.size≤w.heap.size:=h.below.size;refine⟨⟨h'.below,fun b o hm=>ha b o (h.msub b o hm),fun b he=>?_,fun b o hm=>?_,fun l o hl=>?_,h.apart,fun l o b hl hh=>?_⟩,hg,ha⟩
 ·show(if b=w.heap.size then _ else _)=_;rw[if_neg (by omega)];exact h.mnew b he
 ·have hd:(if b=w.heap.size then some (Obj.deferred (some [])) else M b)=some o:=hm;split at hd
  ·rename_i e;injection hd with hd;subst hd e;exact World.alloc_heap_new w _
  ·exact h'.mem b o hd
 ·obtain⟨e1,e2,e3⟩:=h'.own l o hl;exact⟨e1,e2,t9 hg (Env.upTo.refl ρ s.nx) e1 e2 e3⟩
 ·show(if b=w.heap.size then _ else _)=_;have:=(p4 (h.own l o hl).2.2 hh).2;rw[if_neg (by omega)];exact h.notM l o b hl hh
def SAT.newLoop(h:SAT X M ρ s w)(h2:REG X M ρ s a)(Kp:List Nat)(ps:Array Tmp)(az bd:Code)(fn D:Nat) :
  SAT X M (ρ.with s.nx w.heap.size .nil Go.undef) ⟨s.L,(s.nx,.loop .ready none ps az bd X.n (svL s.L Kp))::s.H,s.nx+1⟩ (w.alloc (.loop ⟨.ready,none,fn,a.tmps,ps,az,bd,D⟩)):=by
 obtain⟨sv1,sv2⟩:=q5n h2 Kp;have hr:=j8 ρ s.nx w.heap.size .nil Go.undef;have ha:(ρ.with s.nx w.heap.size .nil Go.undef).blk s.nx=w.heap.size:=by simp[Env.with]
 refine h.add (row:=none) (World.grownBy_alloc w _ none) (fun b e=>by cases e) (fun l o hl=>⟨hl,fun b _ e=>by cases e⟩) hr (fun p hp=>j3 (yy5 _) (sv1 p hp)) ?_ (fun b hb=>?_)
 ·simp only[HO.ok,ha];exact⟨h.below.size,fn,a.tmps,D,World.alloc_heap_new w _,h2.size,fun d v hd=>j5 (Mem.le_refl M) hr (sv1 _ (w5 hd)) (sv2 d v hd)⟩
 ·simp only[HO.at,ha,yya] at hb;subst hb;refine⟨?_,fun l o1 hl hb=>?_⟩
  ·cases hM:M w.heap.size with
   |none=>rfl
   |some o=>have:=(yyi.1 (h.mem _ _ hM)).1;omega
  ·have:=(p4 (h.own l o1 hl).2.2 hb).2;omega
def z1g{F:Fence}{n:Nat}(h1:SAT X M' ρ' s' w')(h2:REG X M' ρ' s' a')(h:endJ QA s' (some c)):c.wpIn F n P (conc X QA) a' w':=by
 cases c with
 |ret=>exact wpIn_ret ⟨M',ρ',s',h1,h2,h⟩
 |exit id=>exact wpIn_exit ⟨M',ρ',s',h1,h2,h⟩
 |_=>exact h.elim
variable{cap:AV}
def z41{mark:List Deferred}(Kp:List Nat){M0:Mem}{ρ0:Env}{s0:S}{w0:World}(hf:X.P.funcs[f]?=some fn)(hb:fn.body=some c)(hn:argN (.acons (.lf (.yld lab)) cap)≤fn.ntmps)
  (hy:ρ0.blk lab=lb) (hj:lab<s0.nx) (h1:SAT X M0 ρ0 s0 w0) (h2:REG X M0 ρ0 s0 a) (hA:REG X M0 ρ0 s0 {a with defers:=mark++a.defers}) (hB:cap.bd s0.nx) (hk:cap.rvs M0 ρ0 ks)
  (h:∀ M up,JC (X.sub M fn.ntmps none up) c (rngQ X fn.results.toList QA) ⟨argL (.acons (.lf (.yld lab)) cap) 0,(s0.nx,.fr X.dp ((X.n,.lf (.yld lab))::svL s0.L Kp))::s0.H,s0.nx+1⟩) :
  CallsIn X.fn (0-1) X.P f (#[.func (.yield lb) #[] #[]]++ks.toArray) w0 (rangePost X.fn 0 X.P lb (conc X QA) {a with defers:=mark++a.defers}):=by
 let u:Nat→Value:=fun d=>if d=X.n then .func (.yield lb) #[] #[] else a.tmps.getD d Go.undef
 obtain⟨sv1,sv2⟩:=q5n h2 Kp;have hu:(AV.lf (.yld lab)).rv M0 ρ0 (.func (.yield lb) #[] #[]):=by rw[w9];exact⟨by simp only[Leaf.at,hy],rfl⟩
 have hC:∀ p∈((X.n,AV.lf (.yld lab))::svL s0.L Kp),p.2.bd s0.nx:=fun p hp=>by
  rcases yyk.1 hp with e|e
  ·subst e;exact hj
  ·exact sv1 p e
 have hE:∀ d v,lk ((X.n,AV.lf (.yld lab))::svL s0.L Kp) d=some v→v.rv M0 ρ0 (u d):=fun d v hd=>by
  simp only[lk] at hd;by_cases e:X.n=d
  ·subst e;rw[if_pos rfl] at hd;injection hd with hd;subst hd
   show(AV.lf (.yld lab)).rv M0 ρ0 (if X.n=X.n then _ else _);rw[if_pos rfl];exact hu
  ·rw[if_neg e] at hd;show v.rv M0 ρ0 (if d=X.n then _ else _);rw[if_neg (Ne.symm e)];exact sv2 d v hd
 have hF:(AV.acons (.lf (.yld lab)) cap).rvs M0 ρ0 (.func (.yield lb) #[] #[]::ks):=by simp only[AV.rvs];exact⟨_,_,hu,hk,rfl⟩
 have hG:(AV.acons (.lf (.yld lab)) cap).bd s0.nx:=⟨hj,hB⟩;have hs:=h1.enter (L0:=argL (.acons (.lf (.yld lab)) cap) 0) (n:=fn.ntmps) (rd:=none) hC hE;have hr:REG (X.sub M0 fn.ntmps none (upd1 X.up X.dp u)) M0 ρ0 ⟨argL (.acons (.lf (.yld lab)) cap) 0,(s0.nx,.fr X.dp ((X.n,.lf (.yld lab))::svL s0.L Kp))::s0.H,s0.nx+1⟩ _:=REG.args hF (j3 (yy5 _) hG) rfl hn;have ha:(#[.func (.yield lb) #[] #[]]++ks.toArray:Array Value)=(Value.func (.yield lb) #[] #[]::ks).toArray:=by simp
 rw[ha];refine q3w ((callsIn_wide (n:=0)).1 (callsIn_of_wp_marks hf hb trivial ?_ rfl));refine wpIn_mono (h M0 (upd1 X.up X.dp u) M0 ρ0 _ w0 hs hr) ?_;rintro e a1 w1 ⟨M1,ρ1,s1,k1,k2,hH,l1,L1,lab1,st1,pe1,ps1,as1,bd1,n1,LO1,rv1,q0,q1,q2,q3,q4,q5,q6⟩;obtain⟨Ds,hJ,hK,hv,hL⟩:=k2.defers;have h0:∀ D∈Ds,M0 D=none:=fun D hD=>by
  rcases hL with e|⟨_,e⟩
  ·subst e;cases hD
  ·exact e D hD
 have fin:LeavesInM Fence.wide 0 X.P fn a1.tmps (rangePost X.fn 0 X.P lb (conc X QA) {a with defers:=mark++a.defers}) a1.defers .returning w1:=by
  rw[hJ];refine q2p hK (fun D hD=>k1.mem _ _ (hv D hD).2) fun w2 hh he=>?_;obtain⟨hM,g1⟩:=k1.taken h0 hv hh he;have g2:REG (X.sub M0 fn.ntmps none (upd1 X.up X.dp u)) (M1.without Ds) ρ1 s1 {a1 with defers:=[]}:=⟨k2.size,⟨[],rfl,yxv,by simp,.inl rfl⟩,fun d v hd=>⟨(k2.reg d v hd).1,j5 hM (Env.upTo.refl ρ1 s1.nx) (k2.reg d v hd).1 (k2.reg d v hd).2⟩⟩;have hN:ρ1.blk lab1=lb:=by have:=(r0 g1 q1 _ _ q2).2;simp only[u,if_pos] at this;exact q6k this
  obtain⟨fn1,tm1,D1,f1,_,_,f4⟩:=g1.turn (st':=.exhausted) (pe':=pe1) q3;rw[hN] at f1 f4;obtain⟨_,v,_,hg⟩:=q6n (P:=X.P) (w:=w2) g2 q0;have b1:=h1.leave f4 (H':=del (del s1.H l1) lab1) (fun l o hl=>by have e1:=q3h hl;have e2:=q3h e1.2;show lk (updH s1.H lab1 _) l=some o;rw[q2u lab1 l _ s1.H (by rw[q3];rfl),if_neg (fun e=>e1.1 e.symm)];exact e2.2) q5 (del L1 X.n)
  have b2:REG X (M1.without Ds) ρ1 ⟨del L1 X.n,del (del s1.H l1) lab1,s1.nx⟩ {a with defers:=mark++a.defers}:=q22 h1 hA g1 fun d v hd=>by obtain⟨d1,d2⟩:=q3h hd;have:=r0 g1 q1 d v d2;simp only[u,if_neg d1] at this;exact this
  have hw:st1≠.busy:=fun e=>by subst e;simp at q4
  cases pe1 with
  |none=>exact⟨v,hg,none,_,run_endLoop f1 hw,M1.without Ds,ρ1,_,b1,b2,q6⟩
  |some c=>exact⟨v,hg,some c,_,run_endLoop f1 hw,z1g b1 b2 q6⟩
 rcases hH with rfl|rfl
 ·exact fin
 ·exact fin
def z0b{g:Operand}(hg:a.eval g=.func (.func f) #[] ks.toArray)(ha:∀ az w,(callFunc f az).run X.P w=.ok (.enter f az) w) :
  (resolve a.eval (rangeCall g lb) 0).run X.P w=.ok {target:=.fn (.func f) ks.toArray,args:=#[.func (.yield lb) #[] #[]]} w ∧
  (invoke (.fn (.func f) ks.toArray) #[.func (.yield lb) #[] #[]]).run X.P w=.ok (.enter f (#[.func (.yield lb) #[] #[]]++ks.toArray)) w:=by
 constructor
 ·simp only[resolve,hg];simp[go_sem]
 ·simp[invoke,go_sem,ha]
def z25(Kp:List Nat){g:Operand}{ps:Array Tmp}{cs:List Prop}(hh:X.rd=none)(hu:opd s.L g=some (cs,.fn f .anil cap))(hc:allP cs)
  (hf:X.P.funcs[f]?=some fn) (hb:fn.body=some c) (ha:∀ az w,(callFunc f az).run X.P w=.ok (.enter f az) w) (hn:argN (.acons .anil cap)≤fn.ntmps)
  (h:∀ M up,JC (X.sub M fn.ntmps none up) c (rngQ X fn.results.toList QA)
   ⟨argL (.acons (.lf (.yld s.nx)) cap) 0,(s.nx+1,.fr X.dp ((X.n,.lf (.yld s.nx))::svL s.L Kp))::(s.nx,.loop .ready none ps assign body X.n (svL s.L Kp))::s.H,s.nx+2⟩):JC X (.rangeFunc g ps assign body) QA s:=by
 intro M ρ a w h1 h2;obtain⟨he,eu⟩:=z5 hu hc h2;simp only[AV.rv,AV.rvs] at eu;obtain⟨fs,ks,rfl,k2,k3⟩:=eu;refine wpIn_rangeFunc ?_;intro fno _;have hw:X.fn.round=none:=hh;obtain⟨hy,hj,hd⟩:=h1.mark;have hk:=h2.grow (H':=s.H) (nx':=s.nx) hj (Env.upTo.refl ρ s.nx) (yyl _) (fun D hD=>hd D _ hD);have hA:=hy.newLoop hk Kp ps assign body fno w.heap.size;have hv:=j8 ρ s.nx (w.alloc (.deferred (some []))).heap.size .nil Go.undef;have hg:=hk.grow (H':=(s.nx,.loop .ready none ps assign body X.n (svL s.L Kp))::s.H) (nx':=s.nx+1) (Mem.le_refl _) hv (yy5 _) (p5 _);have hB:(w.alloc (.deferred (some []))).heap.size=w.heap.size+1:=by simp
 obtain⟨r1,r2⟩:=z0b (X:=X) (lb:=w.heap.size+1) (w:=(w.alloc (.deferred (some []))).alloc (.loop ⟨.ready,none,fno,a.tmps,ps,assign,body,w.heap.size⟩)) k3 ha;have hC:REG X (fun b=>if b=w.heap.size then some (.deferred (some [])) else M b) (ρ.with s.nx (w.alloc (.deferred (some []))).heap.size .nil Go.undef) ⟨s.L,(s.nx,.loop .ready none ps assign body X.n (svL s.L Kp))::s.H,s.nx+1⟩
   {a with defers:=[{target:=.collected w.heap.size,args:=#[]}]++a.defers}:=by
  refine⟨hg.size,?_,hg.reg⟩;obtain⟨Ds,e1,e2,e3,e4⟩:=h2.defers;refine⟨w.heap.size::Ds,by simp[e1],yx4.2 ⟨fun hm=>?_,e2⟩,fun D hD=>?_,.inr ⟨hh,fun D hD=>?_⟩⟩
  ·have:=(yyi.1 (h1.mem _ _ (e3 _ hm).2)).1;omega
  ·rcases yyk.1 hD with e|e
   ·subst e;exact⟨h1.below.size,by simp⟩
   ·exact⟨(e3 D e).1,hd D _ (e3 D e).2⟩
  ·rcases yyk.1 hD with e|e
   ·subst e;cases hM:X.M0 w.heap.size with
    |none=>rfl
    |some o=>have:=(yyi.1 (h1.mem _ _ (h1.msub _ _ hM))).1;omega
   ·rcases e4 with e5|⟨_,e5⟩
    ·subst e5;cases e
    ·exact e5 D e
 refine⟨w.heap.size+1,_,_,_,_,f,_,_,by rw[hw];exact run_enterLoop_outer _ _ _ _ _,r1,fun f' _=>q1x f',r2,(fun h=>(by cases h)),?_⟩;exact z41 Kp hf hb hn (by simp[Env.with,hB]) (yy2 _) hA hg hC (j3 (yy5 _) he.2) (y5 hj (Env.upTo.refl ρ s.nx) he.2 k2 |> y5 (Mem.le_refl _) hv he.2) h
def j3j(Kp:List Nat){g:Operand}{ps:Array Tmp}{cs:List Prop}(hd:X.rd=none)(he:X.dp=0)(hu:opd s.L g=some (cs,.fn f .anil cap))(hc:allP cs)
  (hf:X.P.funcs[f]?=some fn) (hb:fn.body=some c) (ha:∀ az w,(callFunc f az).run X.P w=.ok (.enter f az) w) (hn:argN (.acons .anil cap)≤fn.ntmps)
  (h:∀ M up,JC (X.sub M fn.ntmps none up) c (rngQ X fn.results.toList QA)
   ⟨argL (.acons (.lf (.yld s.nx)) cap) 0,(s.nx+1,.fr X.dp ((X.n,.lf (.yld s.nx))::svL s.L Kp))::(s.nx,.loop .ready none ps assign body X.n (svL s.L Kp))::s.H,s.nx+2⟩):JC X (.rangeFunc g ps assign body) QA s:=z25 Kp hd hu hc hf hb ha hn h
def j3i(Kp:List Nat){g:Operand}{ps:Array Tmp}{cs:List Prop}{bl i0 nI lf lab0:Nat}{st0:LoopState}{pe0:Option Code}{ps0:Array Tmp}{as0 bd0:Code}{n0:Nat}{LO0:List (Nat×AV)}
  (hh:X.rd=some bl) (hj:X.up i0 nI=.func (.yield bl) #[] #[]) (hk:lk s.H lf=some (.fr i0 Lf)) (hv:lk Lf nI=some (.lf (.yld lab0))) (hw:lk s.H lab0=some (.loop st0 pe0 ps0 as0 bd0 n0 LO0))
  (hu:opd s.L g=some (cs,.fn f .anil cap)) (hc:allP cs)
  (hf:X.P.funcs[f]?=some fn) (hb:fn.body=some c) (ha:∀ az w,(callFunc f az).run X.P w=.ok (.enter f az) w) (hn:argN (.acons .anil cap)≤fn.ntmps)
  (h:∀ M up,JC (X.sub M fn.ntmps none up) c (rngQ X fn.results.toList QA)
   ⟨argL (.acons (.lf (.yld s.nx)) cap) 0,(s.nx+1,.fr X.dp ((X.n,.lf (.yld s.nx))::svL s.L Kp))::(s.nx,.loop .ready none ps assign body X.n (svL s.L Kp))::s.H,s.nx+2⟩):JC X (.rangeFunc g ps assign body) QA s:=by
 intro M ρ a w h1 h2;obtain⟨he,eu⟩:=z5 hu hc h2;simp only[AV.rv,AV.rvs] at eu;obtain⟨fs,ks,rfl,k2,k3⟩:=eu;have hy:ρ.blk lab0=bl:=by obtain⟨_,_,e3⟩:=h1.own lf _ hk;simp only[HO.ok] at e3;have:=e3.2 _ _ hv;rw[hj] at this;exact q6k this
 obtain⟨fn0,tm0,D0,t1,_⟩:=h1.turn (st':=st0) (pe':=pe0) hw;rw[hy] at t1;refine wpIn_rangeFunc ?_;intro fno _;have hA:X.fn.round=some bl:=hh;have hB:=h1.newLoop h2 Kp ps assign body fno D0;have hd:=j8 ρ s.nx w.heap.size .nil Go.undef;have hg:=h2.grow (H':=(s.nx,.loop .ready none ps assign body X.n (svL s.L Kp))::s.H) (nx':=s.nx+1) (Mem.le_refl _) hd (yy5 _) (p5 _);obtain⟨r1,r2⟩:=z0b (X:=X) (lb:=w.heap.size) (w:=w.alloc (.loop ⟨.ready,none,fno,a.tmps,ps,assign,body,D0⟩)) k3 ha;refine⟨w.heap.size,_,_,_,_,f,_,_,by rw[hA];exact run_enterLoop_inner t1 _ _ _ _ _,r1,fun f' _=>q1x f',r2,(fun h=>(by cases h)),?_⟩;exact z41 (mark:=[]) Kp hf hb hn (by simp[Env.with]) (yy2 _) hB hg hg (j3 (yy5 _) he.2) (y5 (Mem.le_refl _) hd he.2 k2) h
variable {L L':List (Nat×AV)}{H H':List (Nat×HO)}{nx nx' d:Nat}{op:Op}{ty:TypeId}{ps:String}{af:Array Edge}{cs cs1 cs2:List Prop}{v:AV}{g:Bool}{gg:Nat×Bool}{dd:Option Nat}
def JL.gT(hg:gOf all s.L (some gg)=some g)(ha:g=true)(k:JL X true all QA (⟨dd,op,ty,ps,af,none⟩::l) s):JL X true all QA (⟨dd,op,ty,ps,af,some gg⟩::l) s:=by intro M ρ a w h1 h2;have hw:=(u7 (o:=⟨dd,op,ty,ps,af,some gg⟩) hg h2).trans ha;have:=k M ρ a w h1 h2;unfold wpListIn at this;rw[if_pos (j6 rfl)] at this;exact z9 hw this
def JL.pickF{c x y:Operand}{b:Bool}(hc:opd L c=some (cs1,.val .bool b))(hb:b=false)(hy:opd L y=some (cs2,v))(hd:ltB d X.n=true)(h1:allP cs1)(h2:allP cs2)(k:JL X true all QA l ⟨(d,v)::L,H,nx⟩) :
  JL X true all QA (⟨some d,.pick c x y,ty,ps,af,none⟩::l) ⟨L,H,nx⟩:=by
 intro M ρ a w s1 s2;have e1:=(z5 hc h1 s2).2;rw[n5] at e1;obtain⟨e2,e3⟩:=z5 hy h2 s2;refine z9 (j6 rfl) (w3 (v:=a.eval y) rfl ?_ (k M ρ _ w (z8 (d:=some d) s1) (s2.putO (d:=some d) (dstOk.spec (j9 hd)) e2 e3)));simp only[execOp,e1,hb,yyf];rfl
def JL.nilF(k:JL X true all QA l ⟨del L d,H,nx⟩):JL X true all QA (⟨some d,.assign (.const .nilFunc),ty,ps,af,none⟩::l) ⟨L,H,nx⟩:=by
 intro M ρ a w s1 s2;refine z9 (j6 rfl) (w3 (v:=.nilFunc) rfl (by simp only[execOp,yyf];rfl) (k M ρ _ w ⟨s1.below,s1.msub,s1.mnew,s1.mem,s1.own,s1.apart,s1.notM⟩ ⟨by simp[Act.put,s2.size],s2.defers,fun e v he=>?_⟩));obtain⟨h1,h2⟩:=q3h he;have:=s2.reg e v h2;refine⟨this.1,?_⟩;have e1:((a.put (some d) .nilFunc).tmps.getD e Go.undef)=a.tmps.getD e Go.undef:=by simp only[Act.put,yyr];rw[yxs (Ne.symm h1)]
 rw[e1];exact this.2
variable{pz:Array Tmp}
def q0f{nO l1 lab n:Nat}{L1 LO:List (Nat×AV)}{k:S→Prop}(h0:frAt H X.dp=some l1)(h1:lk H l1=some (.fr X.dp L1))(h2:lk L1 X.n=some (.lf (.yld lab)))(h3:lk H lab=some (.loop .ready none pz az bd n LO))
  (h:k ⟨L,updH H lab (.loop .busy none pz az bd n LO),nx⟩):asgQ X nO k .normal ⟨L,H,nx⟩:=⟨rfl,l1,L1,lab,pz,az,bd,n,LO,h1,h2,h3,h⟩
def bodyQ.of{e:Exit}{jmp:Option Code}{l2 lab n:Nat}{L2 LO:List (Nat×AV)}{st:LoopState}{k:Bool→List (Nat×AV)→List (Nat×HO)→Nat→Prop}(hj:jumpOf e=some jmp)(h0:frAt H X.dp=some l2)
  (h1:lk H l2=some (.fr X.dp L2)) (h2:lk L2 X.n=some (.lf (.yld lab))) (h3:lk (del H l2) lab=some (.loop st pe pz az bd n LO)) (h4:noFr X.dp (del H l2)=true)
  (h:k jmp.isNone (del L2 X.n) (updH (del H l2) lab (.loop (if jmp.isNone then .ready else .done) jmp pz az bd n LO)) nx):bodyQ X k e ⟨L,H,nx⟩:=
 ⟨jmp,hj,l2,L2,lab,st,pe,pz,az,bd,n,LO,h1,h2,h3,h4,h⟩
def rngQ.of{e:Exit}{l' lab n:Nat}{st:LoopState}{r:AV}(he:e=.ret∨e=.normal)(hr:resI L rs=some r)(h0:frAt H X.dp=some l')(h1:lk H l'=some (.fr X.dp L'))
  (h2:lk L' X.n=some (.lf (.yld lab))) (h3:lk H lab=some (.loop st pe pz az bd n LO)) (h4:(st==.busy)=false) (h5:noFr X.dp (del (del H l') lab)=true) (h:endJ QA ⟨del L' X.n,del (del H l') lab,nx⟩ pe):rngQ X rs QA e ⟨L,H,nx⟩:=
 ⟨he,l',L',lab,st,pe,pz,az,bd,n,LO,r,hr,h1,h2,h3,h4,h5,h⟩
def y6{n i:Nat}(h:bdL n L):HO.bd n (.fr i L):=fun p hp=>q1i h p.1 p.2 hp
def s7{n m:Nat}{st:LoopState}(h:bdL n L):HO.bd n (.loop st pe pz az bd m L):=fun p hp=>q1i h p.1 p.2 hp
def endJ.n(h:QA .normal s):endJ QA s none:=h
def endJ.r(h:QA .ret s):endJ QA s (some .ret):=h
def endJ.e{id:Nat}(h:QA (.exit id) s):endJ QA s (some (.exit id)):=h
def z4l(hX:XOK X)(h:evb X.T op ⟨L,H,nx⟩=some (cs,v))(hd:ltB d X.n=true)(k:JL X md all QA l ⟨(d,v)::L,H,nx⟩)(hc:allP cs:=by exact zD):JL X md all QA (⟨some d,op,ty,ps,af,none⟩::l) ⟨L,H,nx⟩:=JL.q1 hX h hd hc k
def q19(hX:XOK X)(h:evm X.T X.ET op ⟨L,H,nx⟩=some (cs,v,⟨L',H',nx'⟩))(hd:ltB d X.n=true)(k:JL X true all QA l ⟨(d,v)::L',H',nx'⟩)(hc:allP cs:=by exact zD):JL X true all QA (⟨some d,op,ty,ps,af,none⟩::l) ⟨L,H,nx⟩:=JL.m1 hX h hd hc k
def JL.M0(hX:XOK X)(h:evm X.T X.ET op ⟨L,H,nx⟩=some (cs,v,⟨L',H',nx'⟩))(k:JL X true all QA l ⟨L',H',nx'⟩)(hc:allP cs:=by exact zD):JL X true all QA (⟨none,op,ty,ps,af,none⟩::l) ⟨L,H,nx⟩:=JL.m0 hX h hc k
def z09(hX:XOK X)(hg:gOf all L (some gg)=some g)(h:evb X.T op ⟨L,H,nx⟩=some (cs,v))(hd:ltB d X.n=true)(k:JL X md all QA l ⟨(d,.gd g v)::L,H,nx⟩)(hc:g=true→allP cs:=by exact zE):JL X md all QA (⟨some d,op,ty,ps,af,some gg⟩::l) ⟨L,H,nx⟩:=JL.g1 hX hg h hd hc k
def q81{args r:AV}(h:callA X.T op ⟨L,H,nx⟩=some (cs,f,args))(hf:Fn X.P f args (·=r))(hr:r.scal=true)(ha:r.bd 0)(hd:ltB d X.n=true)(k:JL X md all QA l ⟨(d,r)::L,H,nx⟩)(hc:allP cs:=by exact zD) :
  JL X md all QA (⟨some d,op,ty,ps,af,none⟩::l) ⟨L,H,nx⟩:=JL.s1 h hf hr ha hd hc k
def z6n{args r:AV}(hg:gOf all L (some gg)=some g)(h:callA X.T op ⟨L,H,nx⟩=some (cs,f,args))(hf:g=true→Fn X.P f args (·=r))(hr:r.scal=true)(ha:r.bd 0)(hd:ltB d X.n=true)(k:JL X md all QA l ⟨(d,.gd g r)::L,H,nx⟩)(hc:g=true→allP cs:=by exact zE) :
  JL X md all QA (⟨some d,op,ty,ps,af,some gg⟩::l) ⟨L,H,nx⟩:=JL.s1g hg h hf hr ha hd hc k
def z2x{args:AV}{R:AV→Prop}(h:callA X.T op ⟨L,[],nx⟩=some (cs,f,args))(hf:Fn X.P f args R)(hd:ltB d X.n=true)(k:∀ r,R r→JL X true all QA l ⟨(d,r)::L,H,nx⟩)(hc:allP cs:=by exact zD) :
  JL X true all QA (⟨some d,op,ty,ps,af,none⟩::l) ⟨L,H,nx⟩:=JL.c1 h hf hd hc k
def q7(i:Nat)(hX:XOK X)(ho:ops[i]?=some ⟨some d,op,ty,ps,af,none⟩)(h:evq X.T op ⟨L,H,nx⟩=some (cs,v))(k:JF X ops K fl fuel (i::ls) ⟨(d,v)::L,H,nx⟩)(hf:fsB ops ls fl i=true:=by decide +kernel)(e3:isLoad op=false:=by rfl)(hd:ltB d X.n=true:=by rfl)(hc:allP cs:=by exact zD) :
  JF X ops K fl (fuel+1) ls ⟨L,H,nx⟩:=JF.first i hX hf ho e3 h hd hc k
def z6(i:Nat)(hX:XOK X)(ho:ops[i]?=some ⟨some d,op,ty,ps,af,none⟩)(h:evq X.T op ⟨L,H,nx⟩=some (cs,v))(k:JF X ops K (i::fl) fuel (i::ls) ⟨(d,v)::L,H,nx⟩)(hf:ftB ops ls fl i d=true:=by decide +kernel)(hd:ltB d X.n=true:=by rfl)(hc:allP cs:=by exact zD) :
  JF X ops K fl (fuel+1) ls ⟨L,H,nx⟩:=JF.float i hX hf ho h hd hc k
def r7{f:Nat}{r:List Nat}(ho:ops[f]?=some ⟨some d,op,ty,ps,af,none⟩)(h:evq X.T op s=some (cs,v))(hl:lk s.L d=some v)(k:StF X ops s r)(hd:ltB d X.n=true:=by rfl)(hc:allP cs:=by exact zD):StF X ops s (f::r):=StF.one ho h hl hd hc k
def j0(i:Nat)(is:List Nat)(hX:XOK X)(hst:StF X ops s fl)(hB:BrF X ops K fl fuel ls s (i::is))(hc:ndB ops ls fl (i::is)=true:=by decide +kernel):JF X ops K fl (fuel+1) ls s:=q85 i is hX hc hst hB
def v7(hX:XOK X)(hst:StF X ops s fl)(hK:K s)(hc:ndB ops ls fl []=true:=by decide +kernel):JF X ops K fl fuel ls s:=j3h hX hc hst hK
def JW.Auto{ps:List (Nat×Nat)}(h0:pairs s' s=ps)(hL:covL (renOf ps) s'.L s.L:=by(repeat' (first|exact trivial|exact rfl|refine And.intro ?_ ?_|exact yyd rfl|refine y6 ?_|refine s7 ?_|(refine congrArg (fun z:Int=>some (AV.val (.int .i64) z)) ?_;push_cast;omega))))(hH:covH (renOf ps) s'.H s.H:=by(repeat' (first|exact trivial|exact rfl|refine And.intro ?_ ?_|exact yyd rfl|refine y6 ?_|refine s7 ?_|(refine congrArg (fun z:Int=>some (AV.val (.int .i64) z)) ?_;push_cast;omega))))(ha:bdL s'.nx s'.L:=by(repeat' (first|exact trivial|exact rfl|refine And.intro ?_ ?_|exact yyd rfl|refine y6 ?_|refine s7 ?_|(refine congrArg (fun z:Int=>some (AV.val (.int .i64) z)) ?_;push_cast;omega))))(hb:bdH s'.nx s'.H:=by(repeat' (first|exact trivial|exact rfl|refine And.intro ?_ ?_|exact yyd rfl|refine y6 ?_|refine s7 ?_|(refine congrArg (fun z:Int=>some (AV.val (.int .i64) z)) ?_;push_cast;omega))))(hi:injH (renOf ps) s'.H=true:=by rfl):JW X s' s:=JW.auto h0 hL hH ha hb hi
def qE(id:Nat)(R:S→Prop)(QA:Exit→S→Prop):Exit→S→Prop
 |.exit j,s=>if j=id then R s else QA (.exit j) s
 |e,s=>QA e s
def QX.er{id:Nat}{R:S→Prop}(h:QA .ret s):qE id R QA .ret s:=h
end Ox
namespace Ox
open Go Go.RowKit
variable {P:Program}{w:World}{M:Mem}
def Ty.flatB:Ty→Bool
 |.int _|.bool|.nil=>true|.arr _ e=>e.flatB|.cons a b=>a.flatB&&b.flatB|_=>false
def Ty.dep:Ty→Nat
 |.arr _ e=>e.dep+1|.cons a b=>max (a.dep+1) b.dep|_=>1
def Fl:Ty→List Value→Prop
 |.int k,cs=>∃ n,cs=[.int k n]
 |.bool,cs=>∃ b,cs=[.bool b]
 |.arr n e,cs=>cs.length=n*e.size∧∀ i,i<n→Fl e ((cs.drop (i*e.size)).take e.size)
 |.nil,cs=>cs=[]
 |.cons a b,cs=>∃ c1 c2,cs=c1++c2∧Fl a c1∧Fl b c2
 |_,_=>False
def Fl.length:∀ {t:Ty} {cs:List Value},Fl t cs→cs.length=t.size
 |.int _,_,h=>by obtain⟨n,rfl⟩:=h;rfl
 |.bool,_,h=>by obtain⟨n,rfl⟩:=h;rfl
 |.arr n e,_,h=>h.1
 |.nil,_,h=>by simp only[Fl] at h;subst h;rfl
 |.cons a b,_,h=>by simp only[Fl] at h;obtain⟨c1,c2,rfl,h1,h2⟩:=h;simp[Ty.size,h1.length,h2.length]
def Rep.fl:∀ {t:Ty} {x:t.den} {cs:List Value},t.flatB=true→Rep M t x cs→Fl t cs
 |.int _,_,_,_,h=>by simp only[Rep] at h;exact⟨_,h⟩
 |.bool,_,_,_,h=>by simp only[Rep] at h;exact⟨_,h⟩
 |.arr n e,l,cs,hf,h=>by simp only[Rep] at h;refine⟨h.2.1,fun i hi=>Rep.fl (by simpa[Ty.flatB] using hf) (h.2.2 i (by omega))⟩
 |.nil,_,_,_,h=>by simp only[Rep] at h;exact h
 |.cons a b,x,cs,hf,h=>by simp only[Rep] at h;simp only[Ty.flatB,yyc] at hf;obtain⟨c1,c2,rfl,h1,h2⟩:=h;exact⟨c1,c2,rfl,h1.fl hf.1,h2.fl hf.2⟩
def z2i{n c:Nat}{x y:List Value}(hx:x.length=n*c)(hy:y.length=n*c)(h:∀ i,i<n→(x.drop (i*c)).take c=(y.drop (i*c)).take c):x=y:=by rw[← chunks_flatten c n x hx,← chunks_flatten c n y hy];congr 1;exact List.map_congr_left fun i hi=>h i (yy3.1 hi)
def Rep.inj:∀ {t:Ty} {x y:t.den} {cx cy:List Value},t.flatB=true→Rep M t x cx→Rep M t y cy→(cx=cy↔x=y)
 |.int _,_,_,_,_,_,h1,h2=>by simp only[Rep] at h1 h2;subst h1 h2;simp
 |.bool,_,_,_,_,_,h1,h2=>by simp only[Rep] at h1 h2;subst h1 h2;simp
 |.arr n e,l,m,cx,cy,hf,h1,h2=>by
  simp only[Rep] at h1 h2;have ha:e.flatB=true:=by simpa[Ty.flatB] using hf
  constructor
  ·rintro rfl;refine List.ext_getElem (by omega) fun i i1 i2=>?_;exact(Rep.inj ha (h1.2.2 i i1) (h2.2.2 i i2)).1 rfl
  ·intro e0;have e0:l=m:=e0;subst e0;exact z2i h1.2.1 h2.2.1 fun i hi=>(Rep.inj ha (h1.2.2 i (by omega)) (h2.2.2 i (by omega))).2 rfl
 |.nil,_,_,_,_,_,h1,h2=>by simp only[Rep] at h1 h2;subst h1 h2;simp
 |.cons a b,x,y,cx,cy,hf,h1,h2=>by
  simp only[Rep] at h1 h2;simp only[Ty.flatB,yyc] at hf;obtain⟨c1,c2,rfl,a1,a2⟩:=h1;obtain⟨d1,d2,rfl,b1,b2⟩:=h2;have hl:c1.length=d1.length:=by rw[a1.length,b1.length]
  rw[show c1++c2=d1++d2↔c1=d1∧c2=d2 from⟨fun e=>List.append_inj e hl,fun⟨e1,e2⟩=>by rw[e1,e2]⟩,Rep.inj hf.1 a1 b1,Rep.inj hf.2 a2 b2];exact⟨fun h=>Prod.ext h.1 h.2,fun h=>by rw[h];exact⟨rfl,rfl⟩⟩
def eqOkB(P:Program):Ty→TypeId→Bool
 |.arr _ e,id=>e.size != 0&&(match P.underlying id with|some (.array _ eid)=>eqOkB P e eid|_=>false)
 |.cons a b,id=>!P.stoodInHeld id&&(match P.underlying id with
   |some (.struct fs)=>(match fs.toList with
    |f::r=>f.name != "_"&&eqOkB P a f.type&&eqOkF P b r
    |[]=>false)
   |_=>false)
 |.nil,_=>false
 |_,_=>true
where
 eqOkF (P:Program):Ty→List Field→Bool
 |.nil,[]=>true
 |.cons a b,f::r=>f.name != "_"&&eqOkB P a f.type&&eqOkF P b r
 |_,_=>false
def q9y{k:IntKind}{n:Int}:(Ty.int k).wrap [.int k n]=.int k n:=rfl
def q71{b:Bool}:Ty.bool.wrap [.bool b]=.bool b:=rfl
def EqA(P:Program)(t:Ty):Prop:=∀ (id:TypeId) (d:Nat),TyOf P t id→eqOkB P t id=true→t.dep≤d→∀ (w:World) (cx cy:List Value),Fl t cx→Fl t cy →
 ∃ r:Bool,(Op.equalIn d id (t.wrap cx) (t.wrap cy)).run P w=.ok r w∧(r=true↔cx=cy)
def EqF(P:Program)(t:Ty):Prop:=∀ (fs:List Field) (off d:Nat),TyOf.fields P t fs off→eqOkB.eqOkF P t fs=true→t.dep≤d+1→∀ (w:World) (xs ys:Array Value),Fl t (xs.toList.drop off)→Fl t (ys.toList.drop off) →
 ∃ r:Bool,(Op.eqFields d xs ys fs).run P w=.ok r w∧(r=true↔xs.toList.drop off=ys.toList.drop off)
def q8o{e:Ty}{eid:TypeId}{d:Nat}(IH:EqA P e)(ht:TyOf P e eid)(ho:eqOkB P e eid=true)(hd:e.dep≤d)(hs:0<e.size)(w:World)(xs ys:Array Value) :
  ∀ is:List Nat,(∀ i∈is,i*e.size+e.size≤xs.size∧i*e.size+e.size≤ys.size∧Fl e ((xs.toList.drop (i*e.size)).take e.size)∧Fl e ((ys.toList.drop (i*e.size)).take e.size)) →
  ∃ r:Bool,(Op.eqItems d eid e.size xs ys is).run P w=.ok r w∧(r=true↔∀ i∈is,(xs.toList.drop (i*e.size)).take e.size=(ys.toList.drop (i*e.size)).take e.size)
 |[],_=>⟨true,by simp[Op.eqItems],by simp⟩
 |i::is,h=>by
  obtain⟨h1,h2,h3,h4⟩:=h i (by simp);obtain⟨r,hr,hq⟩:=IH eid d ht ho hd w _ _ h3 h4;obtain⟨r',ha,hb⟩:=q8o IH ht ho hd hs w xs ys is fun j hj=>h j (by simp[hj]);simp only[Op.eqItems,yye,q1e ht hs h1 w,q1e ht hs h2 w,hr,yyb];cases r
  ·exact⟨false,by simp,by simp only[yys,false_iff];intro hh;exact absurd (hq.2 (hh i (by simp))) (by simp)⟩
  ·exact⟨r',by simpa using ha,by rw[hb];simp[hq.1 rfl]⟩
def q2w{t:Ty}{id:TypeId}(ht:TyOf P t id):P.cellsOf id=t.size:=by obtain⟨d,h1,h2⟩:=ht.info;have:=h1.size;simp only[yym] at this;obtain⟨i,hi,he⟩:=this;unfold Program.cellsOf;simp[hi,he]
def z2g:∀ t:Ty,EqA P t∧EqF P t
 |.int k=>by
  refine⟨fun id d ht _ hd w cx cy hx hy=>?_,fun fs off d h=>?_⟩
  ·obtain⟨d,rfl⟩:∃ d',d=d'+1:=⟨d-1,by simp[Ty.dep] at hd;omega⟩;obtain⟨n,rfl⟩:=hx;obtain⟨m,rfl⟩:=hy;exact⟨n==m,run_equalIn_int w d id k k n m ht.under,by simp⟩
  ·cases fs<;>simp[TyOf.fields] at h
 |.bool=>by
  refine⟨fun id d ht _ hd w cx cy hx hy=>?_,fun fs off d h=>?_⟩
  ·obtain⟨d,rfl⟩:∃ d',d=d'+1:=⟨d-1,by simp[Ty.dep] at hd;omega⟩;obtain⟨n,rfl⟩:=hx;obtain⟨m,rfl⟩:=hy;exact⟨n==m,q26 ht.under n m,by simp⟩
  ·cases fs<;>simp[TyOf.fields] at h
 |.slice e=>⟨fun _ _ _ _ _ _ _ _ hx _=>hx.elim,fun fs off d h=>by cases fs<;>simp[TyOf.fields] at h⟩
 |.ptr e=>⟨fun _ _ _ _ _ _ _ _ hx _=>hx.elim,fun fs off d h=>by cases fs<;>simp[TyOf.fields] at h⟩
 |.nil=>by
  refine⟨fun _ _ ht=>ht.elim,fun fs off d h _ _ w xs ys hx hy=>?_⟩;cases fs with
  |nil=>simp only[Fl] at hx hy;exact⟨true,by simp[Op.eqFields],by simp[hx,hy]⟩
  |cons f r=>simp[TyOf.fields] at h
 |.arr n e=>by
  refine⟨fun id d ht ho hd w cx cy hx hy=>?_,fun fs off d h=>by cases fs<;>simp[TyOf.fields] at h⟩;obtain⟨d,rfl⟩:∃ d',d=d'+1:=⟨d-1,by simp[Ty.dep] at hd;omega⟩;obtain⟨eid,h1,h2⟩:=ht;simp only[eqOkB,h1.under,yyc,bne_iff_ne] at ho;obtain⟨hs,ho⟩:=ho;obtain⟨i,hi⟩:=info_of_underlying (h2.info.choose_spec.1.under);have hu:=q2w h2;rw[show(Ty.arr n e).wrap cx=.agg cx.toArray from rfl,show(Ty.arr n e).wrap cy=.agg cy.toArray from rfl,run_equalIn_array w d _ _ h1.under hi,hu];have hb:∀ i,i<n→i*e.size+e.size≤n*e.size:=fun i hi=>by rw[← Nat.succ_mul];exact yy1 _ hi
  obtain⟨r,hr,hq⟩:=q8o (z2g e).1 h2 ho (by simp[Ty.dep] at hd;omega) (by omega) w cx.toArray cy.toArray (List.range n) fun i hi=>by have hi:=yy3.1 hi;exact⟨by simpa[hx.1] using hb i hi,by simpa[hy.1] using hb i hi,by simpa using hx.2 i hi,by simpa using hy.2 i hi⟩
  exact⟨r,hr,by rw[hq];exact⟨fun h=>z2i hx.1 hy.1 fun i hi=>by simpa using h i (yy3.2 hi),fun h=>by rw[h];simp⟩⟩
 |.cons a b=>by
  have hF:EqF P (.cons a b):=by
   intro fs off d h ho hd w xs ys hx hy;cases fs with
   |nil=>simp[TyOf.fields] at h
   |cons f r=>
    simp only[TyOf.fields] at h;simp only[eqOkB.eqOkF,yyc,bne_iff_ne] at ho;obtain⟨h0,h1,h2,h3⟩:=h;simp only[Fl] at hx hy;obtain⟨c1,c2,ex,x1,x2⟩:=hx;obtain⟨d1,d2,ey,y1,y2⟩:=hy;have hw:xs.size=off+(a.size+b.size)∨xs.size<off+1:=by have:=congrArg List.length ex;simp[x1.length,x2.length] at this;omega
    have hA:ys.size=off+(a.size+b.size)∨ys.size<off+1:=by have:=congrArg List.length ey;simp[y1.length,y2.length] at this;omega
    have tx:(xs.toList.drop off).take a.size=c1:=by rw[ex,← x1.length,List.take_left]
    have ty:(ys.toList.drop off).take a.size=d1:=by rw[ey,← y1.length,List.take_left]
    have dx:xs.toList.drop (off+a.size)=c2:=by rw[← List.drop_drop,ex,← x1.length,List.drop_left]
    have dy:ys.toList.drop (off+a.size)=d2:=by rw[← List.drop_drop,ey,← y1.length,List.drop_left]
    have lx:off+a.size≤xs.size:=by have:=congrArg List.length ex;simp[x1.length] at this;omega
    have ly:off+a.size≤ys.size:=by have:=congrArg List.length ey;simp[y1.length] at this;omega
    simp only[Ty.dep] at hd;obtain⟨q,hv,hj⟩:=(z2g a).1 f.type d h1 ho.1.2 (by omega) w c1 d1 x1 y1;obtain⟨q',hg,ha⟩:=(z2g b).2 r (off+a.size) d h3 ho.2 (by omega) w xs ys (by rw[dx];exact x2) (by rw[dy];exact y2);have px:=q1e h1 (cs:=xs) (off:=off) (by omega) lx w;have py:=q1e h1 (cs:=ys) (off:=off) (by omega) ly w;rw[tx] at px;rw[ty] at py;simp only[Op.eqFields,ho.1.1,h0,ne_eq,not_false_eq_true,if_true,yye,px,py,hv,yyb];rw[ex,ey,show c1++c2=d1++d2↔c1=d1∧c2=d2 from⟨fun e=>List.append_inj e (by rw[x1.length,y1.length]),fun⟨e1,e2⟩=>by rw[e1,e2]⟩];rw[dx,dy] at ha;cases q
    ·exact⟨false,by simp,by simp only[yys,false_iff];intro hh;exact absurd (hj.2 hh.1) (by simp)⟩
    ·exact⟨q',by simpa using hg,by rw[ha];simp[hj.1 rfl]⟩
  refine⟨fun id d ht ho hd w cx cy hx hy=>?_,hF⟩;obtain⟨d,rfl⟩:∃ d',d=d'+1:=⟨d-1,by simp[Ty.dep] at hd;omega⟩;obtain⟨fs,h1,h2⟩:=ht;simp only[eqOkB,h1.under,yyc,yyv] at ho;have hk:P.fieldsOf id=fs:=by unfold Program.fieldsOf;rw[h1.under]
  rw[show(Ty.cons a b).wrap cx=.agg cx.toArray from rfl,show(Ty.cons a b).wrap cy=.agg cy.toArray from rfl,run_equalIn_agg w d id _ _ (by rw[hk];exact h1.under) ho.1,hk];obtain⟨r,hr,hq⟩:=hF fs.toList 0 d (by
   cases he:fs.toList with
   |nil=>rw[he] at h2;exact h2.elim
   |cons f r=>rw[he] at h2;simp only[TyOf.fields,yxt];exact h2) (by
   have:=ho.2;cases he:fs.toList with
   |nil=>rw[he] at this;cases this
   |cons f r=>rw[he] at this;exact this) hd w cx.toArray cy.toArray (by simpa using hx) (by simpa using hy)
  exact⟨r,hr,by simpa using hq⟩
def q57{t:Ty}{id:TypeId}(ht:TyOf P t id)(ho:eqOkB P t id=true)(hd:t.dep≤10000)(hf:t.flatB=true){x y:t.den}{cx cy:List Value}(hx:Rep M t x cx)(hy:Rep M t y cy)(w:World) :
  ∃ r:Bool,(Op.equal id (t.wrap cx) (t.wrap cy)).run P w=.ok r w∧(r=true↔x=y):=by
 obtain⟨r,hr,hq⟩:=(z2g t).1 id 10000 ht ho hd w cx cy (hx.fl hf) (hy.fl hf);exact⟨r,hr,hq.trans (hx.inj hf hy)⟩
def CkA(P:Program)(em:Bool)(t:Ty):Prop:=∀ (id:TypeId) (d:Nat),TyOf P t id→eqOkB P t id=true→t.dep≤d→∀ (w:World) (cx:List Value),Fl t cx→(Instr.checkKey em d id (t.wrap cx)).run P w=.ok () w
def ckFields(em:Bool)(d:Nat)(xs:Array Value):List Field→Sem Unit
 |[]=>pure ()
 |f::r=>if f.name ≠ "_" then do Instr.checkKey em d f.type (← part f.type xs f.offset);ckFields em d xs r else ckFields em d xs r
def CkF(P:Program)(em:Bool)(t:Ty):Prop:=∀ (fs:List Field) (off d:Nat),TyOf.fields P t fs off→eqOkB.eqOkF P t fs=true→t.dep≤d+1→∀ (w:World) (xs:Array Value),Fl t (xs.toList.drop off)→(ckFields em d xs fs).run P w=.ok () w
def z57(em:Bool):∀ t:Ty,CkA P em t∧CkF P em t
 |.int k=>by
  refine⟨fun id d ht _ hd w cx hx=>?_,fun fs off d h=>?_⟩
  ·obtain⟨d,rfl⟩:∃ d',d=d'+1:=⟨d-1,by simp[Ty.dep] at hd;omega⟩;obtain⟨n,rfl⟩:=hx;have hu:P.underlying id=some (.int k):=ht.under;simp[Instr.checkKey,run_underlying hu,q9y]
  ·cases fs<;>simp[TyOf.fields] at h
 |.bool=>by
  refine⟨fun id d ht _ hd w cx hx=>?_,fun fs off d h=>?_⟩
  ·obtain⟨d,rfl⟩:∃ d',d=d'+1:=⟨d-1,by simp[Ty.dep] at hd;omega⟩;obtain⟨n,rfl⟩:=hx;have hu:P.underlying id=some .bool:=ht.under;simp[Instr.checkKey,run_underlying hu,q71]
  ·cases fs<;>simp[TyOf.fields] at h
 |.slice e=>⟨fun _ _ _ _ _ _ _ hx=>hx.elim,fun fs off d h=>by cases fs<;>simp[TyOf.fields] at h⟩
 |.ptr e=>⟨fun _ _ _ _ _ _ _ hx=>hx.elim,fun fs off d h=>by cases fs<;>simp[TyOf.fields] at h⟩
 |.nil=>by
  refine⟨fun _ _ ht=>ht.elim,fun fs off d h _ _ w xs hx=>?_⟩;cases fs with
  |nil=>simp[ckFields]
  |cons f r=>simp[TyOf.fields] at h
 |.arr n e=>by
  refine⟨fun id d ht ho hd w cx hx=>?_,fun fs off d h=>by cases fs<;>simp[TyOf.fields] at h⟩;obtain⟨d,rfl⟩:∃ d',d=d'+1:=⟨d-1,by simp[Ty.dep] at hd;omega⟩;obtain⟨eid,h1,h2⟩:=ht;simp only[eqOkB,h1.under,yyc,bne_iff_ne] at ho;obtain⟨hs,ho⟩:=ho;obtain⟨i,hi⟩:=info_of_underlying (h2.info.choose_spec.1.under);have hce:=q2w h2;have hb:∀ i,i<n→i*e.size+e.size≤n*e.size:=fun i hi=>by rw[← Nat.succ_mul];exact yy1 _ hi
  rw[show(Ty.arr n e).wrap cx=.agg cx.toArray from rfl,Instr.checkKey];simp only[yye,run_underlying h1.under,yyb];simp only[Std.Legacy.Range.forIn_eq_forIn_range',Std.Legacy.Range.size,Nat.sub_zero,Nat.add_one_sub_one,Nat.div_one];have each:∀ j∈List.range' 0 n,j<n:=fun j hj=>by simpa using hj
  generalize List.range' 0 n=is at each;induction is with
  |nil=>simp
  |cons j is ih=>have hj:=each j (by simp);have p1:=q1e h2 (cs:=cx.toArray) (off:=j*e.size) (by omega) (by simpa[hx.1] using hb j hj) w;have p2:=(z57 em e).1 eid d h2 ho (by simp[Ty.dep] at hd;omega) w _ (by simpa using hx.2 j hj);simp only[List.forIn_cons,yye,run_sizeOf w hi,hce,yyb,p1,p2,yyf];exact ih fun y hy=>each y (by simp[hy])
 |.cons a b=>by
  have hF:CkF P em (.cons a b):=by
   intro fs off d h ho hd w xs hx;cases fs with
   |nil=>simp[TyOf.fields] at h
   |cons f r=>
    simp only[TyOf.fields] at h;simp only[eqOkB.eqOkF,yyc,bne_iff_ne] at ho;obtain⟨h0,h1,h2,h3⟩:=h;simp only[Fl] at hx;obtain⟨c1,c2,ex,x1,x2⟩:=hx;have tx:(xs.toList.drop off).take a.size=c1:=by rw[ex,← x1.length,List.take_left]
    have dx:xs.toList.drop (off+a.size)=c2:=by rw[← List.drop_drop,ex,← x1.length,List.drop_left]
    have lx:off+a.size≤xs.size:=by have:=congrArg List.length ex;simp[x1.length] at this;omega
    simp only[Ty.dep] at hd;have q1:=(z57 em a).1 f.type d h1 ho.1.2 (by omega) w c1 x1;have q2:=(z57 em b).2 r (off+a.size) d h3 ho.2 (by omega) w xs (by rw[dx];exact x2);have px:=q1e h1 (cs:=xs) (off:=off) (by omega) lx w;rw[tx] at px;simp only[ckFields,ho.1.1,h0,ne_eq,not_false_eq_true,if_true,yye,px,q1,yyb];exact q2
  refine⟨fun id d ht ho hd w cx hx=>?_,hF⟩;obtain⟨d,rfl⟩:∃ d',d=d'+1:=⟨d-1,by simp[Ty.dep] at hd;omega⟩;obtain⟨fs,h1,h2⟩:=ht;simp only[eqOkB,h1.under,yyc,yyv] at ho;have hr:=hF fs.toList 0 d (by
   cases hfs:fs.toList with
   |nil=>rw[hfs] at h2;exact h2.elim
   |cons f r=>rw[hfs] at h2;simp only[TyOf.fields,yxt];exact h2) (by
   have:=ho.2;cases hfs:fs.toList with
   |nil=>rw[hfs] at this;cases this
   |cons f r=>rw[hfs] at this;exact this) hd w cx.toArray (by simpa using hx)
  rw[show(Ty.cons a b).wrap cx=.agg cx.toArray from rfl,Instr.checkKey];simp only[yye,run_underlying h1.under,yyb];rw[← Array.forIn_toList];clear h2 ho;generalize fs.toList=L at hr;generalize Result.ok () w=R at hr;induction L generalizing w with
  |nil=>simpa[ckFields] using hr
  |cons f L ih=>
   simp only[List.forIn_cons,yye];by_cases hn:f.name = "_"
   ·simp only[ckFields,hn,ne_eq,not_true_eq_false,if_false] at hr;simp only[hn,ne_eq,not_true_eq_false,if_false,yyf,yyb];exact ih w hr
   ·simp only[ckFields,hn,ne_eq,not_false_eq_true,if_true,yye] at hr;simp only[hn,ne_eq,not_false_eq_true,if_true,yye];generalize (part f.type cx.toArray f.offset).run P w=r1 at hr;cases r1 with
    |ok a w1=>
     simp only[yyb] at hr ⊢;generalize (Instr.checkKey em d f.type a).run P w1=r2 at hr;cases r2 with
     |ok u w2=>simp only[yyb,yyf] at hr ⊢;simpa using ih w2 hr
     |halt x w2=>simpa[Result.andThen] using hr
    |halt x w1=>simpa[Result.andThen] using hr
variable {X:Ctx}{s:S}{ρ:Env}{a:Act}{w':World}{QA:Exit→S→Prop}{all l:List Oper}{o:Oper}
def Ty.dec:(t:Ty)→DecidableEq t.den
 |.int _=>inferInstanceAs (DecidableEq Int)
 |.bool=>inferInstanceAs (DecidableEq Bool)
 |.slice e=>letI:=e.dec;inferInstanceAs (DecidableEq (List e.den))
 |.ptr e=>letI:=e.dec;inferInstanceAs (DecidableEq (Option e.den))
 |.arr _ e=>letI:=e.dec;inferInstanceAs (DecidableEq (List e.den))
 |.nil=>inferInstanceAs (DecidableEq Unit)
 |.cons a b=>letI:=a.dec;letI:=b.dec;inferInstanceAs (DecidableEq (a.den×b.den))
def Ty.eqB(t:Ty)(x y:t.den):Bool:=@decide (x=y) (t.dec x y)
def y7{t:Ty}{x y:t.den}:t.eqB x y=true↔x=y:=by unfold Ty.eqB;exact @decide_eq_true_iff _ (t.dec x y)
abbrev Ent(kt vt:Ty):=kt.den×vt.den×Nat
def mIdx{kt vt:Ty}(es:List (Ent kt vt))(x:kt.den):Option Nat:=es.findIdx? fun e=>kt.eqB x e.1
structure KeyOK(P:Program)(t:Ty)(id:TypeId):Prop where
 ty:TyOf P t id
 ok:eqOkB P t id=true
 dep:t.dep≤10000
 flat:t.flatB=true
def q9p{kt vt:Ty}{kid:TypeId}(hk:KeyOK P kt kid){x:kt.den}{cx:List Value}(hx:Rep M kt x cx)(w:World) :
  ∀ (es:List (Ent kt vt)) (ms:List MapEntry) (i:Nat),MapRep M kt vt es ms →
  match mIdx es x with
  |none=>(Instr.findAsking kid (kt.wrap cx) ms i).run P w=.ok none w
  |some j=>∃ e,ms[j]?=some e∧(Instr.findAsking kid (kt.wrap cx) ms i).run P w=.ok (some (i+j,e.val)) w
 |[],[],i,_=>by simp[mIdx,Instr.findAsking]
 |e::es,m::ms,i,h=>by
  simp only[MapRep] at h;obtain⟨⟨⟨kc,ha,hd⟩,_,_⟩,h2⟩:=h;obtain⟨r,hr,hq⟩:=q57 hk.ty hk.ok hk.dep hk.flat hx ha w;have ih:=q9p hk hx w es ms (i+1) h2;simp only[mIdx,List.findIdx?_cons,Instr.findAsking,yye,hd,hr,yyb] at ih ⊢;cases r
  ·have he:kt.eqB x e.1=false:=by
    cases hb:kt.eqB x e.1
    ·rfl
    ·exact absurd (hq.2 (y7.1 hb)) (by simp)
   rw[he];simp only[yys,if_false];cases hf:es.findIdx? (fun e=>kt.eqB x e.1) with
   |none=>rw[hf] at ih;simpa using ih
   |some j=>rw[hf] at ih;obtain⟨e',h3,h4⟩:=ih;refine⟨e',by simpa using h3,?_⟩;rw[h4];simp only[Result.ok.injEq,yya,yyn,and_true];show i+1+j=i+(j+1);omega
  ·rw[y7.2 (hq.1 rfl)];exact⟨m,by simp,by simp⟩
 |[],_::_,_,h=>h.elim
 |_::_,[],_,h=>h.elim
def z9r{kt vt:Ty}{d:TypeDesc}(hd:(∃ k,kt=.int k∧d=.int k)∨(kt=.bool∧d=.bool)){x:kt.den}{cx:List Value}(hx:Rep M kt x cx) :
  ∀ (es:List (Ent kt vt)) (ms:List MapEntry) (i:Nat),MapRep M kt vt es ms →
  match mIdx es x with
  |none=>Instr.findNow d (kt.wrap cx) ms i=some none
  |some j=>∃ e,ms[j]?=some e∧Instr.findNow d (kt.wrap cx) ms i=some (some (i+j,e.val))
 |[],[],i,_=>by simp[mIdx,Instr.findNow]
 |e::es,m::ms,i,h=>by
  simp only[MapRep] at h;obtain⟨⟨⟨kc,ha,he⟩,_,_⟩,h2⟩:=h;have ih:=z9r hd hx es ms (i+1) h2;have hs:Instr.sameNow d (kt.wrap cx) m.key=some (kt.eqB x e.1):=by
   rw[he];rcases hd with⟨k,rfl,rfl⟩|⟨rfl,rfl⟩
   ·simp only[Rep] at hx ha;subst hx ha;simp only[q9y,Instr.sameNow,if_true,yya];rw[yxb,y7,beq_iff_eq]
   ·simp only[Rep] at hx ha;subst hx ha;simp only[q71,Instr.sameNow,yya];rw[yxb,y7,beq_iff_eq]
  simp only[mIdx,List.findIdx?_cons,Instr.findNow,hs] at ih ⊢;cases hb:kt.eqB x e.1
  ·simp only[yys,if_false];cases hf:es.findIdx? (fun e=>kt.eqB x e.1) with
   |none=>rw[hf] at ih;simpa using ih
   |some j=>rw[hf] at ih;obtain⟨e',h3,h4⟩:=ih;refine⟨e',by simpa using h3,?_⟩;rw[h4];simp only[yya,yyn,and_true];show i+1+j=i+(j+1);omega
  ·exact⟨m,by simp,by simp⟩
 |[],_::_,_,h=>h.elim
 |_::_,[],_,h=>h.elim
def now_agg{d:TypeDesc}{cs:Array Value}(hd:(∃ n e,d=.array n e)∨∃ fs,d=.struct fs):∀ (ms:List MapEntry) (i:Nat),Instr.findNow d (.agg cs) ms i=if ms=[] then some none else none
 |[],i=>by simp[Instr.findNow]
 |m::ms,i=>by rcases hd with⟨n,e,rfl⟩|⟨fs,rfl⟩<;>simp[Instr.findNow,Instr.sameNow]
def q7w{kt vt:Ty}{kid:TypeId}(hk:KeyOK P kt kid){x:kt.den}{cx:List Value}(hx:Rep M kt x cx)(w:World)(es:List (Ent kt vt))(ms:List MapEntry)(h:MapRep M kt vt es ms) :
  match mIdx es x with
  |none=>(Instr.findKey kid (kt.wrap cx) ms).run P w=.ok none w
  |some j=>∃ e,ms[j]?=some e∧(Instr.findKey kid (kt.wrap cx) ms).run P w=.ok (some (j,e.val)) w:=by
 have ask:=q9p hk hx w es ms 0 h;have wide:∀ d,P.underlying kid=some d→((∃ n e,d=.array n e)∨∃ fs,d=.struct fs)→kt.wrap cx=.agg cx.toArray→_:=fun d hu hd hw=>by
  have hn:=now_agg (cs:=cx.toArray) hd ms 0;rw[← hw] at hn;show match mIdx es x with
   |none=>(Instr.findKey kid (kt.wrap cx) ms).run P w=.ok none w
   |some j=>∃ e,ms[j]?=some e∧(Instr.findKey kid (kt.wrap cx) ms).run P w=.ok (some (j,e.val)) w
  unfold Instr.findKey;simp only[yye,run_underlying hu,yyb,hn];by_cases hb:ms=[]
  ·subst hb;cases es with
   |nil=>simp[mIdx]
   |cons _ _=>exact h.elim
  ·simp only[hb,if_false];cases hf:mIdx es x with
   |none=>rw[hf] at ask;exact ask
   |some j=>rw[hf] at ask;simpa using ask
 obtain⟨ha,_,_,he⟩:=hk;have plain:∀ d,P.underlying kid=some d→((∃ k,kt=.int k∧d=.int k)∨(kt=.bool∧d=.bool))→match mIdx es x with
   |none=>(Instr.findKey kid (kt.wrap cx) ms).run P w=.ok none w
   |some j=>∃ e,ms[j]?=some e∧(Instr.findKey kid (kt.wrap cx) ms).run P w=.ok (some (j,e.val)) w:=fun d hu hd=>by
  have hn:=z9r hd hx es ms 0 h;unfold Instr.findKey;simp only[yye,run_underlying hu,yyb];cases hf:mIdx es x with
  |none=>rw[hf] at hn;simp only at hn;rw[hn];rfl
  |some j=>rw[hf] at hn;obtain⟨e,h3,h4⟩:=hn;refine⟨e,h3,?_⟩;rw[h4];simp
 cases kt with
 |int k=>exact plain _ ha.under (.inl ⟨k,rfl,rfl⟩)
 |bool=>exact plain _ ha.under (.inr ⟨rfl,rfl⟩)
 |arr n e=>obtain⟨eid,h1,_⟩:=ha;exact wide _ h1.under (.inl ⟨_,_,rfl⟩) rfl
 |cons a b=>obtain⟨fs,h1,_⟩:=ha;exact wide _ h1.under (.inr ⟨_,rfl⟩) rfl
 |nil=>exact ha.elim
 |slice e=>simp[Ty.flatB] at he
 |ptr e=>simp[Ty.flatB] at he
def q2e{kt:Ty}{kid:TypeId}(hk:KeyOK P kt kid){x:kt.den}{cx:List Value}(hx:Rep M kt x cx)(em:Bool)(w:World):(Instr.checkKey em 10000 kid (kt.wrap cx)).run P w=.ok () w:=(z57 em kt).1 kid 10000 hk.ty hk.ok hk.dep w cx (hx.fl hk.flat)
def Fl.bits:∀ {t:Ty} {cs:List Value},Fl t cs→∀ c∈cs,∀ n,Instr.sameBits n c c=true
 |.int _,_,h,c,hc,n=>by obtain⟨m,rfl⟩:=h;simp only[yyp] at hc;subst hc;cases n<;>simp[Instr.sameBits]
 |.bool,_,h,c,hc,n=>by obtain⟨m,rfl⟩:=h;simp only[yyp] at hc;subst hc;cases n<;>simp[Instr.sameBits]
 |.nil,_,h,c,hc,n=>by simp only[Fl] at h;subst h;cases hc
 |.cons a b,_,h,c,hc,n=>by
  simp only[Fl] at h;obtain⟨c1,c2,rfl,h1,h2⟩:=h;rcases yxd.1 hc with e|e
  ·exact h1.bits c e n
  ·exact h2.bits c e n
 |.arr k e,cs,h,c,hc,n=>by simp only[Fl] at h;have h2:=h.2;rw[← chunks_flatten e.size k cs h.1] at hc;obtain⟨l,hl,ha⟩:=List.mem_flatten.1 hc;obtain⟨i,hi,rfl⟩:=yy7.1 hl;exact(h2 i (yy3.1 hi)).bits c ha n
 |.slice _,_,h,_,_,_=>h.elim
 |.ptr _,_,h,_,_,_=>h.elim
def q68{n:Nat}{a:Array Value}(h:∀ c∈a.toList,Instr.sameBits n c c=true):Instr.sameBits (n+1) (.agg a) (.agg a)=true:=by
 simp only[Instr.sameBits,beq_self_eq_true,Bool.true_and,yyx];intro p hp;have:p.1=p.2∧p.1∈a.toList:=by
  generalize a.toList=L at hp;induction L with
  |nil=>simp at hp
  |cons x L ih=>
   simp only[List.zip_cons_cons,yyk] at hp;rcases hp with rfl|hp
   ·exact⟨rfl,by simp⟩
   ·exact⟨(ih hp).1,by simp[(ih hp).2]⟩
 obtain⟨x,y⟩:=p;simp only at this;obtain⟨rfl,hm⟩:=this;exact h x hm
def Fl.same{t:Ty}{cs:List Value}(h:Fl t cs)(hn:t≠.nil):Instr.sameBits 10000 (t.wrap cs) (t.wrap cs)=true:=by
 cases t with
 |int k=>obtain⟨m,rfl⟩:=h;simp[q9y,Instr.sameBits]
 |bool=>obtain⟨m,rfl⟩:=h;simp[q71,Instr.sameBits]
 |nil=>exact absurd rfl hn
 |slice _=>exact h.elim
 |ptr _=>exact h.elim
 |arr k e=>exact q68 (n:=9999) fun c hc=>h.bits c (by simpa using hc) _
 |cons a b=>exact q68 (n:=9999) fun c hc=>h.bits c (by simpa using hc) _
def KeyOK.stays{kt:Ty}{kid:TypeId}(hk:KeyOK P kt kid){x:kt.den}{cx cy:List Value}(hx:Rep M kt x cx)(hy:Rep M kt x cy)(w:World):(Instr.keyThatStays (kt.wrap cy) (kt.wrap cx)).run P w=.ok (kt.wrap cx) w:=by have e:cy=cx:=(hy.inj hk.flat hx).2 rfl;subst e;have hs:=(hx.fl hk.flat).same (by rintro rfl;exact hk.ty.elim);unfold Instr.keyThatStays;simp[hs]
def mGet{kt vt:Ty}(es:List (Ent kt vt))(x:kt.den)(d:vt.den):vt.den:=match mIdx es x with|none=>d|some j=>((es[j]?).map (·.2.1)).getD d
def mBorn{kt vt:Ty}(es:List (Ent kt vt))(clk:Nat)(x:kt.den):Nat:=match mIdx es x with|none=>clk|some j=>((es[j]?).map (·.2.2)).getD 0
def mPut{kt vt:Ty}(es:List (Ent kt vt))(clk:Nat)(x:kt.den)(v:vt.den):List (Ent kt vt):=match mIdx es x with|none=>es++[(x,v,clk)]|some j=>es.modify j fun e=>(e.1,v,e.2.2)
def mClk{kt vt:Ty}(es:List (Ent kt vt))(clk:Nat)(x:kt.den):Nat:=match mIdx es x with|none=>clk+1|some _=>clk
def MapRep.length{kt vt:Ty}:∀ {es:List (Ent kt vt)} {ms:List MapEntry},MapRep M kt vt es ms→ms.length=es.length
 |[],[],_=>rfl
 |_::_,_::_,h=>by simp only[MapRep] at h;simp[h.2.length]
 |[],_::_,h=>h.elim
 |_::_,[],h=>h.elim
def MapRep.get{kt vt:Ty}:∀ {es:List (Ent kt vt)} {ms:List MapEntry},MapRep M kt vt es ms→∀ {j:Nat} {m:MapEntry},ms[j]?=some m→∃ e,es[j]?=some e∧EntRep M kt vt e m
 |[],[],_,j,m,h=>by simp at h
 |e::es,m::ms,h,j,m',hj=>by
  simp only[MapRep] at h;cases j with
  |zero=>simp only[List.getElem?_cons_zero,yya] at hj;subst hj;exact⟨e,by simp,h.1⟩
  |succ j=>obtain⟨e',h1,h2⟩:=h.2.get (by simpa using hj);exact⟨e',by simpa using h1,h2⟩
 |[],_::_,h,_,_,_=>h.elim
 |_::_,[],h,_,_,_=>h.elim
def MapRep.snoc{kt vt:Ty}{x:Ent kt vt}{m:MapEntry}(hx:EntRep M kt vt x m):∀ {es:List (Ent kt vt)} {ms:List MapEntry},MapRep M kt vt es ms→MapRep M kt vt (es++[x]) (ms++[m])
 |[],[],_=>by simp only[List.nil_append,MapRep];exact⟨hx,trivial⟩
 |_::_,_::_,h=>by simp only[MapRep,List.cons_append] at h ⊢;exact⟨h.1,h.2.snoc hx⟩
 |[],_::_,h=>h.elim
 |_::_,[],h=>h.elim
def MapRep.mod{kt vt:Ty}{f:Ent kt vt→Ent kt vt}{g:MapEntry→MapEntry}:∀ {es:List (Ent kt vt)} {ms:List MapEntry} (j:Nat),MapRep M kt vt es ms→(∀ e m,es[j]?=some e→ms[j]?=some m→EntRep M kt vt e m→EntRep M kt vt (f e) (g m))→MapRep M kt vt (es.modify j f) (ms.modify j g)
 |[],[],j,_,_=>by simp[MapRep]
 |e::es,m::ms,0,h,hf=>by simp only[MapRep,List.modify_zero_cons] at h ⊢;exact⟨hf e m (by simp) (by simp) h.1,h.2⟩
 |e::es,m::ms,j+1,h,hf=>by simp only[MapRep,List.modify_succ_cons] at h ⊢;exact⟨h.1,h.2.mod j fun e' m' h1 h2=>hf e' m' (by simpa using h1) (by simpa using h2)⟩
 |[],_::_,_,h,_=>h.elim
 |_::_,[],_,h,_=>h.elim
def SAT.setMap(h:SAT X M ρ s w){n:Nat}{kt vt:Ty}{es es':List (Ent kt vt)}{clk clk':Nat}{ms':Array MapEntry}(hl:lk s.H n=some (.map kt vt es clk))(hm:MapRep M kt vt es' ms'.toList) :
  SAT X M ρ ⟨s.L,updH s.H n (.map kt vt es' clk'),s.nx⟩ (ChangeMaps.setBlock w (ρ.blk n) (.map ms' clk')):=by
 have ha:=(h.own _ _ hl).2.2;simp only[HO.ok] at ha;obtain⟨h1,ms,h2,h3⟩:=ha;have hb:=(yyi.1 h2).1;refine h.upd hl ⟨rfl,rfl,rfl,by simp[ChangeMaps.setBlock],fun k hk hd=>?_⟩ rfl trivial ?_
 ·have:ρ.blk n≠k:=fun e=>hd (by simp only[HO.at];rw[e]);simp only[ChangeMaps.setBlock,yxo];rw[if_neg this]
 ·simp only[HO.ok];exact⟨h1,ms',by simp only[ChangeMaps.setBlock,yxo];simp[hb],hm⟩
structure MapT(P:Program)(kt vt:Ty)(t kid vid:TypeId):Prop where
 under:P.underlying t=some (.map kid vid)
 key:KeyOK P kt kid
 val:TyOf P vt vid
def q91{vt:Ty}{vid:TypeId}(h:TyOf P vt vid)(w:World):(zeroValue vid).run P w=.ok (vt.wrap vt.zc) w:=by obtain⟨d,h1,_⟩:=h.info;exact h1.run_zero w
section
variable {kt vt:Ty}{t kid vid:TypeId}{es:List (Ent kt vt)}{ms:Array MapEntry}{clk b:Nat}{x:kt.den}{cx:List Value}
def z60(hT:MapT P kt vt t kid vid)(hb:w.heap[b]?=some (.map ms clk))(hm:MapRep M kt vt es ms.toList)(hx:Rep M kt x cx) :
  ∃ vc,Rep M vt (mGet es x vt.dflt) vc∧(Instr.lookup t (.map (some b)) (kt.wrap cx) false).run P w=.ok (vt.wrap vc) w:=by
 have hf:=q7w hT.key hx w es ms.toList hm;unfold Instr.lookup;simp only[yye,run_underlying hT.under,yyb,MapKept.run_getObj_map hb,yyf,q2e hT.key hx];unfold mGet;cases hi:mIdx es x with
 |none=>rw[hi] at hf;refine⟨vt.zc,w7 M vt,?_⟩;simp[hf,q91 hT.val]
 |some j=>rw[hi] at hf;obtain⟨e,h1,h2⟩:=hf;obtain⟨e',h3,⟨_,⟨vc,h4,h5⟩,_⟩⟩:=hm.get h1;refine⟨vc,by simp only[h3,yxn,Option.getD_some];exact h4,?_⟩;simp[h2,h5]
def z8r(hT:MapT P kt vt t kid vid)(hb:w.heap[b]?=some (.map ms clk))(hm:MapRep M kt vt es ms.toList)(hx:Rep M kt x cx){v:vt.den}{cv:List Value}(hv:Rep M vt v cv) :
  ∃ ms':Array MapEntry,MapRep M kt vt (mPut es clk x v) ms'.toList∧(Instr.mapUpdate t (.map (some b)) (kt.wrap cx) (vt.wrap cv)).run P w=.ok () (ChangeMaps.setBlock w b (.map ms' (mClk es clk x))):=by
 have hf:=q7w hT.key hx w es ms.toList hm;unfold Instr.mapUpdate;simp only[yye,run_underlying hT.under,yyb,MapKept.run_getObj_map hb,q2e hT.key hx];unfold mPut mClk;cases hi:mIdx es x with
 |none=>
  rw[hi] at hf;refine⟨ms.push {key:=kt.wrap cx,val:=vt.wrap cv,born:=clk},?_,?_⟩
  ·simp only[Array.toList_push];exact MapRep.snoc ⟨⟨cx,hx,rfl⟩,⟨cv,hv,rfl⟩,rfl⟩ hm
  ·simp only[hf,yyb,MapKept.run_setObj_map _ hb];rfl
 |some j=>
  rw[hi] at hf;obtain⟨e,h1,h2⟩:=hf;obtain⟨e',h3,⟨⟨kc,h4,h5⟩,h6,h7⟩⟩:=hm.get h1;have hd:e'.1=x:=by
   have:=List.findIdx?_eq_some_iff_getElem.1 hi;obtain⟨hj,hp,_⟩:=this;have h8:=y7.1 hp;rw[yyt hj] at h3;injection h3 with h3
   rw[← h3];exact h8.symm
  have ha:((ms[j]?).map (·.key)).getD (kt.wrap cx)=kt.wrap kc:=by rw[← yxw,h1];simp[h5]
  refine⟨ms.modify j fun e=>{e with key:=kt.wrap cx,val:=vt.wrap cv},?_,?_⟩
  ·rw[Array.toList_modify];refine hm.mod j fun e1 m1 g1 g2 g3=>⟨⟨cx,?_,rfl⟩,⟨cv,hv,rfl⟩,g3.2.2⟩;rw[h3] at g1;injection g1 with g1
   subst g1;rw[hd];exact hx
  ·simp only[h2,yyb,ha,yye,hT.key.stays hx (show Rep M kt x kc from hd▸h4),MapKept.run_setObj_map _ hb];rfl
end
variable {kt vt:Ty}{t kid vid:TypeId}{es:List (Ent kt vt)}{ms:Array MapEntry}{clk b n d nx:Nat}{x:kt.den}{cx:List Value}{L:List (Nat×AV)}{H:List (Nat×HO)}{ty:TypeId}{ps:String}{af:Array Edge}{c1 c2 c3:List Prop}{om ok ov:Operand}
variable{s':S}
def q08{v:AV}(hg:o.guard=none)(hn:notDef o.op=true)(hd:dstOk X.n o.dst)(h:∀ M ρ a w,SAT X M ρ s w→REG X M ρ s a→Did X M ρ s v s' ((execOp a.eval o).run X.P w))(k:JL X true all QA l (putS o.dst v s')):JL X true all QA (o::l) s:=by
 intro M ρ a w h1 h2;obtain⟨ρ',w',nxt,e1,e2,e3,e4,e5,e6,e7⟩:=h M ρ a w h1 h2;refine z9 (j6 hg) ?_;have ha:REG X M ρ' s' a:=by have:=h2.grow (H':=s'.H) (nx':=s'.nx) (Mem.le_refl M) e2 e3 (p5 M);rw[← e4] at this;exact⟨this.size,this.defers,this.reg⟩
 rcases e7 with⟨z,rfl,hz⟩|⟨rfl,rfl⟩
 ·exact w3 hn e1 (k M ρ' _ w' (z8 e5) (ha.putO hd.spec e6 hz))
 ·exact q3p hn e1 (k M ρ' _ w' (z8 e5) (ha.putO hd.spec e6 (by simp only[AV.rv])))
def q2t(hu:opd L om=some (c1,.lf (.mp n)))(hc:allP c1)(h2:REG X M ρ ⟨L,H,nx⟩ a):a.eval om=.map (some (ρ.blk n)):=by have:=(z5 (s:=⟨L,H,nx⟩) hu hc h2).2;rw[w9] at this;simp only[Leaf.at,yya] at this;exact this.1.symm
def o8{y:vt.den}(hu:opd L om=some (c1,.val vt y))(hc:allP c1)(h2:REG X M ρ ⟨L,H,nx⟩ a):∃ cs,Rep M vt y cs∧a.eval om=vt.wrap cs:=by have:=(z5 (s:=⟨L,H,nx⟩) hu hc h2).2;simpa only[AV.rv] using this
def q2s(h1:SAT X M ρ ⟨L,H,nx⟩ w)(hl:lk H n=some (.map kt vt es clk)):∃ ms,w.heap[ρ.blk n]?=some (.map ms clk)∧MapRep M kt vt es ms.toList:=by have:=x9 h1 hl;simp only[HO.ok] at this;exact this.2
def JL.mLook(hT:MapT X.P kt vt t kid vid)(hu:opd L om=some (c1,.lf (.mp n)))(hl:lk H n=some (.map kt vt es clk))(hv:opd L ok=some (c2,.val kt x))(hd:ltB d X.n=true)(hc:allP (c1++c2))
  (k:JL X true all QA l ⟨(d,.val vt (mGet es x vt.dflt))::L,H,nx⟩):JL X true all QA (⟨some d,.lookup t om ok false,ty,ps,af,none⟩::l) ⟨L,H,nx⟩:=by
 rw[z7] at hc;refine q08 rfl rfl (j9 hd) (v:=.val vt (mGet es x vt.dflt)) (s':=⟨L,H,nx⟩) (fun M ρ a w h1 h2=>?_) k;obtain⟨ms,hb,hm⟩:=q2s h1 hl;obtain⟨cx,hx,ha⟩:=o8 hv hc.2 h2;obtain⟨vc,r1,r2⟩:=z60 hT hb hm hx;refine⟨ρ,w,_,?_,Env.upTo.refl _ _,yyl _,rfl,h1,trivial,.inl ⟨_,rfl,by simp only[AV.rv];exact⟨vc,r1,rfl⟩⟩⟩;simp only[execOp,q2t hu hc.1 h2,ha,yye,r2,yyb,yyf]
def JL.mIns(hT:MapT X.P kt vt t kid vid)(hu:opd L om=some (c1,.lf (.mp n)))(hl:lk H n=some (.map kt vt es clk))(hv:opd L ok=some (c2,.val kt x)){y:vt.den}(hy:opd L ov=some (c3,.val vt y))(hc:allP (c1++(c2++c3)))
  (k:JL X true all QA l ⟨L,updH H n (.map kt vt (mPut es clk x y) (mClk es clk x)),nx⟩):JL X true all QA (⟨none,.insert t om ok ov,ty,ps,af,none⟩::l) ⟨L,H,nx⟩:=by
 rw[z7,z7] at hc;refine q08 rfl rfl trivial (v:=.undef) (s':=⟨L,updH H n (.map kt vt (mPut es clk x y) (mClk es clk x)),nx⟩) (fun M ρ a w h1 h2=>?_) k;obtain⟨ms,hb,hm⟩:=q2s h1 hl;obtain⟨cx,hx,ha⟩:=o8 hv hc.2.1 h2;obtain⟨cy,hd,he⟩:=o8 hy hc.2.2 h2;obtain⟨ms',r1,r2⟩:=z8r hT hb hm hx hd;refine⟨ρ,_,_,?_,Env.upTo.refl _ _,yyl _,rfl,h1.setMap hl r1,trivial,.inr ⟨rfl,rfl⟩⟩;simp only[execOp,q2t hu hc.1 h2,ha,he,yye,r2,yyb,yyf]
def SAT.newOb(h:SAT X M ρ s w){ob:Obj}{o:HO}(ha:∀ ρ':Env,o.at ρ' s.nx=some (ρ'.blk s.nx))(hd:o.bd (s.nx+1))(he:o.ok X M (ρ.with s.nx w.heap.size .nil Go.undef) s.nx (w.alloc ob)) :
  SAT X M (ρ.with s.nx w.heap.size .nil Go.undef) ⟨s.L,(s.nx,o)::s.H,s.nx+1⟩ (w.alloc ob):=by
 have hg:∀ b o,M b=some o→b<w.heap.size:=fun b o hb=>(yyi.1 (h.mem b o hb)).1;refine h.add (World.grownBy_alloc w _ none) (fun b hb=>by cases hb) (fun l o hl=>⟨hl,fun b _=>by simp⟩) (j8 _ _ _ _ _) hd he ?_;intro b hb;rw[ha] at hb;simp only[Env.with,if_true,yya] at hb;subst hb;refine⟨?_,fun l o1 hl hb=>?_⟩
 ·cases hM:M w.heap.size with
  |none=>rfl
  |some o=>exact absurd (hg _ _ hM) (Nat.lt_irrefl _)
 ·exact absurd (p4 (h.own l o1 hl).2.2 hb).2 (Nat.lt_irrefl _)
def z08(hT:MapT X.P kt vt t kid vid)(hd:ltB d X.n=true)
  (k:JL X true all QA l ⟨(d,.lf (.mp nx))::L,(nx,.map kt vt [] 0)::H,nx+1⟩):JL X true all QA (⟨some d,.makeMap t none,ty,ps,af,none⟩::l) ⟨L,H,nx⟩:=by
 refine q08 rfl rfl (j9 hd) (v:=.lf (.mp nx)) (s':=⟨L,(nx,.map kt vt [] 0)::H,nx+1⟩) (fun M ρ a w h1 h2=>?_) k;have hs:=h1.newOb (ob:=.map #[] 0) (o:=.map kt vt [] 0) (fun _=>rfl) trivial (by simp only[HO.ok,Env.with,if_true];exact⟨h1.below.size,#[],heap_alloc_new w _,trivial⟩)
 refine⟨_,_,_,?_,j8 _ _ w.heap.size .nil Go.undef,yy5 _,rfl,hs,yy2 _,.inl ⟨.map (some w.heap.size),rfl,?_⟩⟩
 ·simp only[execOp,Instr.makeMap,Option.map_none,yye,run_newObj_alloc,yyb,yyf]
 ·rw[w9];simp[Leaf.at,Env.with,Value.oneCell']
def j2t(hT:MapT X.P kt vt t kid vid)(hu:opd L om=some (c1,.lf (.mp n)))(hl:lk H n=some (.map kt vt es clk))(hd:ltB d X.n=true)(hc:allP c1)
  (k:JL X true all QA l ⟨(d,.lf (.itr nx))::L,(nx,.iter n clk [] clk)::H,nx+1⟩):JL X true all QA (⟨some d,.range t om,ty,ps,af,none⟩::l) ⟨L,H,nx⟩:=by
 refine q08 rfl rfl (j9 hd) (v:=.lf (.itr nx)) (s':=⟨L,(nx,.iter n clk [] clk)::H,nx+1⟩) (fun M ρ a w h1 h2=>?_) k;obtain⟨ms,hb,hm⟩:=q2s h1 hl;have hn:=(h1.own n _ hl).1;have hs:=h1.newOb (ob:=.mapIter (some (ρ.blk n)) clk #[] clk) (o:=.iter n clk [] clk) (fun _=>rfl) (Nat.lt_succ_of_lt hn) (by
  have ha:n≠nx:=by have:n<nx:=hn;omega
  simp only[HO.ok,Env.with,if_true,ha,if_false];exact⟨h1.below.size,heap_alloc_new w _⟩)
 refine⟨_,_,_,?_,j8 _ _ w.heap.size .nil Go.undef,yy5 _,rfl,hs,yy2 _,.inl ⟨.pointer (some ⟨w.heap.size,0,none⟩),rfl,?_⟩⟩
 ·simp only[execOp,Instr.range,q2t hu hc h2,yye,run_underlying hT.under,MapKept.run_getObj_map hb,run_newObj_alloc,yyb,yyf]
 ·rw[w9];simp[Leaf.at,Env.with,Value.oneCell']
variable {es:List (Ent kt vt)}{x:kt.den}
def mDel(es:List (Ent kt vt))(x:kt.den):List (Ent kt vt):=match mIdx es x with|none=>es|some j=>es.eraseIdx j
def MapRep.erase{kt vt:Ty}:∀ {es:List (Ent kt vt)} {ms:List MapEntry} (j:Nat),MapRep M kt vt es ms→MapRep M kt vt (es.eraseIdx j) (ms.eraseIdx j)
 |[],[],j,_=>by simp[MapRep]
 |e::es,m::ms,0,h=>by simp only[MapRep] at h;simpa using h.2
 |e::es,m::ms,j+1,h=>by simp only[MapRep,List.eraseIdx_cons_succ] at h ⊢;exact⟨h.1,h.2.erase j⟩
 |[],_::_,_,h=>h.elim
 |_::_,[],_,h=>h.elim
def run_del(hT:MapT P kt vt t kid vid)(hb:w.heap[b]?=some (.map ms clk))(hm:MapRep M kt vt es ms.toList)(hx:Rep M kt x cx){ta:TypeId} :
  ∃ ms':Array MapEntry,MapRep M kt vt (mDel es x) ms'.toList∧(Builtin.delete_ #[t,ta] tt #[.map (some b),kt.wrap cx]).run P w=.ok (.tuple #[]) (ChangeMaps.setBlock w b (.map ms' clk)):=by
 have hf:=q7w hT.key hx w es ms.toList hm;unfold Builtin.delete_;simp only[yxp,List.getElem?_cons_zero,yxi,yye,run_underlying hT.under,yyb,MapKept.run_getObj_map hb,q2e hT.key hx];unfold mDel;cases hi:mIdx es x with
 |none=>rw[hi] at hf;refine⟨ms,hm,?_⟩;simp only[hf,yyb,yye,MapKept.run_setObj_map _ hb,yyf];rfl
 |some j=>
  rw[hi] at hf;obtain⟨e,h1,h2⟩:=hf;refine⟨ms.eraseIdxIfInBounds j,?_,?_⟩
  ·rw[Array.toList_eraseIdxIfInBounds];exact hm.erase j
  ·simp only[h2,yyb,yye,MapKept.run_setObj_map _ hb,yyf];rfl
def z3s(hu:opd L om=some (c1,.lf (.itr n)))(hc:allP c1)(h2:REG X M ρ ⟨L,H,nx⟩ a):a.eval om=.pointer (some ⟨ρ.blk n,0,none⟩):=by have:=(z5 (s:=⟨L,H,nx⟩) hu hc h2).2;rw[w9] at this;simp only[Leaf.at,yya] at this;exact this.1.symm
def JL.mDel(hT:MapT X.P kt vt t kid vid){ta:TypeId}(hu:opd L om=some (c1,.lf (.mp n)))(hl:lk H n=some (.map kt vt es clk))(hv:opd L ok=some (c2,.val kt x))(hc:allP (c1++c2))
  (k:JL X true all QA l ⟨L,updH H n (.map kt vt (Ox.mDel es x) clk),nx⟩):JL X true all QA (⟨none,.call {callee:=.builtin .delete,args:=#[om,ok],argTypes:=#[t,ta]},ty,ps,af,none⟩::l) ⟨L,H,nx⟩:=by
 rw[z7] at hc;refine q08 rfl rfl trivial (v:=.tup .anil) (s':=⟨L,updH H n (.map kt vt (Ox.mDel es x) clk),nx⟩) (fun M ρ a w h1 h2=>?_) k;obtain⟨ms,hb,hm⟩:=q2s h1 hl;obtain⟨cx,hx,ha⟩:=o8 hv hc.2 h2;obtain⟨ms',r1,r2⟩:=run_del (tt:=ty) (ta:=ta) hT hb hm hx;refine⟨ρ,_,_,?_,Env.upTo.refl _ _,yyl _,rfl,h1.setMap hl r1,trivial,.inl ⟨.tuple #[],rfl,?_⟩⟩
 ·simp only[execOp,resolve,invoke,builtin,yye,yyf,yyb,List.map_toArray,yy0,List.map_nil,q2t hu hc.1 h2,ha,r2]
 ·simp only[AV.rv,AV.rvs];exact⟨[],rfl,rfl⟩
def j2u(hu:opd L om=some (c1,.lf (.itr n)))(hl:lk H n=some (.iter m since seen last))(hm:lk H m=some (.map kt vt es clk)){e:Ent kt vt}{seen':List Nat}(hs:seen=seen'++[e.2.2])(ha:last=clk)
  (he:e∈es) (hy:(es.map (·.2.2)).Nodup) (hd:ltB d X.n=true) (hc:allP c1)
  (k:JL X true all QA l ⟨(d,.tup (.acons (.val kt e.1) (.acons (.val vt e.2.1) .anil)))::L,H,nx⟩):JL X true all QA (⟨some d,.entry om,ty,ps,af,none⟩::l) ⟨L,H,nx⟩:=by
 refine q08 rfl rfl (j9 hd) (v:=.tup (.acons (.val kt e.1) (.acons (.val vt e.2.1) .anil))) (s':=⟨L,H,nx⟩) (fun M ρ a w h1 h2=>?_) k;obtain⟨ms,hb,hk⟩:=q2s h1 hm;have hh:=x9 h1 hl;simp only[HO.ok] at hh;obtain⟨_,hh⟩:=hh;obtain⟨j,hj,rfl⟩:=yxx.1 he;have hw:j<ms.toList.length:=by rw[hk.length];exact hj
 obtain⟨e',g1,⟨⟨kc,g2,g3⟩,⟨vc,g4,g5⟩,g6⟩⟩:=hk.get (yyt hw);rw[yyt hj] at g1;injection g1 with g1
 subst g1;have hg:∀ {es:List (Ent kt vt)} {ms:List MapEntry},MapRep M kt vt es ms→ms.map (·.born)=es.map (·.2.2):=by
  intro es;induction es with
  |nil=>intro ms h;cases ms with
   |nil=>rfl
   |cons _ _=>exact h.elim
  |cons e es ih=>intro ms h;cases ms with
   |nil=>exact h.elim
   |cons m ms=>simp only[MapRep] at h;simp only[yy0,h.1.2.2,ih h.2]
 have hv:=run_entry_at (P:=X.P) w (ρ.blk n) (ρ.blk m) since seen'.toArray ms clk (ms.toList[j]) (by rw[hh,hs,ha,g6];simp) hb (yy4 hw) (by rw[hg hk];exact hy);refine⟨ρ,w,_,?_,Env.upTo.refl _ _,yyl _,rfl,h1,⟨trivial,trivial,trivial⟩,.inl ⟨.tuple #[kt.wrap kc,vt.wrap vc],rfl,?_⟩⟩
 ·simp only[execOp,z3s hu hc h2,yye,hv,yyb,yyf,g3,g5]
 ·simp only[AV.rv,AV.rvs];exact⟨[kt.wrap kc,vt.wrap vc],⟨kt.wrap kc,[vt.wrap vc],⟨kc,g2,rfl⟩,⟨vt.wrap vc,[],⟨vc,g4,rfl⟩,rfl,rfl⟩,rfl⟩,rfl⟩
def JL.mNext(hu:opd L om=some (c1,.lf (.itr n)))(hl:lk H n=some (.iter m since seen last))(hm:lk H m=some (.map kt vt es clk))(hw:∀ e∈es,e.2.2<since)(hE:since≤last)(hd:ltB d X.n=true)(hc:allP c1)
  (k0:(∀ e∈es,e.2.2∈seen)→JL X true all QA l ⟨(d,.tup (.acons (.val .bool false) .anil))::L,H,nx⟩)
  (k1:∀ e∈es,e.2.2∉seen→JL X true all QA l ⟨(d,.tup (.acons (.val .bool true) (.acons (.val kt e.1) (.acons (.val vt e.2.1) .anil))))::L,updH H n (.iter m since (seen++[e.2.2]) clk),nx⟩) :
  JL X true all QA (⟨some d,.next om false,ty,ps,af,none⟩::l) ⟨L,H,nx⟩:=by
 intro M ρ a w h1 h2;obtain⟨ms,hb,hy⟩:=q2s h1 hm;have hg:=x9 h1 hl;simp only[HO.ok] at hg;obtain⟨hge,hg⟩:=hg;have hh:∀ x∈ms.toList,∃ e∈es,EntRep M kt vt e x:=by intro x hx;obtain⟨j,hj,rfl⟩:=yxx.1 hx;obtain⟨e,g1,g2⟩:=hy.get (yyt hj);exact⟨e,List.mem_of_getElem? g1,g2⟩
 have hv:∀ e∈es,∃ x∈ms.toList,x.born=e.2.2:=by
  intro e he;obtain⟨j,hj,rfl⟩:=yxx.1 he;have hB:j<ms.toList.length:=by rw[hy.length];exact hj
  obtain⟨e',g1,g2⟩:=hy.get (yyt hB);rw[yyt hj] at g1;injection g1 with g1
  exact⟨_,yy4 hB,by rw[g2.2.2,← g1]⟩
 refine z9 (j6 rfl) ?_;rcases run_next_at (P:=X.P) w ty (ρ.blk n) (ρ.blk m) since last seen.toArray ms clk hg hb (fun x hx=>by obtain⟨e,he,hr⟩:=hh x hx;rw[hr.2.2];exact hw e he) hE with⟨h0,ha⟩|⟨x,hx,w1,hC,ha⟩
 ·refine w3 rfl (v:=.tuple #[.bool false]) (by simp only[execOp,z3s hu hc h2,yye,ha,yyb,yyf];rfl) ?_;refine k0 (fun e he=>?_) M ρ _ w (z8 (d:=some d) (v:=.tup (.acons (.val .bool false) .anil)) h1) (h2.putO (d:=some d) (dstOk.spec (j9 hd)) ⟨trivial,trivial⟩ (by simp only[AV.rv,AV.rvs];exact⟨[.bool false],⟨.bool false,[],⟨[.bool false],by simp only[Rep],rfl⟩,rfl,rfl⟩,rfl⟩));obtain⟨x,hx,hF⟩:=hv e he;have:leftOf ms seen.toArray=#[]:=Array.eq_empty_of_size_eq_zero h0;simp only[leftOf,Array.filter_eq_empty_iff] at this;have:=this x (Array.mem_toList_iff.1 hx);rw[hF] at this;simpa using this
 ·have hD:x∈ms.toList∧x.born∉seen:=by simp only[leftOf,Array.toList_filter,yx0] at hx;exact⟨hx.1,by simpa using hx.2⟩
  obtain⟨e,he,⟨⟨kc,g2,g3⟩,⟨vc,g4,g5⟩,g6⟩⟩:=hh x hD.1;refine w3 rfl (v:=.tuple #[.bool true,x.key,x.val]) (by simp only[execOp,z3s hu hc h2,yye,ha,yyb,yyf];rfl) ?_;have hG:SAT X M ρ ⟨L,H,nx⟩ w1:=by
   rcases hC with rfl|rfl
   ·exact h1
   ·exact h1.drew
  have hA:w1.heap[ρ.blk n]?=some (.mapIter (some (ρ.blk m)) since seen.toArray last):=by rcases hC with rfl|rfl<;>exact hg
  have hH:=(yyi.1 hA).1;have hs:=hG.upd (o':=.iter m since (seen++[e.2.2]) clk) (w':=ChangeMaps.setBlock w1 (ρ.blk n) (.mapIter (some (ρ.blk m)) since (seen.toArray.push x.born) clk)) hl
   ⟨rfl,rfl,rfl,by simp[ChangeMaps.setBlock],fun k hk hJ=>by
    have:ρ.blk n≠k:=fun e=>hJ (by simp only[HO.at];rw[e]);simp only[ChangeMaps.setBlock,yxo];rw[if_neg this]⟩ rfl (h1.own n _ hl).2.1 (by
    simp only[HO.ok];exact⟨hge,by simp only[ChangeMaps.setBlock,yxo];simp[hH,g6]⟩)
  have hr:=h2.grow (H':=updH H n (.iter m since (seen++[e.2.2]) clk)) (nx':=nx) (Mem.le_refl M) (Env.upTo.refl ρ nx) (yyl _) (p5 M);exact k1 e he (by rw[← g6];exact hD.2) M ρ _ _ (z8 (d:=some d) (v:=.tup (.acons (.val .bool true) (.acons (.val kt e.1) (.acons (.val vt e.2.1) .anil)))) hs) (hr.putO (d:=some d) (dstOk.spec (j9 hd)) ⟨trivial,trivial,trivial,trivial⟩ (by simp only[AV.rv,AV.rvs];exact⟨[.bool true,x.key,x.val],⟨.bool true,[x.key,x.val],⟨[.bool true],by simp only[Rep],rfl⟩,⟨x.key,[x.val],⟨kc,g2,g3⟩,⟨x.val,[],⟨vc,g4,g5⟩,rfl,rfl⟩,rfl⟩,rfl⟩,rfl⟩))
variable {es:List (Ent kt vt)}{x y:kt.den}{v d:vt.den}{e:Ent kt vt}
def q04:mIdx es x=none↔∀ e∈es,e.1≠x:=by
 unfold mIdx;rw[List.findIdx?_eq_none_iff];refine⟨fun h e he hx=>?_,fun h e he=>?_⟩
 ·have:=h e he;rw[y7.2 hx.symm] at this;cases this
 ·cases hb:kt.eqB x e.1
  ·rfl
  ·exact absurd (y7.1 hb).symm (h e he)
def q2d(h:mIdx es x=some j):∃ hj:j<es.length,(es[j]).1=x:=by unfold mIdx at h;rw[List.findIdx?_eq_some_iff_getElem] at h;obtain⟨hj,h1,_⟩:=h;exact⟨hj,(y7.1 h1).symm⟩
structure MWF(es:List (Ent kt vt))(clk:Nat):Prop where
 lt:∀ e∈es,e.2.2<clk
 nb:(es.map (·.2.2)).Nodup
 nk:(es.map (·.1)).Nodup
def MWF.nil:MWF ([]:List (Ent kt vt)) clk:=⟨(fun _ h=>by cases h),yxv,yxv⟩
def z0h{α β:Type}{f:α→β}:∀ {l:List α},(l.map f).Nodup→∀ {a b:α},a∈l→b∈l→f a=f b→a=b
 |[],_,_,_,h,_,_=>by cases h
 |c::l,hn,a,b,ha,hb,e=>by
  rw[yy0,yx4] at hn;rcases yyk.1 ha with h1|h1
  ·rcases yyk.1 hb with h2|h2
   ·rw[h1,h2]
   ·exact absurd (yy7.2 ⟨b,h2,by rw[← e,h1]⟩) hn.1
  ·rcases yyk.1 hb with h2|h2
   ·exact absurd (yy7.2 ⟨a,h1,by rw[e,h2]⟩) hn.1
   ·exact z0h hn.2 h1 h2 e
def idx_at{α β:Type}{f:α→β}{l:List α}(hn:(l.map f).Nodup)(hi:i<l.length)(hj:j<l.length)(e:f l[i]=f l[j]):i=j:=by
 have:=List.pairwise_iff_getElem.1 hn;rcases Nat.lt_trichotomy i j with ha|h|ha
 ·exact absurd (by rw[List.getElem_map,List.getElem_map];exact e) (this i j (by simpa using hi) (by simpa using hj) ha)
 ·exact h
 ·exact absurd (by rw[List.getElem_map,List.getElem_map];exact e.symm) (this j i (by simpa using hj) (by simpa using hi) ha)
def MWF.eq(h:MWF es clk){e e':Ent kt vt}(h1:e∈es)(h2:e'∈es)(hk:e.1=e'.1):e=e':=z0h h.nk h1 h2 hk
def MWF.eqb(h:MWF es clk){e e':Ent kt vt}(h1:e∈es)(h2:e'∈es)(hk:e.2.2=e'.2.2):e=e':=z0h h.nb h1 h2 hk
def q3u(h:MWF es clk)(he:e∈es):mGet es e.1 d=e.2.1:=by
 unfold mGet;split
 ·rename_i hn;exact absurd rfl (q04.1 hn e he)
 ·rename_i j hj;obtain⟨hl,hk⟩:=q2d hj;rw[yyt hl];have:=h.eq (yy4 hl) he hk;rw[this];rfl
def q3t(h:∀ e∈es,e.1≠x):mGet es x d=d:=by unfold mGet;rw[q04.2 h]
def z3w{α β:Type}{f:α→α}{g:α→β}(hg:∀ a,g (f a)=g a):∀ (l:List α) (j:Nat),(l.modify j f).map g=l.map g
 |[],j=>by simp
 |a::l,0=>by simp[hg]
 |a::l,j+1=>by simp[z3w hg l j]
def mem_mod{f:α→α}{b:α}:∀ {l:List α} {j:Nat},b∈l.modify j f↔(∃ i,∃ h:i<l.length,i≠j∧l[i]=b)∨(∃ h:j<l.length,f l[j]=b):=by
 intro l j;rw[yxx];constructor
 ·rintro⟨i,hi,rfl⟩;have ha:i<l.length:=by simpa using hi
  by_cases h:i=j
  ·subst h;right;exact⟨ha,by simp⟩
  ·left;exact⟨i,ha,h,by rw[List.getElem_modify,if_neg (fun e=>h e.symm)]⟩
 ·rintro(⟨i,hi,hb,rfl⟩|⟨hj,rfl⟩)
  ·exact⟨i,by simpa using hi,by rw[List.getElem_modify,if_neg (fun e=>hb e.symm)]⟩
  ·exact⟨j,by simpa using hj,by simp⟩
def q1f(h:MWF es clk):e∈mPut es clk x v↔(e∈es∧e.1≠x)∨(e.1=x∧e.2.1=v∧e.2.2=mBorn es clk x):=by
 unfold mPut mBorn;split
 ·rename_i hn;rw[q04] at hn;rw[yxd,yyp];refine or_congr ⟨fun he=>⟨he,hn e he⟩,fun he=>he.1⟩ ?_;obtain⟨a,b,c⟩:=e;simp
 ·rename_i j hj;obtain⟨hl,hk⟩:=q2d hj;rw[mem_mod,yyt hl];constructor
  ·rintro(⟨i,hi,ha,rfl⟩|⟨_,rfl⟩)
   ·refine .inl ⟨yy4 hi,fun hx=>ha (idx_at h.nk hi hl (hx.trans hk.symm))⟩
   ·exact .inr ⟨hk,rfl,rfl⟩
  ·rintro(⟨he,ha⟩|⟨h1,h2,h3⟩)
   ·obtain⟨i,hi,rfl⟩:=yxx.1 he;exact .inl ⟨i,hi,fun hb=>ha (by subst hb;exact hk),rfl⟩
   ·refine .inr ⟨hl,?_⟩;obtain⟨a,b,c⟩:=e;simp only[yxn,Option.getD_some] at h1 h2 h3;rw[hk,h1,h2,h3]
def MWF.put(h:MWF es clk):MWF (mPut es clk x v) (mClk es clk x):=by
 unfold mPut mClk;split
 ·rename_i hn;rw[q04] at hn;refine⟨fun e he=>?_,?_,?_⟩
  ·rcases yxd.1 he with he|he
   ·have:=h.lt e he;omega
   ·rw[yyp.1 he];exact yy2 _
  ·rw[yxz,List.nodup_append];refine⟨h.nb,by simp,fun a ha b hb=>?_⟩;obtain⟨e,he,rfl⟩:=yy7.1 ha;simp only[yy0,List.map_nil,yyp] at hb;have:=h.lt e he;omega
  ·rw[yxz,List.nodup_append];refine⟨h.nk,by simp,fun a ha b hb=>?_⟩;obtain⟨e,he,rfl⟩:=yy7.1 ha;simp only[yy0,List.map_nil,yyp] at hb;subst hb;exact hn e he
 ·refine⟨fun e he=>?_,?_,?_⟩
  ·obtain⟨i,hi,rfl⟩:=yxx.1 he;have:=h.lt (es[i]'(by simpa using hi)) (yy4 _);rw[List.getElem_modify];split
   ·exact this
   ·exact this
  ·rw[z3w (f:=fun e:Ent kt vt=>(e.1,v,e.2.2)) (g:=fun e=>e.2.2) fun _=>rfl];exact h.nb
  ·rw[z3w (f:=fun e:Ent kt vt=>(e.1,v,e.2.2)) (g:=fun e=>e.1) fun _=>rfl];exact h.nk
def mGet_put(h:MWF es clk)(hc:Decidable (y=x)):mGet (mPut es clk x v) y d=if y=x then v else mGet es y d:=by
 split
 ·rename_i e;subst e;exact q3u (h.put) (e:=(y,v,mBorn es clk y)) ((q1f h).2 (.inr ⟨rfl,rfl,rfl⟩))
 ·rename_i ha;cases hi:mIdx es y with
  |none=>
   rw[q04] at hi;rw[q3t hi,q3t];intro e he hk;rcases(q1f h).1 he with⟨h1,_⟩|⟨h1,_⟩
   ·exact hi e h1 hk
   ·exact ha (hk.symm.trans h1)
  |some j=>obtain⟨hl,hk⟩:=q2d hi;rw[← hk] at ha ⊢;rw[q3u h (yy4 hl),q3u h.put ((q1f h).2 (.inl ⟨yy4 hl,ha⟩))]
def z5h:(mDel es x).Sublist es:=by
 unfold mDel;split
 ·exact List.Sublist.refl _
 ·exact List.eraseIdx_sublist _ _
def q7r(h:MWF es clk):e∈mDel es x↔e∈es∧e.1≠x:=by
 unfold mDel;split
 ·rename_i hn;rw[q04] at hn;exact⟨fun he=>⟨he,hn e he⟩,fun he=>he.1⟩
 ·rename_i j hj;obtain⟨hl,hk⟩:=q2d hj;rw[List.mem_eraseIdx_iff_getElem];constructor
  ·rintro⟨i,hi,ha,rfl⟩;refine⟨yy4 hi,fun hx=>ha (idx_at h.nk hi hl (hx.trans hk.symm))⟩
  ·rintro⟨he,ha⟩;obtain⟨i,hi,rfl⟩:=yxx.1 he;exact⟨i,hi,fun hb=>ha (by subst hb;exact hk),rfl⟩
def MWF.sub{fs:List (Ent kt vt)}(h:MWF es clk)(hs:fs.Sublist es):MWF fs clk:=⟨fun e he=>h.lt e (hs.subset he),(hs.map _).nodup h.nb,(hs.map _).nodup h.nk⟩
def MWF.del(h:MWF es clk):MWF (mDel es x) clk:=h.sub z5h
section
variable {X:Ctx}{s:S}{M:Mem}{ρ:Env}{a:Act}{w w':World}{QA:Exit→S→Prop}{all l:List Oper}{o:Oper}{P:Program}{md:Bool}
variable {t kid vid:TypeId}{n dd nx:Nat}{L:List (Nat×AV)}{H:List (Nat×HO)}{ty:TypeId}{ps:String}{af:Array Edge}{c1 c2 c3:List Prop}{om ok ov:Operand}
def JL.vq{v:AV}(hg:o.guard=none)(hn:notDef o.op=true)(hd:dstOk X.n o.dst)(hb:v.bd s.nx)(h:∀ M ρ a w,SAT X M ρ s w→REG X M ρ s a→∃ z,v.rv M ρ z∧∀ w1,(execOp a.eval o).run X.P w1=.ok (.value z) w1)
  (k:JL X md all QA l (putS o.dst v s)):JL X md all QA (o::l) s:=by
 cases md
 ·intro M ρ a w0 h1 h2;obtain⟨z,hz,hr⟩:=h M ρ a w0 h1 h2;simp only[wpQuiet,Region.wanted,hg,if_true];refine⟨z,fun w hw=>?_,k M ρ _ w0 (z8 h1) (h2.putO hd.spec hb hz)⟩;unfold Oper.quietAt;rw[hr w];exact⟨rfl,rfl⟩
 ·intro M ρ a w h1 h2;obtain⟨z,hz,hr⟩:=h M ρ a w h1 h2;exact z9 (j6 hg) (w3 hn (hr w) (k M ρ _ w (z8 h1) (h2.putO hd.spec hb hz)))
def JL.eqQ(hK:KeyOK X.P kt t)(ha:kt.agg=true)(hb:X.P.eqGuardType X.P.depth t=false)(hu:opd L om=some (c1,.val kt x))(hv:opd L ok=some (c2,.val kt y))(hd:ltB dd X.n=true)(hc:allP (c1++c2))
  (k:JL X md all QA l ⟨(dd,.val .bool (kt.eqB x y))::L,H,nx⟩):JL X md all QA (⟨some dd,.binOp .eql t om ok tt,ty,ps,af,none⟩::l) ⟨L,H,nx⟩:=by
 rw[z7] at hc;refine JL.vq rfl rfl (j9 hd) trivial (v:=.val .bool (kt.eqB x y)) (s:=⟨L,H,nx⟩) (fun M ρ a w h1 h2=>⟨.bool (kt.eqB x y),n5.2 rfl,fun w1=>?_⟩) k;obtain⟨cx,hx,he⟩:=o8 (vt:=kt) hu hc.1 h2;obtain⟨cy,hy,hg⟩:=o8 (vt:=kt) hv hc.2 h2;obtain⟨r,hr,hq⟩:=q57 hK.ty hK.ok hK.dep hK.flat hx hy w1;have hh:r=kt.eqB x y:=by rw[yxb,y7];exact hq
 rw[y4 ha,y4 ha] at hr;simp only[execOp,he,hg,y4 ha,yye,run_eqGuard_agg w1 _ _ _ _ _ _ hb,yyb,binOp,hr,yyf,hh]
def JL.neQ(hK:KeyOK X.P kt t)(ha:kt.agg=true)(hb:X.P.eqGuardType X.P.depth t=false)(hu:opd L om=some (c1,.val kt x))(hv:opd L ok=some (c2,.val kt y))(hd:ltB dd X.n=true)(hc:allP (c1++c2))
  (k:JL X md all QA l ⟨(dd,.val .bool (!kt.eqB x y))::L,H,nx⟩):JL X md all QA (⟨some dd,.binOp .neq t om ok tt,ty,ps,af,none⟩::l) ⟨L,H,nx⟩:=by
 rw[z7] at hc;refine JL.vq rfl rfl (j9 hd) trivial (v:=.val .bool (!kt.eqB x y)) (s:=⟨L,H,nx⟩) (fun M ρ a w h1 h2=>⟨.bool (!kt.eqB x y),n5.2 rfl,fun w1=>?_⟩) k;obtain⟨cx,hx,he⟩:=o8 (vt:=kt) hu hc.1 h2;obtain⟨cy,hy,hg⟩:=o8 (vt:=kt) hv hc.2 h2;obtain⟨r,hr,hq⟩:=q57 hK.ty hK.ok hK.dep hK.flat hx hy w1;have hh:r=kt.eqB x y:=by rw[yxb,y7];exact hq
 rw[y4 ha,y4 ha] at hr;simp only[execOp,he,hg,y4 ha,yye,run_eqGuard_agg w1 _ _ _ _ _ _ hb,yyb,binOp,hr,yyf,hh]
def JL.gF{gg:Nat×Bool}{g:Bool}{op:Op}(hg:gOf all L (some gg)=some g)(ha:g=false)(hd:ltB dd X.n=true)(k:JL X true all QA l ⟨(dd,.undef)::L,H,nx⟩) :
  JL X true all QA (⟨some dd,op,ty,ps,af,some gg⟩::l) ⟨L,H,nx⟩:=by
 subst ha;intro M ρ a w h1 h2;have hw:=u7 (s:=⟨L,H,nx⟩) (o:=⟨some dd,op,ty,ps,af,some gg⟩) hg h2;refine o7 hw ?_;exact k M ρ _ w (z8 (d:=some dd) (v:=.undef) h1) (h2.putO (d:=some dd) (dstOk.spec (j9 hd)) trivial (by simp only[AV.rv]))
end
variable {md:Bool}
variable {es:List (Ent kt vt)}{d:Nat}{x y:kt.den}
structure EqT(P:Program)(kt:Ty)(t:TypeId):Prop where
 key:KeyOK P kt t
 ag:kt.agg=true
 gt:P.eqGuardType P.depth t=false
def keyB(P:Program)(kt:Ty)(t:TypeId):Bool:=tyB P kt t&&(eqOkB P kt t&&(Nat.ble kt.dep 10000&&kt.flatB))
def KeyOK.of(h:keyB P kt t=true):KeyOK P kt t:=by simp only[keyB,yyc] at h;exact⟨q03 h.1,h.2.1,yyd h.2.2.1,h.2.2.2⟩
def eqtB(P:Program)(kt:Ty)(t:TypeId):Bool:=keyB P kt t&&(kt.agg&&!P.eqGuardType P.depth t)
def EqT.of{P:Program}{kt:Ty}{t:TypeId}(h:eqtB P kt t=true):EqT P kt t:=by simp only[eqtB,yyc,yyv] at h;exact⟨.of h.1,h.2.1,h.2.2⟩
def MapT.of{P:Program}{kt vt:Ty}{t kid vid:TypeId}(h:P.underlying t=some (.map kid vid))(hb:(keyB P kt kid&&tyB P vt vid)=true):MapT P kt vt t kid vid:=by simp only[yyc] at hb;exact⟨h,.of hb.1,q03 hb.2⟩
variable {op:Op}{v:AV}{cs:List Prop}{g:Bool}{gg:Nat×Bool}
mutual
def q2o{n:Nat}:∀ {a:AV},a.scal=true→a.bd n
 |.val ..,_=>trivial
 |.undef,_=>trivial
 |.tup a,h=>q9a (a:=a) (by simpa only[AV.scal] using h)
 |.mix ..,h=>by simp[AV.scal] at h
 |.lf ..,h=>by simp[AV.scal] at h
 |.fn ..,h=>by simp[AV.scal] at h
 |.anil,h=>by simp[AV.scal] at h
 |.acons ..,h=>by simp[AV.scal] at h
 |.gd ..,h=>by simp[AV.scal] at h
 |.full ..,h=>by simp[AV.scal] at h
def q9a{n:Nat}:∀ {a:AV},a.scalL=true→a.bd n
 |.anil,_=>trivial
 |.acons a b,h=>by simp only[AV.scalL,yyc] at h;exact⟨q2o h.1,q9a h.2⟩
 |.val ..,h=>by simp[AV.scalL] at h
 |.undef,h=>by simp[AV.scalL] at h
 |.tup ..,h=>by simp[AV.scalL] at h
 |.mix ..,h=>by simp[AV.scalL] at h
 |.lf ..,h=>by simp[AV.scalL] at h
 |.fn ..,h=>by simp[AV.scalL] at h
 |.gd ..,h=>by simp[AV.scalL] at h
 |.full ..,h=>by simp[AV.scalL] at h
end
inductive Fr
 |code (c:Code)
 |blk (id:Nat)
 |ops (md:Bool) (all l:List Oper)
 |fin (P:S→Prop)
 |scp
def qq(X:Ctx):List Fr→(Exit→S→Prop)→Exit→S→Prop
 |[],QA=>QA
 |.code c::r,QA=>qThen (fun s=>JC X c (qq X r QA) s) (qq X r QA)
 |.blk id::r,QA=>qBlock id (qq X r QA)
 |.ops md all l::r,QA=>qThen (fun s=>JL X md all (qq X r QA) l s) (qq X r QA)
 |.fin P::r,QA=>qThen P (qq X r QA)
 |.scp::r,QA=>qScope (qq X r QA)
def JK(X:Ctx)(st:List Fr)(QA:Exit→S→Prop)(s:S):Prop:=qq X st QA .normal s
def popF:Nat→List Fr→Option (List Fr)
 |_,[]=>none
 |id,.blk j::r=>if j=id then some r else popF id r
 |id,_::r=>popF id r
def q2b{id:Nat}:∀ {r r':List Fr},popF id r=some r'→JK X r' QA s→qq X r QA (.exit id) s
 |[],_,h,_=>by simp[popF] at h
 |.blk j::r,r',h,k=>by
  simp only[popF] at h;simp only[qq,qBlock];by_cases e:j=id
  ·rw[if_pos e] at h;injection h with h;subst h;rw[if_pos e.symm];exact k
  ·rw[if_neg e] at h;rw[if_neg (fun h=>e h.symm)];exact q2b h k
 |.code _::r,_,h,k=>q2b (r:=r) h k
 |.ops ..::r,_,h,k=>q2b (r:=r) h k
 |.fin _::r,_,h,k=>q2b (r:=r) h k
 |.scp::r,_,h,k=>q2b (r:=r) h k
def q78:∀ {r:List Fr},QA .ret s→qq X r QA .ret s
 |[],h=>h
 |.blk _::r,h=>q78 (r:=r) h
 |.code _::r,h=>q78 (r:=r) h
 |.ops ..::r,h=>q78 (r:=r) h
 |.fin _::r,h=>q78 (r:=r) h
 |.scp::r,h=>q78 (r:=r) h
def stepO(T:List (Nat×Ty))(ET:List (Nat×Nat))(n:Nat)(md:Bool)(o:Oper)(s:S):Option (List Prop×S):=
 match o,s with
 |⟨some d,op,_,_,_,none⟩,⟨L,H,nx⟩=>match ltB d n with
  |true=>match evb T op ⟨L,H,nx⟩ with
   |some (cs,v)=>some (cs,⟨(d,v)::L,H,nx⟩)
   |none=>match md with
    |true=>match evm T ET op ⟨L,H,nx⟩ with
     |some (cs,v,⟨L',H',nx'⟩)=>some (cs,⟨(d,v)::L',H',nx'⟩)
     |none=>none
    |false=>none
  |false=>none
 |⟨none,op,_,_,_,none⟩,⟨L,H,nx⟩=>match md with
  |true=>match evm T ET op ⟨L,H,nx⟩ with
   |some (cs,_,s')=>some (cs,s')
   |none=>match evb T op ⟨L,H,nx⟩ with
    |some (cs,_)=>some (cs,⟨L,H,nx⟩)
    |none=>none
  |false=>match evb T op ⟨L,H,nx⟩ with
   |some (cs,_)=>some (cs,⟨L,H,nx⟩)
   |none=>none
 |_,_=>none
def z3e(hX:XOK X)(h:stepO X.T X.ET X.n md o s=some (cs,s'))(hc:allP cs)(k:JL X md all QA l s'):JL X md all QA (o::l) s:=by
 obtain⟨d,op,ty,ps,af,g⟩:=o;obtain⟨L,H,nx⟩:=s;unfold stepO at h;split at h
 ·rename_i hb ha;injection hb with e1 e2 _ _ _ e3
  injection ha with e4 e5 e6
  subst e1;subst e2;subst e3;subst e4;subst e5;subst e6;split at h
  ·rename_i hd;split at h
   ·rename_i cs' v hv;simp only[yya,yyn] at h;obtain⟨rfl,rfl⟩:=h;exact JL.q hX rfl hv (j9 hd) hc k
   ·split at h
    ·split at h
     ·rename_i cs' v L' H' nx' hv;simp only[yya,yyn] at h;obtain⟨rfl,rfl⟩:=h;exact JL.m hX rfl hv (j9 hd) hc k
     ·cases h
    ·cases h
  ·cases h
 ·rename_i hb ha;injection hb with e1 e2 _ _ _ e3
  injection ha with e4 e5 e6
  subst e1;subst e2;subst e3;subst e4;subst e5;subst e6;split at h
  ·split at h
   ·rename_i cs' v s'' hv;simp only[yya,yyn] at h;obtain⟨rfl,rfl⟩:=h;exact JL.m hX rfl hv trivial hc k
   ·split at h
    ·rename_i cs' v hv;simp only[yya,yyn] at h;obtain⟨rfl,rfl⟩:=h;exact JL.q hX rfl hv trivial hc k
    ·cases h
  ·split at h
   ·rename_i cs' v hv;simp only[yya,yyn] at h;obtain⟨rfl,rfl⟩:=h;exact JL.q hX rfl hv trivial hc k
   ·cases h
 ·cases h
def stepC(T:List (Nat×Ty))(ET:List (Nat×Nat))(n:Nat)(u:Bool):List Fr→S→Option (List Prop×List Fr×S)
 |.ops md all (o::l)::r,s=>match stepO T ET n md o s with
  |some (cs,s')=>some (cs,.ops md all l::r,s')
  |none=>none
 |.ops _ _ []::r,s=>some ([],r,s)
 |.blk _::r,s=>some ([],r,s)
 |.scp::r,s=>some ([],r,s)
 |.code c::r,s=>match c with
  |.skip=>some ([],r,s)
  |.label _=>some ([],r,s)
  |.seq (.region id ops d) (.cond x a b)=>match u with
   |true=>none
   |false=>some ([],.code (.region id ops d)::.code (.cond x a b)::r,s)
  |.seq a b=>some ([],.code a::.code b::r,s)
  |.block id c=>some ([],.code c::.blk id::r,s)
  |.scope c=>some ([],.code c::.scp::r,s)
  |.exit id=>match popF id r with
   |some r'=>some ([],r',s)
   |none=>none
  |.region _ ⟨ops⟩ false=>some ([],.ops true ops ops::r,s)
  |_=>none
 |_,_=>none
def j24{u:Bool}{st st':List Fr}(hX:XOK X)(h:stepC X.T X.ET X.n u st s=some (cs,st',s'))(k:JK X st' QA s')(hc:allP cs):JK X st QA s:=by
 unfold stepC at h;split at h
 ·split at h
  ·rename_i hv;simp only[yya,yyn] at h;obtain⟨rfl,rfl,rfl⟩:=h;exact z3e hX hv hc k
  ·cases h
 ·simp only[yya,yyn] at h;obtain⟨rfl,rfl,rfl⟩:=h;exact JL.nil k
 ·simp only[yya,yyn] at h;obtain⟨rfl,rfl,rfl⟩:=h;exact k
 ·simp only[yya,yyn] at h;obtain⟨rfl,rfl,rfl⟩:=h;exact k
 ·split at h
  ·simp only[yya,yyn] at h;obtain⟨rfl,rfl,rfl⟩:=h;exact JC.skip k
  ·simp only[yya,yyn] at h;obtain⟨rfl,rfl,rfl⟩:=h;exact z6u k
  ·split at h
   ·cases h
   ·simp only[yya,yyn] at h;obtain⟨rfl,rfl,rfl⟩:=h;exact z23 k
  ·simp only[yya,yyn] at h;obtain⟨rfl,rfl,rfl⟩:=h;exact z23 k
  ·simp only[yya,yyn] at h;obtain⟨rfl,rfl,rfl⟩:=h;exact JC.block k
  ·simp only[yya,yyn] at h;obtain⟨rfl,rfl,rfl⟩:=h;exact JC.scope k
  ·split at h
   ·rename_i hp;simp only[yya,yyn] at h;obtain⟨rfl,rfl,rfl⟩:=h;exact j3n (q2b hp k)
   ·cases h
  ·simp only[yya,yyn] at h;obtain⟨rfl,rfl,rfl⟩:=h;exact z24 k
  ·cases h
 ·cases h
def JK.gd{L:List (Nat×AV)}{H:List (Nat×HO)}{nx d:Nat}{gg:Nat×Bool}{op:Op}{ty:TypeId}{ps:String}{af:Array Edge}{r:List Fr}{g:Bool}{cs:List Prop}{v:AV}(hX:XOK X)(hg:gOf all L (some gg)=some g)(h:evb X.T op ⟨L,H,nx⟩=some (cs,v))(hd:ltB d X.n=true)
  (k:JK X (.ops md all l::r) QA ⟨(d,.gd g v)::L,H,nx⟩) (hc:g=true→allP cs):JK X (.ops md all (⟨some d,op,ty,ps,af,some gg⟩::l)::r) QA ⟨L,H,nx⟩:=JL.g (s:=⟨L,H,nx⟩) hX hg h (j9 hd) hc k
def q9{x:Operand}{c d:Code}{r:List Fr}{b:Bool}(hb:opB s.L x=some b)(ht:b=true→JK X (.code c::r) QA s)(hf:b=false→JK X (.code d::r) QA s):JK X (.code (.cond x c d)::r) QA s:=JC.cond hb ht hf
def JK.draw{id:Nat}{ops:List Oper}{r:List Fr}(hX:XOK X)(k:JK X (.ops false ops ops::r) QA s)(hB:(Region.lexB .any ops.toArray&&ndAll ops)=true:=by decide +kernel):JK X (.code (.region id ⟨ops⟩ true)::r) QA s:=JC.draw hX hB k
def n4{r:List Fr}(h:QA .ret s):JK X (.code .ret::r) QA s:=JC.ret (q78 h)
def k7(h:QA .normal s):JK X [] QA s:=h
def JK.fin{P:S→Prop}{r:List Fr}(h:P s):JK X (.fin P::r) QA s:=h
def JK.start(h:JK X [.code c] QA s):JC X c QA s:=h
def JK.toL{r:List Fr}(h:JK X (.ops md all l::r) QA s):JL X md all (qq X r QA) l s:=h
def JK.ofC{r:List Fr}(h:JC X c (qq X r QA) s):JK X (.code c::r) QA s:=h
def JK.ofL{r:List Fr}(h:JL X md all (qq X r QA) l s):JK X (.ops md all l::r) QA s:=h
def JK.loop{c:Code}{r:List Fr}{σ:Type}(st:σ→S)(I:σ→Prop)(μ:σ→Nat)(i0:σ)(h0:I i0)(hs:JW X (st i0) s)
  (round:∀ i,I i→JK X (.code c::.fin (fun s'=>∃ i',JW X (st i') s'∧I i'∧μ i'<μ i)::r) QA (st i)):JK X (.code (.loop c)::r) QA s:=JC.loop st I μ i0 h0 hs round
def qq_fin{P:S→Prop}{r:List Fr}(k:∀ s,P s→JK X r QA s):∀ e s,qq X (.fin P::r) QA e s→qq X r QA e s:=by
 intro e s h;cases e with
 |normal=>exact k s h
 |_=>exact h
def JK.cutP{r:List Fr}(P:S→Prop)(h:JK X (.code c::.fin P::r) QA s)(k:∀ s,P s→JK X r QA s):JK X (.code c::r) QA s:=JC.mono h (qq_fin k)
def u9{r:List Fr}(h:JW X s' s)(k:JK X (.code c::r) QA s'):JK X (.code c::r) QA s:=q0g h k
def JK.cut{x y:Code}{r:List Fr}{σ:Type}(st:σ→S)(P:σ→Prop)(h:JK X (.code x::.fin (fun s=>∃ q,JW X (st q) s∧P q)::.code y::r) QA s)(k:∀ q,P q→JK X (.code y::r) QA (st q)):JK X (.code x::.code y::r) QA s:=JK.cutP _ h fun _ ⟨q,hw,hp⟩=>u9 hw (k q hp)
def g9{id:Nat}{y:Code}{r:List Fr}(hX:XOK X)(c:Code)(st:S)(ho:rgn id c=ops)(n:Nat)(hn:(rgn id c).length=n)
  (h:JF X (rgn id c) (fun s'=>JW X st s') [] n [] s) (k:JK X (.code y::r) QA st):JK X (.code (.region id ⟨ops⟩ true)::.code y::r) QA s:=by
 subst ho;subst hn;exact q31 hX _ h.any fun s' hs=>u9 hs k
def z1b{id j:Nat}{y:Code}{r:List Fr}(hX:XOK X)(c:Code)(st:S)(ho:rgn id c=ops)(n:Nat)(hn:(rgn id c).length=n)
  (h:JF X (rgn id c) (fun s'=>JW X st s') [] n [] s) (k:JK X (.code y::r) QA st):JK X (.code (.region id ⟨ops⟩ true)::.blk j::.code y::r) QA s:=by
 subst ho;subst hn;exact q31 hX _ h.any fun s' hs=>u9 hs k
def q01{id:Nat}{r:List Fr}(hX:XOK X)(c:Code)(ho:rgn id c=ops)(n:Nat)(hn:(rgn id c).length=n)
  (h:JF X (rgn id c) (fun s'=>JK X r QA s') [] n [] s):JK X (.code (.region id ⟨ops⟩ true)::r) QA s:=by
 subst ho;subst hn;exact q31 hX _ h.any fun _ h=>h
def JK.lenOf{c:Code}{r:List Fr}(d:Nat){t:Ty}{x:t.den}(h:lk s.L d=some (.val t x))(k:t.lens x→JK X (.code c::r) QA s):JK X (.code c::r) QA s:=JC.lenOf d h k
def JK.ghost{c:Code}{r:List Fr}(d:Nat)(eid:TypeId)(e:Ty)(hd:lk s.L d=some (.lf .nils))(k:JK X (.code c::r) QA ⟨(d,.lf (.osl s.nx))::s.L,(s.nx,.sl eid e [])::s.H,s.nx+1⟩):JK X (.code c::r) QA s:=JC.ghost d eid e hd k
def JK.frz{c:Code}{r:List Fr}{cs:List Prop}{s':S}(F K:List Nat)(h:Ox.frz F K s=some (cs,s'))(hc:allP cs)(k:JK X (.code c::r) QA s'):JK X (.code c::r) QA s:=JC.frz F K h hc k
def z20{r:List Fr}(F K:List Nat)(h:Ox.frz F K s=some (cs,s'))(k:JK X (.code c::r) QA s')(hc:allP cs:=by exact zD):JK X (.code c::r) QA s:=JC.frz F K h hc k
def j27{r:List Fr}(F K:List Nat)(h:Ox.frz F K s=some (cs,s'))(k:JK X (.ops md all l::r) QA s')(hc:allP cs:=by exact zD):JK X (.ops md all l::r) QA s:=JL.frz F K h hc k
section
variable {L:List (Nat×AV)}{H:List (Nat×HO)}{nx d n:Nat}{rr:List Fr}{om:Operand}{c1:List Prop}{kt vt:Ty}{es:List (Ent kt vt)}{clk m since last:Nat}{seen seen':List Nat}{ty:TypeId}{ps:String}{af:Array Edge}{e:Ent kt vt}
def z6s(hu:opd L om=some (c1,.lf (.itr n)))(hl:lk H n=some (.iter m since seen last))(hm:lk H m=some (.map kt vt es clk))(hs:seen=seen'++[e.2.2])(ha:last=clk)
  (he:e∈es) (hw:MWF es clk) (hd:ltB d X.n=true)
  (k:JK X (.ops true all l::rr) QA ⟨(d,.tup (.acons (.val kt e.1) (.acons (.val vt e.2.1) .anil)))::L,H,nx⟩) (hc:allP c1:=by exact zD):JK X (.ops true all (⟨some d,.entry om,ty,ps,af,none⟩::l)::rr) QA ⟨L,H,nx⟩:=j2u hu hl hm hs ha he hw.nb hd hc k
def q7j(hu:opd L om=some (c1,.lf (.itr n)))(hl:lk H n=some (.iter m since seen last))(hm:lk H m=some (.map kt vt es clk))(ha:∀ e∈es,e.2.2<since)(hb:since≤last)(hd:ltB d X.n=true)
  (k0:(∀ e∈es,e.2.2∈seen)→JK X (.ops true all l::rr) QA ⟨(d,.tup (.acons (.val .bool false) .anil))::L,H,nx⟩)
  (k1:∀ e∈es,e.2.2∉seen→JK X (.ops true all l::rr) QA ⟨(d,.tup (.acons (.val .bool true) (.acons (.val kt e.1) (.acons (.val vt e.2.1) .anil))))::L,updH H n (.iter m since (seen++[e.2.2]) clk),nx⟩) (hc:allP c1:=by exact zD) :
  JK X (.ops true all (⟨some d,.next om false,ty,ps,af,none⟩::l)::rr) QA ⟨L,H,nx⟩:=JL.mNext hu hl hm ha hb hd hc k0 k1
end
section
variable {op:Op}{L:List (Nat×AV)}{H:List (Nat×HO)}{nx d:Nat}{cs:List Prop}{ty:TypeId}{ps:String}{af:Array Edge}{g:Bool}{gg:Nat×Bool}{rr:List Fr}{f:FuncId}{args r:AV}
def JK.sc(h:callA X.T op ⟨L,H,nx⟩=some (cs,f,args))(hf:Fn X.P f args (·=r))(hr:r.scal=true)(hd:ltB d X.n=true)(k:JK X (.ops md all l::rr) QA ⟨(d,r)::L,H,nx⟩)(hc:allP cs) :
  JK X (.ops md all (⟨some d,op,ty,ps,af,none⟩::l)::rr) QA ⟨L,H,nx⟩:=JL.s1 (L:=L) (H:=H) (nx:=nx) h hf hr (q2o hr) hd hc k
def JK.scg(hg:gOf all L (some gg)=some g)(h:callA X.T op ⟨L,H,nx⟩=some (cs,f,args))(hf:g=true→Fn X.P f args (·=r))(hr:r.scal=true)(hd:ltB d X.n=true)(k:JK X (.ops md all l::rr) QA ⟨(d,.gd g r)::L,H,nx⟩)(hc:g=true→allP cs) :
  JK X (.ops md all (⟨some d,op,ty,ps,af,some gg⟩::l)::rr) QA ⟨L,H,nx⟩:=JL.s1g (L:=L) (H:=H) (nx:=nx) hg h hf hr (q2o hr) hd hc k
def JK.cl{R:AV→Prop}(h:callA X.T op ⟨L,[],nx⟩=some (cs,f,args))(hf:Fn X.P f args R)(hd:ltB d X.n=true)(k:∀ r,R r→JK X (.ops true all l::rr) QA ⟨(d,r)::L,H,nx⟩)(hc:allP cs) :
  JK X (.ops true all (⟨some d,op,ty,ps,af,none⟩::l)::rr) QA ⟨L,H,nx⟩:=JL.c1 (L:=L) (H:=H) (nx:=nx) h hf hd hc k
def JK.ce(h:callA X.T op ⟨L,[],nx⟩=some (cs,f,args))(hf:Fn X.P f args (·=r))(hd:ltB d X.n=true)(k:JK X (.ops true all l::rr) QA ⟨(d,r)::L,H,nx⟩)(hc:allP cs) :
  JK X (.ops true all (⟨some d,op,ty,ps,af,none⟩::l)::rr) QA ⟨L,H,nx⟩:=JK.cl h hf hd (fun _ e=>e▸k) hc
def JK.gT(hg:gOf all L (some gg)=some g)(ha:g=true){dd:Option Nat}(k:JK X (.ops true all (⟨dd,op,ty,ps,af,none⟩::l)::rr) QA ⟨L,H,nx⟩):JK X (.ops true all (⟨dd,op,ty,ps,af,some gg⟩::l)::rr) QA ⟨L,H,nx⟩:=JL.gT hg ha k
def JK.gF(hg:gOf all L (some gg)=some g)(ha:g=false)(hd:ltB d X.n=true)(k:JK X (.ops true all l::rr) QA ⟨(d,.undef)::L,H,nx⟩):JK X (.ops true all (⟨some d,op,ty,ps,af,some gg⟩::l)::rr) QA ⟨L,H,nx⟩:=JL.gF (L:=L) (H:=H) (nx:=nx) hg ha hd k
def z1a(k:JK X (.ops true all l::rr) QA ⟨del L d,H,nx⟩):JK X (.ops true all (⟨some d,.assign (.const .nilFunc),ty,ps,af,none⟩::l)::rr) QA ⟨L,H,nx⟩:=JL.nilF (L:=L) (H:=H) (nx:=nx) k
end
end Ox
