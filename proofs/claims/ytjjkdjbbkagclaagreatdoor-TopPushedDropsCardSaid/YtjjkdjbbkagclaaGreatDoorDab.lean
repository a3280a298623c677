/- Texts of the proof of the statement that the last text proves. -/
import Derived.Test.YtjjkdjbbkagclaaGreatDoorDaa
import Derived.RangeFuncNested
import Derived.DeepKeys3
import Derived.MapKept
import Derived.ChangeMaps4
import Derived.Maps.RangeRun
import Derived.Test.YtjjkdjbbkagclaaGreatDoorProg
import Init
set_option linter.all false
set_option maxHeartbeats 2000000
variable{fn:Go.Func}{bl i i0 j lab lab0 lb lf n0 nI nO:Nat}{as0 assign az bd bd0 body c:Go.Code}{p:Nat×Go.Oper}{st0:Go.LoopState}{ks vs:List Go.Value}{cs1 cs2:List Prop}{ops:List Go.Oper}{oi oj:Go.Oper}{pe pe0:Option Go.Code}{P:Go.Program}{u:Nat→Go.Value}{f:Go.FuncId}{a s:Int}{α:Type}{fo:Go.Operand}{w1:Go.World}{up:Nat→Nat→Go.Value}{tt:Go.TypeId}
namespace Ox
open Go Go.RowKit
variable {X:Ctx}{s:S}{M:Mem}{ρ:Env}{a:Act}{w w':World}{QA:Exit→S→Prop}{all l:List Oper}{md:Bool}{o:Oper}
variable{Mx:Mem}
def q2c(h1:SAT X M ρ s w)(hx:Seen ρ s M Mx w):∀ {v:AV} {R:Type} {k:List Prop→AV→Option R} {r:R},capK s.H v k=some r →
  ∃ cs y,k cs y=some r∧y.bd 0∧(allP cs→(∀ u,v.rv M ρ u→y.rv Mx ρ u)∧(∀ us,v.rvs M ρ us→y.rvs Mx ρ us)):=by
 intro v;induction v with
 |val t x=>intro R k r h;simp only[capK] at h;refine⟨_,_,h,trivial,fun _=>⟨fun u hu=>?_,fun us hu=>by simp only[AV.rvs] at hu⟩⟩;simp only[AV.rv] at hu ⊢;obtain⟨cs,k1,k2⟩:=hu;exact⟨cs,k1.mono hx.le,k2⟩
 |fn f x y ihx ihy=>intro R k r h;simp only[capK] at h;obtain⟨c1,x',h,b1,e1⟩:=ihx h;obtain⟨c2,y',h,b2,e2⟩:=ihy h;refine⟨_,_,h,⟨b1,b2⟩,fun hc=>?_⟩;rw[z6] at hc;refine⟨fun u hu=>?_,fun us hu=>by simp only[AV.rvs] at hu⟩;simp only[AV.rv] at hu ⊢;obtain⟨fs,ks,k1,k2,k3⟩:=hu;exact⟨fs,ks,(e1 hc.1).2 _ k1,(e2 hc.2).2 _ k2,k3⟩
 |anil=>intro R k r h;simp only[capK] at h;exact⟨_,_,h,trivial,fun _=>⟨fun u hu=>by simp only[AV.rv] at hu,fun us hu=>by simp only[AV.rvs] at hu ⊢;exact hu⟩⟩
 |acons x y ihx ihy=>intro R k r h;simp only[capK] at h;obtain⟨c1,x',h,b1,e1⟩:=ihx h;obtain⟨c2,y',h,b2,e2⟩:=ihy h;refine⟨_,_,h,⟨b1,b2⟩,fun hc=>?_⟩;rw[z6] at hc;refine⟨fun u hu=>by simp only[AV.rv] at hu,fun us hu=>?_⟩;simp only[AV.rvs] at hu ⊢;obtain⟨v,r',k1,k2,k3⟩:=hu;exact⟨v,r',(e1 hc.1).1 _ k1,(e2 hc.2).2 _ k2,k3⟩
 |raw g=>intro R k r h;simp[capK] at h
 |pfn g ih=>intro R k r h;simp only[capK] at h;obtain⟨c1,g',h,b1,e1⟩:=ih h;refine⟨_,_,h,b1,fun hc=>⟨fun u hu=>?_,fun us hu=>by simp only[AV.rvs] at hu⟩⟩;simp only[AV.rv] at hu ⊢;obtain⟨b,fv,ty,fz,k1,k2,k3⟩:=hu;exact⟨b,fv,ty,fz,k1,hx.le _ _ _ _ k2,(e1 hc).1 _ k3⟩
 |lf x=>
  intro R k r h;cases x with
  |optr l p=>
   simp only[capK] at h;split at h
   ·split at h
    ·rename_i t _;obtain⟨cs,y,hk,hy⟩:=q02 h1 hx 8 h;refine⟨_,_,hk,trivial,fun hc=>⟨fun u hu=>?_,fun us hu=>by simp only[AV.rvs] at hu⟩⟩;simp only[AV.rv];exact(hy hc).1 u hu
    ·cases h
   ·cases h
  |osl l=>
   simp only[capK] at h;split at h
   ·rename_i eid e xs hl;obtain⟨cs,y,hk,hy⟩:=q02 (R:=List Prop×List e.den) h1 hx 8 (t:=.slice e) (v:=.lf (.osl l)) (k:=fun cs xs=>some (cs,xs)) (r:=([],xs)) (by simp[toK,hl,castK]);simp only[yya,yyl] at hk;obtain⟨rfl,rfl⟩:=hk;refine⟨_,_,h,trivial,fun _=>⟨fun u hu=>?_,fun us hu=>by simp only[AV.rvs] at hu⟩⟩;simp only[AV.rv];exact(hy trivial).1 u hu
   ·cases h
  |_=>simp[capK] at h
 |_=>intro R k r h;simp[capK] at h
def z41(h1:SAT X M ρ s w)(hx:Seen ρ s M Mx w)(h2:REG X M ρ s a):∀ {os:List Operand} {ts:List TypeId} {R:Type} {k:List Prop→AV→Option R} {r:R},argK X.T s.H s.L os ts k=some r →
  ∃ cs y,k cs y=some r∧y.bd 0∧(allP cs→y.rvs Mx ρ (os.map a.eval)):=by
 intro os;induction os with
 |nil=>
  intro ts R k r h;cases ts with
  |nil=>simp only[argK] at h;exact⟨_,_,h,trivial,fun _=>by simp[AV.rvs]⟩
  |cons t ts=>simp[argK] at h
 |cons o os ih=>
  intro ts R k r h;cases ts with
  |nil=>simp[argK] at h
  |cons t ts=>
   simp only[argK,yym] at h;obtain⟨v,hv,h⟩:=h;split at h
   ·rename_i ty _;obtain⟨c,x,h,hx'⟩:=q02 h1 hx 8 h;obtain⟨cs,az,h,hb,has⟩:=ih h;refine⟨_,_,h,⟨trivial,hb⟩,fun hc=>?_⟩;simp only[z6] at hc;have ev:=z8 hv hc.1 h2;simp only[AV.rvs,yyz];exact⟨_,_,by simp only[AV.rv];exact(hx' hc.2.1).1 _ ev.2,has hc.2.2,rfl⟩
   ·obtain⟨c,x,h,hb1,hx'⟩:=q2c h1 hx h;obtain⟨cs,az,h,hb,has⟩:=ih h;refine⟨_,_,h,⟨hb1,hb⟩,fun hc=>?_⟩;simp only[z6] at hc;have ev:=z8 hv hc.1 h2;simp only[AV.rvs,yyz];exact⟨_,_,(hx' hc.2.1).1 _ ev.2,has hc.2.2,rfl⟩
def q9e{x y:AV}{us vs:List Value}(hx:x.rvs Mx ρ us)(hy:y.rvs Mx ρ vs):(apA x y).rvs Mx ρ (us++vs):=by
 induction x generalizing us with
 |acons p q _ ihq=>simp only[AV.rvs] at hx;obtain⟨v,r,k1,k2,rfl⟩:=hx;simp only[apA,AV.rvs,List.cons_append];exact⟨v,r++vs,k1,ihq k2,rfl⟩
 |anil=>simp only[AV.rvs] at hx;subst hx;simpa[apA] using hy
 |_=>simp only[AV.rvs] at hx
def z32{x y:AV}{n:Nat}(hx:x.bd n)(hy:y.bd n):(apA x y).bd n:=by
 induction x with
 |acons p q _ ihq=>exact⟨hx.1,ihq hx.2⟩
 |_=>exact hy
def o0(h1:SAT X M ρ s w)(hx:Seen ρ s M Mx w)(h2:REG X M ρ s a){cs:List Prop}{args:AV}(h:callA X.T o.op s=some (cs,f,args))(hc:allP cs) :
  args.bd 0∧∃ vs,args.rvs Mx ρ vs∧∀ w',(execOp a.eval o).run X.P w'=(callFunc f vs.toArray).run X.P w':=by
 obtain⟨dst,op,ty,pos,after,guard⟩:=o;simp only at h;unfold callA at h;split at h
 ·rename_i fo args' tys;simp only[yym] at h;obtain⟨u,hu,h⟩:=h;split at h
  ·rename_i f' fst cap hue;obtain⟨c1,fst',h,b1,e1⟩:=q2c h1 hx h;obtain⟨c2,az,h,b2,e2⟩:=z41 h1 hx h2 h;obtain⟨c3,cap',h,b3,e3⟩:=q2c h1 hx h;simp only[yya,yyl] at h;obtain⟨rfl,rfl,rfl⟩:=h;simp only[z6] at hc;have eu:=(z8 hu hc.1 h2).2;rw[hue] at eu;simp only[AV.rv] at eu;obtain⟨fs,ks,k1,k2,k3⟩:=eu;refine⟨z32 b1 (z32 b2 b3),_,q9e ((e1 hc.2.1).2 _ k1) (q9e (e2 hc.2.2.1) ((e3 hc.2.2.2).2 _ k2)),fun w'=>?_⟩;have hmap:Array.map a.eval args'=(List.map a.eval args'.toList).toArray:=by rw[← yy9]
   simp only[execOp,resolve,k3,Deferred.ofValue,yye,yyf,yyc,invoke,hmap];simp
  ·cases h
 ·cases h
variable{T:List (Nat×Ty)}
def q0x{o:Op}{r:List Prop×FuncId×AV}(h:callA T o s=some r):notDef o=true:=by cases o<;>first|rfl|(simp[callA] at h)
def q51(h1:SAT X M ρ s w):Seen ρ s M (fun b=>w.heap[b]?) w:=⟨fun b _ _ _ hb=>h1.mem b _ hb,fun _ _ _ _ _=>rfl⟩
def q8l(hw:Below w.heap.size w w1):MemIn (fun b=>w.heap[b]?) w1:=fun b o hb=>by rw[hw.block b (yyh.1 hb).1];exact hb
def q4j{cs:List Prop}{args r:AV}(h:callA X.T o.op s=some (cs,f,args))(hf:Fn X.P f args (·=r))(hr:r.scal=true)(hc:allP cs)(h1:SAT X M ρ s w)(h2:REG X M ρ s a)(hw:Below w.heap.size w w1) :
  ∃ az,(execOp a.eval o).run X.P w1=.ok (.enter f az) w1∧Calls X.P f az w1 (fun e w'=>e=.returned r.toV∧Below w.heap.size w w'):=by
 obtain⟨hb,vs,hvs,hrun⟩:=o0 h1 (q51 h1) h2 h hc;refine⟨vs.toArray,by rw[hrun,hf.call],(hf.run _ ρ w1 vs (q8l hw) hvs hb).mono ?_⟩;rintro e w' ⟨v,r',M',rfl,rfl,_,hv,hbl,_⟩;exact⟨by rw[(x5 hr).1 hv],hw.trans (hbl.mono hw.size)⟩
def JL.callS{cs:List Prop}{args r:AV}(hg:o.guard=none)(h:callA X.T o.op s=some (cs,f,args))(hf:Fn X.P f args (·=r))(hr:r.scal=true)(hrb:r.bd 0)(hd:dstOk X.n o.dst)(hc:allP cs)
  (k:JL X md all QA l (putS o.dst r s)):JL X md all QA (o::l) s:=by
 cases md
 ·intro M ρ a w0 h1 h2;simp only[wpQuiet,Region.wanted,hg,if_true];refine⟨r.toV,fun w hw=>?_,k M ρ _ w0 (j0 h1) (h2.putO hd.spec (j3 (yyu _) hrb) ((x5 hr).2 rfl))⟩;obtain⟨az,e1,e2⟩:=q4j h hf hr hc h1 h2 hw;unfold Oper.quietAt;rw[e1];exact⟨rfl,e2⟩
 ·intro M ρ a w h1 h2;obtain⟨az,e1,e2⟩:=q4j h hf hr hc h1 h2 (Below.refl w.heap.size w);refine j6 (v4 hg) (u9 (q0x h) e1 e2 ?_);rintro e w' ⟨rfl,hbl⟩;exact⟨_,rfl,k M ρ _ w' (j0 (h1.later hbl)) (h2.putO hd.spec (j3 (yyu _) hrb) ((x5 hr).2 rfl))⟩
def JL.callG{g:Bool}{cs:List Prop}{args r:AV}(hg:gOf all s.L o.guard=some g)(h:callA X.T o.op s=some (cs,f,args))(hf:g=true→Fn X.P f args (·=r))(hr:r.scal=true)(hrb:r.bd 0)(hd:dstOk X.n o.dst)(hc:g=true→allP cs)
  (k:JL X md all QA l (putS o.dst (.gd g r) s)):JL X md all QA (o::l) s:=by
 cases md
 ·intro M ρ a w0 h1 h2;have hw:=x7 hg h2;simp only[wpQuiet,hw];cases g with
  |true=>simp only[if_true];refine⟨r.toV,fun w hw=>?_,k M ρ _ w0 (j0 h1) (h2.putO hd.spec (by exact fun _=>j3 (yyu _) hrb) (by simp only[AV.rv];exact⟨fun _=>(x5 hr).2 rfl,fun h=>(by cases h)⟩))⟩;obtain⟨az,e1,e2⟩:=q4j h (hf rfl) hr (hc rfl) h1 h2 hw;unfold Oper.quietAt;rw[e1];exact⟨rfl,e2⟩
  |false=>simp only[yyr,if_false];exact k M ρ _ w0 (j0 h1) (h2.putO hd.spec (by exact fun h=>(by cases h)) (by simp[AV.rv]))
 ·intro M ρ a w h1 h2;have hw:=x7 hg h2;cases g with
  |true=>obtain⟨az,e1,e2⟩:=q4j h (hf rfl) hr (hc rfl) h1 h2 (Below.refl w.heap.size w);refine j6 hw (u9 (q0x h) e1 e2 ?_);rintro e w' ⟨rfl,hbl⟩;exact⟨_,rfl,k M ρ _ w' (j0 (h1.later hbl)) (h2.putO hd.spec (by exact fun _=>j3 (yyu _) hrb) (by simp only[AV.rv];exact⟨fun _=>(x5 hr).2 rfl,fun h=>(by cases h)⟩))⟩
  |false=>refine q0n hw ?_;exact k M ρ _ w (j0 h1) (h2.putO hd.spec (by exact fun h=>(by cases h)) (by simp[AV.rv]))
def AV.pure:AV→Bool
 |.val _ _|.anil|.undef|.full _ _=>true
 |.lf .nils|.lf .nilp=>true
 |.lf _=>false
 |.mix a b|.acons a b|.fn _ a b=>a.pure&&b.pure
 |.tup a|.pfn a=>a.pure
 |.raw _=>false
 |.gd _ a=>a.pure
def SAT.ext(h:SAT X M ρ s w)(hl:Below w.heap.size w w'){M':Mem}(hm:M.le M')(hin:MemIn M' w')(hnew:∀ b,b<w.heap.size→M' b=M b):SAT X M' ρ s w':=by
 have h':=h.later hl;have hE:=h.below.size;refine⟨h'.below,fun b o hb=>by rw[hnew b (yyh.1 (h.mem b o (h.msub b o hb))).1];exact h.msub b o hb,fun b hb=>(hnew b (by omega)).trans (h.mnew b hb),hin,?_,h.apart,?_⟩
 ·intro k o hk;obtain⟨e1,e2,e3⟩:=h'.own k o hk;exact⟨e1,e2,q4u hm (Env.upTo.refl ρ s.nx) e1 e2 e3⟩
 ·intro k o b hk hb;rw[hnew b (u6 (h.own k o hk).2.2 hb).2];exact h.notM k o b hk hb
def JL.call{cs:List Prop}{f:FuncId}{args:AV}{R:AV→Prop}(hg:o.guard=none)(h:callA X.T o.op ⟨s.L,[],s.nx⟩=some (cs,f,args))(hf:Fn X.P f args R)(hd:dstOk X.n o.dst)(hc:allP cs)
  (k:∀ r,R r→JL X true all QA l (putS o.dst r s)):JL X true all QA (o::l) s:=by
 intro M ρ a w h1 h2;have h1':SAT X M ρ ⟨s.L,[],s.nx⟩ w:=⟨h1.below,h1.msub,h1.mnew,h1.mem,fun l o h=>by simp[lk] at h,fun l l' o o' b h=>by simp[lk] at h,fun l o b h=>by simp[lk] at h⟩;have h2':REG X M ρ ⟨s.L,[],s.nx⟩ a:=⟨h2.size,h2.defers,h2.reg⟩;obtain⟨hb,vs,hvs,hrun⟩:=o0 h1' (Mx:=M) ⟨Mem.le_refl M,fun l o b h=>by simp[lk] at h⟩ h2' h hc;refine j6 (v4 hg) (u9 (q0x h) (by rw[hrun,hf.call]) (hf.run M ρ w vs h1.mem hvs hb) ?_);rintro e w' ⟨v,r,M',rfl,hR,hrb,hv,hbl,hm,hin,hnew⟩;have h3:=h1.ext hbl hm hin hnew;have h4:REG X M' ρ s a:=h2.grow hm (Env.upTo.refl ρ s.nx) (yyo _) fun D hD=>by rw[hnew D (yyh.1 (h1.mem _ _ hD)).1];exact hD
 exact⟨_,rfl,k r hR M' ρ _ w' (j0 h3) (h4.putO hd.spec (j3 (yyu _) hrb) hv)⟩
def argL:AV→Nat→List (Nat×AV)
 |.acons a b,i=>(i,a)::argL b (i+1)
 |_,_=>[]
def resK{R:Type}(T:List (Nat×Ty))(s:S):List ResultVar→List TypeId→(List Prop→AV→Option R)→Option R
 |[],[],k=>k [] .anil
 |.tmp d::rs,t::ts,k=>match lk s.L d with
  |some v=>(match lk T t with
   |some ty=>toK s.H 8 ty v fun c x=>resK T s rs ts fun cs az=>k (c++cs) (.acons (.val ty x) az)
   |none=>capK s.H v fun c x=>resK T s rs ts fun cs az=>k (c++cs) (.acons x az))
  |none=>none
 |.cell d t'::rs,t::ts,k=>match lk s.L d with
  |some (.lf (.optr l p))=>match lk T t with
   |some ty=>if t'=t∧0<ty.size then toK s.H 8 (.ptr ty) (.lf (.optr l p)) fun c x=>match x with
    |some x=>resK T s rs ts fun cs az=>k (c++cs) (.acons (.val ty x) az)
    |none=>none else none
   |none=>none
  |_=>none
 |_,_,_=>none
def resA(T:List (Nat×Ty))(fn:Func)(s:S):Option (List Prop×AV):=
 resK T s fn.results.toList fn.resultTypes.toList fun cs az=>match az with
  |.acons a .anil=>some (cs,a)
  |az=>some (cs,.tup az)
def retQ(T:List (Nat×Ty))(fn:Func)(R:AV→Prop)(e:Exit)(s:S):Prop:=(e=.ret∨e=.normal)∧∃ cs r,resA T fn s=some (cs,r)∧allP cs∧R r
def resOne(tmps:Array Value):ResultVar→Sem Value
 |.tmp t=>pure (tmps.getD t Go.undef)
 |.cell ad t=>do loadVar t (← asAddr (tmps.getD ad Go.undef))
def q1j{tmps:Array Value}(h:(fn.results.toList.mapM (resOne tmps)).run P w=.ok vs w) :
  (results fn tmps).run P w=.ok (if h:vs.toArray.size=1 then vs.toArray[0] else .tuple vs.toArray) w:=by
 have e:results fn tmps=(do let vs ← fn.results.mapM (resOne tmps);pure (if h:vs.size=1 then vs[0] else .tuple vs)):=rfl;rw[e,yye,Array.mapM_eq_mapM_toList,Sem.run_map,h];rfl
def z4i(hT:TOK X.P X.T)(h1:SAT X M ρ s w)(h2:REG X M ρ s a)(hx:Seen ρ s M Mx w):∀ {rs:List ResultVar} {ts:List TypeId} {R:Type} {k:List Prop→AV→Option R} {r:R},resK X.T s rs ts k=some r →
  ∃ cs y,k cs y=some r∧y.bd 0∧(allP cs→∃ vs,y.rvs Mx ρ vs∧(rs.mapM (resOne a.tmps)).run X.P w=.ok vs w):=by
 intro rs;induction rs with
 |nil=>
  intro ts R k r h;cases ts with
  |nil=>simp only[resK] at h;exact⟨_,_,h,trivial,fun _=>⟨[],by simp[AV.rvs],rfl⟩⟩
  |cons t ts=>simp[resK] at h
 |cons rv rs ih=>
  intro ts R k r h;cases ts with
  |nil=>cases rv<;>simp[resK] at h
  |cons t ts=>
   cases rv with
   |tmp d=>
    simp only[resK] at h;split at h
    ·rename_i v hl;have hv:=h2.reg _ _ hl;split at h
     ·rename_i ty hty;obtain⟨c,x,h,hx'⟩:=q02 h1 hx 8 h;obtain⟨cs,az,h,hb,has⟩:=ih h;refine⟨_,_,h,⟨trivial,hb⟩,fun hc=>?_⟩;rw[z6] at hc;obtain⟨vs,k1,k2⟩:=has hc.2;refine⟨a.tmps.getD d Go.undef::vs,?_,?_⟩
      ·simp only[AV.rvs];exact⟨_,_,by simp only[AV.rv];exact(hx' hc.1).1 _ hv.2,k1,rfl⟩
      ·simp only[List.mapM_cons,resOne,yye,yyf,yyc,k2]
     ·obtain⟨c,x,h,hb1,hx'⟩:=q2c h1 hx h;obtain⟨cs,az,h,hb,has⟩:=ih h;refine⟨_,_,h,⟨hb1,hb⟩,fun hc=>?_⟩;rw[z6] at hc;obtain⟨vs,k1,k2⟩:=has hc.2;refine⟨a.tmps.getD d Go.undef::vs,?_,?_⟩
      ·simp only[AV.rvs];exact⟨_,_,(hx' hc.1).1 _ hv.2,k1,rfl⟩
      ·simp only[List.mapM_cons,resOne,yye,yyf,yyc,k2]
    ·cases h
   |cell d t'=>
    simp only[resK] at h;split at h
    ·rename_i l p hl;have hv:=h2.reg _ _ hl;split at h
     ·rename_i ty hty;split at h
      ·rename_i ht;obtain⟨rfl,hpos⟩:=ht;have hlk:∃ t0 a0,lk s.H l=some (.cell t0 a0):=by
        unfold toK at h;simp only at h;split at h
        ·rename_i t0 a0 hl';exact⟨t0,a0,hl'⟩
        ·cases h
       obtain⟨t0,a0,hlk⟩:=hlk;obtain⟨c,x,h,hx'⟩:=q02 h1 hx 8 h;split at h
       ·rename_i x';obtain⟨cs,az,h,hb,has⟩:=ih h;refine⟨_,_,h,⟨trivial,hb⟩,fun hc=>?_⟩;rw[z6] at hc;obtain⟨vs,k1,k2⟩:=has hc.2;obtain⟨vc,hr,hu⟩:=(hx' hc.1).1 _ hv.2;simp only[Rep] at hr;obtain⟨b,off,cc,tg,fz,rfl,hM,hr⟩:=hr;have hv2:=hv.2;rw[y7] at hv2;simp only[Leaf.at,yya] at hv2;have hu':a.tmps.getD d Go.undef=.pointer (some ⟨b,off,none⟩):=by rw[hu];rfl
        have hbk:ρ.blk l=b:=by have:=hv2.1.trans hu';simp only[Value.pointer.injEq,yya,Addr.mk.injEq] at this;exact this.1
        have hheap:w.heap[b]?=some (.cells cc tg fz):=by rw[← hM,← hbk];exact(hx.own l _ _ hlk rfl).symm
        have hlen:=hr.length;simp only[yxi,List.length_drop] at hlen;have hload:=q03 (hT _ _ hty) hheap (off:=off) (by simp at hlen;omega);refine⟨ty.wrap ((cc.toList.drop off).take ty.size)::vs,?_,?_⟩
        ·simp only[AV.rvs];exact⟨_,_,by simp only[AV.rv];exact⟨_,hr,rfl⟩,k1,rfl⟩
        ·simp only[List.mapM_cons,resOne,yye,hu',asAddr,yyf,yyc,hload,k2]
       ·cases h
      ·cases h
     ·cases h
    ·cases h
def argL_rvs{args:AV}(h:args.rvs M ρ vs)(hb:args.bd 0):∀ {i d:Nat} {v:AV},lk (argL args i) d=some v→v.bd 0∧i≤d∧∃ u,vs[d-i]?=some u∧v.rv M ρ u:=by
 induction args generalizing vs with
 |acons x y _ ihy=>
  intro i d v hl;simp only[AV.rvs] at h;obtain⟨u,r,k1,k2,rfl⟩:=h;simp only[argL,lk] at hl;split at hl
  ·rename_i e;subst e;injection hl with hl;subst hl
   exact⟨hb.1,yyo _,u,by simp,k1⟩
  ·obtain⟨e1,e2,u',e3,e4⟩:=ihy k2 hb.2 hl;refine⟨e1,by omega,u',?_,e4⟩;rw[show d-i=(d-(i+1))+1 by omega,yxb];exact e3
 |_=>intro i d v hl;simp[argL,lk] at hl
def argN:AV→Nat
 |.acons _ b=>argN b+1
 |_=>0
def z31{args:AV}(h:args.rvs M ρ vs):vs.length=argN args:=by
 induction args generalizing vs with
 |acons x y _ ihy=>simp only[AV.rvs] at h;obtain⟨u,r,k1,k2,rfl⟩:=h;simp[argN,ihy k2]
 |anil=>simp only[AV.rvs] at h;subst h;rfl
 |_=>simp only[AV.rvs] at h
def q1w{P:Program}{fn:Func}{tmps:Array Value}{R:Ending→World→Prop}:∀ {Ds:List Nat} {w:World},Ds.Nodup→(∀ D∈Ds,w.heap[D]?=some (.deferred (some []))) →
  (∀ w'',(∀ n,(∀ D∈Ds,n≤D)→Below n w w'')→(∀ b,b∉Ds→w''.heap[b]?=w.heap[b]?)→LeavesIn Fence.wide 0 P fn tmps R [] .returning w'') →
  LeavesInM Fence.wide 0 P fn tmps R (Ds.map fun D=>({target:=.collected D,args:=#[]}:Deferred)) .returning w
 |[],w,_,_,h=>h w (fun n _=>Below.refl n w) (fun _ _=>rfl)
 |D::r,w,hn,hD,h=>by
  have hD0:=hD D yyj;obtain⟨hn1,hn2⟩:=yx2.1 hn;refine⟨by simp,.inl ⟨D,_,rfl,run_takeDeferred hD0,q1w hn2 (fun D' hD'=>?_) fun w'' h1 h2=>?_⟩⟩
  ·rw[World.putObj_heap_other (fun e=>hn1 (by rw[← e];exact hD'))];exact hD D' (yyi _ hD')
  ·refine h w'' (fun n hle=>?_) fun b hb=>?_
   ·have e1:Below n w (w.putObj D (.deferred none)):=⟨rfl,rfl,rfl,by simp,fun k hk=>World.putObj_heap_other (by have:=hle D yyj;omega)⟩;exact e1.trans (h1 n fun D' hD'=>hle D' (yyi _ hD'))
   ·rw[h2 b (fun hc=>hb (yyi _ hc)),World.putObj_heap_other (fun e=>hb (by rw[e];exact yyj))]
def Mem.without(M:Mem)(Ds:List Nat):Mem:=fun b=>if b∈Ds then none else M b
def SAT.taken{Ds:List Nat}(h:SAT X M ρ s w)(h0:∀ D∈Ds,X.M0 D=none)(hD:∀ D∈Ds,X.E.heap.size≤D∧M D=some (.deferred (some [])))(hb:∀ n,(∀ D∈Ds,n≤D)→Below n w w')(hk:∀ b,b∉Ds→w'.heap[b]?=w.heap[b]?) :
  M.le (M.without Ds)∧SAT X (M.without Ds) ρ s w':=by
 have hle:M.le (M.without Ds):=fun b c ty fz hm=>by unfold Mem.without;rw[if_neg];exact hm;intro hc;rw[(hD b hc).2] at hm;cases hm
 have hE:Below X.E.heap.size w w':=hb _ fun D hd=>(hD D hd).1;refine⟨hle,h.below.trans hE,fun b o hm=>(by unfold Mem.without;rw[if_neg (fun hc=>by rw[h0 b hc] at hm;cases hm)];exact h.msub b o hm),fun b hlt=>?_,fun b o hm=>?_,fun l o hl=>?_,h.apart,fun l o b hl hat=>?_⟩
 ·unfold Mem.without;rw[if_neg (fun hc=>by have:=(hD b hc).1;omega)];exact h.mnew b hlt
 ·unfold Mem.without at hm;split at hm
  ·cases hm
  ·rename_i hc;rw[hk b hc];exact h.mem b o hm
 ·obtain⟨e1,e2,e3⟩:=h.own l o hl;refine⟨e1,e2,q4u hle (Env.upTo.refl ρ s.nx) e1 e2 (q2i e3 fun b hat=>hk b fun hc=>?_)⟩;have:=h.notM l o b hl hat;rw[(hD b hc).2] at this;cases this
 ·unfold Mem.without;split
  ·rfl
  ·exact h.notM l o b hl hat
structure FnX(Z:Mem→World→Prop)(P:Program)(f:FuncId)(args:AV)(R:AV→Prop):Prop where
 call:∀ az w,(callFunc f az).run P w=.ok (.enter f az) w
 run:∀ (M:Mem) (ρ:Env) (w:World) (vs:List Value),Z M w→MemIn M w→args.rvs M ρ vs→args.bd 0 →
  Calls P f vs.toArray w (fun e w'=>∃ v r M',e=.returned v∧R r∧r.bd 0∧r.rv M' ρ v∧Below w.heap.size w w'∧M.le M'∧MemIn M' w'∧∀ b,b<w.heap.size→M' b=M b)
abbrev FnL(Z:Mem→Prop):=FnX fun M _=>Z M
def FnX.intro{Z:Mem→World→Prop}{P:Program}{T:List (Nat×Ty)}{ET:List (Nat×Nat)}{MT:List (Nat×(Nat×Nat))}(hok:∀ {X:Ctx},X.P=P→X.T=T→X.ET=ET→X.MT=MT→XOK X){f:FuncId}{fn:Func}{c:Code}{args:AV}{R:AV→Prop}(hf:P.funcs[f]?=some fn)(hb:fn.body=some c)
  (hcall:∀ az w,(callFunc f az).run P w=.ok (.enter f az) w) (hn:argN args≤fn.ntmps) (h:∀ E M0 up,Z M0 E→JC ⟨P,T,ET,MT,E,M0,fn.ntmps,none,up,0⟩ c (retQ T fn R) ⟨argL args 0,[],0⟩):FnX Z P f args R:=by
 refine⟨hcall,fun M ρ w vs hz hM hvs hbd=>(callsIn_wide (n:=0)).1 (callsIn_of_wp_marks hf hb trivial ?_ rfl)⟩
 let up0:Nat→Nat→Value:=fun _ _=>Go.undef
 have hlen:=z31 hvs;have hsat:SAT ⟨P,T,ET,MT,w,M,fn.ntmps,none,up0,0⟩ M ρ ⟨argL args 0,[],0⟩ w:=⟨Below.refl _ _,fun _ _ h=>h,fun _ _=>rfl,hM,fun l o h=>by simp[lk] at h,fun l l' o o' b h=>by simp[lk] at h,fun l o b h=>by simp[lk] at h⟩
 have hreg:REG ⟨P,T,ET,MT,w,M,fn.ntmps,none,up0,0⟩ M ρ ⟨argL args 0,[],0⟩ {tmps:=vs.toArray++Array.replicate (fn.ntmps-vs.toArray.size) Go.undef,defers:=[]}:=by
  refine⟨by simp;omega,⟨[],rfl,yxr,by simp,.inl rfl⟩,fun d v hd=>?_⟩;obtain⟨e1,e2,u,e3,e4⟩:=argL_rvs hvs hbd hd;refine⟨e1,?_⟩;rw[Nat.sub_zero] at e3;have hd':d<vs.length:=by
   rcases Nat.lt_or_ge d vs.length with h|h
   ·exact h
   ·rw[yxn h] at e3;cases e3
  have:(vs.toArray++Array.replicate (fn.ntmps-vs.toArray.size) Go.undef).getD d Go.undef=u:=by rw[yyy,Array.getElem?_append_left (by simpa using hd')];simp[e3]
  rw[this];exact e4
 refine wpIn_mono (h w M up0 hz M ρ _ w hsat hreg) ?_;rintro e a1 w1 ⟨M2,ρ1,s1,k1',k2',hex,cs,r,hr,hc,hR⟩;obtain⟨Ds,hds,hnd,hDs,_⟩:=k2'.defers;have fin:LeavesInM Fence.wide 0 P fn a1.tmps (fun e w'=>∃ v r M',e=Ending.returned v∧R r∧r.bd 0∧r.rv M' ρ v∧Below w.heap.size w w'∧M.le M'∧MemIn M' w'∧∀ b,b<w.heap.size→M' b=M b) a1.defers .returning w1:=by
  rw[hds];refine q1w hnd (fun D hD=>k1'.mem _ _ (hDs D hD).2) fun w' hbel hkeep=>?_;obtain⟨hle,k1⟩:=k1'.taken (fun D hD=>by
   show M D=none;cases hMD:M D with
   |none=>rfl
   |some o=>have h1:=(yyh.1 (hM D o hMD)).1;have h2:w.heap.size≤D:=(hDs D hD).1;omega) hDs hbel hkeep
  let a':Act:={a1 with defers:=[]}
  let M1:=M2.without Ds
  have k2:REG ⟨P,T,ET,MT,w,M,fn.ntmps,none,up0,0⟩ M1 ρ1 s1 a':=⟨k2'.size,⟨[],rfl,yxr,by simp,.inl rfl⟩,fun d v hd=>⟨(k2'.reg d v hd).1,w3 hle (Env.upTo.refl ρ1 s1.nx) (k2'.reg d v hd).1 (k2'.reg d v hd).2⟩⟩
  let Mx:Mem:=fun b=>if b<w.heap.size then M b else w'.heap[b]?
  have hE:w.heap.size≤w'.heap.size:=k1.below.size;have hseen:Seen ρ1 s1 M1 Mx w':=by
   refine⟨fun b c ty fz hb=>?_,fun l o b hl hb=>?_⟩
   ·show(if b<w.heap.size then M b else w'.heap[b]?)=_;split
    ·rename_i hlt;rw[← hb];exact(k1.mnew b hlt).symm
    ·exact k1.mem b _ hb
   ·show(if b<w.heap.size then M b else w'.heap[b]?)=_;have:=(u6 (k1.own l o hl).2.2 hb).1;rw[if_neg (by exact Nat.not_lt.2 this)]
  have hres:∃ v,(results fn a'.tmps).run P w'=.ok v w'∧r.bd 0∧r.rv Mx ρ1 v:=by
   unfold resA at hr;obtain⟨cs',y,hr,hyb,hy⟩:=z4i (X:=⟨P,T,ET,MT,w,M,fn.ntmps,none,up0,0⟩) (hok rfl rfl rfl rfl).t k1 k2 hseen hr;have hrun:∀ vs,(fn.results.toList.mapM (resOne a'.tmps)).run P w'=.ok vs w'→(results fn a'.tmps).run P w'=.ok (if h:vs.toArray.size=1 then vs.toArray[0] else .tuple vs.toArray) w':=fun vs h=>q1j h;split at hr
   ·rename_i x;simp only[yya,yyl] at hr;obtain⟨rfl,rfl⟩:=hr;obtain⟨vs,k3,k4⟩:=hy hc;simp only[AV.rvs] at k3;obtain⟨v,r',k5,rfl,rfl⟩:=k3;exact⟨v,by have:=hrun _ k4;simpa using this,hyb.1,k5⟩
   ·rename_i hne;simp only[yya,yyl] at hr;obtain⟨rfl,rfl⟩:=hr;obtain⟨vs,k3,k4⟩:=hy hc;refine⟨.tuple vs.toArray,?_,hyb,by simp only[AV.rv];exact⟨vs,k3,rfl⟩⟩;have:=hrun _ k4;have hsz:vs.toArray.size≠1:=by
     intro hsz;cases y with
     |acons x z=>
      simp only[AV.rvs] at k3;obtain⟨v,r',k5,k6,rfl⟩:=k3;have:r'=[]:=by simpa using hsz
      subst this;cases z with
      |anil=>exact hne x rfl
      |acons=>simp[AV.rvs] at k6
      |_=>simp only[AV.rvs] at k6
     |anil=>simp only[AV.rvs] at k3;subst k3;simp at hsz
     |_=>simp only[AV.rvs] at k3
    rwa[dif_neg hsz] at this
  obtain⟨v,hrun,hrb,hrv⟩:=hres;have hpost:∃ v' r M',Ending.returned v=.returned v'∧R r∧r.bd 0∧r.rv M' ρ v'∧Below w.heap.size w w'∧M.le M'∧MemIn M' w'∧∀ b,b<w.heap.size→M' b=M b:=by
   refine⟨v,r,Mx,rfl,hR,hrb,w3 (Mem.le_refl Mx) (fun l hl=>absurd hl (Nat.not_lt_zero _)) hrb hrv,k1.below,fun b c ty fz hb=>?_,fun b o hb=>?_,fun b hb=>?_⟩
   ·show(if b<w.heap.size then M b else w'.heap[b]?)=_;rw[if_pos (yyh.1 (hM b _ hb)).1];exact hb
   ·have hb':(if b<w.heap.size then M b else w'.heap[b]?)=some o:=hb;split at hb'
    ·rename_i hlt;rw[← hb'];exact((congrArg (w'.heap[·]?) rfl).trans (k1.below.block b hlt)).trans ((hM b o hb').trans hb'.symm)
    ·exact hb'
   ·show(if b<w.heap.size then M b else w'.heap[b]?)=M b;rw[if_pos hb]
  exact⟨v,hrun,hpost⟩
 rcases hex with rfl|rfl
 ·exact fin
 ·exact fin
def FnL.intro{Z:Mem→Prop}{P:Program}{T:List (Nat×Ty)}{ET:List (Nat×Nat)}{MT:List (Nat×(Nat×Nat))}(hok:∀ {X:Ctx},X.P=P→X.T=T→X.ET=ET→X.MT=MT→XOK X){f:FuncId}{fn:Func}{c:Code}{args:AV}{R:AV→Prop}(hf:P.funcs[f]?=some fn)(hb:fn.body=some c)
  (hcall:∀ az w,(callFunc f az).run P w=.ok (.enter f az) w) (hn:argN args≤fn.ntmps) (h:∀ E M0 up,Z M0→JC ⟨P,T,ET,MT,E,M0,fn.ntmps,none,up,0⟩ c (retQ T fn R) ⟨argL args 0,[],0⟩):FnL Z P f args R:=FnX.intro hok hf hb hcall hn h
def Fn.intro{P:Program}{T:List (Nat×Ty)}{ET:List (Nat×Nat)}{MT:List (Nat×(Nat×Nat))}(hok:∀ {X:Ctx},X.P=P→X.T=T→X.ET=ET→X.MT=MT→XOK X){f:FuncId}{fn:Func}{c:Code}{args:AV}{R:AV→Prop}(hf:P.funcs[f]?=some fn)(hb:fn.body=some c)
  (hcall:∀ az w,(callFunc f az).run P w=.ok (.enter f az) w) (hn:argN args≤fn.ntmps) (h:∀ E M0 up,JC ⟨P,T,ET,MT,E,M0,fn.ntmps,none,up,0⟩ c (retQ T fn R) ⟨argL args 0,[],0⟩):Fn P f args R:=
 let x:=FnL.intro (Z:=fun _=>True) hok hf hb hcall hn fun E M0 up _=>h E M0 up
 ⟨x.call,fun M ρ w vs=>x.run M ρ w vs trivial⟩
def cellEq:Value→Value→Bool
 |.int k n,.int k' m=>k==k'&&n==m
 |.bool a,.bool b=>a==b
 |.slice none 0 0,.slice none 0 0=>true
 |.pointer none,.pointer none=>true
 |_,_=>false
def q5u{a b:Value}(h:cellEq a b=true):a=b:=by
 unfold cellEq at h;split at h
 ·simp only[yyb,beq_iff_eq] at h;rw[h.1,h.2]
 ·simp only[beq_iff_eq] at h;rw[h]
 ·rfl
 ·rfl
 ·cases h
def cellsEq:List Value→List Value→Bool
 |[],[]=>true
 |a::x,b::y=>cellEq a b&&cellsEq x y
 |_,_=>false
def q4i:∀ {x y:List Value},cellsEq x y=true→x=y
 |[],[],_=>rfl
 |a::x,b::y,h=>by simp only[cellsEq,yyb] at h;rw[q5u h.1,q4i h.2]
 |[],_::_,h=>by simp[cellsEq] at h
 |_::_,[],h=>by simp[cellsEq] at h
def zeroEq:Value→Value→Bool
 |.agg x,.agg y=>cellsEq x.toList y.toList
 |a,b=>cellEq a b
def q9l{a b:Value}(h:zeroEq a b=true):a=b:=by
 unfold zeroEq at h;split at h
 ·have:=q4i h;rw[Array.ext' this]
 ·exact q5u h
def infoB(P:Program)(id:TypeId)(t:Ty):Bool:=
 match P.info? id with
 |some i=>i.size==t.size&&decide (i.bytes≤65536)&&(match i.zero with|some z=>zeroEq z (t.wrap t.zc)|none=>false)
 |none=>false
def t8{id:TypeId}{t:Ty}{d:TypeDesc}(h:infoB P id t=true)(hd:P.underlying id=some d):InfoOf P id t d:=by
 unfold infoB at h;split at h
 ·rename_i i hi;simp only[yyb,beq_iff_eq,yyq] at h;refine⟨hd,by rw[hi];simp[h.1.1],?_,by rw[hi];simp[h.1.2]⟩;have h2:=h.2;split at h2
  ·rename_i z hz;rw[hi];simp[hz,q9l h2]
  ·cases h2
 ·cases h
def tyB(P:Program):Ty→TypeId→Bool
 |.int k,id=>infoB P id (.int k)&&(match P.underlying id with|some (.int k')=>k'==k|_=>false)
 |.bool,id=>infoB P id .bool&&(match P.underlying id with|some .bool=>true|_=>false)
 |.slice e,id=>infoB P id (.slice e)&&(match P.underlying id with|some (.slice eid)=>tyB P e eid|_=>false)
 |.ptr e,id=>infoB P id (.ptr e)&&(match P.underlying id with|some (.pointer eid)=>tyB P e eid|_=>false)
 |.arr n e,id=>infoB P id (.arr n e)&&(match P.underlying id with|some (.array m eid)=>m==n&&tyB P e eid|_=>false)
 |.nil,_=>false
 |.cons a b,id=>infoB P id (.cons a b)&&(match P.underlying id with
   |some (.struct fs)=>(match fs.toList with
    |f::r=>f.offset==0&&tyB P a f.type&&a.size != 0&&fieldsB P b r a.size
    |[]=>false)
   |_=>false)
where
 fieldsB (P:Program):Ty→List Field→Nat→Bool
 |.nil,[],_=>true
 |.cons a b,f::r,off=>f.offset==off&&tyB P a f.type&&a.size != 0&&fieldsB P b r (off+a.size)
 |_,_,_=>false
mutual
def r8{P:Program}:∀ {t:Ty} {id:TypeId},tyB P t id=true→TyOf P t id
 |.int k,id,h=>by
  simp only[tyB,yyb] at h;obtain⟨h1,h2⟩:=h;split at h2
  ·rename_i k' hk;simp only[beq_iff_eq] at h2;subst h2;simp only[TyOf];exact t8 h1 hk
  ·cases h2
 |.bool,id,h=>by
  simp only[tyB,yyb] at h;obtain⟨h1,h2⟩:=h;split at h2
  ·rename_i hk;simp only[TyOf];exact t8 h1 hk
  ·cases h2
 |.slice e,id,h=>by
  simp only[tyB,yyb] at h;obtain⟨h1,h2⟩:=h;split at h2
  ·rename_i eid hk;simp only[TyOf];exact⟨eid,t8 h1 hk,r8 h2⟩
  ·cases h2
 |.ptr e,id,h=>by
  simp only[tyB,yyb] at h;obtain⟨h1,h2⟩:=h;split at h2
  ·rename_i eid hk;simp only[TyOf];exact⟨eid,t8 h1 hk,r8 h2⟩
  ·cases h2
 |.arr n e,id,h=>by
  simp only[tyB,yyb] at h;obtain⟨h1,h2⟩:=h;split at h2
  ·rename_i m eid hk;simp only[yyb,beq_iff_eq] at h2;obtain⟨rfl,h2⟩:=h2;simp only[TyOf];exact⟨eid,t8 h1 hk,r8 h2⟩
  ·cases h2
 |.nil,id,h=>by simp[tyB] at h
 |.cons a b,id,h=>by
  simp only[tyB,yyb] at h;obtain⟨h1,h2⟩:=h;split at h2
  ·rename_i fs hk;simp only[TyOf];refine⟨fs,t8 h1 hk,?_⟩;split at h2
   ·rename_i f r hf;simp only[yyb,beq_iff_eq,bne_iff_ne] at h2;simp only[hf];exact⟨h2.1.1.1,r8 h2.1.1.2,h2.1.2,q4d h2.2⟩
   ·cases h2
  ·cases h2
def q4d{P:Program}:∀ {t:Ty} {r:List Field} {off:Nat},tyB.fieldsB P t r off=true→TyOf.fields P t r off
 |.nil,[],_,_=>by simp[TyOf.fields]
 |.cons a b,f::r,off,h=>by simp only[tyB.fieldsB,yyb,beq_iff_eq,bne_iff_ne] at h;simp only[TyOf.fields];exact⟨h.1.1.1,r8 h.1.1.2,h.1.2,q4d h.2⟩
 |.nil,_::_,_,h=>by simp[tyB.fieldsB] at h
 |.cons _ _,[],_,h=>by simp[tyB.fieldsB] at h
 |.int _,_,_,h=>by simp[tyB.fieldsB] at h
 |.bool,_,_,h=>by simp[tyB.fieldsB] at h
 |.slice _,_,_,h=>by simp[tyB.fieldsB] at h
 |.ptr _,_,_,h=>by simp[tyB.fieldsB] at h
 |.arr _ _,_,_,h=>by simp[tyB.fieldsB] at h
end
def tabB(P:Program)(T:List (Nat×Ty))(ET:List (Nat×Nat))(MT:List (Nat×(Nat×Nat))):Bool:=T.all (fun p=>tyB P p.2 p.1)&&ET.all (fun p=>match P.underlying p.1 with|some (.slice e)=>e==p.2|_=>false)&&MT.all (fun p=>match P.underlying p.1 with|some (.map k e)=>k==p.2.1&&e==p.2.2|_=>false)&&P.follows .mixedOrders
def z42{ET:List (Nat×Nat)}{MT:List (Nat×(Nat×Nat))}(h:tabB P T ET MT=true)(h1:X.P=P)(h2:X.T=T)(h3:X.ET=ET)(h4:X.MT=MT):XOK X:=by
 subst h1 h2 h3 h4;simp only[tabB,yyb] at h;obtain⟨⟨⟨h1,h2⟩,h4⟩,h3⟩:=h;refine⟨fun id t hl=>r8 (yyx.1 h1 (id,t) (p5 hl)),fun id e hl=>?_,fun id kv hl=>?_,h3⟩
 ·have:=yyx.1 h2 (id,e) (p5 hl);simp only at this;split at this
  ·rename_i e' he;simp only[beq_iff_eq] at this;subst this;exact he
  ·cases this
 ·have:=yyx.1 h4 (id,kv) (p5 hl);simp only at this;split at this
  ·rename_i k e he;simp only[beq_iff_eq,yyb] at this;obtain⟨e1,e2⟩:=this;rw[he,e1,e2]
  ·cases this
def Leaf.ren(f:Nat→Nat):Leaf→Leaf
 |.nils=>.nils|.nilp=>.nilp
 |.osl l=>.osl (f l)|.ovw l a b c=>.ovw (f l) a b c|.optr l p=>.optr (f l) p|.oelt l k p=>.oelt (f l) k p|.oarr l p n c=>.oarr (f l) p n c
 |.mp l=>.mp (f l)|.itr l=>.itr (f l)|.yld l=>.yld (f l)
def RV.ren(f:Nat→Nat):RV→RV
 |.p l q=>.p (f l) q|.s l q k c=>.s (f l) q k c|.o l e lo hi w z=>.o (f l) e lo hi w z|.m l=>.m (f l)|.it l=>.it (f l)|.y l=>.y (f l)
 |.f fi a c=>.f fi (a.ren f) (c.ren f)|.g c=>.g (c.ren f)|.t c=>.t (c.ren f)|.cons a r=>.cons (a.ren f) (r.ren f)
 |r=>r
def AV.ren(f:Nat→Nat):AV→AV
 |.val t x=>.val t x|.anil=>.anil|.undef=>.undef|.full e l=>.full e l
 |.lf x=>.lf (x.ren f)
 |.mix a b=>.mix (a.ren f) (b.ren f)|.acons a b=>.acons (a.ren f) (b.ren f)|.fn g a b=>.fn g (a.ren f) (b.ren f)
 |.tup a=>.tup (a.ren f)|.gd g a=>.gd g (a.ren f)|.pfn a=>.pfn (a.ren f)
 |.raw r=>.raw (r.ren f)
def HO.ren(f:Nat→Nat):HO→HO
 |.cell t a=>.cell t (a.ren f)
 |.sl eid e xs=>.sl eid e xs
 |.map kt vt es clk=>.map kt vt es clk
 |.iter m since seen last=>.iter (f m) since seen last
 |.cus Q=>.cus Q
 |.loop st pe ps az bd n L=>.loop st pe ps az bd n (L.map fun p=>(p.1,p.2.ren f))
 |.fr i L=>.fr i (L.map fun p=>(p.1,p.2.ren f))
 |.raw ty k n c=>.raw ty k n fun i=>(c i).ren f
 |.rmap es clk=>.rmap (es.map fun x=>(x.1.ren f,x.2.1.ren f,x.2.2)) clk
 |.riter m since seen last bk=>.riter (f m) since seen last bk
 |.gl g ty n c=>.gl g ty n fun i=>(c i).ren f
def z7f{f:AV→AV}:∀ {L:List (Nat×AV)} {d:Nat},lk (L.map fun p=>(p.1,f p.2)) d=(lk L d).map f
 |[],_=>rfl
 |(k,v)::r,d=>by
  simp only[yyz,lk];split
  ·rfl
  ·exact z7f
def Env.via(ρ:Env)(f:Nat→Nat):Env:=⟨fun l=>ρ.blk (f l),fun l=>ρ.ty (f l),fun l=>ρ.sv (f l)⟩
def q7e(ρ:Env)(f:Nat→Nat)(x:Leaf):x.at (ρ.via f)=(x.ren f).at ρ:=by cases x<;>rfl
mutual
def q17(ρ:Env)(f:Nat→Nat):∀ r:RV,r.cv (ρ.via f)=(r.ren f).cv ρ
 |.i ..|.b _|.np|.ns|.fz|.nm|.u|.nil|.cons _ _|.p ..|.s ..|.m _|.it _|.y _|.o ..=>rfl
 |.f _ a c=>by simp only[RV.cv,RV.ren];rw[q4p ρ f a,q4p ρ f c]
 |.g c|.t c=>by simp only[RV.cv,RV.ren];rw[q4p ρ f c]
def q4p(ρ:Env)(f:Nat→Nat):∀ r:RV,r.cl (ρ.via f)=(r.ren f).cl ρ
 |.cons a r=>by simp only[RV.cl,RV.ren];rw[q17 ρ f a,q4p ρ f r]
 |.i ..|.b _|.np|.ns|.fz|.nm|.u|.nil|.p ..|.s ..|.m _|.it _|.y _|.o ..|.f ..|.g _|.t _=>rfl
end
mutual
def q5n(M:Mem)(ρ:Env)(f:Nat→Nat):∀ (a:AV) (v:Value),(a.ren f).rv M ρ v→a.rv M (ρ.via f) v
 |.val _ _,v,h=>by simp only[AV.ren,AV.rv] at h ⊢;exact h
 |.anil,v,h=>by simp only[AV.ren,AV.rv] at h
 |.undef,v,h=>by simp only[AV.ren,AV.rv] at h ⊢;exact h
 |.full _ _,v,h=>by simp only[AV.ren,AV.rv] at h ⊢;exact h
 |.lf x,v,h=>by simp only[AV.ren,AV.rv] at h ⊢;rw[q7e];exact h
 |.mix a b,v,h=>by simp only[AV.ren,AV.rv] at h ⊢;obtain⟨c1,c2,h1,h2,h3⟩:=h;exact⟨c1,c2,q92 M ρ f a c1 h1,q92 M ρ f b c2 h2,h3⟩
 |.acons _ _,v,h=>by simp only[AV.ren,AV.rv] at h
 |.fn g a b,v,h=>by simp only[AV.ren,AV.rv] at h ⊢;obtain⟨c1,c2,h1,h2,h3⟩:=h;exact⟨c1,c2,q41 M ρ f a c1 h1,q41 M ρ f b c2 h2,h3⟩
 |.tup a,v,h=>by simp only[AV.ren,AV.rv] at h ⊢;obtain⟨c1,h1,h2⟩:=h;exact⟨c1,q41 M ρ f a c1 h1,h2⟩
 |.gd g a,v,h=>by simp only[AV.ren,AV.rv] at h ⊢;exact⟨fun e=>q5n M ρ f a v (h.1 e),h.2⟩
 |.pfn a,v,h=>by simp only[AV.ren,AV.rv] at h ⊢;obtain⟨b,fv,ty,fz,h1,h2,h3⟩:=h;exact⟨b,fv,ty,fz,h1,h2,q5n M ρ f a fv h3⟩
 |.raw r,v,h=>by simp only[AV.ren,AV.rv] at h ⊢;rw[h,q17]
def q41(M:Mem)(ρ:Env)(f:Nat→Nat):∀ (a:AV) (v:List Value),(a.ren f).rvs M ρ v→a.rvs M (ρ.via f) v
 |.anil,v,h=>by simp only[AV.ren,AV.rvs] at h ⊢;exact h
 |.acons a b,v,h=>by simp only[AV.ren,AV.rvs] at h ⊢;obtain⟨c1,c2,h1,h2,h3⟩:=h;exact⟨c1,c2,q5n M ρ f a c1 h1,q41 M ρ f b c2 h2,h3⟩
 |.val _ _,v,h=>by simp only[AV.ren,AV.rvs] at h
 |.undef,v,h=>by simp only[AV.ren,AV.rvs] at h
 |.full _ _,v,h=>by simp only[AV.ren,AV.rvs] at h
 |.lf x,v,h=>by simp only[AV.ren,AV.rvs] at h
 |.mix a b,v,h=>by simp only[AV.ren,AV.rvs] at h
 |.fn g a b,v,h=>by simp only[AV.ren,AV.rvs] at h
 |.tup a,v,h=>by simp only[AV.ren,AV.rvs] at h
 |.gd g a,v,h=>by simp only[AV.ren,AV.rvs] at h
 |.pfn a,v,h=>by simp only[AV.ren,AV.rvs] at h
 |.raw a,v,h=>by simp only[AV.ren,AV.rvs] at h
def q92(M:Mem)(ρ:Env)(f:Nat→Nat):∀ (a:AV) (v:List Value),(a.ren f).rc M ρ v→a.rc M (ρ.via f) v
 |.val _ _,v,h=>by simp only[AV.ren,AV.rc] at h ⊢;exact h
 |.lf x,v,h=>by simp only[AV.ren,AV.rc] at h ⊢;rw[q7e];exact h
 |.mix a b,v,h=>by simp only[AV.ren,AV.rc] at h ⊢;obtain⟨c1,c2,h1,h2,h3⟩:=h;exact⟨c1,c2,q92 M ρ f a c1 h1,q92 M ρ f b c2 h2,h3⟩
 |.fn g a b,v,h=>by simp only[AV.ren,AV.rc] at h ⊢;obtain⟨c1,c2,h1,h2,h3⟩:=h;exact⟨c1,c2,q41 M ρ f a c1 h1,q41 M ρ f b c2 h2,h3⟩
 |.anil,v,h=>by simp only[AV.ren,AV.rc] at h
 |.undef,v,h=>by simp only[AV.ren,AV.rc] at h
 |.full _ _,v,h=>by simp only[AV.ren,AV.rc] at h
 |.acons _ _,v,h=>by simp only[AV.ren,AV.rc] at h
 |.tup a,v,h=>by simp only[AV.ren,AV.rc] at h
 |.gd g a,v,h=>by simp only[AV.ren,AV.rc] at h
 |.pfn a,v,h=>by simp only[AV.ren,AV.rc] at h
 |.raw a,v,h=>by simp only[AV.ren,AV.rc] at h
end
def conf_ren(f:Nat→Nat):∀ {t:Ty} {a:AV},confB t (a.ren f)=confB t a:=by
 intro t a;induction a generalizing t with
 |mix x y ihx ihy=>
  cases t with
  |arr n e=>cases n<;>simp[AV.ren,confB,ihx,ihy]
  |_=>simp[AV.ren,confB,ihx,ihy]
 |lf x=>cases x<;>cases t<;>rfl
 |_=>cases t<;>rfl
def covL(f:Nat→Nat):List (Nat×AV)→List (Nat×AV)→Prop
 |[],_=>True
 |(d,v)::r,L=>lk L d=some (v.ren f)∧covL f r L
def covH(f:Nat→Nat):List (Nat×HO)→List (Nat×HO)→Prop
 |[],_=>True
 |(d,o)::r,H=>lk H (f d)=some (o.ren f)∧covH f r H
def z0o{f:Nat→Nat}{L:List (Nat×AV)}:∀ {r:List (Nat×AV)},covL f r L→∀ d v,(d,v)∈r→lk L d=some (v.ren f)
 |[],_,d,v,h=>by simp at h
 |(k,u)::r,hc,d,v,h=>by
  rcases yyn.1 h with h|h
  ·injection h with h1 h2;subst h1 h2;exact hc.1
  ·exact z0o hc.2 d v h
def z0p{f:Nat→Nat}{L:List (Nat×HO)}:∀ {r:List (Nat×HO)},covH f r L→∀ d v,(d,v)∈r→lk L (f d)=some (v.ren f)
 |[],_,d,v,h=>by simp at h
 |(k,u)::r,hc,d,v,h=>by
  rcases yyn.1 h with h|h
  ·injection h with h1 h2;subst h1 h2;exact hc.1
  ·exact z0p hc.2 d v h
def bdL(n:Nat):List (Nat×AV)→Prop
 |[]=>True
 |(_,v)::r=>v.bd n∧bdL n r
def bdH(n:Nat):List (Nat×HO)→Prop
 |[]=>True
 |(d,o)::r=>d<n∧o.bd n∧bdH n r
def q59{n:Nat}:∀ {r:List (Nat×AV)},bdL n r→∀ d v,(d,v)∈r→v.bd n
 |[],_,d,v,h=>by simp at h
 |(k,u)::r,hc,d,v,h=>by
  rcases yyn.1 h with h|h
  ·injection h with h1 h2;subst h1 h2;exact hc.1
  ·exact q59 hc.2 d v h
def q9c{n:Nat}:∀ {r:List (Nat×HO)},bdH n r→∀ d v,(d,v)∈r→d<n∧v.bd n
 |[],_,d,v,h=>by simp at h
 |(k,u)::r,hc,d,v,h=>by
  rcases yyn.1 h with h|h
  ·injection h with h1 h2;subst h1 h2;exact⟨hc.1,hc.2.1⟩
  ·exact q9c hc.2.2 d v h
def injH(f:Nat→Nat):List (Nat×HO)→Bool
 |[]=>true
 |(d,_)::r=>r.all (fun p=>p.1==d||f p.1 != f d)&&injH f r
def z0h{f:Nat→Nat}:∀ {r:List (Nat×HO)},injH f r=true→∀ d o d' o',(d,o)∈r→(d',o')∈r→f d=f d'→d=d'
 |[],_,d,o,d',o',h,_,_=>by simp at h
 |(k,u)::r,hc,d,o,d',o',h,h',e=>by
  simp only[injH,yyb,yyx,yyw,beq_iff_eq,bne_iff_ne] at hc;rcases yyn.1 h with g|g<;>rcases yyn.1 h' with g'|g'
  ·injection g with h1;injection g' with h2;omega
  ·injection g with h1 h2
   rcases hc.1 _ g' with h3|h3
   ·exact h1.trans h3.symm
   ·exact absurd (h1▸e.symm) h3
  ·injection g' with h1 h2
   rcases hc.1 _ g with h3|h3
   ·exact h3.trans h1.symm
   ·exact absurd (h1▸e) h3
  ·exact z0h hc.2 d o d' o' g g' e
def z1d{f:Nat→Nat}{l:Nat}{o:HO}(h:(o.ren f).ok X M ρ (f l) w):o.ok X M (ρ.via f) l w:=by
 cases o with
 |cell t a=>simp only[HO.ren,HO.ok] at h ⊢;obtain⟨h1,h2,h3,c,ty,h4,h5⟩:=h;exact⟨h1,by rw[← conf_ren f];exact h2,h3,c,ty,h4,q92 M ρ f a _ h5⟩
 |sl eid e xs=>exact h
 |map kt vt es clk=>exact h
 |iter m since seen last=>exact h
 |cus Q=>exact h
 |loop st pe ps az bd n L=>simp only[HO.ren,HO.ok] at h ⊢;obtain⟨h1,fn,tm,D,h2,h3,h4⟩:=h;exact⟨h1,fn,tm,D,h2,h3,fun d v hd=>q5n M ρ f v _ (h4 d _ (by rw[z7f,hd];rfl))⟩
 |fr i L=>simp only[HO.ren,HO.ok] at h ⊢;exact⟨h.1,fun d v hd=>q5n M ρ f v _ (h.2 d _ (by rw[z7f,hd];rfl))⟩
 |raw ty k n c=>simp only[HO.ren,HO.ok] at h ⊢;obtain⟨h1,cs,h2,h3,h4,h5⟩:=h;exact⟨h1,cs,h2,h3,fun i hi=>by rw[q17];exact h4 i hi,h5⟩
 |rmap es clk=>simp only[HO.ren,HO.ok] at h ⊢;obtain⟨h1,ms,h2,h3⟩:=h;refine⟨h1,ms,h2,h3.trans ?_⟩;rw[List.map_map];exact List.map_congr_left fun x _=>by simp only[Function.comp,q17]
 |riter m since seen last bk=>exact h
 |gl g ty n c=>simp only[HO.ren,HO.ok] at h ⊢;obtain⟨h1,cs,ty',fz,h2,h3,h4⟩:=h;exact⟨h1,cs,ty',fz,h2,h3,fun i hi=>by rw[q17];exact h4 i hi⟩
def q4v{f:Nat→Nat}{l:Nat}(o:HO):o.at (ρ.via f) l=(o.ren f).at ρ (f l):=by cases o<;>rfl
def JW.of(f:Nat→Nat){L':List (Nat×AV)}{H':List (Nat×HO)}{nx':Nat}(hL:covL f L' s.L)(hH:covH f H' s.H)(hbL:bdL nx' L')(hbH:bdH nx' H')(hi:injH f H'=true):JW X ⟨L',H',nx'⟩ s:=by
 intro M ρ a w h1 h2;have lkH:∀ l o,lk H' l=some o→lk s.H (f l)=some (o.ren f):=fun l o h=>z0p hH l o (p5 h);refine⟨ρ.via f,⟨h1.below,h1.msub,h1.mnew,h1.mem,fun l o hl=>?_,fun l l' o o' b hl hl' hb hb'=>?_,fun l o b hl hb=>?_⟩,⟨h2.size,h2.defers,fun d v hd=>?_⟩⟩
 ·have e:=q9c hbH l o (p5 hl);exact⟨e.1,e.2,z1d (h1.own _ _ (lkH l o hl)).2.2⟩
 ·rw[q4v] at hb hb';exact z0h hi l o l' o' (p5 hl) (p5 hl') (h1.apart _ _ _ _ b (lkH l o hl) (lkH l' o' hl') hb hb')
 ·rw[q4v] at hb;exact h1.notM _ _ b (lkH l o hl) hb
 ·have e:=z0o hL d v (p5 hd);exact⟨q59 hbL d v (p5 hd),q5n M ρ f v _ (h2.reg _ _ e).2⟩
def e8{s':S}(h:JW X s' s)(k:JC X c QA s'):JC X c QA s:=fun M ρ a w h1 h2=>by obtain⟨ρ',e1,e2⟩:=h M ρ a w h1 h2;exact k M ρ' a w e1 e2
variable {K:S→Prop}
variable {L L':List (Nat×AV)}{H H':List (Nat×HO)}{nx nx' d:Nat}{op:Op}{ty:TypeId}{ps:String}{af:Array Edge}{cs:List Prop}{v:AV}{g:Bool}{gg:Nat×Bool}
def ltB(d n:Nat):Bool:=Nat.blt d n
def y8{d n:Nat}(h:ltB d n=true):d<n:=by simpa[ltB] using h
def JL.q1(hX:XOK X)(h:evb X.T op ⟨L,H,nx⟩=some (cs,v))(hd:ltB d X.n=true)(hc:allP cs)(k:JL X md all QA l ⟨(d,v)::L,H,nx⟩):JL X md all QA (⟨some d,op,ty,ps,af,none⟩::l) ⟨L,H,nx⟩:=JL.q hX rfl h (y8 hd) hc k
def JL.q0(hX:XOK X)(h:evb X.T op ⟨L,H,nx⟩=some (cs,v))(hc:allP cs)(k:JL X md all QA l ⟨L,H,nx⟩):JL X md all QA (⟨none,op,ty,ps,af,none⟩::l) ⟨L,H,nx⟩:=JL.q hX rfl h trivial hc k
def JL.m1(hX:XOK X)(h:evm X.T X.ET op ⟨L,H,nx⟩=some (cs,v,⟨L',H',nx'⟩))(hd:ltB d X.n=true)(hc:allP cs)(k:JL X true all QA l ⟨(d,v)::L',H',nx'⟩):JL X true all QA (⟨some d,op,ty,ps,af,none⟩::l) ⟨L,H,nx⟩:=JL.m hX rfl h (y8 hd) hc k
def JL.m0(hX:XOK X)(h:evm X.T X.ET op ⟨L,H,nx⟩=some (cs,v,⟨L',H',nx'⟩))(hc:allP cs)(k:JL X true all QA l ⟨L',H',nx'⟩):JL X true all QA (⟨none,op,ty,ps,af,none⟩::l) ⟨L,H,nx⟩:=JL.m hX rfl h trivial hc k
def JL.g1(hX:XOK X)(hg:gOf all L (some gg)=some g)(h:evb X.T op ⟨L,H,nx⟩=some (cs,v))(hd:ltB d X.n=true)(hc:g=true→allP cs)(k:JL X md all QA l ⟨(d,.gd g v)::L,H,nx⟩):JL X md all QA (⟨some d,op,ty,ps,af,some gg⟩::l) ⟨L,H,nx⟩:=JL.g hX hg h (y8 hd) hc k
def JL.s1{args r:AV}(h:callA X.T op ⟨L,H,nx⟩=some (cs,f,args))(hf:Fn X.P f args (·=r))(hr:r.scal=true)(hrb:r.bd 0)(hd:ltB d X.n=true)(hc:allP cs)(k:JL X md all QA l ⟨(d,r)::L,H,nx⟩) :
  JL X md all QA (⟨some d,op,ty,ps,af,none⟩::l) ⟨L,H,nx⟩:=JL.callS rfl h hf hr hrb (y8 hd) hc k
def JL.s1g{args r:AV}(hg:gOf all L (some gg)=some g)(h:callA X.T op ⟨L,H,nx⟩=some (cs,f,args))(hf:g=true→Fn X.P f args (·=r))(hr:r.scal=true)(hrb:r.bd 0)(hd:ltB d X.n=true)(hc:g=true→allP cs)(k:JL X md all QA l ⟨(d,.gd g r)::L,H,nx⟩) :
  JL X md all QA (⟨some d,op,ty,ps,af,some gg⟩::l) ⟨L,H,nx⟩:=JL.callG hg h hf hr hrb (y8 hd) hc k
def JL.c1{args:AV}{R:AV→Prop}(h:callA X.T op ⟨L,[],nx⟩=some (cs,f,args))(hf:Fn X.P f args R)(hd:ltB d X.n=true)(hc:allP cs)(k:∀ r,R r→JL X true all QA l ⟨(d,r)::L,H,nx⟩) :
  JL X true all QA (⟨some d,op,ty,ps,af,none⟩::l) ⟨L,H,nx⟩:=JL.call rfl h hf (y8 hd) hc k
def QX.tr(h:QA .ret s):qThen K QA .ret s:=h
def bif_or(a b:Bool):(bif a then true else b)=(a||b):=by cases a<;>rfl
def bif_and(a b:Bool):(bif a then b else false)=(a&&b):=by cases a<;>rfl
def cdL:(∀ a b:Bool,(bif a then true else b)=(a||b))∧(∀ a b:Bool,(bif a then b else false)=(a&&b))∧(∀ a b:Bool,((a||b)=true)=(a=true∨b=true))∧(∀ a b:Bool,((a||b)=false)↔(a=false∧b=false))∧(∀ a b:Bool,((a&&b)=true)=(a=true∧b=true))∧(∀ a b:Bool,((a&&b)=false)=(a=false∨b=false))
  ∧ (∀ b:Bool,((!b)=true)=(b=false))∧(∀ b:Bool,((!b)=false)=(b=true))∧(∀ (p:Prop) [Decidable p],(decide p=true)=p)∧(∀ (p:Prop) [Decidable p],(decide p=false)↔¬ p)∧(∀ {α:Type} [BEq α] [LawfulBEq α] (a b:α),(a==b)=true↔a=b)∧(∀ {α:Type} [BEq α] [LawfulBEq α] (a b:α),(a != b)=true↔a≠b)
  ∧ (∀ {α:Type} [BEq α] [LawfulBEq α] (a b:α),(a != b)=false↔a=b)∧(∀ {α:Type} (a b:α),(a≠b)=¬ (a=b))∧(∀ {α:Type} [BEq α] [LawfulBEq α] (a b:α),(a==b)=false↔a≠b)∧(∀ b:Bool,(¬ b=true)=(b=false)):=
 ⟨bif_or,bif_and,yyw,fun a b=>Bool.or_eq_false_iff,yyb,fun a b=>by cases a<;>cases b<;>simp,fun b=>by cases b<;>simp,fun b=>by cases b<;>simp,fun p _=>yyq,fun p _=>decide_eq_false_iff_not,fun a b=>beq_iff_eq,fun a b=>bne_iff_ne,fun a b=>bne_eq_false_iff_eq,fun a b=>rfl,fun a b=>beq_eq_false_iff_ne,fun b=>by cases b<;>simp⟩
def Ty.lens:(t:Ty)→t.den→Prop
 |.int _,_=>True|.bool,_=>True
 |.slice e,l=>List.length l≤9223372036854775807∧∀ i (h:i<List.length l),e.lens (List.get l ⟨i,h⟩)
 |.ptr e,x=>match x with|none=>True|some y=>e.lens y
 |.arr n e,l=>List.length l=n∧∀ i (h:i<List.length l),e.lens (List.get l ⟨i,h⟩)
 |.nil,_=>True
 |.cons a b,x=>a.lens x.1∧b.lens x.2
def Rep.lens{M:Mem}:∀ {t:Ty} {x:t.den} {cs:List Value},Rep M t x cs→t.lens x
 |.int _,_,_,h=>trivial
 |.bool,_,_,h=>trivial
 |.slice e,l,cs,h=>by
  simp only[Rep] at h;obtain⟨ad,cap,h1,h2,h3,h3',h4⟩:=h;have h3:cap≤9223372036854775807:=h3;refine⟨by omega,fun i hi=>?_⟩;rcases h4 with h4|⟨b,off,c,ty,fz,e1,e2,e3⟩
  ·omega
  ·exact Rep.lens (e3 i hi)
 |.ptr e,x,cs,h=>by
  cases x with
  |none=>trivial
  |some y=>simp only[Rep] at h;obtain⟨b,off,c,ty,fz,_,_,h⟩:=h;exact @Rep.lens M e y _ h
 |.arr n e,l,cs,h=>by simp only[Rep] at h;exact⟨h.1,fun i hi=>Rep.lens (h.2.2 i hi)⟩
 |.nil,_,cs,h=>trivial
 |.cons a b,x,cs,h=>by simp only[Rep] at h;obtain⟨c1,c2,_,h1,h2⟩:=h;exact⟨Rep.lens h1,Rep.lens h2⟩
def JC.lenOf(d:Nat){t:Ty}{x:t.den}(h:lk s.L d=some (.val t x))(k:t.lens x→JC X c QA s):JC X c QA s:=fun M ρ a w h1 h2=>by obtain⟨_,hv⟩:=h2.reg _ _ h;simp only[AV.rv] at hv;obtain⟨cs,e1,e5⟩:=hv;exact k e1.lens M ρ a w h1 h2
end Ox
namespace Ox
open Go Go.RowKit
variable {X:Ctx}{s:S}{M:Mem}{ρ:Env}{a:Act}{w w':World}{QA:Exit→S→Prop}{K:S→Prop}{ops:List Oper}{ls:List Nat}{fuel:Nat}
section
variable {P:Program}{md:Region.Mode}{opsA:Array Oper}{Q:Exit→Act→World→Prop}
def YA(P:Program)(ops:Array Oper)(o:Oper)(v:Value)(a:Act):Prop:=
 (Region.wanted o (yielded ops a.tmps)=true∧∀ w,(execOp a.eval o).run P w=.ok (.value v) w) ∨
 (Region.wanted o (yielded ops a.tmps)=false∧v=undef)
def YA.op{i:Nat}{o:Oper}{v:Value}{a:Act}{w:World}(hi:opsA[i]?=some o)(hn:notDef o.op=true)(hy:YA X.P opsA o v a){K:Act→World→Prop}(h:K (a.put o.dst v) w):wpOpIn X.fn 0 X.P opsA Q i K a w:=by
 unfold wpOpIn;simp only[hi];rcases hy with⟨hw,hv⟩|⟨hw,rfl⟩
 ·simp only[hw,if_true];exact y6 hn (hv w) h
 ·simp only[hw,yyr,if_false];exact⟨fun f _=>q1b f,h⟩
def YA.keep{o oj:Oper}{v:Value}(hso:∀ cs b,o.op≠.select cs b)(h3:∀ d,oj.dst=some d→d∉o.looksAt opsA)(hy:YA P opsA o v a)(u:Value):YA P opsA o v (a.put oj.dst u):=by unfold YA at *;rw[wanted_put o a oj.dst u h3,execOp_put o hso a oj.dst u h3];exact hy
def z2t{d:Option Tmp}{v:Value}{K K':Act→World→Prop}(hQ:∀ e a w,e≠.normal→¬ Q e a w)(hne:∀ e,d=some e→oj.dst≠some e)
  (h:∀ (a':Act) u w,a'=a∨(∃ x,a'={a with defers:=x::a.defers})→K ((a'.put d v).put oj.dst u) w→K' (a'.put oj.dst u) w) {r:Result Next}
  (hh:oj.uponIn X.fn 0 X.P (a.put d v) K Q r):oj.uponIn X.fn 0 X.P a K' Q r:=by
 cases r with
 |ok n w'=>
  cases n with
  |value u=>simp only[Oper.uponIn] at hh ⊢;exact h a u _ (.inl rfl) hh
  |skip=>simp only[Oper.uponIn] at hh ⊢;exact h a _ _ (.inl rfl) hh
  |defer x=>simp only[Oper.uponIn] at hh ⊢;rw[Act.put_defers] at hh;exact h _ _ _ (.inr ⟨x,rfl⟩) hh
  |enter f args=>
   simp only[Oper.uponIn] at hh ⊢;refine⟨hh.1,CallsIn.mono hh.2 fun e w'' he=>?_⟩;cases e with
   |returned u=>exact h a u _ (.inl rfl) he
   |panicked c=>exact absurd he (hQ _ _ _ (by simp))
   |outgrown=>exact he
  |row r args=>simp only[Oper.uponIn] at hh ⊢;exact⟨hh.1,RowsIn.mono hh.2 (fun _ _ he=>h a _ _ (.inl rfl) he)⟩
  |round l f tmps assign body=>
   simp only[Oper.uponIn] at hh ⊢;refine⟨hh.1,RoundIn.mono hh.2 fun e w'' he=>?_⟩;cases e with
   |returned u=>exact h a u _ (.inl rfl) he
   |panicked c=>exact absurd he (hQ _ _ _ (by simp))
   |outgrown=>exact he
  |_=>simp only[Oper.uponIn] at hh
 |halt x w'=>
  cases x with
  |panic v=>simp only[Oper.uponIn] at hh;exact absurd hh (hQ _ _ _ (by simp))
  |_=>simp only[Oper.uponIn] at hh
def z5i{v:Value}{K:Act→World→Prop}(hQ:∀ e a w,e≠.normal→¬ Q e a w)(hj:opsA[j]?=some oj)
  (h1:∀ d,oi.dst=some d→d∉oj.looksAt opsA) (h2:∀ d,oi.dst=some d→oj.dst≠some d) (hsj:∀ cs b,oj.op≠.select cs b) (hn:notDef oj.op=true) (h:wpOpIn X.fn 0 X.P opsA Q j K (a.put oi.dst v) w) :
  wpOpIn X.fn 0 X.P opsA Q j (fun a' w'=>K (a'.put oi.dst v) w') a w:=by
 unfold wpOpIn at *;simp only[hj] at *;rw[wanted_put oj a oi.dst v h1] at h;split
 ·rename_i hw;simp only[hw,if_true] at h;refine⟨fun f _=>q1b f,?_⟩;have h:=h.2;rw[o9 hn,execOp_put oj hsj a oi.dst v h1] at h;rw[o9 hn];refine z2t hQ h2 (fun a' u w'' _ hk=>?_) h;rw[← Act.put_comm a' v u h2];exact hk
 ·rename_i hw;simp only[hw] at h;refine⟨fun f _=>q1b f,?_⟩;show K _ _;rw[← Act.put_comm a v undef h2];exact h.2
def wpOp_put{v:Value}{K:Act→World→Prop}(hQ:∀ e a w,e≠.normal→¬ Q e a w)(hj:opsA[j]?=some oj)(hap:oi.apart opsA oj=true)
  (hsi:∀ cs b,oi.op≠.select cs b) (hsj:∀ cs b,oj.op≠.select cs b) (hn:notDef oj.op=true) (hy:YA X.P opsA oi v a) (h:wpOpIn X.fn 0 X.P opsA Q j K (a.put oi.dst v) w) :
  wpOpIn X.fn 0 X.P opsA Q j (fun a' w'=>YA X.P opsA oi v a'∧K (a'.put oi.dst v) w') a w:=by
 obtain⟨h1,h2,h3⟩:=Oper.apart_spec hap;have hyd:∀ (a':Act),a'=a∨(∃ x,a'={a with defers:=x::a.defers})→YA X.P opsA oi v a':=fun a' e=>by
  rcases e with rfl|⟨x,rfl⟩
  ·exact hy
  ·exact hy
 unfold wpOpIn at *;simp only[hj] at *;rw[wanted_put oj a oi.dst v h1] at h;split
 ·rename_i hw;simp only[hw,if_true] at h;refine⟨fun f _=>q1b f,?_⟩;have h:=h.2;rw[o9 hn,execOp_put oj hsj a oi.dst v h1] at h;rw[o9 hn];refine z2t hQ h2 (fun a' u w'' e hk=>⟨(hyd a' e).keep hsi h3 u,?_⟩) h;rw[← Act.put_comm a' v u h2];exact hk
 ·rename_i hw;simp only[hw] at h;exact⟨fun f _=>q1b f,hy.keep hsi h3 _,by rw[← Act.put_comm a v undef h2];exact h.2⟩
def q0t{v:Value}(hQ:∀ e a w,e≠.normal→¬ Q e a w)(hi:opsA[i]?=some oi)(hsel:∀ (j:Nat) (o:Oper) cs b,opsA[j]?=some o→o.op≠.select cs b)(hnd:∀ (j:Nat) o,opsA[j]?=some o→notDef o.op=true) :
  ∀ (fuel:Nat) (listed:Array Bool) (a:Act) (w:World),
   (∀ j oj,opsA[j]?=some oj→j≠i→listed.getD j true=false→(∀ e∈oj.after,Region.binds md e=true→e.on≠i)→oi.apart opsA oj=true) →
   i∈Region.ready md opsA listed→YA X.P opsA oi v a →
   wpAnyIn X.fn 0 X.P md opsA Q fuel (listed.setIfInBounds i true) (a.put oi.dst v) w→wpAnyIn X.fn 0 X.P md opsA Q (fuel+1) listed a w:=by
 intro fuel;induction fuel with
 |zero=>
  intro listed a w _ hr hy H;refine⟨fun h=>(by rw[h] at hr;cases hr),fun j hj=>?_⟩;by_cases hji:j=i
  ·subst hji;exact hy.op hi (hnd _ _ hi) H
  ·have:=ready_mono hj hji;rw[H.1] at this;cases this
 |succ fuel ih=>
  intro listed a w hfree hr hy H;refine⟨fun h=>(by rw[h] at hr;cases hr),fun j hj=>?_⟩;by_cases hji:j=i
  ·subst hji;exact hy.op hi (hnd _ _ hi) H
  ·have h1:=H.2 j (ready_mono hj hji);obtain⟨hjun,oj,hoj,hall⟩:=mem_ready.1 hj;have hnot:∀ e∈oj.after,Region.binds md e=true→e.on≠i:=fun e he hb heq=>by
    have h1:=hall e he hb;have h0:=(mem_ready.1 hr).1;rw[heq] at h1;rcases Nat.lt_or_ge i listed.size with h'|h'
    ·simp[h'] at h0 h1;rw[h0] at h1;cases h1
    ·simp[Array.getElem?_eq_none h'] at h1
   have h2:=wpOp_put hQ hoj (hfree j oj hoj hji hjun hnot) (fun cs b=>hsel i oi cs b hi) (fun cs b=>hsel j oj cs b hoj) (hnd _ _ hoj) hy h1;have hfree':∀ k ok,opsA[k]?=some ok→k≠i→(listed.setIfInBounds j true).getD k true=false →
     (∀ e∈ok.after,Region.binds md e=true→e.on≠i)→oi.apart opsA ok=true:=fun k ok hk hki hun hno=>by
    refine hfree k ok hk hki ?_ hno;by_cases hjk:j=k
    ·subst hjk;exact hjun
    ·rw[getD_set_ne true hjk] at hun;exact hun
   refine wpOpIn_mono (fun a' w' h3=>ih (listed.setIfInBounds j true) a' w' hfree' (ready_mono hr (Ne.symm hji)) h3.1 ?_) h2;rw[Array.setIfInBounds_comm _ _ hji];exact h3.2
end
def Lst(n:Nat)(ls:List Nat)(l:Array Bool):Prop:=l.size=n∧∀ j,j<n→l[j]?=some (ls.contains j)
def Lst.getT{n j:Nat}{l:Array Bool}(h:Lst n ls l)(hj:j<n)(d:Bool):l.getD j d=ls.contains j:=by have:=h.2 j hj;simp[yyy,this]
def edgesL(n:Nat)(ls:List Nat):List Edge→Bool
 |[]=>true
 |e::r=>(!Region.binds .any e||(Nat.blt e.on n&&ls.contains e.on))&&edgesL n ls r
def rdyL(n:Nat)(ls:List Nat):Nat→List Oper→List (Nat×Oper)
 |_,[]=>[]
 |i,o::r=>match ls.contains i||!edgesL n ls o.after.toList with
  |true=>rdyL n ls (i+1) r
  |false=>(i,o)::rdyL n ls (i+1) r
def x4{n:Nat}{es:List Edge}:edgesL n ls es=true↔∀ e∈es,Region.binds .any e=true→e.on<n∧ls.contains e.on=true:=by
 induction es with
 |nil=>simp[edgesL]
 |cons e r ih=>
  simp only[edgesL,yyb,yyw,yyt,ih,yyn,forall_eq_or_imp,Nat.blt_eq];refine⟨fun⟨h1,h2⟩=>⟨fun hb=>?_,h2⟩,fun⟨h1,h2⟩=>⟨?_,h2⟩⟩
  ·rcases h1 with h1|h1
   ·rw[h1] at hb;cases hb
   ·exact h1
  ·cases hb:Region.binds .any e with
   |false=>exact .inl rfl
   |true=>exact .inr (h1 hb)
def q0u{n:Nat}:∀ {r:List Oper} {k i:Nat} {o:Oper},(i,o)∈rdyL n ls k r↔k≤i∧r[i-k]?=some o∧ls.contains i=false∧edgesL n ls o.after.toList=true
 |[],k,i,o=>by simp[rdyL]
 |x::r,k,i,o=>by
  have ih:=@q0u n r (k+1) i o;have step:(k≤i∧(x::r)[i-k]?=some o∧ls.contains i=false∧edgesL n ls o.after.toList=true) ↔
    ((i=k∧x=o∧ls.contains i=false∧edgesL n ls o.after.toList=true)∨(k+1≤i∧r[i-(k+1)]?=some o∧ls.contains i=false∧edgesL n ls o.after.toList=true)):=by
   rcases Nat.lt_trichotomy i k with h|h|h
   ·constructor
    ·intro e;omega
    ·rintro(e|e)<;>omega
   ·subst h;rw[Nat.sub_self,List.getElem?_cons_zero];constructor
    ·rintro⟨_,e,f⟩;injection e with e;exact .inl ⟨rfl,e,f⟩
    ·rintro(⟨_,e,f⟩|e)
     ·exact⟨yyo _,by rw[e],f⟩
     ·omega
   ·have e:i-k=(i-(k+1))+1:=by omega
    rw[e,yxb];constructor
    ·intro e;exact .inr ⟨by omega,e.2⟩
    ·rintro(e|e)
     ·omega
     ·exact⟨by omega,e.2⟩
  rw[step];simp only[rdyL];split
  ·rename_i hb;rw[ih];refine⟨fun h=>.inr h,fun h=>?_⟩;rcases h with⟨rfl,rfl,e1,e2⟩|h
   ·simp only[yyw,yyt] at hb;rw[e1,e2] at hb;simp at hb
   ·exact h
  ·rename_i hb;simp only[Bool.or_eq_false_iff,Bool.not_eq_false'] at hb;rw[yyn,ih];constructor
   ·rintro(e|e)
    ·injection e with e1 e2;subst e1 e2;exact .inl ⟨rfl,rfl,hb⟩
    ·exact .inr e
   ·rintro(⟨rfl,rfl,_⟩|e)
    ·exact .inl rfl
    ·exact .inr e
def q42{l:Array Bool}(h:Lst ops.length ls l)(i:Nat):i∈Region.ready .any ops.toArray l↔∃ o,(i,o)∈rdyL ops.length ls 0 ops:=by
 rw[mem_ready];constructor
 ·rintro⟨h1,o,h2,h3⟩;have hi:i<ops.length:=by have:=(yyh.1 h2).1;simpa using this
  refine⟨o,q0u.2 ⟨by omega,by simpa using h2,by rw[h.getT hi] at h1;exact h1,x4.2 fun e he hb=>?_⟩⟩;have h4:=h3 e (by simpa using he) hb;rcases Nat.lt_or_ge e.on ops.length with hl|hl
  ·rw[h.getT hl] at h4;exact⟨hl,h4⟩
  ·have:l.size≤e.on:=by rw[h.1];exact hl
   simp[yyy,Array.getElem?_eq_none this] at h4
 ·rintro⟨o,ho⟩;obtain⟨_,h2,h3,h4⟩:=q0u.1 ho;have h2:ops[i]?=some o:=by simpa using h2
  have hi:i<ops.length:=(yy7.1 h2).1;refine⟨by rw[h.getT hi];exact h3,o,by simpa using h2,fun e he hb=>?_⟩;obtain⟨e1,e2⟩:=x4.1 h4 e (by simpa using he) hb;rw[h.getT e1];exact e2
def qN(K:S→Prop):Exit→S→Prop:=qThen K (fun _ _=>False)
def JAny(X:Ctx)(ops:List Oper)(K:S→Prop)(fuel:Nat)(ls:List Nat)(s:S):Prop:=∀ M ρ a w l,Lst ops.length ls l→SAT X M ρ s w→REG X M ρ s a→wpAnyIn X.fn 0 X.P .any ops.toArray (conc X (qN K)) fuel l a w
def q5d{e:Exit}(he:e≠.normal):¬ conc X (qN K) e a w:=by rintro⟨M,ρ,s,_,_,h⟩;cases e<;>simp[qN,qThen] at h he
def upon_to{K1 K2:Act→World→Prop}{Q1 Q2:Exit→Act→World→Prop}{o:Oper}{r:Result Next}(hQ:∀ e a w,e≠.normal→¬ Q1 e a w)(h:∀ a w,K1 a w→K2 a w)(hh:o.uponIn X.fn 0 X.P a K1 Q1 r):o.uponIn X.fn 0 X.P a K2 Q2 r:=by
 cases r with
 |ok n w'=>
  cases n<;>simp only[Oper.uponIn] at hh ⊢ <;>
   first
    |exact h _ _ hh
    |exact⟨hh.1,CallsIn.mono hh.2 (fun e w'' he=>by
      cases e with
      |returned v=>exact h _ _ he
      |panicked c=>exact absurd he (hQ _ _ _ (by simp))
      |outgrown=>obtain⟨a0,w0,h0⟩:=he;exact absurd h0 (hQ _ _ _ (by simp)))⟩
    |exact⟨hh.1,RoundIn.mono hh.2 (fun e w'' he=>by
      cases e with
      |returned v=>exact h _ _ he
      |panicked c=>exact absurd he (hQ _ _ _ (by simp))
      |outgrown=>obtain⟨a0,w0,h0⟩:=he;exact absurd h0 (hQ _ _ _ (by simp)))⟩
    |exact⟨hh.1,RowsIn.mono hh.2 (fun _ _ he=>h _ _ he)⟩
 |halt x w'=>cases x<;>simp only[Oper.uponIn] at hh ⊢<;>exact absurd hh (hQ _ _ _ (by simp))
def q6d{K1:S→Prop}{o:Oper}(ho:ops[i]?=some o)(h:wpListIn X.fn 0 X.P ops.toArray (conc X (qN K1)) [o] a w) :
  wpOpIn X.fn 0 X.P ops.toArray (conc X (qN K)) i (fun b w'=>∃ M ρ s,SAT X M ρ s w'∧REG X M ρ s b∧K1 s) a w:=by
 unfold wpOpIn;simp only[yxh,ho];unfold wpListIn at h;split
 ·rename_i hw;simp only[hw,if_true] at h;exact⟨h.1,upon_to (fun _ _ _ h=>q5d h) (fun a w hk=>hk) h.2⟩
 ·rename_i hw;simp only[hw] at h;exact⟨h.1,h.2⟩
def j0c(hr:rdyL ops.length ls 0 ops=[])(h:K s):JAny X ops K fuel ls s:=by
 intro M ρ a w l hl h1 h2;have h0:Region.ready .any ops.toArray l=[]:=by rw[List.eq_nil_iff_forall_not_mem];intro i hi;obtain⟨o,ho⟩:=(q42 hl i).1 hi;rw[hr] at ho;cases ho
 cases fuel with
 |zero=>exact⟨h0,M,ρ,s,h1,h2,h⟩
 |succ n=>exact⟨fun _=>⟨M,ρ,s,h1,h2,h⟩,fun i hi=>by rw[h0] at hi;cases hi⟩
def BrA(X:Ctx)(ops:List Oper)(K:S→Prop)(fuel:Nat)(ls:List Nat)(s:S):List (Nat×Oper)→Prop
 |[]=>True
 |p::r=>JL X true ops (qN fun s'=>JAny X ops K fuel (p.1::ls) s') [p.2] s∧BrA X ops K fuel ls s r
def BrA.mem{r:List (Nat×Oper)}(h:BrA X ops K fuel ls s r)(hp:p∈r):JL X true ops (qN fun s'=>JAny X ops K fuel (p.1::ls) s') [p.2] s:=by
 induction r with
 |nil=>cases hp
 |cons q r ih=>
  rcases yyn.1 hp with e|e
  ·subst e;exact h.1
  ·exact ih h.2 e
def BrA.one{r:List (Nat×Oper)}(h:JL X true ops (qN fun s'=>JAny X ops K fuel (p.1::ls) s') [p.2] s)(h':BrA X ops K fuel ls s r):BrA X ops K fuel ls s (p::r):=⟨h,h'⟩
def BrA.nil:BrA X ops K fuel ls s []:=trivial
def freeL(n:Nat)(ops:List Oper)(ls:List Nat)(i:Nat)(oi:Oper):Nat→List Oper→Bool
 |_,[]=>true
 |j,oj::r=>(j==i||ls.contains j||oj.after.toList.any (fun e=>Region.binds .any e&&e.on==i)||oi.apart ops.toArray oj)&&freeL n ops ls i oi (j+1) r
def q1a{n i:Nat}{oi:Oper}:∀ {r:List Oper} {k:Nat},freeL n ops ls i oi k r=true→∀ j oj,r[j]?=some oj→k+j≠i→ls.contains (k+j)=false→(∀ e∈oj.after,Region.binds .any e=true→e.on≠i)→oi.apart ops.toArray oj=true
 |[],_,_,j,oj,h,_,_,_=>by simp at h
 |x::r,k,hf,j,oj,h,hne,hc,he=>by
  simp only[freeL,yyb,yyw,beq_iff_eq] at hf;cases j with
  |zero=>
   simp at h;subst h;rcases hf.1 with((h1|h1)|h1)|h1
   ·exact absurd h1 hne
   ·rw[Nat.add_zero] at hc;rw[h1] at hc;cases hc
   ·obtain⟨e,he1,he2⟩:=List.any_eq_true.1 h1;simp only[yyb,beq_iff_eq] at he2;exact absurd he2.2 (he e (by simpa using he1) he2.1)
   ·exact h1
  |succ j=>rw[yxb] at h;exact q1a hf.2 j oj h (by omega) (by rw[show k+1+j=k+(j+1) by omega];exact hc) he
def q5j{id:Nat}(hX:XOK X)(K:S→Prop)(h:JAny X ops K ops.length [] s)(hK:∀ s,K s→QA .normal s):JC X (.region id ⟨ops⟩ true) QA s:=by
 have h':JC X (.region id ⟨ops⟩ true) (qN K) s:=by intro M ρ a w h1 h2;refine wpIn_region_any hX.mixed ?_;have hl:Lst ops.length [] (Array.replicate ops.length false):=⟨by simp,fun j hj=>by simp[hj]⟩;exact h M ρ a _ _ hl h1.drew h2
 exact h'.mono fun e s h=>by
  cases e with
  |normal=>exact hK s h
  |_=>exact False.elim h
variable {all l:List Oper}{md:Bool}{F:List Nat}
def fzL(HF:List (Nat×HO))(F:List Nat)(x:Leaf):Option (List Prop×AV):=
 match x with
 |.nils|.nilp=>some ([],.lf x)
 |.osl l=>match F.contains l with
  |true=>(match lk HF l with
   |some (.sl _ e _)=>(toK HF 8 (.slice e) (.lf x) fun c y=>some (c,y)).map fun r=>(r.1,.val (.slice e) r.2)
   |_=>none)
  |false=>some ([],.lf x)
 |.ovw l _ _ _=>match F.contains l with
  |true=>(match lk HF l with
   |some (.sl _ e _)=>(toK HF 8 (.slice e) (.lf x) fun c y=>some (c,y)).map fun r=>(r.1,.val (.slice e) r.2)
   |_=>none)
  |false=>some ([],.lf x)
 |.optr l p=>match F.contains l with
  |true=>(match lk HF l with
   |some (.cell t0 _)=>(match t0.sub p with
    |some t=>(toK HF 8 (.ptr t) (.lf x) fun c y=>some (c,y)).map fun r=>(r.1,.val (.ptr t) r.2)
    |none=>none)
   |_=>none)
  |false=>some ([],.lf x)
 |.oelt l _ _|.oarr l _ _ _|.mp l|.itr l|.yld l=>match F.contains l with
  |true=>none
  |false=>some ([],.lf x)
def fzV(HF:List (Nat×HO))(F:List Nat):AV→Option (List Prop×AV)
 |.lf x=>fzL HF F x
 |.mix a b=>(fzV HF F a).bind fun a=>(fzV HF F b).map fun b=>(a.1++b.1,.mix a.2 b.2)
 |.acons a b=>(fzV HF F a).bind fun a=>(fzV HF F b).map fun b=>(a.1++b.1,.acons a.2 b.2)
 |.fn f a b=>(fzV HF F a).bind fun a=>(fzV HF F b).map fun b=>(a.1++b.1,.fn f a.2 b.2)
 |.tup a=>(fzV HF F a).map fun a=>(a.1,.tup a.2)
 |.gd g a=>(fzV HF F a).map fun a=>(a.1,.gd g a.2)
 |.pfn a=>(fzV HF F a).map fun a=>(a.1,.pfn a.2)
 |.raw _=>none
 |v=>some ([],v)
def fzR(HF:List (Nat×HO))(F:List Nat)(L:List (Nat×AV)):List Nat→Option (List Prop×List (Nat×AV))
 |[]=>some ([],[])
 |d::r=>match lk L d with
  |some v=>(fzV HF F v).bind fun v=>(fzR HF F L r).map fun r=>(v.1++r.1,(d,v.2)::r.2)
  |none=>none
def fzH(HF:List (Nat×HO))(F:List Nat):List (Nat×HO)→Option (List Prop×List (Nat×HO))
 |[]=>some ([],[])
 |(l,o)::r=>match F.contains l with
  |true=>fzH HF F r
  |false=>match o with
   |.cell t a=>(fzV HF F a).bind fun a=>if confB t a.2 then(fzH HF F r).map fun r=>(a.1++r.1,(l,.cell t a.2)::r.2) else none
   |.sl eid e xs=>(fzH HF F r).map fun r=>(r.1,(l,.sl eid e xs)::r.2)
   |.map kt vt es clk=>(fzH HF F r).map fun r=>(r.1,(l,.map kt vt es clk)::r.2)
   |.iter m since seen last=>(fzH HF F r).map fun r=>(r.1,(l,.iter m since seen last)::r.2)
   |.cus Q=>(fzH HF F r).map fun r=>(r.1,(l,.cus Q)::r.2)
   |.loop st pe ps az bd n L=>(fzR HF F L (L.map (·.1))).bind fun q=>(fzH HF F r).map fun r=>(q.1++r.1,(l,.loop st pe ps az bd n q.2)::r.2)
   |.fr i L=>(fzR HF F L (L.map (·.1))).bind fun q=>(fzH HF F r).map fun r=>(q.1++r.1,(l,.fr i q.2)::r.2)
   |.raw ..|.rmap ..|.riter ..|.gl ..=>none
def pickF(H:List (Nat×HO))(F:List Nat):List (Nat×HO):=H.filter fun p=>F.contains p.1
def frz(F K:List Nat)(s:S):Option (List Prop×S):=(fzR (pickF s.H F) F s.L K).bind fun l=>(fzH (pickF s.H F) F s.H).map fun h=>(l.1++h.1,⟨l.2,h.2,s.nx⟩)
def q54{m:Nat}:∀ {H:List (Nat×HO)},lk (pickF H F) m=if F.contains m=true then lk H m else none
 |[]=>by simp only[pickF,List.filter_nil,lk,ite_self]
 |(k,v)::H=>by
  have ih:=@q54 m H;unfold pickF at ih ⊢;rw[List.filter_cons];by_cases hk:F.contains k=true
  ·rw[if_pos hk];simp only[lk,ih];by_cases h2:k=m
   ·subst h2;rw[if_pos rfl,if_pos rfl,if_pos hk]
   ·rw[if_neg h2,if_neg h2]
  ·rw[if_neg hk,ih];simp only[lk];by_cases h2:k=m
   ·subst h2;rw[if_neg hk,if_neg hk]
   ·rw[if_neg h2]
noncomputable def frzM(F:List Nat)(s:S)(M:Mem)(ρ:Env)(w:World):Mem:=fun b=>open Classical in if ∃ l o,lk (pickF s.H F) l=some o∧o.at ρ l=some b then w.heap[b]? else M b
def q81(h1:SAT X M ρ s w):∀ b o,M b=some o→frzM F s M ρ w b=some o:=fun b o hb=>by
 unfold frzM;split
 ·rename_i h;obtain⟨l,o',h2,h3⟩:=h;rw[q54] at h2;split at h2
  ·rw[h1.notM l o' b h2 h3] at hb;cases hb
  ·cases h2
 ·exact hb
def q6y(h1:SAT X M ρ s w):M.le (frzM F s M ρ w):=fun b _ _ _ hb=>q81 h1 b _ hb
def z70(h1:SAT X M ρ s w):SAT X M ρ ⟨s.L,pickF s.H F,s.nx⟩ w:=by
 have hs:∀ l o,lk (pickF s.H F) l=some o→lk s.H l=some o:=fun l o h=>by
  rw[q54] at h;split at h
  ·exact h
  ·cases h
 exact⟨h1.below,h1.msub,h1.mnew,h1.mem,fun l o h=>h1.own l o (hs l o h),fun l l' o o' b h h'=>h1.apart l l' o o' b (hs _ _ h) (hs _ _ h'),fun l o b h=>h1.notM l o b (hs _ _ h)⟩
def frz_seen(h1:SAT X M ρ s w):Seen ρ ⟨s.L,pickF s.H F,s.nx⟩ M (frzM F s M ρ w) w:=⟨q6y h1,fun l o b h hb=>by unfold frzM;rw[if_pos ⟨l,o,h,hb⟩]⟩
def z7z(h1:SAT X M ρ s w){x:Leaf}{r:List Prop×AV}(h:fzL (pickF s.H F) F x=some r)(hc:allP r.1)(hb:x.bd s.nx) :
  r.2.bd s.nx∧(∀ u,(AV.lf x).rv M ρ u→r.2.rv (frzM F s M ρ w) ρ u)∧(∀ cs,(AV.lf x).rc M ρ cs→r.2.rc (frzM F s M ρ w) ρ cs):=by
 have keep:∀ {x:Leaf},x.bd s.nx→(AV.lf x).bd s.nx∧(∀ u,(AV.lf x).rv M ρ u→(AV.lf x).rv (frzM F s M ρ w) ρ u)∧(∀ cs,(AV.lf x).rc M ρ cs→(AV.lf x).rc (frzM F s M ρ w) ρ cs):=fun hb=>⟨hb,fun u hu=>w3 (q6y h1) (Env.upTo.refl ρ s.nx) (a:=.lf _) hb hu,fun cs hu=>y9 (q6y h1) (Env.upTo.refl ρ s.nx) (a:=.lf _) hb hu⟩
 have data:∀ {t:Ty} {v:AV} {q:List Prop×AV},((toK (pickF s.H F) 8 t v fun c y=>some (c,y)).map fun r=>(r.1,AV.val t r.2))=some q→allP q.1 →
   q.2.bd s.nx∧(∀ u,v.rv M ρ u→q.2.rv (frzM F s M ρ w) ρ u)∧(∀ cs,v.rc M ρ cs→q.2.rc (frzM F s M ρ w) ρ cs):=fun {t v q} hq hc=>by
  simp only[yyk] at hq;obtain⟨p,hp,rfl⟩:=hq;obtain⟨cs,y,hk,hy⟩:=q02 (z70 (F:=F) h1) (frz_seen h1) 8 hp;injection hk with hk;subst hk
  have hy:=hy hc;refine⟨trivial,fun u hu=>?_,fun cs hu=>?_⟩
  ·simp only[AV.rv];exact hy.1 u hu
  ·simp only[AV.rc];exact hy.2 cs hu
 unfold fzL at h;split at h
 ·injection h with h;subst h;exact keep hb
 ·injection h with h;subst h;exact keep hb
 ·split at h
  ·split at h
   ·exact data h hc
   ·cases h
  ·injection h with h;subst h;exact keep hb
 ·split at h
  ·split at h
   ·exact data h hc
   ·cases h
  ·injection h with h;subst h;exact keep hb
 ·split at h
  ·split at h
   ·split at h
    ·exact data h hc
    ·cases h
   ·cases h
  ·injection h with h;subst h;exact keep hb
 ·split at h
  ·cases h
  ·injection h with h;subst h;exact keep hb
 ·split at h
  ·cases h
  ·injection h with h;subst h;exact keep hb
 ·split at h
  ·cases h
  ·injection h with h;subst h;exact keep hb
 ·split at h
  ·cases h
  ·injection h with h;subst h;exact keep hb
 ·split at h
  ·cases h
  ·injection h with h;subst h;exact keep hb
def q09(h1:SAT X M ρ s w):∀ {v:AV} {r:List Prop×AV},fzV (pickF s.H F) F v=some r→allP r.1→v.bd s.nx →
  r.2.bd s.nx∧(∀ u,v.rv M ρ u→r.2.rv (frzM F s M ρ w) ρ u)∧(∀ us,v.rvs M ρ us→r.2.rvs (frzM F s M ρ w) ρ us)∧(∀ cs,v.rc M ρ cs→r.2.rc (frzM F s M ρ w) ρ cs):=by
 intro v;have hle:=q6y (F:=F) h1;have hr:=Env.upTo.refl ρ s.nx;induction v with
 |lf x=>intro r h hc hb;simp only[fzV] at h;obtain⟨e1,e2,e3⟩:=z7z h1 h hc hb;exact⟨e1,e2,fun us hu=>by simp only[AV.rvs] at hu,e3⟩
 |mix x y ihx ihy=>
  intro r h hc hb;simp only[fzV,yym,yyk] at h;obtain⟨p,hp,q,hq,rfl⟩:=h;rw[z6] at hc;obtain⟨a1,a2,a3,a4⟩:=ihx hp hc.1 hb.1;obtain⟨b1,b2,b3,b4⟩:=ihy hq hc.2 hb.2;refine⟨⟨a1,b1⟩,fun u hu=>?_,fun us hu=>by simp only[AV.rvs] at hu,fun cs hu=>?_⟩
  ·simp only[AV.rv] at hu ⊢;obtain⟨c1,c2,k1,k2,k3⟩:=hu;exact⟨c1,c2,a4 _ k1,b4 _ k2,k3⟩
  ·simp only[AV.rc] at hu ⊢;obtain⟨c1,c2,k1,k2,k3⟩:=hu;exact⟨c1,c2,a4 _ k1,b4 _ k2,k3⟩
 |acons x y ihx ihy=>intro r h hc hb;simp only[fzV,yym,yyk] at h;obtain⟨p,hp,q,hq,rfl⟩:=h;rw[z6] at hc;obtain⟨a1,a2,a3,a4⟩:=ihx hp hc.1 hb.1;obtain⟨b1,b2,b3,b4⟩:=ihy hq hc.2 hb.2;refine⟨⟨a1,b1⟩,fun u hu=>by simp only[AV.rv] at hu,fun us hu=>?_,fun cs hu=>by simp only[AV.rc] at hu⟩;simp only[AV.rvs] at hu ⊢;obtain⟨v,r',k1,k2,k3⟩:=hu;exact⟨v,r',a2 _ k1,b3 _ k2,k3⟩
 |fn f x y ihx ihy=>
  intro r h hc hb;simp only[fzV,yym,yyk] at h;obtain⟨p,hp,q,hq,rfl⟩:=h;rw[z6] at hc;obtain⟨a1,a2,a3,a4⟩:=ihx hp hc.1 hb.1;obtain⟨b1,b2,b3,b4⟩:=ihy hq hc.2 hb.2;refine⟨⟨a1,b1⟩,fun u hu=>?_,fun us hu=>by simp only[AV.rvs] at hu,fun cs hu=>?_⟩
  ·simp only[AV.rv] at hu ⊢;obtain⟨fs,ks,k1,k2,k3⟩:=hu;exact⟨fs,ks,a3 _ k1,b3 _ k2,k3⟩
  ·simp only[AV.rc] at hu ⊢;obtain⟨fs,ks,k1,k2,k3⟩:=hu;exact⟨fs,ks,a3 _ k1,b3 _ k2,k3⟩
 |tup x ihx=>intro r h hc hb;simp only[fzV,yyk] at h;obtain⟨p,hp,rfl⟩:=h;obtain⟨a1,a2,a3,a4⟩:=ihx hp hc hb;refine⟨a1,fun u hu=>?_,fun us hu=>by simp only[AV.rvs] at hu,fun cs hu=>by simp only[AV.rc] at hu⟩;simp only[AV.rv] at hu ⊢;obtain⟨vs,k1,k2⟩:=hu;exact⟨vs,a3 _ k1,k2⟩
 |raw x=>intro r h hc hb;simp[fzV] at h
 |pfn x ihx=>intro r h hc hb;simp only[fzV,yyk] at h;obtain⟨p,hp,rfl⟩:=h;obtain⟨a1,a2,a3,a4⟩:=ihx hp hc hb;refine⟨a1,fun u hu=>?_,fun us hu=>by simp only[AV.rvs] at hu,fun cs hu=>by simp only[AV.rc] at hu⟩;simp only[AV.rv] at hu ⊢;obtain⟨b,fv,ty,fz,k1,k2,k3⟩:=hu;exact⟨b,fv,ty,fz,k1,hle _ _ _ _ k2,a2 _ k3⟩
 |gd g x ihx=>
  intro r h hc hb;simp only[fzV,yyk] at h;obtain⟨p,hp,rfl⟩:=h;refine⟨fun hg=>(ihx hp hc (hb hg)).1,fun u hu=>?_,fun us hu=>by simp only[AV.rvs] at hu,fun cs hu=>by simp only[AV.rc] at hu⟩;simp only[AV.rv] at hu ⊢;cases g with
  |true=>exact⟨fun hg=>(ihx hp hc (hb rfl)).2.1 _ (hu.1 hg),fun h=>by cases h⟩
  |false=>exact⟨fun h=>(by cases h),hu.2⟩
 |val t x=>intro r h hc hb;simp only[fzV,yya] at h;subst h;exact⟨hb,fun u hu=>w3 hle hr hb hu,fun us hu=>v5 hle hr hb hu,fun cs hu=>y9 hle hr hb hu⟩
 |anil=>intro r h hc hb;simp only[fzV,yya] at h;subst h;exact⟨hb,fun u hu=>w3 hle hr hb hu,fun us hu=>v5 hle hr hb hu,fun cs hu=>y9 hle hr hb hu⟩
 |undef=>intro r h hc hb;simp only[fzV,yya] at h;subst h;exact⟨hb,fun u hu=>w3 hle hr hb hu,fun us hu=>v5 hle hr hb hu,fun cs hu=>y9 hle hr hb hu⟩
 |full e x=>intro r h hc hb;simp only[fzV,yya] at h;subst h;exact⟨hb,fun u hu=>w3 hle hr hb hu,fun us hu=>v5 hle hr hb hu,fun cs hu=>y9 hle hr hb hu⟩
def q0i{HF:List (Nat×HO)}:∀ {H:List (Nat×HO)} {r:List Prop×List (Nat×HO)},fzH HF F H=some r→allP r.1→∀ l o',lk r.2 l=some o'→F.contains l=false∧∃ o,lk H l=some o ∧
  (match o with
   |.cell t a=>∃ q,fzV HF F a=some q∧allP q.1∧confB t q.2=true∧o'=.cell t q.2
   |.sl eid e xs=>o'=.sl eid e xs
   |.map kt vt es clk=>o'=.map kt vt es clk
   |.iter m since seen last=>o'=.iter m since seen last
   |.cus Q=>o'=.cus Q
   |.loop st pe ps az bd n L=>∃ q,fzR HF F L (L.map (·.1))=some q∧allP q.1∧o'=.loop st pe ps az bd n q.2
   |.fr i L=>∃ q,fzR HF F L (L.map (·.1))=some q∧allP q.1∧o'=.fr i q.2
   |.raw ..|.rmap ..|.riter ..|.gl ..=>False)
 |[],r,h,_,l,o',hl=>by simp only[fzH,yya] at h;subst h;simp[lk] at hl
 |(k,u)::H,r,h,hc,l,o',hl=>by
  simp only[fzH] at h;split at h
  ·rename_i hk;obtain⟨e1,o,e2,e3⟩:=q0i h hc l o' hl;refine⟨e1,o,?_,e3⟩;have:k≠l:=by rintro rfl;rw[hk] at e1;cases e1
   simp only[lk,if_neg this,e2]
  ·rename_i hk;cases u with
   |raw ty k n c=>cases h
   |rmap es clk=>cases h
   |riter m since seen last bk=>cases h
   |gl g ty n c=>cases h
   |cell t a=>
    simp only[yym] at h;obtain⟨q,hq,h⟩:=h;split at h
    ·rename_i hcf;simp only[yyk] at h;obtain⟨p,hp,rfl⟩:=h;rw[z6] at hc;simp only[lk] at hl ⊢;by_cases e:k=l
     ·subst e;rw[if_pos rfl] at hl;injection hl with hl;subst hl
      exact⟨hk,.cell t a,by rw[if_pos rfl],q,hq,hc.1,hcf,rfl⟩
     ·rw[if_neg e] at hl ⊢;exact q0i hp hc.2 l o' hl
    ·cases h
   |sl eid e' xs=>
    simp only[yyk] at h;obtain⟨p,hp,rfl⟩:=h;simp only[lk] at hl ⊢;by_cases e:k=l
    ·subst e;rw[if_pos rfl] at hl;injection hl with hl;subst hl
     exact⟨hk,.sl eid e' xs,by rw[if_pos rfl],rfl⟩
    ·rw[if_neg e] at hl ⊢;exact q0i hp hc l o' hl
   |map kt vt es clk=>
    simp only[yyk] at h;obtain⟨p,hp,rfl⟩:=h;simp only[lk] at hl ⊢;by_cases e:k=l
    ·subst e;rw[if_pos rfl] at hl;injection hl with hl;subst hl
     exact⟨hk,.map kt vt es clk,by rw[if_pos rfl],rfl⟩
    ·rw[if_neg e] at hl ⊢;exact q0i hp hc l o' hl
   |iter m since seen last=>
    simp only[yyk] at h;obtain⟨p,hp,rfl⟩:=h;simp only[lk] at hl ⊢;by_cases e:k=l
    ·subst e;rw[if_pos rfl] at hl;injection hl with hl;subst hl
     exact⟨hk,.iter m since seen last,by rw[if_pos rfl],rfl⟩
    ·rw[if_neg e] at hl ⊢;exact q0i hp hc l o' hl
   |cus Q=>
    simp only[yyk] at h;obtain⟨p,hp,rfl⟩:=h;simp only[lk] at hl ⊢;by_cases e:k=l
    ·subst e;rw[if_pos rfl] at hl;injection hl with hl;subst hl
     exact⟨hk,.cus Q,by rw[if_pos rfl],rfl⟩
    ·rw[if_neg e] at hl ⊢;exact q0i hp hc l o' hl
   |loop st pe ps az bd n L=>
    simp only[yym,yyk] at h;obtain⟨q,hq,p,hp,rfl⟩:=h;rw[z6] at hc;simp only[lk] at hl ⊢;by_cases e:k=l
    ·subst e;rw[if_pos rfl] at hl;injection hl with hl;subst hl
     exact⟨hk,.loop st pe ps az bd n L,by rw[if_pos rfl],q,hq,hc.1,rfl⟩
    ·rw[if_neg e] at hl ⊢;exact q0i hp hc.2 l o' hl
   |fr i L=>
    simp only[yym,yyk] at h;obtain⟨q,hq,p,hp,rfl⟩:=h;rw[z6] at hc;simp only[lk] at hl ⊢;by_cases e:k=l
    ·subst e;rw[if_pos rfl] at hl;injection hl with hl;subst hl
     exact⟨hk,.fr i L,by rw[if_pos rfl],q,hq,hc.1,rfl⟩
    ·rw[if_neg e] at hl ⊢;exact q0i hp hc.2 l o' hl
def z16{HF:List (Nat×HO)}{L:List (Nat×AV)}:∀ {K:List Nat} {r:List Prop×List (Nat×AV)},fzR HF F L K=some r→allP r.1→∀ d v',(d,v')∈r.2 →
  ∃ v q,lk L d=some v∧fzV HF F v=some q∧allP q.1∧v'=q.2
 |[],r,h,_,d,v',hl=>by simp only[fzR,yya] at h;subst h;cases hl
 |k::K,r,h,hc,d,v',hl=>by
  simp only[fzR] at h;split at h
  ·rename_i v hv;simp only[yym,yyk] at h;obtain⟨q,hq,p,hp,rfl⟩:=h;rw[z6] at hc;rcases yyn.1 hl with e|e
   ·injection e with e1 e2;subst e1 e2
    exact⟨v,q,hv,hq,hc.1,rfl⟩
   ·exact z16 hp hc.2 d v' e
  ·cases h
def q57{HF:List (Nat×HO)}{L:List (Nat×AV)}:∀ {K:List Nat} {r:List Prop×List (Nat×AV)},fzR HF F L K=some r→allP r.1→∀ d v',lk r.2 d=some v' →
  ∃ v q,lk L d=some v∧fzV HF F v=some q∧allP q.1∧v'=q.2
 |[],r,h,_,d,v',hl=>by simp only[fzR,yya] at h;subst h;simp[lk] at hl
 |k::K,r,h,hc,d,v',hl=>by
  simp only[fzR] at h;split at h
  ·rename_i v hv;simp only[yym,yyk] at h;obtain⟨q,hq,p,hp,rfl⟩:=h;rw[z6] at hc;simp only[lk] at hl;by_cases e:k=d
   ·subst e;rw[if_pos rfl] at hl;injection hl with hl
    exact⟨v,q,hv,hq,hc.1,hl.symm⟩
   ·rw[if_neg e] at hl;exact q57 hp hc.2 d v' hl
  ·cases h
def q6x{K:List Nat}{r:List Prop×S}(h:frz F K s=some r)(hc:allP r.1)(h1:SAT X M ρ s w)(h2:REG X M ρ s a) :
  SAT X (frzM F s M ρ w) ρ r.2 w∧REG X (frzM F s M ρ w) ρ r.2 a:=by
 simp only[frz,yym,yyk] at h;obtain⟨p,hp,q,hq,rfl⟩:=h;rw[z6] at hc;have hle:=q6y (F:=F) h1;have hr:=Env.upTo.refl ρ s.nx;have hH:=q0i hq hc.2;have hat:∀ l o',lk q.2 l=some o'→∃ o,lk s.H l=some o∧∀ b,o'.at ρ l=some b→o.at ρ l=some b:=fun l o' hl=>by
  obtain⟨e1,o,e2,e3⟩:=hH l o' hl;refine⟨o,e2,fun b hb=>?_⟩;cases o with
  |cell t a0=>obtain⟨q',_,_,_,rfl⟩:=e3;exact hb
  |sl eid e xs=>subst e3;exact hb
  |map kt vt es clk=>subst e3;exact hb
  |iter m since seen last=>subst e3;exact hb
  |cus Q=>subst e3;exact hb
  |loop st pe ps az bd n L=>obtain⟨q',_,_,rfl⟩:=e3;exact hb
  |fr i L=>obtain⟨q',_,_,rfl⟩:=e3;exact hb
  |raw ty k n c=>exact e3.elim
  |rmap es clk=>exact e3.elim
  |riter m since seen last bk=>exact e3.elim
  |gl g ty n c=>exact e3.elim
 have hown:∀ b,(∃ l o,lk (pickF s.H F) l=some o∧o.at ρ l=some b)→X.E.heap.size≤b:=fun b ⟨l,o,e1,e2⟩=>(u6 ((z70 (F:=F) h1).own l o e1).2.2 e2).1
 refine⟨⟨h1.below,fun b o hb=>q81 h1 b o (h1.msub b o hb),fun b hb=>?_,fun b o hb=>?_,fun l o' hl=>?_,fun l l' o o' b hl hl' hb hb'=>?_,fun l o b hl hb=>?_⟩,⟨h2.size,let ⟨Ds,e1,e2,e3,e4⟩:=h2.defers;⟨Ds,e1,e2,fun D hD=>⟨(e3 D hD).1,q81 h1 _ _ (e3 D hD).2⟩,e4⟩,fun d v' hd=>?_⟩⟩
 ·unfold frzM;split
  ·rename_i h;have:=hown b h;omega
  ·exact h1.mnew b hb
 ·unfold frzM at hb;split at hb
  ·exact hb
  ·exact h1.mem b o hb
 ·obtain⟨e1,o,e2,e3⟩:=hH l o' hl;obtain⟨f1,f2,f3⟩:=h1.own l o e2;cases o with
  |raw ty k n c=>exact e3.elim
  |rmap es clk=>exact e3.elim
  |riter m since seen last bk=>exact e3.elim
  |gl g ty n c=>exact e3.elim
  |cell t a0=>obtain⟨q',g1,g2,g3,rfl⟩:=e3;simp only[HO.ok] at f3;obtain⟨k1,k2,k3,c,ty,k4,k5⟩:=f3;obtain⟨b1,_,_,b4⟩:=q09 h1 g1 g2 f2;refine⟨f1,b1,?_⟩;simp only[HO.ok];exact⟨k1,g3,k3,c,ty,k4,b4 _ k5⟩
  |sl eid e xs=>subst e3;simp only[HO.ok] at f3;obtain⟨k1,cs,k2,k3⟩:=f3;refine⟨f1,f2,?_⟩;simp only[HO.ok];exact⟨k1,cs,k2,k3.mono hle⟩
  |map kt vt es clk=>subst e3;simp only[HO.ok] at f3;obtain⟨k1,ms,k2,k3⟩:=f3;refine⟨f1,f2,?_⟩;simp only[HO.ok];exact⟨k1,ms,k2,k3.mono hle⟩
  |iter m since seen last=>subst e3;refine⟨f1,f2,?_⟩;simp only[HO.ok] at f3 ⊢;exact f3
  |cus Q=>subst e3;refine⟨f1,f2,?_⟩;simp only[HO.ok] at f3 ⊢;exact f3
  |loop st pe ps az bd n L=>
   obtain⟨q',g1,g2,rfl⟩:=e3;simp only[HO.ok] at f3;obtain⟨k1,fn,tm,D,k2,k3,k4⟩:=f3;refine⟨f1,fun p hp=>?_,?_⟩
   ·obtain⟨v,q2,m1,m2,m3,m4⟩:=z16 g1 g2 p.1 p.2 hp;rw[m4];exact(q09 h1 m2 m3 (f2 _ (p5 m1))).1
   ·simp only[HO.ok];refine⟨k1,fn,tm,D,k2,k3,fun d v' hd=>?_⟩;obtain⟨v,q2,m1,m2,m3,rfl⟩:=q57 g1 g2 d v' hd;exact(q09 h1 m2 m3 (f2 _ (p5 m1))).2.1 _ (k4 d v m1)
  |fr i L=>
   obtain⟨q',g1,g2,rfl⟩:=e3;simp only[HO.ok] at f3;refine⟨f1,fun p hp=>?_,?_⟩
   ·obtain⟨v,q2,m1,m2,m3,m4⟩:=z16 g1 g2 p.1 p.2 hp;rw[m4];exact(q09 h1 m2 m3 (f2 _ (p5 m1))).1
   ·simp only[HO.ok];refine⟨f3.1,fun d v' hd=>?_⟩;obtain⟨v,q2,m1,m2,m3,rfl⟩:=q57 g1 g2 d v' hd;exact(q09 h1 m2 m3 (f2 _ (p5 m1))).2.1 _ (f3.2 d v m1)
 ·obtain⟨o1,e1,e2⟩:=hat l o hl;obtain⟨o2,e3,e4⟩:=hat l' o' hl';exact h1.apart l l' o1 o2 b e1 e3 (e2 b hb) (e4 b hb')
 ·obtain⟨o1,e1,e2⟩:=hat l o hl;unfold frzM;split
  ·rename_i h;obtain⟨l',o',f1,f2⟩:=h;rw[q54] at f1;split at f1
   ·rename_i hF;have:=h1.apart l l' o1 o' b e1 f1 (e2 b hb) f2;subst this;rw[(hH l o hl).1] at hF;cases hF
   ·cases f1
  ·exact h1.notM l o1 b e1 (e2 b hb)
 ·obtain⟨v,q',e1,e2,e3,rfl⟩:=q57 hp hc.1 d v' hd;obtain⟨f1,f2⟩:=h2.reg d v e1;obtain⟨b1,b2,_,_⟩:=q09 h1 e2 e3 f1;exact⟨b1,b2 _ f2⟩
def JC.frz{c:Code}{cs:List Prop}{s':S}(F K:List Nat)(h:Ox.frz F K s=some (cs,s'))(hc:allP cs)(k:JC X c QA s'):JC X c QA s:=fun M ρ a w h1 h2=>by obtain⟨e1,e2⟩:=q6x h hc h1 h2;exact k _ ρ a w e1 e2
def JL.frz{cs:List Prop}{s':S}(F K:List Nat)(h:Ox.frz F K s=some (cs,s'))(hc:allP cs)(k:JL X md all QA l s'):JL X md all QA l s:=by
 cases md
 ·intro M ρ a w h1 h2;obtain⟨e1,e2⟩:=q6x h hc h1 h2;exact k _ ρ a w e1 e2
 ·intro M ρ a w h1 h2;obtain⟨e1,e2⟩:=q6x h hc h1 h2;exact k _ ρ a w e1 e2
def q0v(w:World)(row:Option Nat):w.grownBy w row:=⟨rfl,rfl,rfl,yyo _,fun _ _ _=>rfl⟩
def Env.nilAt(ρ:Env)(n:Nat)(e:Ty):Env:=⟨ρ.blk,fun k=>if k=n then e else ρ.ty k,fun k=>if k=n then .slice none 0 0 else ρ.sv k⟩
def q0m(ρ:Env)(n:Nat)(e:Ty):ρ.upTo (ρ.nilAt n e) n:=fun l hl=>by
 have:l≠n:=by omega
 simp[Env.nilAt,this]
def SAT.ghost(h1:SAT X M ρ s w)(eid:TypeId)(e:Ty):SAT X M (ρ.nilAt s.nx e) ⟨s.L,(s.nx,.sl eid e [])::s.H,s.nx+1⟩ w:=by
 refine h1.add (row:=none) (q0v w none) (fun b h=>by cases h) (fun l o h=>⟨h,fun b _ hb=>by cases hb⟩) (q0m ρ s.nx e) trivial ?_ (fun b hb=>?_)
 ·simp only[HO.ok];refine⟨by simp[Env.nilAt],[],⟨by simp,.inl ⟨by simp[Env.nilAt],rfl⟩⟩,by simp,fun i h=>absurd h (by simp)⟩
 ·simp[HO.at,Env.nilAt,Value.ownBlock] at hb
def z61{n:Nat}{e:Ty}:(AV.lf (.osl n)).rv M (ρ.nilAt n e) (.slice none 0 0):=by simp only[AV.rv,Leaf.at];exact⟨by simp[Env.nilAt],rfl⟩
def nils_rv{u:Value}(h:(AV.lf .nils).rv M ρ u):u=.slice none 0 0:=by simp only[AV.rv,Leaf.at] at h;exact(Option.some.inj h.1).symm
def JC.ghost{c:Code}(d:Nat)(eid:TypeId)(e:Ty)(hd:lk s.L d=some (.lf .nils))(k:JC X c QA ⟨(d,.lf (.osl s.nx))::s.L,(s.nx,.sl eid e [])::s.H,s.nx+1⟩):JC X c QA s:=fun M ρ a w h1 h2=>by
 have g1:=h1.ghost eid e;have hr:=q0m ρ s.nx e;have g2:REG X M (ρ.nilAt s.nx e) ⟨(d,.lf (.osl s.nx))::s.L,(s.nx,.sl eid e [])::s.H,s.nx+1⟩ a:=by
  refine⟨h2.size,h2.defers,fun d' v hv=>?_⟩;simp only[lk] at hv;split at hv
  ·rename_i hdd;injection hv with hv;subst hv;subst hdd
   refine⟨yy6 _,?_⟩;rw[nils_rv (h2.reg d _ hd).2];exact z61
  ·obtain⟨f1,f2⟩:=h2.reg d' v hv;exact⟨j3 (yy4 _) f1,w3 (Mem.le_refl M) hr f1 f2⟩
 exact k M _ a w ⟨g1.below,g1.msub,g1.mnew,g1.mem,g1.own,g1.apart,g1.notM⟩ g2
def ghA(n:Nat):AV→Nat→Option AV
 |.mix (.lf .nils) b,0=>some (.mix (.lf (.osl n)) b)
 |.mix a b,i+1=>(ghA n b i).map (.mix a)
 |_,_=>none
def q9(h:K s):JL X md all (qN K) [] s:=JL.nil h
def mtL:Leaf→Leaf→List (Nat×Nat)
 |.osl a,.osl b|.optr a _,.optr b _|.oelt a _ _,.oelt b _ _|.oarr a _ _ _,.oarr b _ _ _|.ovw a _ _ _,.ovw b _ _ _|.mp a,.mp b|.itr a,.itr b|.yld a,.yld b=>[(a,b)]
 |_,_=>[]
def mtV:AV→AV→List (Nat×Nat)
 |.lf x,.lf y=>mtL x y
 |.mix a b,.mix c d|.acons a b,.acons c d|.fn _ a b,.fn _ c d=>mtV a c++mtV b d
 |.tup a,.tup b|.gd _ a,.gd _ b|.pfn a,.pfn b=>mtV a b
 |_,_=>[]
def mtR(L:List (Nat×AV)):List (Nat×AV)→List (Nat×Nat)
 |[]=>[]
 |(d,v)::r=>(match lk L d with|some u=>mtV v u|none=>[])++mtR L r
def mtH(H' H:List (Nat×HO)):List (Nat×Nat)→List (Nat×Nat)
 |[]=>[]
 |(a,b)::r=>(match lk H' a,lk H b with|some (.cell _ v),some (.cell _ u)=>mtV v u|some (.iter m _ _ _),some (.iter m' _ _ _)=>[(m,m')]|some (.loop _ _ _ _ _ _ L),some (.loop _ _ _ _ _ _ L')=>mtR L' L|_,_=>[])++mtH H' H r
def frL:List (Nat×HO)→List (Nat×Nat×List (Nat×AV))
 |[]=>[]
 |(l,.fr i L)::r=>(i,l,L)::frL r
 |_::r=>frL r
def mtF(F F':List (Nat×Nat×List (Nat×AV))):List (Nat×Nat) :=
 match F with
 |[]=>[]
 |(i,l,L)::r=>(match lk F' i with|some (l',L')=>(l,l')::mtR L' L|none=>[])++mtF r F'
def pairs(s' s:S):List (Nat×Nat):=
 let p1:=mtR s.L s'.L++mtF (frL s'.H) (frL s.H)
 let p2:=mtH s'.H s.H p1
 let p3:=mtH s'.H s.H p2
 p1++(p2++p3)
def renOf(ps:List (Nat×Nat))(n:Nat):Nat:=(lk ps n).getD n
variable{s':S}
def JW.auto{ps:List (Nat×Nat)}(_:pairs s' s=ps)(hL:covL (renOf ps) s'.L s.L)(hH:covH (renOf ps) s'.H s.H)(hbL:bdL s'.nx s'.L)(hbH:bdH s'.nx s'.H)(hi:injH (renOf ps) s'.H=true):JW X s' s:=JW.of (renOf ps) hL hH hbL hbH hi
def frB(ops:List Oper)(ls:List Nat)(i:Nat):Bool:=
 match ops[i]? with
 |some o=>!ls.contains i&&edgesL ops.length ls o.after.toList&&freeL ops.length ops ls i o 0 ops
 |none=>false
def rdI(ops:List Oper)(ls:List Nat):List Nat:=(rdyL ops.length ls 0 ops).map (·.1)
def BrI(X:Ctx)(ops:List Oper)(K:S→Prop)(fuel:Nat)(ls:List Nat)(s:S):List Nat→Prop
 |[]=>True
 |i::r=>(∃ o,ops[i]?=some o∧JL X true ops (qN fun s'=>JAny X ops K fuel (i::ls) s') [o] s)∧BrI X ops K fuel ls s r
def BrI.one{r:List Nat}{o:Oper}(ho:ops[i]?=some o)(h:JL X true ops (qN fun s'=>JAny X ops K fuel (i::ls) s') [o] s)(h':BrI X ops K fuel ls s r):BrI X ops K fuel ls s (i::r):=⟨⟨o,ho,h⟩,h'⟩
def BrI.nil:BrI X ops K fuel ls s []:=trivial
def rgn(id:Nat):Code→List Oper
 |.region id' ops _=>match Nat.beq id' id with|true=>ops.toList|false=>[]
 |.seq a b=>match rgn id a with|[]=>rgn id b|l=>l
 |.block _ c=>rgn id c
 |.loop c=>rgn id c
 |.scope c=>rgn id c
 |.rangeFunc _ _ a b=>match rgn id a with|[]=>rgn id b|l=>l
 |.cond _ a b=>match rgn id a with|[]=>rgn id b|l=>l
 |_=>[]
variable {a':Act}{fl fr:List Nat}
def PutsR(ops:List Oper):List Nat→Act→Act→Prop
 |[],a,a'=>a'=a
 |f::r,a,a'=>∃ o z,ops[f]?=some o∧PutsR ops r (a.put o.dst z) a'
def NoSel(ops:List Oper):Prop:=∀ (j:Nat) (o:Oper) cs b,ops[j]?=some o→o.op≠.select cs b
def PutsR.put{d:Option Nat}{z:Value}:∀ {fr:List Nat} {a a':Act},PutsR ops fr a a'→(∀ f∈fr,∀ o,ops[f]?=some o→∀ e,o.dst=some e→d≠some e)→PutsR ops fr (a.put d z) (a'.put d z)
 |[],a,a',h,_=>by simp only[PutsR] at h ⊢;rw[h]
 |f::r,a,a',h,hd=>by simp only[PutsR] at h ⊢;obtain⟨o,y,ho,h⟩:=h;refine⟨o,y,ho,?_⟩;have h1:=PutsR.put (d:=d) (z:=z) h fun g hg=>hd g (yyi _ hg);rw[Act.put_comm a (x:=o.dst) (y:=d) y z (fun e he=>hd f yyj o ho e he)] at h1;exact h1
def z2o(a:Act)(d:Option Nat)(y z:Value):(a.put d y).put d z=a.put d z:=by
 cases d with
 |none=>rfl
 |some d=>simp only[Act.put];congr 1;exact Array.setIfInBounds_setIfInBounds _
def PutsR.erase{k:Nat}{ok:Oper}{z:Value}(hk:ops[k]?=some ok):∀ {fr:List Nat} {a a':Act},PutsR ops fr a a'→k∈fr→fr.Nodup →
  (∀ f∈fr,f≠k→∀ o,ops[f]?=some o→∀ e,o.dst=some e→ok.dst≠some e)→PutsR ops (fr.erase k) (a.put ok.dst z) (a'.put ok.dst z)
 |[],_,_,_,hm,_,_=>by cases hm
 |f::r,a,a',h,hm,hn,hd=>by
  simp only[PutsR] at h;obtain⟨o,y,ho,h⟩:=h;by_cases hf:f=k
  ·subst hf;rw[hk] at ho;injection ho with ho;subst ho
   rw[List.erase_cons_head];have h1:=PutsR.put (d:=ok.dst) (z:=z) h fun g hg o' ho' e he=>hd g (yyi _ hg) (fun e'=>by subst e';exact(yx2.1 hn).1 hg) o' ho' e he;rw[z2o] at h1;exact h1
  ·rw[List.erase_cons_tail (by simpa using hf)];have h1:=PutsR.erase (z:=z) hk h ((yyn.1 hm).resolve_left (Ne.symm hf)) (yx2.1 hn).2 fun g hg=>hd g (yyi _ hg);refine⟨o,y,ho,?_⟩;rw[Act.put_comm a (x:=o.dst) (y:=ok.dst) y z (fun e he=>hd f yyj hf o ho e he)] at h1;exact h1
def PutsR.exec{o:Oper}(hs:∀ cs b,o.op≠.select cs b):∀ {fr:List Nat} {a a':Act},PutsR ops fr a a'→(∀ f∈fr,∀ q,ops[f]?=some q→∀ d,q.dst=some d→d∉o.looksAt ops.toArray) →
  execOp a'.eval o=execOp a.eval o∧Region.wanted o (yielded ops.toArray a'.tmps)=Region.wanted o (yielded ops.toArray a.tmps)
 |[],a,a',h,_=>by simp only[PutsR] at h;subst h;exact⟨rfl,rfl⟩
 |f::r,a,a',h,hd=>by simp only[PutsR] at h;obtain⟨q,y,hq,h⟩:=h;obtain⟨h1,h2⟩:=PutsR.exec hs h fun g hg=>hd g (yyi _ hg);have hn:=hd f yyj q hq;exact⟨h1.trans (execOp_put o hs a q.dst y hn),h2.trans (wanted_put o a q.dst y hn)⟩
def PutsR.op{Q:Exit→Act→World→Prop}{j:Nat}{oj:Oper}(hQ:∀ e a w,e≠.normal→¬ Q e a w)(hj:ops[j]?=some oj)(hsj:∀ cs b,oj.op≠.select cs b)(hn:notDef oj.op=true) :
  ∀ {fr:List Nat} {K:Act→World→Prop} {a a':Act},PutsR ops fr a a'→(∀ f∈fr,∀ q,ops[f]?=some q→(∀ d,q.dst=some d→d∉oj.looksAt ops.toArray)∧(∀ d,q.dst=some d→oj.dst≠some d)) →
  wpOpIn X.fn 0 X.P ops.toArray Q j K a' w→wpOpIn X.fn 0 X.P ops.toArray Q j (fun b w'=>∃ b',PutsR ops fr b b'∧K b' w') a w
 |[],K,a,a',h,_,hw=>by simp only[PutsR] at h;subst h;exact wpOpIn_mono (fun b w' hk=>⟨b,rfl,hk⟩) hw
 |f::r,K,a,a',h,hd,hw=>by simp only[PutsR] at h;obtain⟨q,y,hq,h⟩:=h;have h1:=PutsR.op hQ hj hsj hn h (fun g hg=>hd g (yyi _ hg)) hw;obtain⟨e1,e2⟩:=hd f yyj q hq;have h2:=z5i (oi:=q) hQ (by simpa using hj) e1 e2 hsj hn h1;exact wpOpIn_mono (fun b w' ⟨b',hp,hk⟩=>⟨b',⟨q,y,hq,hp⟩,hk⟩) h2
def LstF(n:Nat)(ls fr:List Nat)(l:Array Bool):Prop:=l.size=n∧∀ j,j<n→l[j]?=some (ls.contains j&&!fr.contains j)
def JF(X:Ctx)(ops:List Oper)(K:S→Prop)(fl:List Nat)(fuel:Nat)(ls:List Nat)(s:S):Prop:=∀ M ρ a a' w l fr,(∀ f∈fr,f∈fl)→fr.Nodup→LstF ops.length ls fr l→PutsR ops fr a a'→SAT X M ρ s w→REG X M ρ s a'→wpAnyIn X.fn 0 X.P .any ops.toArray (conc X (qN K)) (fuel+fr.length) l a w
def JF.any(h:JF X ops K [] fuel ls s):JAny X ops K fuel ls s:=by intro M ρ a w l hl h1 h2;exact h M ρ a a w l [] (by simp) (by simp) ⟨hl.1,fun j hj=>by rw[hl.2 j hj];simp⟩ rfl h1 h2
def LstF.getT{n j:Nat}{l:Array Bool}(h:LstF n ls fr l)(hj:j<n)(d:Bool):l.getD j d=(ls.contains j&&!fr.contains j):=by have:=h.2 j hj;simp[yyy,this]
def LstF.setNew{n i:Nat}{l:Array Bool}(h:LstF n ls fr l)(hi:i<n)(hf:i∉fr):LstF n (i::ls) fr (l.setIfInBounds i true):=by
 refine⟨by simp[h.1],fun j hj=>?_⟩;rw[yxp];by_cases e:i=j
 ·subst e;simp[h.1,hi,hf]
 ·rw[if_neg e,h.2 j hj];simp[Ne.symm e]
def LstF.setOld{n i:Nat}{l:Array Bool}(h:LstF n ls fr l)(hi:i<n)(hl:i∈ls)(hn:fr.Nodup):LstF n ls (fr.erase i) (l.setIfInBounds i true):=by
 refine⟨by simp[h.1],fun j hj=>?_⟩;rw[yxp];by_cases e:i=j
 ·subst e;have:i∉fr.erase i:=fun hm=>by rw[List.Nodup.mem_erase_iff hn] at hm;exact hm.1 rfl
  simp[h.1,hi,hl,this]
 ·rw[if_neg e,h.2 j hj];have:(fr.erase i).contains j=fr.contains j:=by rw[yy2];simp[List.mem_erase_of_ne (Ne.symm e)]
  rw[this]
def LstF.float{n i:Nat}{l:Array Bool}(h:LstF n ls fr l)(hls:ls.contains i=false):LstF n (i::ls) (i::fr) l:=by
 refine⟨h.1,fun j hj=>?_⟩;rw[h.2 j hj];by_cases e:j=i
 ·subst e;simp at hls;simp[hls]
 ·simp[e]
def waits(o:Oper)(f:Nat):Bool:=o.after.toList.any fun e=>Region.binds .any e&&e.on==f
def f8{o:Oper}{f:Nat}:waits o f=true↔∃ e∈o.after,Region.binds .any e=true∧e.on=f:=by simp only[waits,List.any_eq_true,yyb,beq_iff_eq];exact⟨fun⟨e,h1,h2,h3⟩=>⟨e,by simpa using h1,h2,h3⟩,fun⟨e,h1,h2,h3⟩=>⟨e,by simpa using h1,h2,h3⟩⟩
def halfB(ops:List Oper)(q o:Oper):Bool:=
 match q.dst with
 |some d=>!(o.looksAt ops.toArray).contains d&&o.dst != some d
 |none=>true
def p7{q o:Oper}(h:halfB ops q o=true):(∀ d,q.dst=some d→d∉o.looksAt ops.toArray)∧(∀ d,q.dst=some d→o.dst≠some d):=by
 refine⟨fun d hd=>?_,fun d hd=>?_⟩<;>simp[halfB,hd] at h
 ·exact h.1
 ·exact h.2
def flB(ops:List Oper)(ls fl:List Nat):Bool:=
 fl.all fun f=>ls.contains f&&(match ops[f]? with
  |some o=>edgesL ops.length ls o.after.toList&&o.after.toList.all (fun e=>!Region.binds .any e||Nat.blt e.on f) &&
    (match o.dst with|some d=>!(o.looksAt ops.toArray).contains d|none=>true) &&
    fl.all (fun g=>g==f||waits o g||(match ops[g]? with|some q=>halfB ops q o|none=>false))
  |none=>false)
def apB(ops:List Oper)(fl:List Nat)(i:Nat):Bool:=
 match ops[i]? with
 |some o=>fl.all fun g=>waits o g||(match ops[g]? with|some q=>halfB ops q o|none=>false)
 |none=>false
structure StOne(X:Ctx)(ops:List Oper)(s:S)(f:Nat):Prop where
 ex:∃ o d v,ops[f]?=some o∧o.dst=some d∧ltB d X.n=true∧notDef o.op=true∧lk s.L d=some v∧(TOK X.P X.T→∀ M ρ a w,SAT X M ρ s w→REG X M ρ s a→v.bd s.nx∧∃ z,v.rv M ρ z ∧
  ((Region.wanted o (yielded ops.toArray a.tmps)=true∧(execOp a.eval o).run X.P w=.ok (.value z) w)∨(Region.wanted o (yielded ops.toArray a.tmps)=false∧z=Go.undef)))
def StF(X:Ctx)(ops:List Oper)(s:S):List Nat→Prop
 |[]=>True
 |f::r=>StOne X ops s f∧StF X ops s r
def StF.mem{f:Nat}:∀ {fl:List Nat},StF X ops s fl→f∈fl→StOne X ops s f
 |[],_,h=>by cases h
 |g::r,h,hm=>by
  rcases yyn.1 hm with e|e
  ·subst e;exact h.1
  ·exact StF.mem h.2 e
def BrF(X:Ctx)(ops:List Oper)(K:S→Prop)(fl:List Nat)(fuel:Nat)(ls:List Nat)(s:S):List Nat→Prop
 |[]=>True
 |i::r=>(∃ o fl',ops[i]?=some o∧(fl.filter fun f=>!waits o f)=fl'∧JL X true ops (qN fun s'=>JF X ops K fl' fuel (i::ls) s') [o] s)∧BrF X ops K fl fuel ls s r
def BrF.mem{i:Nat}:∀ {r:List Nat},BrF X ops K fl fuel ls s r→i∈r→∃ o,ops[i]?=some o∧JL X true ops (qN fun s'=>JF X ops K (fl.filter fun f=>!waits o f) fuel (i::ls) s') [o] s
 |[],_,h=>by cases h
 |j::r,h,hm=>by
  rcases yyn.1 hm with e|e
  ·subst e;obtain⟨o,fl',h1,rfl,h2⟩:=h.1;exact⟨o,h1,h2⟩
  ·exact BrF.mem h.2 e
def z9f{d:Nat}{v:AV}{L:List (Nat×AV)}{H:List (Nat×HO)}{nx:Nat}(h:REG X M ρ ⟨(d,v)::L,H,nx⟩ a)(hl:lk L d=some v):REG X M ρ ⟨L,H,nx⟩ a:=by
 refine⟨h.size,h.defers,fun e u he=>?_⟩;have:=h.reg e u;simp only[lk] at this;by_cases hd:d=e
 ·subst hd;rw[hl] at he;injection he with he;subst he
  exact this (by simp)
 ·exact this (by rw[if_neg hd];exact he)
def q5r:∀ {fr:List Nat},fr≠[]→∃ m∈fr,∀ j∈fr,m≤j
 |[],h=>absurd rfl h
 |[x],_=>⟨x,by simp,by simp⟩
 |x::y::r,_=>by
  obtain⟨m,hm,h⟩:=q5r (fr:=y::r) (by simp);by_cases hx:x≤m
  ·refine⟨x,by simp,fun j hj=>?_⟩;rcases yyn.1 hj with e|e
   ·omega
   ·have:=h j e;omega
  ·refine⟨m,yyi _ hm,fun j hj=>?_⟩;rcases yyn.1 hj with e|e
   ·omega
   ·exact h j e
def z9y(is:List Nat)(hns:Region.noSelect ops.toArray=true)(hnd0:ndAll ops=true)(hr:rdI ops ls=is)(hfl:(flB ops ls fl&&is.all (apB ops fl))=true)(hst:StF X ops s fl)(hX:XOK X)
  (hB:is=[]∨∃ fuel',fuel=fuel'+1∧BrF X ops K fl fuel' ls s is) (hK:is=[]→K s):JF X ops K fl fuel ls s:=by
 have hsel:NoSel ops:=fun j o cs b h=>Region.noSelect_spec hns j o cs b (by simpa using h);simp only[yyb] at hfl;obtain⟨hfl,hap⟩:=hfl;have hfl:∀ f∈fl,ls.contains f=true∧∃ o,ops[f]?=some o∧edgesL ops.length ls o.after.toList=true∧(∀ e∈o.after,Region.binds .any e=true→e.on<f) ∧
   (∀ d,o.dst=some d→d∉o.looksAt ops.toArray)∧∀ g∈fl,g≠f→waits o g=false→∃ q,ops[g]?=some q∧halfB ops q o=true:=by
  intro f hf;have:=yyx.1 hfl f hf;simp only[yyb] at this;refine⟨this.1,?_⟩;have h2:=this.2;split at h2
  ·rename_i o ho;simp only[yyb] at h2;obtain⟨⟨⟨h3,h4⟩,h5⟩,h6⟩:=h2;refine⟨o,ho,h3,fun e he hb=>?_,fun d hd=>?_,fun g hg hgf hw=>?_⟩
   ·have:=yyx.1 h4 e (by simpa using he);rw[hb] at this;simpa using this
   ·rw[hd] at h5;simpa using h5
   ·have:=yyx.1 h6 g hg;rw[hw] at this;simp only[Bool.or_false,yyw,beq_iff_eq] at this;have:=this.resolve_left hgf;split at this
    ·rename_i q hq;exact⟨q,hq,this⟩
    ·cases this
  ·cases h2
 have hap:∀ i∈is,∀ o,ops[i]?=some o→∀ g∈fl,waits o g=false→∃ q,ops[g]?=some q∧halfB ops q o=true:=by
  intro i hi o ho g hg hw;have:=yyx.1 hap i hi;simp only[apB,ho] at this;have:=yyx.1 this g hg;rw[hw] at this;simp only[Bool.false_or] at this;split at this
  ·rename_i q hq;exact⟨q,hq,this⟩
  ·cases this
 have hrdy:∀ i,i∈is↔∃ o,ops[i]?=some o∧ls.contains i=false∧edgesL ops.length ls o.after.toList=true:=by
  intro i;rw[← hr];simp only[rdI,yxk];constructor
  ·rintro⟨⟨j,o⟩,h,rfl⟩;obtain⟨_,h1,h2,h3⟩:=q0u.1 h;exact⟨o,by simpa using h1,h2,h3⟩
  ·rintro⟨o,h1,h2,h3⟩;exact⟨(i,o),q0u.2 ⟨by omega,by simpa using h1,h2,h3⟩,rfl⟩
 have main:∀ (n:Nat) M ρ a a' w l fr,fr.length=n→(∀ f∈fr,f∈fl)→fr.Nodup→LstF ops.length ls fr l→PutsR ops fr a a'→SAT X M ρ s w→REG X M ρ s a' →
   wpAnyIn X.fn 0 X.P .any ops.toArray (conc X (qN K)) (fuel+fr.length) l a w:=by
  intro n;induction n with
  |zero=>
   intro M ρ a a' w l fr hn hsub hnd hl hp h1 h2;obtain rfl:fr=[]:=List.length_eq_zero_iff.1 hn;simp only[PutsR] at hp;subst hp;have hl':Lst ops.length ls l:=⟨hl.1,fun j hj=>by rw[hl.2 j hj];simp⟩;rcases hB with hB|⟨fuel',rfl,hB⟩
   ·have hd:rdyL ops.length ls 0 ops=[]:=by rw[hB] at hr;simpa[rdI] using hr
    exact j0c hd (hK hB) M ρ a' w l hl' h1 h2
   ·refine⟨fun h0=>?_,fun i hi=>?_⟩
    ·have hd:is=[]:=by rw[List.eq_nil_iff_forall_not_mem];intro i hi;obtain⟨o,ho,h3,h4⟩:=(hrdy i).1 hi;have:i∈Region.ready .any ops.toArray l:=(q42 hl' i).2 ⟨o,q0u.2 ⟨by omega,by simpa using ho,h3,h4⟩⟩;rw[h0] at this;cases this
     exact⟨M,ρ,s,h1,h2,hK hd⟩
    ·obtain⟨o,ho⟩:=(q42 hl' i).1 hi;obtain⟨_,h3,h4,h5⟩:=q0u.1 ho;have h3:ops[i]?=some o:=by simpa using h3
     obtain⟨o',ho',hJ⟩:=hB.mem ((hrdy i).2 ⟨o,h3,h4,h5⟩);rw[h3] at ho';injection ho' with ho';subst ho'
     have hlt:i<ops.length:=(yy7.1 h3).1;have:=hJ M ρ a' w h1 h2;have this:=q6d (K:=K) h3 this;refine wpOpIn_mono (fun b w' hk=>?_) this;obtain⟨M',ρ',s',k1,k2,k3⟩:=hk;exact k3 M' ρ' b b w' _ [] (by simp) (by simp) (hl.setNew hlt (by simp)) rfl k1 k2
  |succ n ih=>
   intro M ρ a a' w l fr hn hsub hnd hl hp h1 h2;have hfuel:fuel+fr.length=(fuel+n)+1:=by rw[hn];omega
   rw[hfuel];have hne:fr≠[]:=by rintro rfl;simp at hn
   refine⟨fun h0=>?_,fun i hi=>?_⟩
   ·
    obtain⟨m,hm,hmin⟩:=q5r hne;obtain⟨hin,o,ho,hed,hbl,_,_⟩:=hfl m (hsub m hm);have hlt:m<ops.length:=(yy7.1 ho).1;have:m∈Region.ready .any ops.toArray l:=by
     refine mem_ready.2 ⟨by rw[hl.getT hlt];simp[hm],o,by simpa using ho,fun e he hb=>?_⟩;obtain⟨e1,e2⟩:=x4.1 hed e (by simpa using he) hb;rw[hl.getT e1,e2];have:e.on∉fr:=fun hc=>by have:=hmin _ hc;have:=hbl e he hb;omega
     simp[this]
    rw[h0] at this;cases this
   ·obtain⟨hun,o,ho,hall⟩:=mem_ready.1 hi;have ho:ops[i]?=some o:=by simpa using ho
    have hlt:i<ops.length:=(yy7.1 ho).1;rw[hl.getT hlt] at hun;have hall:∀ e∈o.after,Region.binds .any e=true→e.on<ops.length∧ls.contains e.on=true∧e.on∉fr:=by
     intro e he hb;have h3:=hall e he hb;rcases Nat.lt_or_ge e.on ops.length with hlt'|hge
     ·rw[hl.getT hlt'] at h3;simp only[yyb,yyt] at h3;exact⟨hlt',h3.1,fun hc=>by simp[hc] at h3⟩
     ·have:l.size≤e.on:=by rw[hl.1];exact hge
      simp[yyy,Array.getElem?_eq_none this] at h3
    have hnw:∀ g∈fr,waits o g=false:=by intro g hg;rw[Bool.eq_false_iff];intro hw;obtain⟨e,he,hb,rfl⟩:=f8.1 hw;exact(hall e he hb).2.2 hg
    by_cases hif:i∈fr
    ·
     obtain⟨hin,o',ho',_,_,hself,hpair⟩:=hfl i (hsub i hif);rw[ho] at ho';injection ho' with ho';subst ho'
     obtain⟨o',d,v,hop,hdst,hd,hnd1,hlk,hsem⟩:=(hst.mem (hsub i hif)).ex;rw[ho] at hop;injection hop with hop;subst hop
     obtain⟨hb,z,hz,hrun⟩:=hsem hX.t M ρ a' w h1 h2;have hap':∀ g∈fr,∀ q,ops[g]?=some q→∀ e,q.dst=some e→e∉o.looksAt ops.toArray:=by
      intro g hg q hq e he;by_cases hgi:g=i
      ·subst hgi;rw[ho] at hq;injection hq with hq;subst hq;exact hself e he
      ·obtain⟨q',hq',ha⟩:=hpair g (hsub g hg) hgi (hnw g hg);rw[hq] at hq';injection hq' with hq';subst hq'
       exact(p7 ha).1 e he
     obtain⟨hx1,hx2⟩:=PutsR.exec (hsel i _ · · ho) hp hap';have hlen:(fr.erase i).length=n:=by rw[List.length_erase_of_mem hif];omega
     have next:=ih M ρ (a.put o.dst z) (a'.put o.dst z) w (l.setIfInBounds i true) (fr.erase i) hlen (fun f hf=>hsub f (List.mem_of_mem_erase hf)) (hnd.erase i) (hl.setOld hlt (by simpa using hin) hnd)
      (PutsR.erase ho hp hif hnd fun g hg hgi q hq e he=>by
       obtain⟨q',hq',ha⟩:=hpair g (hsub g hg) hgi (hnw g hg);rw[hq] at hq';injection hq' with hq';subst hq'
       exact(p7 ha).2 e he) h1
      (by rw[hdst];exact z9f (L:=s.L) (h2.putO (d:=some d) (dstOk.spec (y8 hd)) hb hz) hlk)
     rw[hlen] at next;unfold wpOpIn;simp only[yxh,ho];rw[← hx2];rcases hrun with⟨hw1,hrun⟩|⟨hw1,rfl⟩
     ·simp only[hw1,if_true];exact y6 hnd1 (by rw[← hx1];exact hrun) next
     ·simp only[hw1,yyr,if_false];exact⟨fun f _=>q1b f,next⟩
    ·
     have hils:ls.contains i=false:=by
      cases hc:ls.contains i with
      |false=>rfl
      |true=>rw[hc] at hun;simp[hif] at hun
     have hii:i∈is:=(hrdy i).2 ⟨o,ho,hils,x4.2 fun e he hb=>⟨(hall e (by simpa using he) hb).1,(hall e (by simpa using he) hb).2.1⟩⟩;rcases hB with hB|⟨fuel',rfl,hB⟩
     ·rw[hB] at hii;cases hii
     obtain⟨o',ho',hJ⟩:=hB.mem hii;rw[ho] at ho';injection ho' with ho';subst ho'
     have h3:=q6d (K:=K) ho (hJ M ρ a' w h1 h2);have hapf:∀ g∈fr,∀ q,ops[g]?=some q→(∀ d,q.dst=some d→d∉o.looksAt ops.toArray)∧(∀ d,q.dst=some d→o.dst≠some d):=by
      intro g hg q hq;obtain⟨q',hq',ha⟩:=hap i hii o ho g (hsub g hg) (hnw g hg);rw[hq] at hq';injection hq' with hq';subst hq'
      exact p7 ha
     have h4:=PutsR.op (fun _ _ _ h=>q5d h) ho (hsel i o · · ho) (s9 hnd0 i o (by simpa using ho)) hp hapf h3;refine wpOpIn_mono (fun b w' ⟨b',hp',hk⟩=>?_) h4;obtain⟨M',ρ',s',k1,k2,k3⟩:=hk;have:=k3 M' ρ' b b' w' (l.setIfInBounds i true) fr (fun f hf=>yx0.2 ⟨hsub f hf,by rw[hnw f hf];rfl⟩) hnd (hl.setNew hlt hif) hp' k1 k2;rw[hn] at this;rw[show fuel'+1+n=fuel'+(n+1) by omega];exact this
 intro M ρ a a' w l fr;exact main fr.length M ρ a a' w l fr rfl
def sure(ls fl:List Nat):List Nat:=ls.filter fun j=>!fl.contains j
def m6:(sure ls fl).contains j=(ls.contains j&&!fl.contains j):=by rw[yy2];simp[sure,yx0]
def fsB(ops:List Oper)(ls fl:List Nat)(i:Nat):Bool:=!ls.contains i&&!fl.contains i&&frB ops (sure ls fl) i&&apB ops fl i&&(Region.noSelect ops.toArray&&ndAll ops)
def JF.first(i:Nat){d:Nat}{op:Op}{ty:TypeId}{ps:String}{af:Array Edge}{cs:List Prop}{v:AV}{L:List (Nat×AV)}{H:List (Nat×HO)}{nx:Nat}
  (hX:XOK X) (hf:fsB ops ls fl i=true) (ho:ops[i]?=some ⟨some d,op,ty,ps,af,none⟩) (e3:isLoad op=false)
  (h:evq X.T op ⟨L,H,nx⟩=some (cs,v)) (hd:ltB d X.n=true) (hc:allP cs) (k:JF X ops K fl fuel (i::ls) ⟨(d,v)::L,H,nx⟩):JF X ops K fl (fuel+1) ls ⟨L,H,nx⟩:=by
 intro M ρ a a' w l fr hsub hnd hl hp h1 h2;simp only[fsB,yyb,yyt] at hf;obtain⟨⟨⟨⟨hnl,hnf⟩,hf⟩,hap⟩,hs,hnd0⟩:=hf;simp only[frB,ho,yyb,yyt] at hf;obtain⟨⟨_,h4⟩,e4⟩:=hf;have hlt:i<ops.length:=(yy7.1 ho).1;have hif:i∉fr:=fun hc=>by simp at hnf;exact hnf (hsub i hc)
 have hed:=x4.1 h4;have hapf:∀ g∈fr,∀ q,ops[g]?=some q→halfB ops q (⟨some d,op,ty,ps,af,none⟩:Oper)=true:=by intro g hg q hq;simp only[apB,ho] at hap;have:=yyx.1 hap g (hsub g hg);rw[hq] at this;simp only[yyw] at this;refine this.resolve_left fun hw=>?_;obtain⟨e,he,hb,rfl⟩:=f8.1 hw;have:=(hed e (by simpa using he) hb).2;rw[m6] at this;simp[hsub _ hg] at this
 obtain⟨hb,z,hz,hrun⟩:=q49 hX.t (o:=⟨some d,op,ty,ps,af,none⟩) e3 h hc h1 h2;have hsel:∀ (j:Nat) (o:Oper) cs b,ops.toArray[j]?=some o→o.op≠.select cs b:=Region.noSelect_spec hs;obtain⟨hx1,hx2⟩:=PutsR.exec (o:=⟨some d,op,ty,ps,af,none⟩) (hsel i _ · · (by simpa using ho)) hp fun g hg q hq=>(p7 (hapf g hg q hq)).1;rw[show fuel+1+fr.length=(fuel+fr.length)+1 by omega];refine q0t (fun _ _ _ h=>q5d h) (i:=i) (oi:=⟨some d,op,ty,ps,af,none⟩) (v:=z) (by simpa using ho) hsel (s9 hnd0) (fuel+fr.length) l a w ?_ ?_ (.inl ⟨rfl,by rw[← hx1];exact hrun⟩) ?_
 ·intro j oj hj hne hun hno;have hjl:j<ops.length:=by have:=(yyh.1 hj).1;simpa using this
  refine q1a e4 j oj (by simpa using hj) (by omega) ?_ hno;rw[hl.getT hjl] at hun;rw[yxl,m6];cases hc:ls.contains j with
  |false=>rfl
  |true=>rw[hc] at hun;simp at hun;simp[hsub _ hun]
 ·refine mem_ready.2 ⟨by rw[hl.getT hlt,hnl];rfl,_,by simpa using ho,fun e he hb=>?_⟩;obtain⟨e1,e2⟩:=hed e (by simpa using he) hb;rw[m6,yyb] at e2;rw[hl.getT e1,e2.1];have:e.on∉fr:=fun hc=>by have:=e2.2;simp[hsub _ hc] at this
  simp[this]
 ·exact k M ρ _ (a'.put (some d) z) w _ fr hsub hnd (hl.setNew hlt hif) (PutsR.put (d:=some d) hp fun f hf o ho' e he hde=>(p7 (hapf f hf o ho')).2 e he hde)
   (j0 (d:=some d) (v:=v) h1) (h2.putO (d:=some d) (dstOk.spec (y8 hd)) hb hz)
def ftB(ops:List Oper)(ls fl:List Nat)(i d:Nat):Bool:=!ls.contains i&&!fl.contains i&&fl.all fun g=>match ops[g]? with|some q=>q.dst != some d|none=>true
def JF.float(i:Nat){d:Nat}{op:Op}{ty:TypeId}{ps:String}{af:Array Edge}{cs:List Prop}{v:AV}{L:List (Nat×AV)}{H:List (Nat×HO)}{nx:Nat}
  (hX:XOK X) (hf:ftB ops ls fl i d=true) (ho:ops[i]?=some ⟨some d,op,ty,ps,af,none⟩)
  (h:evq X.T op ⟨L,H,nx⟩=some (cs,v)) (hd:ltB d X.n=true) (hc:allP cs) (k:JF X ops K (i::fl) fuel (i::ls) ⟨(d,v)::L,H,nx⟩):JF X ops K fl (fuel+1) ls ⟨L,H,nx⟩:=by
 intro M ρ a a' w l fr hsub hnd hl hp h1 h2;simp only[ftB,yyb,yyt] at hf;obtain⟨⟨hnl,hnf⟩,hds⟩:=hf;have hif:i∉fr:=fun hc=>by simp at hnf;exact hnf (hsub i hc)
 obtain⟨hb,z,hz,_⟩:=q61 hX.t (o:=⟨some d,op,ty,ps,af,none⟩) h hc h1 h2;have hp':PutsR ops (i::fr) a (a'.put (some d) z):=by refine⟨_,z,ho,PutsR.put (d:=some d) hp fun f hf o ho' e he hde=>?_⟩;have:=yyx.1 hds f (hsub f hf);rw[ho'] at this;simp only[bne_iff_ne,ne_eq] at this;exact this (he.trans hde.symm)
 have:=k M ρ a (a'.put (some d) z) w l (i::fr) (fun f hf=>by
  rcases yyn.1 hf with e|e
  ·exact e▸yyj
  ·exact yyi _ (hsub f e)) (yx2.2 ⟨hif,hnd⟩) (hl.float hnl) hp' (j0 (d:=some d) (v:=v) h1) (h2.putO (d:=some d) (dstOk.spec (y8 hd)) hb hz)
 rw[show fuel+1+fr.length=fuel+(i::fr).length by simp;omega];exact this
def StF.one{f:Nat}{r:List Nat}{d:Nat}{op:Op}{ty:TypeId}{ps:String}{af:Array Edge}{cs:List Prop}{v:AV}(ho:ops[f]?=some ⟨some d,op,ty,ps,af,none⟩)
  (h:evq X.T op s=some (cs,v)) (hl:lk s.L d=some v) (hd:ltB d X.n=true) (hc:allP cs) (k:StF X ops s r):StF X ops s (f::r):=
 ⟨⟨_,d,v,ho,rfl,hd,evq_nd h,hl,fun hT M ρ a w h1 h2=>let ⟨e1,z,e2,e3⟩:=q61 hT (o:=⟨some d,op,ty,ps,af,none⟩) h hc h1 h2;⟨e1,z,e2,.inl ⟨rfl,e3 w (Below.refl _ _)⟩⟩⟩,k⟩
def StF.nil:StF X ops s []:=trivial
def BrF.one{r fl':List Nat}{o:Oper}(ho:ops[i]?=some o)(hf:(fl.filter fun f=>!waits o f)=fl')(h:JL X true ops (qN fun s'=>JF X ops K fl' fuel (i::ls) s') [o] s)(h':BrF X ops K fl fuel ls s r) :
  BrF X ops K fl fuel ls s (i::r):=⟨⟨o,fl',ho,hf,h⟩,h'⟩
def BrF.nil:BrF X ops K fl fuel ls s []:=trivial
def ndB(ops:List Oper)(ls fl is:List Nat):Bool:=(Region.noSelect ops.toArray&&ndAll ops)&&(rdI ops ls==is)&&(flB ops ls fl&&is.all (apB ops fl))
def q7h(i:Nat)(is:List Nat)(hX:XOK X)(hc:ndB ops ls fl (i::is)=true)(hst:StF X ops s fl)(hB:BrF X ops K fl fuel ls s (i::is)):JF X ops K fl (fuel+1) ls s:=by simp only[ndB,yyb,beq_iff_eq] at hc;exact z9y (i::is) hc.1.1.1 hc.1.1.2 hc.1.2 (by simp[hc.2]) hst hX (.inr ⟨fuel,rfl,hB⟩) (fun h=>by cases h)
def z93(hX:XOK X)(hc:ndB ops ls fl []=true)(hst:StF X ops s fl)(hK:K s):JF X ops K fl fuel ls s:=by simp only[ndB,yyb,beq_iff_eq] at hc;exact z9y [] hc.1.1.1 hc.1.1.2 hc.1.2 (by simp[hc.2]) hst hX (.inl rfl) (fun _=>hK)
variable {o:Oper}
section
variable {P:Program}{b:Frame}{k:List Item}{cs:List Frame}{c:Code}
def s5:step P (lone (b.atR a (.code (.scope c)::k)) cs w)=.next (lone (b.atR a (.code c::.inScope c::k)) cs w):=step_lone_go (by simp[stepG,stepG.exec,Frame.atR])
def q8j:step P (lone (b.atR a (.inScope c::k)) cs w)=.next (lone (b.atR a k) cs w):=step_lone_go (by simp[stepG,stepG.exec,Frame.atR])
end
def z4d{F:Fence}{n:Nat}{Q:Exit→Act→World→Prop}(h:c.wpIn F n P (Exit.noGoto Q) a w):(Code.scope c).wpIn F n P Q a w:=by
 intro b k cs hro hb hr;have h0:(lone (b.atR a (.code (.scope c)::k)) cs w).fenced P F:=fenced_calm hb hr rfl;obtain⟨e,a₁,w₁,hq,harr⟩:=h b (.inScope c::k) cs hro hb hr;cases e with
 |normal=>exact⟨.normal,a₁,w₁,hq,.head h0 s5 (StepsIn.trans harr (.one (fenced_calm hb hr rfl) q8j))⟩
 |exit id=>
  have hx:exitTo id (.inScope c::k)=exitTo id k:=by simp[exitTo]
  exact⟨.exit id,a₁,w₁,hq,fun k' hk=>.head h0 s5 (harr.1 k' (by rw[hx];exact hk)),
   fun hr' hk=>let ⟨k₁,h1,h2⟩:=harr.2 hr' (by rw[hx];exact hk);⟨k₁,h1,.head h0 s5 h2⟩⟩
 |goto l=>exact hq.elim
 |ret=>exact⟨_,a₁,w₁,hq,.of_steps (.one h0 s5) harr⟩
 |panic ch=>exact⟨_,a₁,w₁,hq,.of_steps (.one h0 s5) harr⟩
 |outgrown=>exact⟨_,a₁,w₁,hq,.of_steps (.one h0 s5) harr⟩
def qScope(QA:Exit→S→Prop):Exit→S→Prop
 |.goto _,_=>False
 |e,s=>QA e s
def JC.scope{c:Code}(h:JC X c (qScope QA) s):JC X (.scope c) QA s:=
 fun M ρ a w h1 h2=>z4d (wpIn_mono (h M ρ a w h1 h2) fun e a' w' ⟨M',ρ',s',k1,k2,k3⟩=>by
  cases e with
  |goto l=>exact k3.elim
  |_=>exact⟨M',ρ',s',k1,k2,k3⟩)
def svL(L:List (Nat×AV)):List Nat→List (Nat×AV)
 |[]=>[]
 |d::r=>match lk L d with
  |some v=>(d,v)::svL L r
  |none=>svL L r
def q6i{L:List (Nat×AV)}{p:Nat×AV}:∀ {r:List Nat},p∈svL L r→lk L p.1=some p.2
 |[],h=>by cases h
 |d::r,h=>by
  simp only[svL] at h;split at h
  ·rename_i v hv;rcases yyn.1 h with e|e
   ·subst e;exact hv
   ·exact q6i e
  ·exact q6i h
def noFr(n:Nat):List (Nat×HO)→Bool
 |[]=>true
 |(_,.fr i _)::r=>!(i==n)&&noFr n r
 |_::r=>noFr n r
def z0a{n l i:Nat}{L:List (Nat×AV)}:∀ {H:List (Nat×HO)},noFr n H=true→lk H l=some (.fr i L)→i≠n
 |[],_,h=>by simp[lk] at h
 |(k,o)::r,hn,h=>by
  simp only[lk] at h;have hr:noFr n r=true∧(∀ j L',o=.fr j L'→j≠n):=by cases o<;>simp only[noFr,yyb,yyt,beq_eq_false_iff_ne] at hn<;>first|exact⟨hn,fun j L' e=>by cases e⟩|exact⟨hn.2,fun j L' e=>by injection e with e _;subst e;exact hn.1⟩
  split at h
  ·injection h with h;exact hr.2 i L h
  ·exact z0a hr.1 h
variable{X':Ctx}
def j0d{l:Nat}{o:HO}(hE:X'.E=X.E)(hdp:X.dp≤X'.dp)(hup:∀ i,i<X.dp→X'.up i=X.up i)(h:o.ok X M ρ l w):o.ok X' M ρ l w:=by cases o<;>simp only[HO.ok,hE] at h ⊢<;>first|exact h|exact⟨by omega,fun d v hd=>by rw[hup _ h.1];exact h.2 d v hd⟩
def z5c{l:Nat}{o:HO}(hE:X'.E=X.E)(hdp:X'.dp=X.dp+1)(hup:∀ i,i<X.dp→X'.up i=X.up i)(hf:∀ i L,o=.fr i L→i≠X.dp)(h:o.ok X' M ρ l w):o.ok X M ρ l w:=by
 cases o with
 |fr i L=>
  simp only[HO.ok] at h ⊢;have:=hf i L rfl;have hi:i<X.dp:=by have:=h.1;omega
  exact⟨hi,fun d v hd=>by rw[← hup i hi];exact h.2 d v hd⟩
 |_=>simp only[HO.ok,hE] at h ⊢;exact h
abbrev Ctx.sub(X:Ctx)(M0:Mem)(n:Nat)(rd:Option Nat)(up:Nat→Nat→Value):Ctx:=⟨X.P,X.T,X.ET,X.MT,X.E,M0,n,rd,up,X.dp+1⟩
def upd1(up:Nat→Nat→Value)(i:Nat)(u:Nat→Value):Nat→Nat→Value:=fun j=>if j=i then u else up j
def SAT.enter(h:SAT X M ρ s w){Lf L0:List (Nat×AV)}{n:Nat}{rd:Option Nat}(hb:∀ p∈Lf,p.2.bd s.nx)(hv:∀ d v,lk Lf d=some v→v.rv M ρ (u d)) :
  SAT (X.sub M n rd (upd1 X.up X.dp u)) M ρ ⟨L0,(s.nx,.fr X.dp Lf)::s.H,s.nx+1⟩ w:=by
 have hlk:∀ l o,lk ((s.nx,HO.fr X.dp Lf)::s.H) l=some o→(l=s.nx∧o=.fr X.dp Lf)∨(l<s.nx∧lk s.H l=some o):=by
  intro l o hl;simp only[lk] at hl;split at hl
  ·rename_i e;injection hl with hl;exact .inl ⟨e.symm,hl.symm⟩
  ·exact .inr ⟨(h.own l o hl).1,hl⟩
 refine⟨h.below,fun _ _ h=>h,fun _ _=>rfl,h.mem,fun l o hl=>?_,fun l l' o o' b hl hl' hb1 hb2=>?_,fun l o b hl hb1=>?_⟩
 ·rcases hlk l o hl with⟨rfl,rfl⟩|⟨hlt,hl⟩
  ·refine⟨yy6 _,fun p hp=>j3 (yy4 _) (hb p hp),?_⟩;simp only[HO.ok];exact⟨yy6 _,fun d v hd=>by show v.rv M ρ (upd1 X.up X.dp u X.dp d);simp only[upd1,if_pos];exact hv d v hd⟩
  ·obtain⟨e1,e2,e3⟩:=h.own l o hl;exact⟨Nat.lt_succ_of_lt e1,q5k (yy4 _) e2,j0d (X:=X) (X':=X.sub M n rd (upd1 X.up X.dp u)) rfl (yy4 _) (fun i hi=>by show upd1 X.up X.dp u i=X.up i;simp only[upd1];rw[if_neg (by omega)]) e3⟩
 ·rcases hlk l o hl with⟨rfl,rfl⟩|⟨hlt,hl⟩
  ·cases hb1
  ·rcases hlk l' o' hl' with⟨rfl,rfl⟩|⟨hlt',hl'⟩
   ·cases hb2
   ·exact h.apart l l' o o' b hl hl' hb1 hb2
 ·rcases hlk l o hl with⟨rfl,rfl⟩|⟨hlt,hl⟩
  ·cases hb1
  ·exact h.notM l o b hl hb1
variable{M':Mem}{ρ':Env}
def SAT.leave(h:SAT X M ρ s w){n:Nat}{rd:Option Nat}(h':SAT (X.sub M n rd (upd1 X.up X.dp u)) M' ρ' s' w'){H':List (Nat×HO)}(hsub:∀ l o,lk H' l=some o→lk s'.H l=some o)
  (hno:noFr X.dp H'=true) (L:List (Nat×AV)):SAT X M' ρ' ⟨L,H',s'.nx⟩ w':=by
 refine⟨h'.below,fun b o hb=>h'.msub b o (h.msub b o hb),fun b hb=>?_,h'.mem,fun l o hl=>?_,fun l l' o o' b hl hl'=>h'.apart l l' o o' b (hsub l o hl) (hsub l' o' hl'),fun l o b hl=>h'.notM l o b (hsub l o hl)⟩
 ·have e1:M' b=M b:=h'.mnew b hb;rw[e1];exact h.mnew b hb
 ·obtain⟨e1,e2,e3⟩:=h'.own l o (hsub l o hl);exact⟨e1,e2,z5c (X:=X) (X':=X.sub M n rd (upd1 X.up X.dp u)) rfl rfl (fun i hi=>by show upd1 X.up X.dp u i=X.up i;simp only[upd1];rw[if_neg (by omega)]) (fun i L' e=>by subst e;exact z0a hno hl) e3⟩
def q0p{n l':Nat}{rd:Option Nat}(h':SAT (X.sub M n rd (upd1 X.up X.dp u)) M' ρ' s' w'){L':List (Nat×AV)}(hl:lk s'.H l'=some (.fr X.dp L')) :
  ∀ d v,lk L' d=some v→v.bd s'.nx∧v.rv M' ρ' (u d):=by
 intro d v hd;obtain⟨_,e2,e3⟩:=h'.own l' _ hl;simp only[HO.ok] at e3;have:=e3.2 d v hd;simp only[upd1,if_pos] at this;exact⟨e2 _ (p5 hd),this⟩
def q4s(h1:SAT X M ρ s w)(h2:REG X M ρ s a){n:Nat}{rd:Option Nat}(h':SAT (X.sub M n rd up) M' ρ' s' w'){L':List (Nat×AV)}{H':List (Nat×HO)}
  (hv:∀ d v,lk L' d=some v→v.bd s'.nx∧v.rv M' ρ' (a.tmps.getD d Go.undef)):REG X M' ρ' ⟨L',H',s'.nx⟩ a:=
 ⟨h2.size,let ⟨Ds,e1,e2,e3,e4⟩:=h2.defers;⟨Ds,e1,e2,fun D hD=>⟨(e3 D hD).1,h'.msub D _ (e3 D hD).2⟩,e4⟩,hv⟩
def q2b{H:List (Nat×α)}{n:Nat}:∀ l o,lk (del H n) l=some o→lk H l=some o:=by
 intro l o h;rw[q6t] at h;split at h
 ·cases h
 ·exact h
def resI(L:List (Nat×AV)):List ResultVar→Option AV
 |[]=>some .anil
 |.tmp d::rs=>(lk L d).bind fun v=>(resI L rs).map fun r=>.acons v r
 |_=>none
def resV:AV→AV
 |.acons a .anil=>a
 |l=>.tup l
def q7w{P:Program}(h2:REG X M ρ s a):∀ {rs:List ResultVar} {r:AV},resI s.L rs=some r→r.bd s.nx∧∃ vs,r.rvs M ρ vs∧(rs.mapM (resOne a.tmps)).run P w=.ok vs w
 |[],r,h=>by simp only[resI,yya] at h;subst h;exact⟨trivial,[],by simp[AV.rvs],rfl⟩
 |.tmp d::rs,r,h=>by simp only[resI,yym,yyk] at h;obtain⟨v,hv,r',hr,rfl⟩:=h;obtain⟨b1,vs,e1,e2⟩:=q7w (P:=P) h2 hr;obtain⟨b2,e3⟩:=h2.reg d v hv;refine⟨⟨b2,b1⟩,a.tmps.getD d Go.undef::vs,by simp only[AV.rvs];exact⟨_,_,e3,e1,rfl⟩,?_⟩;simp only[List.mapM_cons,yye,resOne,yyf,yyc,e2]
 |.cell ..::rs,r,h=>by simp[resI] at h
def q7v{r:AV}(h2:REG X M ρ s a)(h:resI s.L fn.results.toList=some r):(resV r).bd s.nx∧∃ v,(resV r).rv M ρ v∧(results fn a.tmps).run P w=.ok v w:=by
 obtain⟨hb,vs,hvs,hrun⟩:=q7w (P:=P) (w:=w) h2 h;have hr:=q1j hrun;unfold resV;split
 ·rename_i x;simp only[AV.rvs] at hvs;obtain⟨v,r',k5,rfl,rfl⟩:=hvs;exact⟨hb.1,v,k5,by simpa using hr⟩
 ·rename_i hne;refine⟨hb,.tuple vs.toArray,by simp only[AV.rv];exact⟨vs,hvs,rfl⟩,?_⟩;have hsz:vs.toArray.size≠1:=by
   intro hsz;cases r with
   |acons x z=>
    simp only[AV.rvs] at hvs;obtain⟨v,r',k5,k6,rfl⟩:=hvs;have:r'=[]:=by simpa using hsz
    subst this;cases z with
    |anil=>exact hne x rfl
    |acons=>simp[AV.rvs] at k6
    |_=>simp only[AV.rvs] at k6
   |anil=>simp only[AV.rvs] at hvs;subst hvs;simp at hsz
   |_=>simp only[AV.rvs] at hvs
  rwa[dif_neg hsz] at hr
def z83{args:AV}{n:Nat}(h:args.rvs M ρ vs)(hb:args.bd n):∀ {i d:Nat} {v:AV},lk (argL args i) d=some v→v.bd n∧i≤d∧∃ u,vs[d-i]?=some u∧v.rv M ρ u:=by
 induction args generalizing vs with
 |acons x y _ ihy=>
  intro i d v hl;simp only[AV.rvs] at h;obtain⟨u,r,k1,k2,rfl⟩:=h;simp only[argL,lk] at hl;split at hl
  ·rename_i e;subst e;injection hl with hl;subst hl
   exact⟨hb.1,yyo _,u,by simp,k1⟩
  ·obtain⟨e1,e2,u',e3,e4⟩:=ihy k2 hb.2 hl;refine⟨e1,by omega,u',?_,e4⟩;rw[show d-i=(d-(i+1))+1 by omega,yxb];exact e3
 |_=>intro i d v hl;simp[argL,lk] at hl
def REG.args{args:AV}{vs:List Value}{n k:Nat}{H:List (Nat×HO)}(hvs:args.rvs M ρ vs)(hbd:args.bd k)(hX:X.n=n)(hn:argN args≤n) :
  REG X M ρ ⟨argL args 0,H,k⟩ {tmps:=vs.toArray++Array.replicate (n-vs.toArray.size) Go.undef,defers:=[]}:=by
 have hlen:=z31 hvs;refine⟨by simp;omega,⟨[],rfl,yxr,by simp,.inl rfl⟩,fun d v hd=>?_⟩;obtain⟨e1,e2,u,e3,e4⟩:=z83 hvs hbd hd;refine⟨e1,?_⟩;rw[Nat.sub_zero] at e3;have hd':d<vs.length:=by
  rcases Nat.lt_or_ge d vs.length with h|h
  ·exact h
  ·rw[yxn h] at e3;cases e3
 have:(vs.toArray++Array.replicate (n-vs.toArray.size) Go.undef).getD d Go.undef=u:=by rw[yyy,Array.getElem?_append_left (by simpa using hd')];simp[e3]
 rw[this];exact e4
def inlQ(X:Ctx)(rs:List ResultVar)(k:AV→List (Nat×AV)→List (Nat×HO)→Nat→Prop)(e:Exit)(s':S):Prop:=(e=.ret∨e=.normal)∧∃ l' L' r,lk s'.H l'=some (.fr X.dp L')∧resI s'.L rs=some r∧noFr X.dp (del s'.H l')=true∧k (resV r) L' (del s'.H l') s'.nx
def frAt:List (Nat×HO)→Nat→Option Nat
 |[],_=>none
 |(l,.fr i _)::r,n=>match Nat.beq i n with|true=>some l|false=>frAt r n
 |_::r,n=>frAt r n
def inlQ.ret{X:Ctx}{rs:List ResultVar}{k:AV→List (Nat×AV)→List (Nat×HO)→Nat→Prop}{L L':List (Nat×AV)}{H:List (Nat×HO)}{nx l':Nat}{r:AV}(h0:frAt H X.dp=some l')(h1:lk H l'=some (.fr X.dp L'))(h2:resI L rs=some r)
  (h3:noFr X.dp (del H l')=true) (h:k (resV r) L' (del H l') nx):inlQ X rs k .ret ⟨L,H,nx⟩:=⟨.inl rfl,l',L',r,h1,h2,h3,h⟩
variable{rs:List ResultVar}{k:AV→List (Nat×AV)→List (Nat×HO)→Nat→Prop}
def z3k{L L':List (Nat×AV)}{H:List (Nat×HO)}{nx l':Nat}{r:AV}(h0:frAt H X.dp=some l')(h1:lk H l'=some (.fr X.dp L'))(h2:resI L rs=some r)
  (h3:noFr X.dp (del H l')=true) (h:k (resV r) L' (del H l') nx):inlQ X rs k .normal ⟨L,H,nx⟩:=⟨.inr rfl,l',L',r,h1,h2,h3,h⟩
variable{Lf LO:List (Nat×AV)}
def z7s{args:AV}{R:Ending→World→Prop}(hf:X.P.funcs[f]?=some fn)(hb:fn.body=some c)(hn:argN args≤fn.ntmps)
  (h1:SAT X M ρ s w) (hbd:args.bd s.nx) (hvs:args.rvs M ρ vs) (hLb:∀ p∈Lf,p.2.bd s.nx) (hLv:∀ d v,lk Lf d=some v→v.rv M ρ (u d))
  (h:∀ M0 up,JC (X.sub M0 fn.ntmps none up) c (inlQ X fn.results.toList k) ⟨argL args 0,(s.nx,.fr X.dp Lf)::s.H,s.nx+1⟩)
  (hR:∀ M' ρ' s' l' L' r v w',SAT (X.sub M fn.ntmps none (upd1 X.up X.dp u)) M' ρ' s' w'→lk s'.H l'=some (.fr X.dp L')→noFr X.dp (del s'.H l')=true→k r L' (del s'.H l') s'.nx→r.bd s'.nx→r.rv M' ρ' v→R (.returned v) w') :
  Calls X.P f vs.toArray w R:=by
 refine(callsIn_wide (n:=0)).1 (callsIn_of_wp_marks hf hb trivial ?_ rfl);have hs:=h1.enter (L0:=argL args 0) (n:=fn.ntmps) (rd:=none) hLb hLv;have hr:REG (X.sub M fn.ntmps none (upd1 X.up X.dp u)) M ρ ⟨argL args 0,(s.nx,.fr X.dp Lf)::s.H,s.nx+1⟩ _:=REG.args hvs (j3 (yy4 _) hbd) rfl hn;refine wpIn_mono (h M (upd1 X.up X.dp u) M ρ _ w hs hr) ?_;rintro e a' w' ⟨M',ρ',s',k1,k2,hex,l',L',r,e1,e2,e3,e4⟩;obtain⟨Ds,hds,hnd,hDs,hfr⟩:=k2.defers;have h0:∀ D∈Ds,M D=none:=fun D hD=>by
  rcases hfr with e|⟨_,e⟩
  ·subst e;cases hD
  ·exact e D hD
 have fin:LeavesInM Fence.wide 0 X.P fn a'.tmps R a'.defers .returning w':=by rw[hds];refine q1w hnd (fun D hD=>k1.mem _ _ (hDs D hD).2) fun w'' hbel hkeep=>?_;obtain⟨hle,k1'⟩:=k1.taken h0 hDs hbel hkeep;have k2':REG (X.sub M fn.ntmps none (upd1 X.up X.dp u)) (M'.without Ds) ρ' s' {a' with defers:=[]}:=⟨k2.size,⟨[],rfl,yxr,by simp,.inl rfl⟩,fun d v hd=>⟨(k2.reg d v hd).1,w3 hle (Env.upTo.refl ρ' s'.nx) (k2.reg d v hd).1 (k2.reg d v hd).2⟩⟩;obtain⟨hrb,v,hrv,hrun⟩:=q7v (P:=X.P) (w:=w'') k2' e2;exact⟨v,hrun,hR (M'.without Ds) ρ' s' l' L' _ v w'' k1' e1 e3 e4 hrb hrv⟩
 rcases hex with rfl|rfl
 ·exact fin
 ·exact fin
def q8h(h2:REG X M ρ s a)(Kp:List Nat):(∀ p∈svL s.L Kp,p.2.bd s.nx)∧∀ d v,lk (svL s.L Kp) d=some v→v.rv M ρ (a.tmps.getD d Go.undef):=⟨fun p hp=>(h2.reg _ _ (q6i hp)).1,fun d v hd=>(h2.reg _ _ (q6i (p5 hd))).2⟩
def JL.inl(Kp:List Nat){fst cap az:AV}{cs1 cs2:List Prop}{args:Array Operand}{tys:Array TypeId}(hg:o.guard=none)(hop:o.op=.call {callee:=.value fo,args:=args,argTypes:=tys})
  (hu:opd s.L fo=some (cs1,.fn f fst cap)) (ha:opds s.L args.toList=some (cs2,az)) (hc:allP (cs1++cs2)) (hf:X.P.funcs[f]?=some fn) (hb:fn.body=some c) (hcall:∀ az w,(callFunc f az).run X.P w=.ok (.enter f az) w)
  (hn:argN (apA fst (apA az cap))≤fn.ntmps) (hd:dstOk X.n o.dst)
  (h:∀ M0 up,JC (X.sub M0 fn.ntmps none up) c (inlQ X fn.results.toList fun r L H nx=>JL X true all QA l (putS o.dst r ⟨L,H,nx⟩)) ⟨argL (apA fst (apA az cap)) 0,(s.nx,.fr X.dp (svL s.L Kp))::s.H,s.nx+1⟩):JL X true all QA (o::l) s:=by
 intro M ρ a w h1 h2;rw[z6] at hc;obtain⟨hub,eu⟩:=z8 hu hc.1 h2;simp only[AV.rv] at eu;obtain⟨fs,ks,k1,k2,k3⟩:=eu;obtain⟨hab,ea⟩:=q0l h2 ha hc.2;have hvs:=q9e k1 (q9e ea k2);have hbd:(apA fst (apA az cap)).bd s.nx:=z32 hub.1 (z32 hab hub.2);have hrun:(execOp a.eval o).run X.P w=.ok (.enter f (fs++(args.toList.map a.eval++ks)).toArray) w:=by
  have hmap:Array.map a.eval args=(List.map a.eval args.toList).toArray:=by rw[← yy9]
  obtain⟨dst,op,ty,pos,after,guard⟩:=o;simp only at hop;subst hop;simp only[execOp,resolve,k3,Deferred.ofValue,yye,yyf,yyc,invoke,hmap];rw[← hcall];simp
 obtain⟨sv1,sv2⟩:=q8h h2 Kp;refine j6 (v4 hg) (u9 (by rw[hop];rfl) hrun (z7s (R:=fun e w''=>∃ v,e=.returned v∧wpListIn X.fn 0 X.P all.toArray (conc X QA) l (a.put o.dst v) w'') hf hb hn h1 hbd hvs sv1 sv2 h ?_) fun e w'' hr=>hr);intro M' ρ' s' l' L' r v w' q1 q2 q3 q4 q5 q6;have b1:=h1.leave q1 (H':=del s'.H l') q2b q3 L';have b2:REG X M' ρ' ⟨L',del s'.H l',s'.nx⟩ a:=q4s h1 h2 q1 (q0p q1 q2);exact⟨v,rfl,q4 M' ρ' _ w' (j0 b1) (b2.putO hd.spec q5 q6)⟩
def setPs:List Tmp→AV→List (Nat×AV)→Option (List (Nat×AV))
 |[],.anil,L=>some L
 |p::ps,.acons a r,L=>setPs ps r ((p,a)::L)
 |_,_,_=>none
def q3f{n nx:Nat}:∀ {ps:List Tmp} {az:AV} {vs:List Value} {L L0:List (Nat×AV)} {tm:Array Value},setPs ps az L=some L0→(∀ p∈ps,p<n)→az.bd nx→az.rvs M ρ vs→tm.size=n →
  (∀ d v,lk L d=some v→v.bd nx∧v.rv M ρ (tm.getD d Go.undef))→vs.length=ps.length∧((ps.zip vs).foldl (fun t (q:Tmp×Value)=>t.setIfInBounds q.1 q.2) tm).size=n ∧
  ∀ d v,lk L0 d=some v→v.bd nx∧v.rv M ρ (((ps.zip vs).foldl (fun t (q:Tmp×Value)=>t.setIfInBounds q.1 q.2) tm).getD d Go.undef)
 |[],az,vs,L,L0,tm,h,hp,hb,hv,hs,hL=>by
  cases az with
  |anil=>simp only[setPs,yya] at h;subst h;simp only[AV.rvs] at hv;subst hv;exact⟨rfl,hs,hL⟩
  |_=>simp[setPs] at h
 |p::ps,az,vs,L,L0,tm,h,hp,hb,hv,hs,hL=>by
  cases az with
  |acons x r=>
   simp only[setPs] at h;simp only[AV.rvs] at hv;obtain⟨v,vr,h1,h2,rfl⟩:=hv;have hpn:=hp p yyj;obtain⟨e1,e2,e3⟩:=q3f (tm:=tm.setIfInBounds p v) h (fun q hq=>hp q (yyi _ hq)) hb.2 h2 (by simp[hs]) (fun d y hd=>by
    simp only[lk] at hd;by_cases e:p=d
    ·subst e;rw[if_pos rfl] at hd;injection hd with hd;subst hd
     refine⟨hb.1,?_⟩;rw[yyy,Array.getElem?_setIfInBounds_self_of_lt (by rw[hs];exact hpn)];exact h1
    ·rw[if_neg e] at hd;have:=hL d y hd;rw[yyy,yx7 e,← yyy];exact this)
   exact⟨by simp[e1],by simpa using e2,by simpa using e3⟩
  |_=>simp[setPs] at h
def q8d{b l:Nat}(h:(AV.lf (.yld l)).rv M ρ (.func (.yield b) #[] #[])):ρ.blk l=b:=by
 rw[y7] at h;simp only[Leaf.at,yya] at h;injection h.1 with h1
 injection h1
def asgQ(X:Ctx)(nO:Nat)(k:S→Prop)(e:Exit)(s1:S):Prop:=e=.normal∧∃ l1 L1 lab ps az bd n LO,lk s1.H l1=some (.fr X.dp L1)∧lk L1 X.n=some (.lf (.yld lab))∧lk s1.H lab=some (.loop .ready none ps az bd n LO)∧k ⟨s1.L,updH s1.H lab (.loop .busy none ps az bd n LO),s1.nx⟩
def jumpOf:Exit→Option (Option Code)
 |.normal=>some none
 |.ret=>some (some .ret)
 |.exit id=>some (some (.exit id))
 |_=>none
def bodyQ(X:Ctx)(k:Bool→List (Nat×AV)→List (Nat×HO)→Nat→Prop)(e:Exit)(s2:S):Prop:=
 ∃ jmp,jumpOf e=some jmp∧∃ l2 L2 lab st pe ps az bd n LO,lk s2.H l2=some (.fr X.dp L2)∧lk L2 X.n=some (.lf (.yld lab))∧lk (del s2.H l2) lab=some (.loop st pe ps az bd n LO)∧noFr X.dp (del s2.H l2)=true ∧
  k jmp.isNone (del L2 X.n) (updH (del s2.H l2) lab (.loop (if jmp.isNone then .ready else .done) jmp ps az bd n LO)) s2.nx
def z0k(w:World)(l:Nat)(o:Obj):w.grownBy (w.putObj l o) (some l):=⟨rfl,rfl,rfl,by simp,fun k _ hk=>World.putObj_heap_other (fun e=>hk (by rw[e]))⟩
def SAT.turn(h:SAT X M ρ s w){st st':LoopState}{pe pe':Option Code}{ps:Array Tmp}{n:Nat}(hl:lk s.H lab=some (.loop st pe ps az bd n LO)) :
  ∃ fn tm D,w.heap[ρ.blk lab]?=some (.loop ⟨st,pe,fn,tm,ps,az,bd,D⟩)∧tm.size=n∧(∀ d v,lk LO d=some v→v.bd s.nx∧v.rv M ρ (tm.getD d Go.undef)) ∧
   SAT X M ρ ⟨s.L,updH s.H lab (.loop st' pe' ps az bd n LO),s.nx⟩ (w.putObj (ρ.blk lab) (.loop ⟨st',pe',fn,tm,ps,az,bd,D⟩)):=by
 obtain⟨e1,e2,e3⟩:=h.own lab _ hl;have e3':=e3;simp only[HO.ok] at e3;obtain⟨h1,fn,tm,D,h2,h3,h4⟩:=e3;refine⟨fn,tm,D,h2,h3,fun d v hd=>⟨e2 _ (p5 hd),h4 d v hd⟩,h.upd (o:=.loop st pe ps az bd n LO) hl (z0k _ _ _) rfl e2 ?_⟩;simp only[HO.ok];exact⟨h1,fn,tm,D,World.putObj_heap_same (yyh.1 h2).1,h3,h4⟩
def q5t{L:List (Nat×α)}{n d:Nat}{v:α}(h:lk (del L n) d=some v):d≠n∧lk L d=some v:=by
 rw[q6t] at h;split at h
 ·cases h
 ·rename_i e;exact⟨fun e'=>e e'.symm,h⟩
def endJ(QA:Exit→S→Prop)(s:S):Option Code→Prop
 |none=>QA .normal s
 |some .ret=>QA .ret s
 |some (.exit id)=>QA (.exit id) s
 |_=>False
def rngQ(X:Ctx)(rs:List ResultVar)(QA:Exit→S→Prop)(e:Exit)(s':S):Prop:=
 (e=.ret∨e=.normal)∧∃ l' L' lab st pe ps az bd n LO r,resI s'.L rs=some r∧lk s'.H l'=some (.fr X.dp L')∧lk L' X.n=some (.lf (.yld lab))∧lk s'.H lab=some (.loop st pe ps az bd n LO)∧(st==.busy)=false ∧
  noFr X.dp (del (del s'.H l') lab)=true∧endJ QA ⟨del L' X.n,del (del s'.H l') lab,s'.nx⟩ pe
def SAT.mark(h:SAT X M ρ s w):SAT X (fun b=>if b=w.heap.size then some (.deferred (some [])) else M b) ρ s (w.alloc (.deferred (some [])))∧M.le (fun b=>if b=w.heap.size then some (.deferred (some [])) else M b) ∧
  (∀ b o,M b=some o→(if b=w.heap.size then some (.deferred (some [])) else M b)=some o):=by
 have hlt:∀ b o,M b=some o→b<w.heap.size:=fun b o hm=>(yyh.1 (h.mem b o hm)).1;have hful:∀ b o,M b=some o→(if b=w.heap.size then some (Obj.deferred (some [])) else M b)=some o:=fun b o hm=>by rw[if_neg (by have:=hlt b o hm;omega)];exact hm
 have hle:M.le (fun b=>if b=w.heap.size then some (.deferred (some [])) else M b):=fun b c ty fz hm=>hful b _ hm;have hb:Below w.heap.size w (w.alloc (.deferred (some []))):=(Below.refl _ _).alloc (yyo _) _;have h':=h.later hb;have hE:X.E.heap.size≤w.heap.size:=h.below.size;refine⟨⟨h'.below,fun b o hm=>hful b o (h.msub b o hm),fun b hlt'=>?_,fun b o hm=>?_,fun l o hl=>?_,h.apart,fun l o b hl hat=>?_⟩,hle,hful⟩
 ·show(if b=w.heap.size then _ else _)=_;rw[if_neg (by omega)];exact h.mnew b hlt'
 ·have hm':(if b=w.heap.size then some (Obj.deferred (some [])) else M b)=some o:=hm;split at hm'
  ·rename_i e;injection hm' with hm';subst hm' e;exact World.alloc_heap_new w _
  ·exact h'.mem b o hm'
 ·obtain⟨e1,e2,e3⟩:=h'.own l o hl;exact⟨e1,e2,q4u hle (Env.upTo.refl ρ s.nx) e1 e2 e3⟩
 ·show(if b=w.heap.size then _ else _)=_;have:=(u6 (h.own l o hl).2.2 hat).2;rw[if_neg (by omega)];exact h.notM l o b hl hat
def SAT.newLoop(h:SAT X M ρ s w)(h2:REG X M ρ s a)(Kp:List Nat)(ps:Array Tmp)(az bd:Code)(fn D:Nat) :
  SAT X M (ρ.with s.nx w.heap.size .nil Go.undef) ⟨s.L,(s.nx,.loop .ready none ps az bd X.n (svL s.L Kp))::s.H,s.nx+1⟩ (w.alloc (.loop ⟨.ready,none,fn,a.tmps,ps,az,bd,D⟩)):=by
 obtain⟨sv1,sv2⟩:=q8h h2 Kp;have hr:=j8 ρ s.nx w.heap.size .nil Go.undef;have hblk:(ρ.with s.nx w.heap.size .nil Go.undef).blk s.nx=w.heap.size:=by simp[Env.with]
 refine h.add (row:=none) (World.grownBy_alloc w _ none) (fun b e=>by cases e) (fun l o hl=>⟨hl,fun b _ e=>by cases e⟩) hr (fun p hp=>j3 (yy4 _) (sv1 p hp)) ?_ (fun b hat=>?_)
 ·simp only[HO.ok,hblk];exact⟨h.below.size,fn,a.tmps,D,World.alloc_heap_new w _,h2.size,fun d v hd=>w3 (Mem.le_refl M) hr (sv1 _ (p5 hd)) (sv2 d v hd)⟩
 ·simp only[HO.at,hblk,yya] at hat;subst hat;refine⟨?_,fun l o1 hl hat=>?_⟩
  ·cases hM:M w.heap.size with
   |none=>rfl
   |some o=>have:=(yyh.1 (h.mem _ _ hM)).1;omega
  ·have:=(u6 (h.own l o1 hl).2.2 hat).2;omega
def q9p{F:Fence}{n:Nat}(h1:SAT X M' ρ' s' w')(h2:REG X M' ρ' s' a')(h:endJ QA s' (some c)):c.wpIn F n P (conc X QA) a' w':=by
 cases c with
 |ret=>exact wpIn_ret ⟨M',ρ',s',h1,h2,h⟩
 |exit id=>exact wpIn_exit ⟨M',ρ',s',h1,h2,h⟩
 |_=>exact h.elim
variable{cap:AV}
def z23{mark:List Deferred}(Kp:List Nat){M0:Mem}{ρ0:Env}{s0:S}{w0:World}(hf:X.P.funcs[f]?=some fn)(hb:fn.body=some c)(hn:argN (.acons (.lf (.yld lab)) cap)≤fn.ntmps)
  (hy:ρ0.blk lab=lb) (hlt:lab<s0.nx) (h1:SAT X M0 ρ0 s0 w0) (h2:REG X M0 ρ0 s0 a) (h2':REG X M0 ρ0 s0 {a with defers:=mark++a.defers}) (hcb:cap.bd s0.nx) (hk:cap.rvs M0 ρ0 ks)
  (h:∀ M up,JC (X.sub M fn.ntmps none up) c (rngQ X fn.results.toList QA) ⟨argL (.acons (.lf (.yld lab)) cap) 0,(s0.nx,.fr X.dp ((X.n,.lf (.yld lab))::svL s0.L Kp))::s0.H,s0.nx+1⟩) :
  CallsIn X.fn (0-1) X.P f (#[.func (.yield lb) #[] #[]]++ks.toArray) w0 (rangePost X.fn 0 X.P lb (conc X QA) {a with defers:=mark++a.defers}):=by
 let u:Nat→Value:=fun d=>if d=X.n then .func (.yield lb) #[] #[] else a.tmps.getD d Go.undef
 obtain⟨sv1,sv2⟩:=q8h h2 Kp;have hyr:(AV.lf (.yld lab)).rv M0 ρ0 (.func (.yield lb) #[] #[]):=by rw[y7];exact⟨by simp only[Leaf.at,hy],rfl⟩
 have hLb:∀ p∈((X.n,AV.lf (.yld lab))::svL s0.L Kp),p.2.bd s0.nx:=fun p hp=>by
  rcases yyn.1 hp with e|e
  ·subst e;exact hlt
  ·exact sv1 p e
 have hLv:∀ d v,lk ((X.n,AV.lf (.yld lab))::svL s0.L Kp) d=some v→v.rv M0 ρ0 (u d):=fun d v hd=>by
  simp only[lk] at hd;by_cases e:X.n=d
  ·subst e;rw[if_pos rfl] at hd;injection hd with hd;subst hd
   show(AV.lf (.yld lab)).rv M0 ρ0 (if X.n=X.n then _ else _);rw[if_pos rfl];exact hyr
  ·rw[if_neg e] at hd;show v.rv M0 ρ0 (if d=X.n then _ else _);rw[if_neg (Ne.symm e)];exact sv2 d v hd
 have hvs:(AV.acons (.lf (.yld lab)) cap).rvs M0 ρ0 (.func (.yield lb) #[] #[]::ks):=by simp only[AV.rvs];exact⟨_,_,hyr,hk,rfl⟩
 have hbd:(AV.acons (.lf (.yld lab)) cap).bd s0.nx:=⟨hlt,hcb⟩;have hs:=h1.enter (L0:=argL (.acons (.lf (.yld lab)) cap) 0) (n:=fn.ntmps) (rd:=none) hLb hLv;have hr:REG (X.sub M0 fn.ntmps none (upd1 X.up X.dp u)) M0 ρ0 ⟨argL (.acons (.lf (.yld lab)) cap) 0,(s0.nx,.fr X.dp ((X.n,.lf (.yld lab))::svL s0.L Kp))::s0.H,s0.nx+1⟩ _:=REG.args hvs (j3 (yy4 _) hbd) rfl hn;have hargs:(#[.func (.yield lb) #[] #[]]++ks.toArray:Array Value)=(Value.func (.yield lb) #[] #[]::ks).toArray:=by simp
 rw[hargs];refine q2d ((callsIn_wide (n:=0)).1 (callsIn_of_wp_marks hf hb trivial ?_ rfl));refine wpIn_mono (h M0 (upd1 X.up X.dp u) M0 ρ0 _ w0 hs hr) ?_;rintro e a1 w1 ⟨M1,ρ1,s1,k1,k2,hex,l1,L1,lab1,st1,pe1,ps1,as1,bd1,n1,LO1,rv1,q0,q1,q2,q3,q4,q5,q6⟩;obtain⟨Ds,hds,hnd,hDs,hfr⟩:=k2.defers;have h0:∀ D∈Ds,M0 D=none:=fun D hD=>by
  rcases hfr with e|⟨_,e⟩
  ·subst e;cases hD
  ·exact e D hD
 have fin:LeavesInM Fence.wide 0 X.P fn a1.tmps (rangePost X.fn 0 X.P lb (conc X QA) {a with defers:=mark++a.defers}) a1.defers .returning w1:=by
  rw[hds];refine q1w hnd (fun D hD=>k1.mem _ _ (hDs D hD).2) fun w2 hbel hkeep=>?_;obtain⟨hle,g1⟩:=k1.taken h0 hDs hbel hkeep;have g2:REG (X.sub M0 fn.ntmps none (upd1 X.up X.dp u)) (M1.without Ds) ρ1 s1 {a1 with defers:=[]}:=⟨k2.size,⟨[],rfl,yxr,by simp,.inl rfl⟩,fun d v hd=>⟨(k2.reg d v hd).1,w3 hle (Env.upTo.refl ρ1 s1.nx) (k2.reg d v hd).1 (k2.reg d v hd).2⟩⟩;have hb1:ρ1.blk lab1=lb:=by have:=(q0p g1 q1 _ _ q2).2;simp only[u,if_pos] at this;exact q8d this
  obtain⟨fn1,tm1,D1,f1,_,_,f4⟩:=g1.turn (st':=.exhausted) (pe':=pe1) q3;rw[hb1] at f1 f4;obtain⟨_,v,_,hrun⟩:=q7v (P:=X.P) (w:=w2) g2 q0;have b1:=h1.leave f4 (H':=del (del s1.H l1) lab1) (fun l o hl=>by have e1:=q5t hl;have e2:=q5t e1.2;show lk (updH s1.H lab1 _) l=some o;rw[q3j lab1 l _ s1.H (by rw[q3];rfl),if_neg (fun e=>e1.1 e.symm)];exact e2.2) q5 (del L1 X.n)
  have b2:REG X (M1.without Ds) ρ1 ⟨del L1 X.n,del (del s1.H l1) lab1,s1.nx⟩ {a with defers:=mark++a.defers}:=q4s h1 h2' g1 fun d v hd=>by obtain⟨d1,d2⟩:=q5t hd;have:=q0p g1 q1 d v d2;simp only[u,if_neg d1] at this;exact this
  have hb0:st1≠.busy:=fun e=>by subst e;simp at q4
  cases pe1 with
  |none=>exact⟨v,hrun,none,_,run_endLoop f1 hb0,M1.without Ds,ρ1,_,b1,b2,q6⟩
  |some c=>exact⟨v,hrun,some c,_,run_endLoop f1 hb0,q9p b1 b2 q6⟩
 rcases hex with rfl|rfl
 ·exact fin
 ·exact fin
def q8n{g:Operand}(hg:a.eval g=.func (.func f) #[] ks.toArray)(hcall:∀ az w,(callFunc f az).run X.P w=.ok (.enter f az) w) :
  (resolve a.eval (rangeCall g lb) 0).run X.P w=.ok {target:=.fn (.func f) ks.toArray,args:=#[.func (.yield lb) #[] #[]]} w ∧
  (invoke (.fn (.func f) ks.toArray) #[.func (.yield lb) #[] #[]]).run X.P w=.ok (.enter f (#[.func (.yield lb) #[] #[]]++ks.toArray)) w:=by
 constructor
 ·simp only[resolve,hg];simp[go_sem]
 ·simp[invoke,go_sem,hcall]
def z97(Kp:List Nat){g:Operand}{ps:Array Tmp}{cs:List Prop}(hrd:X.rd=none)(hu:opd s.L g=some (cs,.fn f .anil cap))(hc:allP cs)
  (hf:X.P.funcs[f]?=some fn) (hb:fn.body=some c) (hcall:∀ az w,(callFunc f az).run X.P w=.ok (.enter f az) w) (hn:argN (.acons .anil cap)≤fn.ntmps)
  (h:∀ M up,JC (X.sub M fn.ntmps none up) c (rngQ X fn.results.toList QA)
   ⟨argL (.acons (.lf (.yld s.nx)) cap) 0,(s.nx+1,.fr X.dp ((X.n,.lf (.yld s.nx))::svL s.L Kp))::(s.nx,.loop .ready none ps assign body X.n (svL s.L Kp))::s.H,s.nx+2⟩):JC X (.rangeFunc g ps assign body) QA s:=by
 intro M ρ a w h1 h2;obtain⟨hub,eu⟩:=z8 hu hc h2;simp only[AV.rv,AV.rvs] at eu;obtain⟨fs,ks,rfl,k2,k3⟩:=eu;refine wpIn_rangeFunc ?_;intro fno _;have hro:X.fn.round=none:=hrd;obtain⟨hs1,hle,hful⟩:=h1.mark;have hr0:=h2.grow (H':=s.H) (nx':=s.nx) hle (Env.upTo.refl ρ s.nx) (yyo _) (fun D hD=>hful D _ hD);have hs2:=hs1.newLoop hr0 Kp ps assign body fno w.heap.size;have hup:=j8 ρ s.nx (w.alloc (.deferred (some []))).heap.size .nil Go.undef;have hr1:=hr0.grow (H':=(s.nx,.loop .ready none ps assign body X.n (svL s.L Kp))::s.H) (nx':=s.nx+1) (Mem.le_refl _) hup (yy4 _) (x8 _);have hsz:(w.alloc (.deferred (some []))).heap.size=w.heap.size+1:=by simp
 obtain⟨r1,r2⟩:=q8n (X:=X) (lb:=w.heap.size+1) (w:=(w.alloc (.deferred (some []))).alloc (.loop ⟨.ready,none,fno,a.tmps,ps,assign,body,w.heap.size⟩)) k3 hcall;have hr2:REG X (fun b=>if b=w.heap.size then some (.deferred (some [])) else M b) (ρ.with s.nx (w.alloc (.deferred (some []))).heap.size .nil Go.undef) ⟨s.L,(s.nx,.loop .ready none ps assign body X.n (svL s.L Kp))::s.H,s.nx+1⟩
   {a with defers:=[{target:=.collected w.heap.size,args:=#[]}]++a.defers}:=by
  refine⟨hr1.size,?_,hr1.reg⟩;obtain⟨Ds,e1,e2,e3,e4⟩:=h2.defers;refine⟨w.heap.size::Ds,by simp[e1],yx2.2 ⟨fun hm=>?_,e2⟩,fun D hD=>?_,.inr ⟨hrd,fun D hD=>?_⟩⟩
  ·have:=(yyh.1 (h1.mem _ _ (e3 _ hm).2)).1;omega
  ·rcases yyn.1 hD with e|e
   ·subst e;exact⟨h1.below.size,by simp⟩
   ·exact⟨(e3 D e).1,hful D _ (e3 D e).2⟩
  ·rcases yyn.1 hD with e|e
   ·subst e;cases hM:X.M0 w.heap.size with
    |none=>rfl
    |some o=>have:=(yyh.1 (h1.mem _ _ (h1.msub _ _ hM))).1;omega
   ·rcases e4 with e5|⟨_,e5⟩
    ·subst e5;cases e
    ·exact e5 D e
 refine⟨w.heap.size+1,_,_,_,_,f,_,_,by rw[hro];exact run_enterLoop_outer _ _ _ _ _,r1,fun f' _=>q1b f',r2,(fun h=>(by cases h)),?_⟩;exact z23 Kp hf hb hn (by simp[Env.with,hsz]) (yy6 _) hs2 hr1 hr2 (j3 (yy4 _) hub.2) (v5 hle (Env.upTo.refl ρ s.nx) hub.2 k2 |> v5 (Mem.le_refl _) hup hub.2) h
def z96(Kp:List Nat){g:Operand}{ps:Array Tmp}{cs:List Prop}(hrd:X.rd=none)(hdp:X.dp=0)(hu:opd s.L g=some (cs,.fn f .anil cap))(hc:allP cs)
  (hf:X.P.funcs[f]?=some fn) (hb:fn.body=some c) (hcall:∀ az w,(callFunc f az).run X.P w=.ok (.enter f az) w) (hn:argN (.acons .anil cap)≤fn.ntmps)
  (h:∀ M up,JC (X.sub M fn.ntmps none up) c (rngQ X fn.results.toList QA)
   ⟨argL (.acons (.lf (.yld s.nx)) cap) 0,(s.nx+1,.fr X.dp ((X.n,.lf (.yld s.nx))::svL s.L Kp))::(s.nx,.loop .ready none ps assign body X.n (svL s.L Kp))::s.H,s.nx+2⟩):JC X (.rangeFunc g ps assign body) QA s:=z97 Kp hrd hu hc hf hb hcall hn h
def z95(Kp:List Nat){g:Operand}{ps:Array Tmp}{cs:List Prop}{ps0:Array Tmp}{LO0:List (Nat×AV)}
  (hrd:X.rd=some bl) (hup:X.up i0 nI=.func (.yield bl) #[] #[]) (hlf:lk s.H lf=some (.fr i0 Lf)) (hl0:lk Lf nI=some (.lf (.yld lab0))) (hlp:lk s.H lab0=some (.loop st0 pe0 ps0 as0 bd0 n0 LO0))
  (hu:opd s.L g=some (cs,.fn f .anil cap)) (hc:allP cs)
  (hf:X.P.funcs[f]?=some fn) (hb:fn.body=some c) (hcall:∀ az w,(callFunc f az).run X.P w=.ok (.enter f az) w) (hn:argN (.acons .anil cap)≤fn.ntmps)
  (h:∀ M up,JC (X.sub M fn.ntmps none up) c (rngQ X fn.results.toList QA)
   ⟨argL (.acons (.lf (.yld s.nx)) cap) 0,(s.nx+1,.fr X.dp ((X.n,.lf (.yld s.nx))::svL s.L Kp))::(s.nx,.loop .ready none ps assign body X.n (svL s.L Kp))::s.H,s.nx+2⟩):JC X (.rangeFunc g ps assign body) QA s:=by
 intro M ρ a w h1 h2;obtain⟨hub,eu⟩:=z8 hu hc h2;simp only[AV.rv,AV.rvs] at eu;obtain⟨fs,ks,rfl,k2,k3⟩:=eu;have hbl:ρ.blk lab0=bl:=by obtain⟨_,_,e3⟩:=h1.own lf _ hlf;simp only[HO.ok] at e3;have:=e3.2 _ _ hl0;rw[hup] at this;exact q8d this
 obtain⟨fn0,tm0,D0,t1,_⟩:=h1.turn (st':=st0) (pe':=pe0) hlp;rw[hbl] at t1;refine wpIn_rangeFunc ?_;intro fno _;have hro:X.fn.round=some bl:=hrd;have hs2:=h1.newLoop h2 Kp ps assign body fno D0;have hup':=j8 ρ s.nx w.heap.size .nil Go.undef;have hr1:=h2.grow (H':=(s.nx,.loop .ready none ps assign body X.n (svL s.L Kp))::s.H) (nx':=s.nx+1) (Mem.le_refl _) hup' (yy4 _) (x8 _);obtain⟨r1,r2⟩:=q8n (X:=X) (lb:=w.heap.size) (w:=w.alloc (.loop ⟨.ready,none,fno,a.tmps,ps,assign,body,D0⟩)) k3 hcall;refine⟨w.heap.size,_,_,_,_,f,_,_,by rw[hro];exact run_enterLoop_inner t1 _ _ _ _ _,r1,fun f' _=>q1b f',r2,(fun h=>(by cases h)),?_⟩;exact z23 (mark:=[]) Kp hf hb hn (by simp[Env.with]) (yy6 _) hs2 hr1 hr1 (j3 (yy4 _) hub.2) (v5 (Mem.le_refl _) hup' hub.2 k2) h
variable {L L':List (Nat×AV)}{H H':List (Nat×HO)}{nx nx' d:Nat}{op:Op}{ty:TypeId}{ps:String}{af:Array Edge}{cs cs1 cs2:List Prop}{v:AV}{g:Bool}{gg:Nat×Bool}{dd:Option Nat}
def q7f(hg:gOf all s.L (some gg)=some g)(hgt:g=true)(k:JL X true all QA (⟨dd,op,ty,ps,af,none⟩::l) s):JL X true all QA (⟨dd,op,ty,ps,af,some gg⟩::l) s:=by intro M ρ a w h1 h2;have hw:=(x7 (o:=⟨dd,op,ty,ps,af,some gg⟩) hg h2).trans hgt;have:=k M ρ a w h1 h2;unfold wpListIn at this;rw[if_pos (v4 rfl)] at this;exact j6 hw this
def JL.pickF{c x y:Operand}{b:Bool}(hc:opd L c=some (cs1,.val .bool b))(hb:b=false)(hy:opd L y=some (cs2,v))(hd:ltB d X.n=true)(h1:allP cs1)(h2:allP cs2)(k:JL X true all QA l ⟨(d,v)::L,H,nx⟩) :
  JL X true all QA (⟨some d,.pick c x y,ty,ps,af,none⟩::l) ⟨L,H,nx⟩:=by
 intro M ρ a w s1 s2;have e1:=(z8 hc h1 s2).2;rw[g8] at e1;obtain⟨e2,e3⟩:=z8 hy h2 s2;refine j6 (v4 rfl) (y6 (v:=a.eval y) rfl ?_ (k M ρ _ w (j0 (d:=some d) s1) (s2.putO (d:=some d) (dstOk.spec (y8 hd)) e2 e3)));simp only[execOp,e1,hb,yyf];rfl
def JL.nilF(k:JL X true all QA l ⟨del L d,H,nx⟩):JL X true all QA (⟨some d,.assign (.const .nilFunc),ty,ps,af,none⟩::l) ⟨L,H,nx⟩:=by
 intro M ρ a w s1 s2;refine j6 (v4 rfl) (y6 (v:=.nilFunc) rfl (by simp only[execOp,yyf];rfl) (k M ρ _ w ⟨s1.below,s1.msub,s1.mnew,s1.mem,s1.own,s1.apart,s1.notM⟩ ⟨by simp[Act.put,s2.size],s2.defers,fun e v he=>?_⟩));obtain⟨h1,h2⟩:=q5t he;have:=s2.reg e v h2;refine⟨this.1,?_⟩;have e1:((a.put (some d) .nilFunc).tmps.getD e Go.undef)=a.tmps.getD e Go.undef:=by simp only[Act.put,yyy];rw[yx7 (Ne.symm h1)]
 rw[e1];exact this.2
variable{pz:Array Tmp}
def q9d{nO l1 lab n:Nat}{L1 LO:List (Nat×AV)}{k:S→Prop}(h0:frAt H X.dp=some l1)(h1:lk H l1=some (.fr X.dp L1))(h2:lk L1 X.n=some (.lf (.yld lab)))(h3:lk H lab=some (.loop .ready none pz az bd n LO))
  (h:k ⟨L,updH H lab (.loop .busy none pz az bd n LO),nx⟩):asgQ X nO k .normal ⟨L,H,nx⟩:=⟨rfl,l1,L1,lab,pz,az,bd,n,LO,h1,h2,h3,h⟩
def bodyQ.of{e:Exit}{jmp:Option Code}{l2 lab n:Nat}{L2 LO:List (Nat×AV)}{st:LoopState}{k:Bool→List (Nat×AV)→List (Nat×HO)→Nat→Prop}(hj:jumpOf e=some jmp)(h0:frAt H X.dp=some l2)
  (h1:lk H l2=some (.fr X.dp L2)) (h2:lk L2 X.n=some (.lf (.yld lab))) (h3:lk (del H l2) lab=some (.loop st pe pz az bd n LO)) (h4:noFr X.dp (del H l2)=true)
  (h:k jmp.isNone (del L2 X.n) (updH (del H l2) lab (.loop (if jmp.isNone then .ready else .done) jmp pz az bd n LO)) nx):bodyQ X k e ⟨L,H,nx⟩:=
 ⟨jmp,hj,l2,L2,lab,st,pe,pz,az,bd,n,LO,h1,h2,h3,h4,h⟩
def rngQ.of{e:Exit}{l' lab n:Nat}{st:LoopState}{r:AV}(he:e=.ret∨e=.normal)(hr:resI L rs=some r)(h0:frAt H X.dp=some l')(h1:lk H l'=some (.fr X.dp L'))
  (h2:lk L' X.n=some (.lf (.yld lab))) (h3:lk H lab=some (.loop st pe pz az bd n LO)) (h4:(st==.busy)=false) (h5:noFr X.dp (del (del H l') lab)=true) (h:endJ QA ⟨del L' X.n,del (del H l') lab,nx⟩ pe):rngQ X rs QA e ⟨L,H,nx⟩:=
 ⟨he,l',L',lab,st,pe,pz,az,bd,n,LO,r,hr,h1,h2,h3,h4,h5,h⟩
def z4c{n i:Nat}(h:bdL n L):HO.bd n (.fr i L):=fun p hp=>q59 h p.1 p.2 hp
def z4b{n m:Nat}{st:LoopState}(h:bdL n L):HO.bd n (.loop st pe pz az bd m L):=fun p hp=>q59 h p.1 p.2 hp
def endJ.n(h:QA .normal s):endJ QA s none:=h
def endJ.r(h:QA .ret s):endJ QA s (some .ret):=h
def endJ.e{id:Nat}(h:QA (.exit id) s):endJ QA s (some (.exit id)):=h
def z48(hX:XOK X)(h:evb X.T op ⟨L,H,nx⟩=some (cs,v))(hd:ltB d X.n=true)(k:JL X md all QA l ⟨(d,v)::L,H,nx⟩)(hc:allP cs:=by exact zD):JL X md all QA (⟨some d,op,ty,ps,af,none⟩::l) ⟨L,H,nx⟩:=JL.q1 hX h hd hc k
def n9(hX:XOK X)(h:evm X.T X.ET op ⟨L,H,nx⟩=some (cs,v,⟨L',H',nx'⟩))(hd:ltB d X.n=true)(k:JL X true all QA l ⟨(d,v)::L',H',nx'⟩)(hc:allP cs:=by exact zD):JL X true all QA (⟨some d,op,ty,ps,af,none⟩::l) ⟨L,H,nx⟩:=JL.m1 hX h hd hc k
def JL.M0(hX:XOK X)(h:evm X.T X.ET op ⟨L,H,nx⟩=some (cs,v,⟨L',H',nx'⟩))(k:JL X true all QA l ⟨L',H',nx'⟩)(hc:allP cs:=by exact zD):JL X true all QA (⟨none,op,ty,ps,af,none⟩::l) ⟨L,H,nx⟩:=JL.m0 hX h hc k
def x9(hX:XOK X)(hg:gOf all L (some gg)=some g)(h:evb X.T op ⟨L,H,nx⟩=some (cs,v))(hd:ltB d X.n=true)(k:JL X md all QA l ⟨(d,.gd g v)::L,H,nx⟩)(hc:g=true→allP cs:=by exact zE):JL X md all QA (⟨some d,op,ty,ps,af,some gg⟩::l) ⟨L,H,nx⟩:=JL.g1 hX hg h hd hc k
def q5h{args r:AV}(h:callA X.T op ⟨L,H,nx⟩=some (cs,f,args))(hf:Fn X.P f args (·=r))(hr:r.scal=true)(hrb:r.bd 0)(hd:ltB d X.n=true)(k:JL X md all QA l ⟨(d,r)::L,H,nx⟩)(hc:allP cs:=by exact zD) :
  JL X md all QA (⟨some d,op,ty,ps,af,none⟩::l) ⟨L,H,nx⟩:=JL.s1 h hf hr hrb hd hc k
def q8a{args r:AV}(hg:gOf all L (some gg)=some g)(h:callA X.T op ⟨L,H,nx⟩=some (cs,f,args))(hf:g=true→Fn X.P f args (·=r))(hr:r.scal=true)(hrb:r.bd 0)(hd:ltB d X.n=true)(k:JL X md all QA l ⟨(d,.gd g r)::L,H,nx⟩)(hc:g=true→allP cs:=by exact zE) :
  JL X md all QA (⟨some d,op,ty,ps,af,some gg⟩::l) ⟨L,H,nx⟩:=JL.s1g hg h hf hr hrb hd hc k
def q5i{args:AV}{R:AV→Prop}(h:callA X.T op ⟨L,[],nx⟩=some (cs,f,args))(hf:Fn X.P f args R)(hd:ltB d X.n=true)(k:∀ r,R r→JL X true all QA l ⟨(d,r)::L,H,nx⟩)(hc:allP cs:=by exact zD) :
  JL X true all QA (⟨some d,op,ty,ps,af,none⟩::l) ⟨L,H,nx⟩:=JL.c1 h hf hd hc k
def q7(i:Nat)(hX:XOK X)(ho:ops[i]?=some ⟨some d,op,ty,ps,af,none⟩)(h:evq X.T op ⟨L,H,nx⟩=some (cs,v))(k:JF X ops K fl fuel (i::ls) ⟨(d,v)::L,H,nx⟩)(hf:fsB ops ls fl i=true:=by decide +kernel)(e3:isLoad op=false:=by rfl)(hd:ltB d X.n=true:=by rfl)(hc:allP cs:=by exact zD) :
  JF X ops K fl (fuel+1) ls ⟨L,H,nx⟩:=JF.first i hX hf ho e3 h hd hc k
def q8(i:Nat)(hX:XOK X)(ho:ops[i]?=some ⟨some d,op,ty,ps,af,none⟩)(h:evq X.T op ⟨L,H,nx⟩=some (cs,v))(k:JF X ops K (i::fl) fuel (i::ls) ⟨(d,v)::L,H,nx⟩)(hf:ftB ops ls fl i d=true:=by decide +kernel)(hd:ltB d X.n=true:=by rfl)(hc:allP cs:=by exact zD) :
  JF X ops K fl (fuel+1) ls ⟨L,H,nx⟩:=JF.float i hX hf ho h hd hc k
def z9b{f:Nat}{r:List Nat}(ho:ops[f]?=some ⟨some d,op,ty,ps,af,none⟩)(h:evq X.T op s=some (cs,v))(hl:lk s.L d=some v)(k:StF X ops s r)(hd:ltB d X.n=true:=by rfl)(hc:allP cs:=by exact zD):StF X ops s (f::r):=StF.one ho h hl hd hc k
def v6(i:Nat)(is:List Nat)(hX:XOK X)(hst:StF X ops s fl)(hB:BrF X ops K fl fuel ls s (i::is))(hc:ndB ops ls fl (i::is)=true:=by decide +kernel):JF X ops K fl (fuel+1) ls s:=q7h i is hX hc hst hB
def w7(hX:XOK X)(hst:StF X ops s fl)(hK:K s)(hc:ndB ops ls fl []=true:=by decide +kernel):JF X ops K fl fuel ls s:=z93 hX hc hst hK
def JW.Auto{ps:List (Nat×Nat)}(h0:pairs s' s=ps)(hL:covL (renOf ps) s'.L s.L:=by(repeat' (first|exact trivial|exact rfl|refine And.intro ?_ ?_|exact yyd rfl|refine z4c ?_|refine z4b ?_|(refine congrArg (fun z:Int=>some (AV.val (.int .i64) z)) ?_;push_cast;omega))))(hH:covH (renOf ps) s'.H s.H:=by(repeat' (first|exact trivial|exact rfl|refine And.intro ?_ ?_|exact yyd rfl|refine z4c ?_|refine z4b ?_|(refine congrArg (fun z:Int=>some (AV.val (.int .i64) z)) ?_;push_cast;omega))))(hbL:bdL s'.nx s'.L:=by(repeat' (first|exact trivial|exact rfl|refine And.intro ?_ ?_|exact yyd rfl|refine z4c ?_|refine z4b ?_|(refine congrArg (fun z:Int=>some (AV.val (.int .i64) z)) ?_;push_cast;omega))))(hbH:bdH s'.nx s'.H:=by(repeat' (first|exact trivial|exact rfl|refine And.intro ?_ ?_|exact yyd rfl|refine z4c ?_|refine z4b ?_|(refine congrArg (fun z:Int=>some (AV.val (.int .i64) z)) ?_;push_cast;omega))))(hi:injH (renOf ps) s'.H=true:=by rfl):JW X s' s:=JW.auto h0 hL hH hbL hbH hi
def qE(id:Nat)(R:S→Prop)(QA:Exit→S→Prop):Exit→S→Prop
 |.exit j,s=>if j=id then R s else QA (.exit j) s
 |e,s=>QA e s
def QX.er{id:Nat}{R:S→Prop}(h:QA .ret s):qE id R QA .ret s:=h
end Ox
namespace Ox
open Go Go.RowKit
variable {P:Program}{w:World}{M:Mem}
def Ty.flatB:Ty→Bool
 |.int _|.bool|.nil=>true|.arr _ e=>e.flatB|.cons a b=>a.flatB&&b.flatB|_=>false
def Ty.dep:Ty→Nat
 |.arr _ e=>e.dep+1|.cons a b=>max (a.dep+1) b.dep|_=>1
def Fl:Ty→List Value→Prop
 |.int k,cs=>∃ n,cs=[.int k n]
 |.bool,cs=>∃ b,cs=[.bool b]
 |.arr n e,cs=>cs.length=n*e.size∧∀ i,i<n→Fl e ((cs.drop (i*e.size)).take e.size)
 |.nil,cs=>cs=[]
 |.cons a b,cs=>∃ c1 c2,cs=c1++c2∧Fl a c1∧Fl b c2
 |_,_=>False
def Fl.length:∀ {t:Ty} {cs:List Value},Fl t cs→cs.length=t.size
 |.int _,_,h=>by obtain⟨n,rfl⟩:=h;rfl
 |.bool,_,h=>by obtain⟨n,rfl⟩:=h;rfl
 |.arr n e,_,h=>h.1
 |.nil,_,h=>by simp only[Fl] at h;subst h;rfl
 |.cons a b,_,h=>by simp only[Fl] at h;obtain⟨c1,c2,rfl,h1,h2⟩:=h;simp[Ty.size,h1.length,h2.length]
def Rep.fl:∀ {t:Ty} {x:t.den} {cs:List Value},t.flatB=true→Rep M t x cs→Fl t cs
 |.int _,_,_,_,h=>by simp only[Rep] at h;exact⟨_,h⟩
 |.bool,_,_,_,h=>by simp only[Rep] at h;exact⟨_,h⟩
 |.arr n e,l,cs,hf,h=>by simp only[Rep] at h;refine⟨h.2.1,fun i hi=>Rep.fl (by simpa[Ty.flatB] using hf) (h.2.2 i (by omega))⟩
 |.nil,_,_,_,h=>by simp only[Rep] at h;exact h
 |.cons a b,x,cs,hf,h=>by simp only[Rep] at h;simp only[Ty.flatB,yyb] at hf;obtain⟨c1,c2,rfl,h1,h2⟩:=h;exact⟨c1,c2,rfl,h1.fl hf.1,h2.fl hf.2⟩
def z0q{n c:Nat}{x y:List Value}(hx:x.length=n*c)(hy:y.length=n*c)(h:∀ i,i<n→(x.drop (i*c)).take c=(y.drop (i*c)).take c):x=y:=by rw[← chunks_flatten c n x hx,← chunks_flatten c n y hy];congr 1;exact List.map_congr_left fun i hi=>h i (yxc.1 hi)
def Rep.inj:∀ {t:Ty} {x y:t.den} {cx cy:List Value},t.flatB=true→Rep M t x cx→Rep M t y cy→(cx=cy↔x=y)
 |.int _,_,_,_,_,_,h1,h2=>by simp only[Rep] at h1 h2;subst h1 h2;simp
 |.bool,_,_,_,_,_,h1,h2=>by simp only[Rep] at h1 h2;subst h1 h2;simp
 |.arr n e,l,m,cx,cy,hf,h1,h2=>by
  simp only[Rep] at h1 h2;have hf':e.flatB=true:=by simpa[Ty.flatB] using hf
  constructor
  ·rintro rfl;refine List.ext_getElem (by omega) fun i i1 i2=>?_;exact(Rep.inj hf' (h1.2.2 i i1) (h2.2.2 i i2)).1 rfl
  ·intro e0;have e0:l=m:=e0;subst e0;exact z0q h1.2.1 h2.2.1 fun i hi=>(Rep.inj hf' (h1.2.2 i (by omega)) (h2.2.2 i (by omega))).2 rfl
 |.nil,_,_,_,_,_,h1,h2=>by simp only[Rep] at h1 h2;subst h1 h2;simp
 |.cons a b,x,y,cx,cy,hf,h1,h2=>by
  simp only[Rep] at h1 h2;simp only[Ty.flatB,yyb] at hf;obtain⟨c1,c2,rfl,a1,a2⟩:=h1;obtain⟨d1,d2,rfl,b1,b2⟩:=h2;have hl:c1.length=d1.length:=by rw[a1.length,b1.length]
  rw[show c1++c2=d1++d2↔c1=d1∧c2=d2 from⟨fun e=>List.append_inj e hl,fun⟨e1,e2⟩=>by rw[e1,e2]⟩,Rep.inj hf.1 a1 b1,Rep.inj hf.2 a2 b2];exact⟨fun h=>Prod.ext h.1 h.2,fun h=>by rw[h];exact⟨rfl,rfl⟩⟩
def eqOkB(P:Program):Ty→TypeId→Bool
 |.arr _ e,id=>e.size != 0&&(match P.underlying id with|some (.array _ eid)=>eqOkB P e eid|_=>false)
 |.cons a b,id=>!P.stoodInHeld id&&(match P.underlying id with
   |some (.struct fs)=>(match fs.toList with
    |f::r=>f.name != "_"&&eqOkB P a f.type&&eqOkF P b r
    |[]=>false)
   |_=>false)
 |.nil,_=>false
 |_,_=>true
where
 eqOkF (P:Program):Ty→List Field→Bool
 |.nil,[]=>true
 |.cons a b,f::r=>f.name != "_"&&eqOkB P a f.type&&eqOkF P b r
 |_,_=>false
def z2r{k:IntKind}{n:Int}:(Ty.int k).wrap [.int k n]=.int k n:=rfl
def q9o{b:Bool}:Ty.bool.wrap [.bool b]=.bool b:=rfl
def EqA(P:Program)(t:Ty):Prop:=∀ (id:TypeId) (d:Nat),TyOf P t id→eqOkB P t id=true→t.dep≤d→∀ (w:World) (cx cy:List Value),Fl t cx→Fl t cy →
 ∃ r:Bool,(Op.equalIn d id (t.wrap cx) (t.wrap cy)).run P w=.ok r w∧(r=true↔cx=cy)
def EqF(P:Program)(t:Ty):Prop:=∀ (fs:List Field) (off d:Nat),TyOf.fields P t fs off→eqOkB.eqOkF P t fs=true→t.dep≤d+1→∀ (w:World) (xs ys:Array Value),Fl t (xs.toList.drop off)→Fl t (ys.toList.drop off) →
 ∃ r:Bool,(Op.eqFields d xs ys fs).run P w=.ok r w∧(r=true↔xs.toList.drop off=ys.toList.drop off)
def q64{e:Ty}{eid:TypeId}{d:Nat}(IH:EqA P e)(ht:TyOf P e eid)(ho:eqOkB P e eid=true)(hd:e.dep≤d)(hs:0<e.size)(w:World)(xs ys:Array Value) :
  ∀ is:List Nat,(∀ i∈is,i*e.size+e.size≤xs.size∧i*e.size+e.size≤ys.size∧Fl e ((xs.toList.drop (i*e.size)).take e.size)∧Fl e ((ys.toList.drop (i*e.size)).take e.size)) →
  ∃ r:Bool,(Op.eqItems d eid e.size xs ys is).run P w=.ok r w∧(r=true↔∀ i∈is,(xs.toList.drop (i*e.size)).take e.size=(ys.toList.drop (i*e.size)).take e.size)
 |[],_=>⟨true,by simp[Op.eqItems],by simp⟩
 |i::is,h=>by
  obtain⟨h1,h2,h3,h4⟩:=h i (by simp);obtain⟨r,hr,hq⟩:=IH eid d ht ho hd w _ _ h3 h4;obtain⟨r',hr',hq'⟩:=q64 IH ht ho hd hs w xs ys is fun j hj=>h j (by simp[hj]);simp only[Op.eqItems,yye,q0g ht hs h1 w,q0g ht hs h2 w,hr,yyc];cases r
  ·exact⟨false,by simp,by simp only[yyr,false_iff];intro hh;exact absurd (hq.2 (hh i (by simp))) (by simp)⟩
  ·exact⟨r',by simpa using hr',by rw[hq'];simp[hq.1 rfl]⟩
def q1m{t:Ty}{id:TypeId}(ht:TyOf P t id):P.cellsOf id=t.size:=by obtain⟨d,h1,h2⟩:=ht.info;have:=h1.size;simp only[yyk] at this;obtain⟨i,hi,he⟩:=this;unfold Program.cellsOf;simp[hi,he]
def z0l:∀ t:Ty,EqA P t∧EqF P t
 |.int k=>by
  refine⟨fun id d ht _ hd w cx cy hx hy=>?_,fun fs off d h=>?_⟩
  ·obtain⟨d,rfl⟩:∃ d',d=d'+1:=⟨d-1,by simp[Ty.dep] at hd;omega⟩;obtain⟨n,rfl⟩:=hx;obtain⟨m,rfl⟩:=hy;exact⟨n==m,run_equalIn_int w d id k k n m ht.under,by simp⟩
  ·cases fs<;>simp[TyOf.fields] at h
 |.bool=>by
  refine⟨fun id d ht _ hd w cx cy hx hy=>?_,fun fs off d h=>?_⟩
  ·obtain⟨d,rfl⟩:∃ d',d=d'+1:=⟨d-1,by simp[Ty.dep] at hd;omega⟩;obtain⟨n,rfl⟩:=hx;obtain⟨m,rfl⟩:=hy;exact⟨n==m,q1s ht.under n m,by simp⟩
  ·cases fs<;>simp[TyOf.fields] at h
 |.slice e=>⟨fun _ _ _ _ _ _ _ _ hx _=>hx.elim,fun fs off d h=>by cases fs<;>simp[TyOf.fields] at h⟩
 |.ptr e=>⟨fun _ _ _ _ _ _ _ _ hx _=>hx.elim,fun fs off d h=>by cases fs<;>simp[TyOf.fields] at h⟩
 |.nil=>by
  refine⟨fun _ _ ht=>ht.elim,fun fs off d h _ _ w xs ys hx hy=>?_⟩;cases fs with
  |nil=>simp only[Fl] at hx hy;exact⟨true,by simp[Op.eqFields],by simp[hx,hy]⟩
  |cons f r=>simp[TyOf.fields] at h
 |.arr n e=>by
  refine⟨fun id d ht ho hd w cx cy hx hy=>?_,fun fs off d h=>by cases fs<;>simp[TyOf.fields] at h⟩;obtain⟨d,rfl⟩:∃ d',d=d'+1:=⟨d-1,by simp[Ty.dep] at hd;omega⟩;obtain⟨eid,h1,h2⟩:=ht;simp only[eqOkB,h1.under,yyb,bne_iff_ne] at ho;obtain⟨hs,ho⟩:=ho;obtain⟨i,hi⟩:=info_of_underlying (h2.info.choose_spec.1.under);have hce:=q1m h2;rw[show(Ty.arr n e).wrap cx=.agg cx.toArray from rfl,show(Ty.arr n e).wrap cy=.agg cy.toArray from rfl,run_equalIn_array w d _ _ h1.under hi,hce];have hb:∀ i,i<n→i*e.size+e.size≤n*e.size:=fun i hi=>by rw[← Nat.succ_mul];exact yy0 _ hi
  obtain⟨r,hr,hq⟩:=q64 (z0l e).1 h2 ho (by simp[Ty.dep] at hd;omega) (by omega) w cx.toArray cy.toArray (List.range n) fun i hi=>by have hi:=yxc.1 hi;exact⟨by simpa[hx.1] using hb i hi,by simpa[hy.1] using hb i hi,by simpa using hx.2 i hi,by simpa using hy.2 i hi⟩
  exact⟨r,hr,by rw[hq];exact⟨fun h=>z0q hx.1 hy.1 fun i hi=>by simpa using h i (yxc.2 hi),fun h=>by rw[h];simp⟩⟩
 |.cons a b=>by
  have hF:EqF P (.cons a b):=by
   intro fs off d h ho hd w xs ys hx hy;cases fs with
   |nil=>simp[TyOf.fields] at h
   |cons f r=>
    simp only[TyOf.fields] at h;simp only[eqOkB.eqOkF,yyb,bne_iff_ne] at ho;obtain⟨h0,h1,h2,h3⟩:=h;simp only[Fl] at hx hy;obtain⟨c1,c2,ex,x1,x2⟩:=hx;obtain⟨d1,d2,ey,y1,y2⟩:=hy;have hxs:xs.size=off+(a.size+b.size)∨xs.size<off+1:=by have:=congrArg List.length ex;simp[x1.length,x2.length] at this;omega
    have hys:ys.size=off+(a.size+b.size)∨ys.size<off+1:=by have:=congrArg List.length ey;simp[y1.length,y2.length] at this;omega
    have tx:(xs.toList.drop off).take a.size=c1:=by rw[ex,← x1.length,List.take_left]
    have ty:(ys.toList.drop off).take a.size=d1:=by rw[ey,← y1.length,List.take_left]
    have dx:xs.toList.drop (off+a.size)=c2:=by rw[← List.drop_drop,ex,← x1.length,List.drop_left]
    have dy:ys.toList.drop (off+a.size)=d2:=by rw[← List.drop_drop,ey,← y1.length,List.drop_left]
    have lx:off+a.size≤xs.size:=by have:=congrArg List.length ex;simp[x1.length] at this;omega
    have ly:off+a.size≤ys.size:=by have:=congrArg List.length ey;simp[y1.length] at this;omega
    simp only[Ty.dep] at hd;obtain⟨q,hq1,hq2⟩:=(z0l a).1 f.type d h1 ho.1.2 (by omega) w c1 d1 x1 y1;obtain⟨q',hq1',hq2'⟩:=(z0l b).2 r (off+a.size) d h3 ho.2 (by omega) w xs ys (by rw[dx];exact x2) (by rw[dy];exact y2);have px:=q0g h1 (cs:=xs) (off:=off) (by omega) lx w;have py:=q0g h1 (cs:=ys) (off:=off) (by omega) ly w;rw[tx] at px;rw[ty] at py;simp only[Op.eqFields,ho.1.1,h0,ne_eq,not_false_eq_true,if_true,yye,px,py,hq1,yyc];rw[ex,ey,show c1++c2=d1++d2↔c1=d1∧c2=d2 from⟨fun e=>List.append_inj e (by rw[x1.length,y1.length]),fun⟨e1,e2⟩=>by rw[e1,e2]⟩];rw[dx,dy] at hq2';cases q
    ·exact⟨false,by simp,by simp only[yyr,false_iff];intro hh;exact absurd (hq2.2 hh.1) (by simp)⟩
    ·exact⟨q',by simpa using hq1',by rw[hq2'];simp[hq2.1 rfl]⟩
  refine⟨fun id d ht ho hd w cx cy hx hy=>?_,hF⟩;obtain⟨d,rfl⟩:∃ d',d=d'+1:=⟨d-1,by simp[Ty.dep] at hd;omega⟩;obtain⟨fs,h1,h2⟩:=ht;simp only[eqOkB,h1.under,yyb,yyt] at ho;have hfo:P.fieldsOf id=fs:=by unfold Program.fieldsOf;rw[h1.under]
  rw[show(Ty.cons a b).wrap cx=.agg cx.toArray from rfl,show(Ty.cons a b).wrap cy=.agg cy.toArray from rfl,run_equalIn_agg w d id _ _ (by rw[hfo];exact h1.under) ho.1,hfo];obtain⟨r,hr,hq⟩:=hF fs.toList 0 d (by
   cases hfs:fs.toList with
   |nil=>rw[hfs] at h2;exact h2.elim
   |cons f r=>rw[hfs] at h2;simp only[TyOf.fields,yxl];exact h2) (by
   have:=ho.2;cases hfs:fs.toList with
   |nil=>rw[hfs] at this;cases this
   |cons f r=>rw[hfs] at this;exact this) hd w cx.toArray cy.toArray (by simpa using hx) (by simpa using hy)
  exact⟨r,hr,by simpa using hq⟩
def q4g{t:Ty}{id:TypeId}(ht:TyOf P t id)(ho:eqOkB P t id=true)(hd:t.dep≤10000)(hf:t.flatB=true){x y:t.den}{cx cy:List Value}(hx:Rep M t x cx)(hy:Rep M t y cy)(w:World) :
  ∃ r:Bool,(Op.equal id (t.wrap cx) (t.wrap cy)).run P w=.ok r w∧(r=true↔x=y):=by
 obtain⟨r,hr,hq⟩:=(z0l t).1 id 10000 ht ho hd w cx cy (hx.fl hf) (hy.fl hf);exact⟨r,hr,hq.trans (hx.inj hf hy)⟩
def CkA(P:Program)(em:Bool)(t:Ty):Prop:=∀ (id:TypeId) (d:Nat),TyOf P t id→eqOkB P t id=true→t.dep≤d→∀ (w:World) (cx:List Value),Fl t cx→(Instr.checkKey em d id (t.wrap cx)).run P w=.ok () w
def ckFields(em:Bool)(d:Nat)(xs:Array Value):List Field→Sem Unit
 |[]=>pure ()
 |f::r=>if f.name ≠ "_" then do Instr.checkKey em d f.type (← part f.type xs f.offset);ckFields em d xs r else ckFields em d xs r
def CkF(P:Program)(em:Bool)(t:Ty):Prop:=∀ (fs:List Field) (off d:Nat),TyOf.fields P t fs off→eqOkB.eqOkF P t fs=true→t.dep≤d+1→∀ (w:World) (xs:Array Value),Fl t (xs.toList.drop off)→(ckFields em d xs fs).run P w=.ok () w
def z3u(em:Bool):∀ t:Ty,CkA P em t∧CkF P em t
 |.int k=>by
  refine⟨fun id d ht _ hd w cx hx=>?_,fun fs off d h=>?_⟩
  ·obtain⟨d,rfl⟩:∃ d',d=d'+1:=⟨d-1,by simp[Ty.dep] at hd;omega⟩;obtain⟨n,rfl⟩:=hx;have hu:P.underlying id=some (.int k):=ht.under;simp[Instr.checkKey,run_underlying hu,z2r]
  ·cases fs<;>simp[TyOf.fields] at h
 |.bool=>by
  refine⟨fun id d ht _ hd w cx hx=>?_,fun fs off d h=>?_⟩
  ·obtain⟨d,rfl⟩:∃ d',d=d'+1:=⟨d-1,by simp[Ty.dep] at hd;omega⟩;obtain⟨n,rfl⟩:=hx;have hu:P.underlying id=some .bool:=ht.under;simp[Instr.checkKey,run_underlying hu,q9o]
  ·cases fs<;>simp[TyOf.fields] at h
 |.slice e=>⟨fun _ _ _ _ _ _ _ hx=>hx.elim,fun fs off d h=>by cases fs<;>simp[TyOf.fields] at h⟩
 |.ptr e=>⟨fun _ _ _ _ _ _ _ hx=>hx.elim,fun fs off d h=>by cases fs<;>simp[TyOf.fields] at h⟩
 |.nil=>by
  refine⟨fun _ _ ht=>ht.elim,fun fs off d h _ _ w xs hx=>?_⟩;cases fs with
  |nil=>simp[ckFields]
  |cons f r=>simp[TyOf.fields] at h
 |.arr n e=>by
  refine⟨fun id d ht ho hd w cx hx=>?_,fun fs off d h=>by cases fs<;>simp[TyOf.fields] at h⟩;obtain⟨d,rfl⟩:∃ d',d=d'+1:=⟨d-1,by simp[Ty.dep] at hd;omega⟩;obtain⟨eid,h1,h2⟩:=ht;simp only[eqOkB,h1.under,yyb,bne_iff_ne] at ho;obtain⟨hs,ho⟩:=ho;obtain⟨i,hi⟩:=info_of_underlying (h2.info.choose_spec.1.under);have hce:=q1m h2;have hb:∀ i,i<n→i*e.size+e.size≤n*e.size:=fun i hi=>by rw[← Nat.succ_mul];exact yy0 _ hi
  rw[show(Ty.arr n e).wrap cx=.agg cx.toArray from rfl,Instr.checkKey];simp only[yye,run_underlying h1.under,yyc];simp only[Std.Legacy.Range.forIn_eq_forIn_range',Std.Legacy.Range.size,Nat.sub_zero,Nat.add_one_sub_one,Nat.div_one];have each:∀ j∈List.range' 0 n,j<n:=fun j hj=>by simpa using hj
  generalize List.range' 0 n=is at each;induction is with
  |nil=>simp
  |cons j is ih=>have hj:=each j (by simp);have p1:=q0g h2 (cs:=cx.toArray) (off:=j*e.size) (by omega) (by simpa[hx.1] using hb j hj) w;have p2:=(z3u em e).1 eid d h2 ho (by simp[Ty.dep] at hd;omega) w _ (by simpa using hx.2 j hj);simp only[List.forIn_cons,yye,run_sizeOf w hi,hce,yyc,p1,p2,yyf];exact ih fun y hy=>each y (by simp[hy])
 |.cons a b=>by
  have hF:CkF P em (.cons a b):=by
   intro fs off d h ho hd w xs hx;cases fs with
   |nil=>simp[TyOf.fields] at h
   |cons f r=>
    simp only[TyOf.fields] at h;simp only[eqOkB.eqOkF,yyb,bne_iff_ne] at ho;obtain⟨h0,h1,h2,h3⟩:=h;simp only[Fl] at hx;obtain⟨c1,c2,ex,x1,x2⟩:=hx;have tx:(xs.toList.drop off).take a.size=c1:=by rw[ex,← x1.length,List.take_left]
    have dx:xs.toList.drop (off+a.size)=c2:=by rw[← List.drop_drop,ex,← x1.length,List.drop_left]
    have lx:off+a.size≤xs.size:=by have:=congrArg List.length ex;simp[x1.length] at this;omega
    simp only[Ty.dep] at hd;have q1:=(z3u em a).1 f.type d h1 ho.1.2 (by omega) w c1 x1;have q2:=(z3u em b).2 r (off+a.size) d h3 ho.2 (by omega) w xs (by rw[dx];exact x2);have px:=q0g h1 (cs:=xs) (off:=off) (by omega) lx w;rw[tx] at px;simp only[ckFields,ho.1.1,h0,ne_eq,not_false_eq_true,if_true,yye,px,q1,yyc];exact q2
  refine⟨fun id d ht ho hd w cx hx=>?_,hF⟩;obtain⟨d,rfl⟩:∃ d',d=d'+1:=⟨d-1,by simp[Ty.dep] at hd;omega⟩;obtain⟨fs,h1,h2⟩:=ht;simp only[eqOkB,h1.under,yyb,yyt] at ho;have hr:=hF fs.toList 0 d (by
   cases hfs:fs.toList with
   |nil=>rw[hfs] at h2;exact h2.elim
   |cons f r=>rw[hfs] at h2;simp only[TyOf.fields,yxl];exact h2) (by
   have:=ho.2;cases hfs:fs.toList with
   |nil=>rw[hfs] at this;cases this
   |cons f r=>rw[hfs] at this;exact this) hd w cx.toArray (by simpa using hx)
  rw[show(Ty.cons a b).wrap cx=.agg cx.toArray from rfl,Instr.checkKey];simp only[yye,run_underlying h1.under,yyc];rw[← Array.forIn_toList];clear h2 ho;generalize fs.toList=L at hr;generalize Result.ok () w=R at hr;induction L generalizing w with
  |nil=>simpa[ckFields] using hr
  |cons f L ih=>
   simp only[List.forIn_cons,yye];by_cases hn:f.name = "_"
   ·simp only[ckFields,hn,ne_eq,not_true_eq_false,if_false] at hr;simp only[hn,ne_eq,not_true_eq_false,if_false,yyf,yyc];exact ih w hr
   ·simp only[ckFields,hn,ne_eq,not_false_eq_true,if_true,yye] at hr;simp only[hn,ne_eq,not_false_eq_true,if_true,yye];generalize (part f.type cx.toArray f.offset).run P w=r1 at hr;cases r1 with
    |ok a w1=>
     simp only[yyc] at hr ⊢;generalize (Instr.checkKey em d f.type a).run P w1=r2 at hr;cases r2 with
     |ok u w2=>simp only[yyc,yyf] at hr ⊢;simpa using ih w2 hr
     |halt x w2=>simpa[Result.andThen] using hr
    |halt x w1=>simpa[Result.andThen] using hr
variable {X:Ctx}{s:S}{ρ:Env}{a:Act}{w':World}{QA:Exit→S→Prop}{all l:List Oper}{o:Oper}
def Ty.dec:(t:Ty)→DecidableEq t.den
 |.int _=>inferInstanceAs (DecidableEq Int)
 |.bool=>inferInstanceAs (DecidableEq Bool)
 |.slice e=>letI:=e.dec;inferInstanceAs (DecidableEq (List e.den))
 |.ptr e=>letI:=e.dec;inferInstanceAs (DecidableEq (Option e.den))
 |.arr _ e=>letI:=e.dec;inferInstanceAs (DecidableEq (List e.den))
 |.nil=>inferInstanceAs (DecidableEq Unit)
 |.cons a b=>letI:=a.dec;letI:=b.dec;inferInstanceAs (DecidableEq (a.den×b.den))
def Ty.eqB(t:Ty)(x y:t.den):Bool:=@decide (x=y) (t.dec x y)
def v8{t:Ty}{x y:t.den}:t.eqB x y=true↔x=y:=by unfold Ty.eqB;exact @decide_eq_true_iff _ (t.dec x y)
abbrev Ent(kt vt:Ty):=kt.den×vt.den×Nat
def mIdx{kt vt:Ty}(es:List (Ent kt vt))(x:kt.den):Option Nat:=es.findIdx? fun e=>kt.eqB x e.1
structure KeyOK(P:Program)(t:Ty)(id:TypeId):Prop where
 ty:TyOf P t id
 ok:eqOkB P t id=true
 dep:t.dep≤10000
 flat:t.flatB=true
def q75{kt vt:Ty}{kid:TypeId}(hk:KeyOK P kt kid){x:kt.den}{cx:List Value}(hx:Rep M kt x cx)(w:World) :
  ∀ (es:List (Ent kt vt)) (ms:List MapEntry) (i:Nat),MapRep M kt vt es ms →
  match mIdx es x with
  |none=>(Instr.findAsking kid (kt.wrap cx) ms i).run P w=.ok none w
  |some j=>∃ e,ms[j]?=some e∧(Instr.findAsking kid (kt.wrap cx) ms i).run P w=.ok (some (i+j,e.val)) w
 |[],[],i,_=>by simp[mIdx,Instr.findAsking]
 |e::es,m::ms,i,h=>by
  simp only[MapRep] at h;obtain⟨⟨⟨kc,hkc,hke⟩,_,_⟩,h2⟩:=h;obtain⟨r,hr,hq⟩:=q4g hk.ty hk.ok hk.dep hk.flat hx hkc w;have ih:=q75 hk hx w es ms (i+1) h2;simp only[mIdx,List.findIdx?_cons,Instr.findAsking,yye,hke,hr,yyc] at ih ⊢;cases r
  ·have hne:kt.eqB x e.1=false:=by
    cases hb:kt.eqB x e.1
    ·rfl
    ·exact absurd (hq.2 (v8.1 hb)) (by simp)
   rw[hne];simp only[yyr,if_false];cases hf:es.findIdx? (fun e=>kt.eqB x e.1) with
   |none=>rw[hf] at ih;simpa using ih
   |some j=>rw[hf] at ih;obtain⟨e',h3,h4⟩:=ih;refine⟨e',by simpa using h3,?_⟩;rw[h4];simp only[Result.ok.injEq,yya,yyl,and_true];show i+1+j=i+(j+1);omega
  ·rw[v8.2 (hq.1 rfl)];exact⟨m,by simp,by simp⟩
 |[],_::_,_,h=>h.elim
 |_::_,[],_,h=>h.elim
def z6y{kt vt:Ty}{d:TypeDesc}(hd:(∃ k,kt=.int k∧d=.int k)∨(kt=.bool∧d=.bool)){x:kt.den}{cx:List Value}(hx:Rep M kt x cx) :
  ∀ (es:List (Ent kt vt)) (ms:List MapEntry) (i:Nat),MapRep M kt vt es ms →
  match mIdx es x with
  |none=>Instr.findNow d (kt.wrap cx) ms i=some none
  |some j=>∃ e,ms[j]?=some e∧Instr.findNow d (kt.wrap cx) ms i=some (some (i+j,e.val))
 |[],[],i,_=>by simp[mIdx,Instr.findNow]
 |e::es,m::ms,i,h=>by
  simp only[MapRep] at h;obtain⟨⟨⟨kc,hkc,hke⟩,_,_⟩,h2⟩:=h;have ih:=z6y hd hx es ms (i+1) h2;have hs:Instr.sameNow d (kt.wrap cx) m.key=some (kt.eqB x e.1):=by
   rw[hke];rcases hd with⟨k,rfl,rfl⟩|⟨rfl,rfl⟩
   ·simp only[Rep] at hx hkc;subst hx hkc;simp only[z2r,Instr.sameNow,if_true,yya];rw[yy2,v8,beq_iff_eq]
   ·simp only[Rep] at hx hkc;subst hx hkc;simp only[q9o,Instr.sameNow,yya];rw[yy2,v8,beq_iff_eq]
  simp only[mIdx,List.findIdx?_cons,Instr.findNow,hs] at ih ⊢;cases hb:kt.eqB x e.1
  ·simp only[yyr,if_false];cases hf:es.findIdx? (fun e=>kt.eqB x e.1) with
   |none=>rw[hf] at ih;simpa using ih
   |some j=>rw[hf] at ih;obtain⟨e',h3,h4⟩:=ih;refine⟨e',by simpa using h3,?_⟩;rw[h4];simp only[yya,yyl,and_true];show i+1+j=i+(j+1);omega
  ·exact⟨m,by simp,by simp⟩
 |[],_::_,_,h=>h.elim
 |_::_,[],_,h=>h.elim
def now_agg{d:TypeDesc}{cs:Array Value}(hd:(∃ n e,d=.array n e)∨∃ fs,d=.struct fs):∀ (ms:List MapEntry) (i:Nat),Instr.findNow d (.agg cs) ms i=if ms=[] then some none else none
 |[],i=>by simp[Instr.findNow]
 |m::ms,i=>by rcases hd with⟨n,e,rfl⟩|⟨fs,rfl⟩<;>simp[Instr.findNow,Instr.sameNow]
def find_run{kt vt:Ty}{kid:TypeId}(hk:KeyOK P kt kid){x:kt.den}{cx:List Value}(hx:Rep M kt x cx)(w:World)(es:List (Ent kt vt))(ms:List MapEntry)(h:MapRep M kt vt es ms) :
  match mIdx es x with
  |none=>(Instr.findKey kid (kt.wrap cx) ms).run P w=.ok none w
  |some j=>∃ e,ms[j]?=some e∧(Instr.findKey kid (kt.wrap cx) ms).run P w=.ok (some (j,e.val)) w:=by
 have ask:=q75 hk hx w es ms 0 h;have wide:∀ d,P.underlying kid=some d→((∃ n e,d=.array n e)∨∃ fs,d=.struct fs)→kt.wrap cx=.agg cx.toArray→_:=fun d hu hd hw=>by
  have hn:=now_agg (cs:=cx.toArray) hd ms 0;rw[← hw] at hn;show match mIdx es x with
   |none=>(Instr.findKey kid (kt.wrap cx) ms).run P w=.ok none w
   |some j=>∃ e,ms[j]?=some e∧(Instr.findKey kid (kt.wrap cx) ms).run P w=.ok (some (j,e.val)) w
  unfold Instr.findKey;simp only[yye,run_underlying hu,yyc,hn];by_cases hms:ms=[]
  ·subst hms;cases es with
   |nil=>simp[mIdx]
   |cons _ _=>exact h.elim
  ·simp only[hms,if_false];cases hf:mIdx es x with
   |none=>rw[hf] at ask;exact ask
   |some j=>rw[hf] at ask;simpa using ask
 obtain⟨hty,_,_,hfl⟩:=hk;have plain:∀ d,P.underlying kid=some d→((∃ k,kt=.int k∧d=.int k)∨(kt=.bool∧d=.bool))→match mIdx es x with
   |none=>(Instr.findKey kid (kt.wrap cx) ms).run P w=.ok none w
   |some j=>∃ e,ms[j]?=some e∧(Instr.findKey kid (kt.wrap cx) ms).run P w=.ok (some (j,e.val)) w:=fun d hu hd=>by
  have hn:=z6y hd hx es ms 0 h;unfold Instr.findKey;simp only[yye,run_underlying hu,yyc];cases hf:mIdx es x with
  |none=>rw[hf] at hn;simp only at hn;rw[hn];rfl
  |some j=>rw[hf] at hn;obtain⟨e,h3,h4⟩:=hn;refine⟨e,h3,?_⟩;rw[h4];simp
 cases kt with
 |int k=>exact plain _ hty.under (.inl ⟨k,rfl,rfl⟩)
 |bool=>exact plain _ hty.under (.inr ⟨rfl,rfl⟩)
 |arr n e=>obtain⟨eid,h1,_⟩:=hty;exact wide _ h1.under (.inl ⟨_,_,rfl⟩) rfl
 |cons a b=>obtain⟨fs,h1,_⟩:=hty;exact wide _ h1.under (.inr ⟨_,rfl⟩) rfl
 |nil=>exact hty.elim
 |slice e=>simp[Ty.flatB] at hfl
 |ptr e=>simp[Ty.flatB] at hfl
def z4t{kt:Ty}{kid:TypeId}(hk:KeyOK P kt kid){x:kt.den}{cx:List Value}(hx:Rep M kt x cx)(em:Bool)(w:World):(Instr.checkKey em 10000 kid (kt.wrap cx)).run P w=.ok () w:=(z3u em kt).1 kid 10000 hk.ty hk.ok hk.dep w cx (hx.fl hk.flat)
def Fl.bits:∀ {t:Ty} {cs:List Value},Fl t cs→∀ c∈cs,∀ n,Instr.sameBits n c c=true
 |.int _,_,h,c,hc,n=>by obtain⟨m,rfl⟩:=h;simp only[yyv] at hc;subst hc;cases n<;>simp[Instr.sameBits]
 |.bool,_,h,c,hc,n=>by obtain⟨m,rfl⟩:=h;simp only[yyv] at hc;subst hc;cases n<;>simp[Instr.sameBits]
 |.nil,_,h,c,hc,n=>by simp only[Fl] at h;subst h;cases hc
 |.cons a b,_,h,c,hc,n=>by
  simp only[Fl] at h;obtain⟨c1,c2,rfl,h1,h2⟩:=h;rcases yxd.1 hc with e|e
  ·exact h1.bits c e n
  ·exact h2.bits c e n
 |.arr k e,cs,h,c,hc,n=>by simp only[Fl] at h;have h2:=h.2;rw[← chunks_flatten e.size k cs h.1] at hc;obtain⟨l,hl,hcl⟩:=List.mem_flatten.1 hc;obtain⟨i,hi,rfl⟩:=yxk.1 hl;exact(h2 i (yxc.1 hi)).bits c hcl n
 |.slice _,_,h,_,_,_=>h.elim
 |.ptr _,_,h,_,_,_=>h.elim
def mPut{kt vt:Ty}(es:List (Ent kt vt))(clk:Nat)(x:kt.den)(v:vt.den):List (Ent kt vt):=match mIdx es x with|none=>es++[(x,v,clk)]|some j=>es.modify j fun e=>(e.1,v,e.2.2)
def mClk{kt vt:Ty}(es:List (Ent kt vt))(clk:Nat)(x:kt.den):Nat:=match mIdx es x with|none=>clk+1|some _=>clk
def MapRep.length{kt vt:Ty}:∀ {es:List (Ent kt vt)} {ms:List MapEntry},MapRep M kt vt es ms→ms.length=es.length
 |[],[],_=>rfl
 |_::_,_::_,h=>by simp only[MapRep] at h;simp[h.2.length]
 |[],_::_,h=>h.elim
 |_::_,[],h=>h.elim
def MapRep.get{kt vt:Ty}:∀ {es:List (Ent kt vt)} {ms:List MapEntry},MapRep M kt vt es ms→∀ {j:Nat} {m:MapEntry},ms[j]?=some m→∃ e,es[j]?=some e∧EntRep M kt vt e m
 |[],[],_,j,m,h=>by simp at h
 |e::es,m::ms,h,j,m',hj=>by
  simp only[MapRep] at h;cases j with
  |zero=>simp only[List.getElem?_cons_zero,yya] at hj;subst hj;exact⟨e,by simp,h.1⟩
  |succ j=>obtain⟨e',h1,h2⟩:=h.2.get (by simpa using hj);exact⟨e',by simpa using h1,h2⟩
 |[],_::_,h,_,_,_=>h.elim
 |_::_,[],h,_,_,_=>h.elim
def MapRep.mod{kt vt:Ty}{f:Ent kt vt→Ent kt vt}{g:MapEntry→MapEntry}:∀ {es:List (Ent kt vt)} {ms:List MapEntry} (j:Nat),MapRep M kt vt es ms→(∀ e m,es[j]?=some e→ms[j]?=some m→EntRep M kt vt e m→EntRep M kt vt (f e) (g m))→MapRep M kt vt (es.modify j f) (ms.modify j g)
 |[],[],j,_,_=>by simp[MapRep]
 |e::es,m::ms,0,h,hf=>by simp only[MapRep,List.modify_zero_cons] at h ⊢;exact⟨hf e m (by simp) (by simp) h.1,h.2⟩
 |e::es,m::ms,j+1,h,hf=>by simp only[MapRep,List.modify_succ_cons] at h ⊢;exact⟨h.1,h.2.mod j fun e' m' h1 h2=>hf e' m' (by simpa using h1) (by simpa using h2)⟩
 |[],_::_,_,h,_=>h.elim
 |_::_,[],_,h,_=>h.elim
def SAT.setMap(h:SAT X M ρ s w){n:Nat}{kt vt:Ty}{es es':List (Ent kt vt)}{clk clk':Nat}{ms':Array MapEntry}(hl:lk s.H n=some (.map kt vt es clk))(hm:MapRep M kt vt es' ms'.toList) :
  SAT X M ρ ⟨s.L,updH s.H n (.map kt vt es' clk'),s.nx⟩ (ChangeMaps.setBlock w (ρ.blk n) (.map ms' clk')):=by
 have hok:=(h.own _ _ hl).2.2;simp only[HO.ok] at hok;obtain⟨h1,ms,h2,h3⟩:=hok;have hlt:=(yyh.1 h2).1;refine h.upd hl ⟨rfl,rfl,rfl,by simp[ChangeMaps.setBlock],fun k hk hne=>?_⟩ rfl trivial ?_
 ·have:ρ.blk n≠k:=fun e=>hne (by simp only[HO.at];rw[e]);simp only[ChangeMaps.setBlock,yxp];rw[if_neg this]
 ·simp only[HO.ok];exact⟨h1,ms',by simp only[ChangeMaps.setBlock,yxp];simp[hlt],hm⟩
structure MapT(P:Program)(kt vt:Ty)(t kid vid:TypeId):Prop where
 under:P.underlying t=some (.map kid vid)
 key:KeyOK P kt kid
 val:TyOf P vt vid
section
variable {kt vt:Ty}{t kid vid:TypeId}{es:List (Ent kt vt)}{ms:Array MapEntry}{clk b:Nat}{x:kt.den}{cx:List Value}
end
variable {kt vt:Ty}{t kid vid:TypeId}{es:List (Ent kt vt)}{ms:Array MapEntry}{clk b n d nx:Nat}{x:kt.den}{cx:List Value}{L:List (Nat×AV)}{H:List (Nat×HO)}{ty:TypeId}{ps:String}{af:Array Edge}{c1 c2 c3:List Prop}{om ok ov:Operand}
variable{s':S}
def z37{v:AV}(hg:o.guard=none)(hn:notDef o.op=true)(hd:dstOk X.n o.dst)(h:∀ M ρ a w,SAT X M ρ s w→REG X M ρ s a→Did X M ρ s v s' ((execOp a.eval o).run X.P w))(k:JL X true all QA l (putS o.dst v s')):JL X true all QA (o::l) s:=by
 intro M ρ a w h1 h2;obtain⟨ρ',w',nxt,e1,e2,e3,e4,e5,e6,e7⟩:=h M ρ a w h1 h2;refine j6 (v4 hg) ?_;have h2':REG X M ρ' s' a:=by have:=h2.grow (H':=s'.H) (nx':=s'.nx) (Mem.le_refl M) e2 e3 (x8 M);rw[← e4] at this;exact⟨this.size,this.defers,this.reg⟩
 rcases e7 with⟨z,rfl,hz⟩|⟨rfl,rfl⟩
 ·exact y6 hn e1 (k M ρ' _ w' (j0 e5) (h2'.putO hd.spec e6 hz))
 ·exact q4x hn e1 (k M ρ' _ w' (j0 e5) (h2'.putO hd.spec e6 (by simp only[AV.rv])))
def opd_map(hu:opd L om=some (c1,.lf (.mp n)))(hc:allP c1)(h2:REG X M ρ ⟨L,H,nx⟩ a):a.eval om=.map (some (ρ.blk n)):=by have:=(z8 (s:=⟨L,H,nx⟩) hu hc h2).2;rw[y7] at this;simp only[Leaf.at,yya] at this;exact this.1.symm
def q3i{y:vt.den}(hu:opd L om=some (c1,.val vt y))(hc:allP c1)(h2:REG X M ρ ⟨L,H,nx⟩ a):∃ cs,Rep M vt y cs∧a.eval om=vt.wrap cs:=by have:=(z8 (s:=⟨L,H,nx⟩) hu hc h2).2;simpa only[AV.rv] using this
def own_map(h1:SAT X M ρ ⟨L,H,nx⟩ w)(hl:lk H n=some (.map kt vt es clk)):∃ ms,w.heap[ρ.blk n]?=some (.map ms clk)∧MapRep M kt vt es ms.toList:=by have:=m9 h1 hl;simp only[HO.ok] at this;exact this.2
variable {es:List (Ent kt vt)}{x:kt.den}
def mDel(es:List (Ent kt vt))(x:kt.den):List (Ent kt vt):=match mIdx es x with|none=>es|some j=>es.eraseIdx j
def MapRep.erase{kt vt:Ty}:∀ {es:List (Ent kt vt)} {ms:List MapEntry} (j:Nat),MapRep M kt vt es ms→MapRep M kt vt (es.eraseIdx j) (ms.eraseIdx j)
 |[],[],j,_=>by simp[MapRep]
 |e::es,m::ms,0,h=>by simp only[MapRep] at h;simpa using h.2
 |e::es,m::ms,j+1,h=>by simp only[MapRep,List.eraseIdx_cons_succ] at h ⊢;exact⟨h.1,h.2.erase j⟩
 |[],_::_,_,h=>h.elim
 |_::_,[],_,h=>h.elim
def run_del(hT:MapT P kt vt t kid vid)(hb:w.heap[b]?=some (.map ms clk))(hm:MapRep M kt vt es ms.toList)(hx:Rep M kt x cx){ta:TypeId} :
  ∃ ms':Array MapEntry,MapRep M kt vt (mDel es x) ms'.toList∧(Builtin.delete_ #[t,ta] tt #[.map (some b),kt.wrap cx]).run P w=.ok (.tuple #[]) (ChangeMaps.setBlock w b (.map ms' clk)):=by
 have hf:=find_run hT.key hx w es ms.toList hm;unfold Builtin.delete_;simp only[yxh,List.getElem?_cons_zero,yxb,yye,run_underlying hT.under,yyc,MapKept.run_getObj_map hb,z4t hT.key hx];unfold mDel;cases hi:mIdx es x with
 |none=>rw[hi] at hf;refine⟨ms,hm,?_⟩;simp only[hf,yyc,yye,MapKept.run_setObj_map _ hb,yyf];rfl
 |some j=>
  rw[hi] at hf;obtain⟨e,h1,h2⟩:=hf;refine⟨ms.eraseIdxIfInBounds j,?_,?_⟩
  ·rw[Array.toList_eraseIdxIfInBounds];exact hm.erase j
  ·simp only[h2,yyc,yye,MapKept.run_setObj_map _ hb,yyf];rfl
def JL.mDel(hT:MapT X.P kt vt t kid vid){ta:TypeId}(hu:opd L om=some (c1,.lf (.mp n)))(hl:lk H n=some (.map kt vt es clk))(hv:opd L ok=some (c2,.val kt x))(hc:allP (c1++c2))
  (k:JL X true all QA l ⟨L,updH H n (.map kt vt (Ox.mDel es x) clk),nx⟩):JL X true all QA (⟨none,.call {callee:=.builtin .delete,args:=#[om,ok],argTypes:=#[t,ta]},ty,ps,af,none⟩::l) ⟨L,H,nx⟩:=by
 rw[z6] at hc;refine z37 rfl rfl trivial (v:=.tup .anil) (s':=⟨L,updH H n (.map kt vt (Ox.mDel es x) clk),nx⟩) (fun M ρ a w h1 h2=>?_) k;obtain⟨ms,hb,hm⟩:=own_map h1 hl;obtain⟨cx,hx,hxe⟩:=q3i hv hc.2 h2;obtain⟨ms',r1,r2⟩:=run_del (tt:=ty) (ta:=ta) hT hb hm hx;refine⟨ρ,_,_,?_,Env.upTo.refl _ _,yyo _,rfl,h1.setMap hl r1,trivial,.inl ⟨.tuple #[],rfl,?_⟩⟩
 ·simp only[execOp,resolve,invoke,builtin,yye,yyf,yyc,List.map_toArray,yyz,List.map_nil,opd_map hu hc.1 h2,hxe,r2]
 ·simp only[AV.rv,AV.rvs];exact⟨[],rfl,rfl⟩
variable {es:List (Ent kt vt)}{x y:kt.den}{v d:vt.den}{e:Ent kt vt}
def z7c:mIdx es x=none↔∀ e∈es,e.1≠x:=by
 unfold mIdx;rw[List.findIdx?_eq_none_iff];refine⟨fun h e he hx=>?_,fun h e he=>?_⟩
 ·have:=h e he;rw[v8.2 hx.symm] at this;cases this
 ·cases hb:kt.eqB x e.1
  ·rfl
  ·exact absurd (v8.1 hb).symm (h e he)
structure MWF(es:List (Ent kt vt))(clk:Nat):Prop where
 lt:∀ e∈es,e.2.2<clk
 nb:(es.map (·.2.2)).Nodup
 nk:(es.map (·.1)).Nodup
def MWF.nil:MWF ([]:List (Ent kt vt)) clk:=⟨(fun _ h=>by cases h),yxr,yxr⟩
def q8t{α β:Type}{f:α→β}:∀ {l:List α},(l.map f).Nodup→∀ {a b:α},a∈l→b∈l→f a=f b→a=b
 |[],_,_,_,h,_,_=>by cases h
 |c::l,hn,a,b,ha,hb,e=>by
  rw[yyz,yx2] at hn;rcases yyn.1 ha with h1|h1
  ·rcases yyn.1 hb with h2|h2
   ·rw[h1,h2]
   ·exact absurd (yxk.2 ⟨b,h2,by rw[← e,h1]⟩) hn.1
  ·rcases yyn.1 hb with h2|h2
   ·exact absurd (yxk.2 ⟨a,h1,by rw[e,h2]⟩) hn.1
   ·exact q8t hn.2 h1 h2 e
def MWF.eq(h:MWF es clk){e e':Ent kt vt}(h1:e∈es)(h2:e'∈es)(hk:e.1=e'.1):e=e':=q8t h.nk h1 h2 hk
def MWF.eqb(h:MWF es clk){e e':Ent kt vt}(h1:e∈es)(h2:e'∈es)(hk:e.2.2=e'.2.2):e=e':=q8t h.nb h1 h2 hk
def z1w{α β:Type}{f:α→α}{g:α→β}(hg:∀ a,g (f a)=g a):∀ (l:List α) (j:Nat),(l.modify j f).map g=l.map g
 |[],j=>by simp
 |a::l,0=>by simp[hg]
 |a::l,j+1=>by simp[z1w hg l j]
def MWF.put(h:MWF es clk):MWF (mPut es clk x v) (mClk es clk x):=by
 unfold mPut mClk;split
 ·rename_i hn;rw[z7c] at hn;refine⟨fun e he=>?_,?_,?_⟩
  ·rcases yxd.1 he with he|he
   ·have:=h.lt e he;omega
   ·rw[yyv.1 he];exact yy6 _
  ·rw[yxv,List.nodup_append];refine⟨h.nb,by simp,fun a ha b hb=>?_⟩;obtain⟨e,he,rfl⟩:=yxk.1 ha;simp only[yyz,List.map_nil,yyv] at hb;have:=h.lt e he;omega
  ·rw[yxv,List.nodup_append];refine⟨h.nk,by simp,fun a ha b hb=>?_⟩;obtain⟨e,he,rfl⟩:=yxk.1 ha;simp only[yyz,List.map_nil,yyv] at hb;subst hb;exact hn e he
 ·refine⟨fun e he=>?_,?_,?_⟩
  ·obtain⟨i,hi,rfl⟩:=yxt.1 he;have:=h.lt (es[i]'(by simpa using hi)) (yy5 _);rw[List.getElem_modify];split
   ·exact this
   ·exact this
  ·rw[z1w (f:=fun e:Ent kt vt=>(e.1,v,e.2.2)) (g:=fun e=>e.2.2) fun _=>rfl];exact h.nb
  ·rw[z1w (f:=fun e:Ent kt vt=>(e.1,v,e.2.2)) (g:=fun e=>e.1) fun _=>rfl];exact h.nk
def mDel_sub:(mDel es x).Sublist es:=by
 unfold mDel;split
 ·exact List.Sublist.refl _
 ·exact List.eraseIdx_sublist _ _
def MWF.sub{fs:List (Ent kt vt)}(h:MWF es clk)(hs:fs.Sublist es):MWF fs clk:=⟨fun e he=>h.lt e (hs.subset he),(hs.map _).nodup h.nb,(hs.map _).nodup h.nk⟩
def MWF.del(h:MWF es clk):MWF (mDel es x) clk:=h.sub mDel_sub
section
variable {X:Ctx}{s:S}{M:Mem}{ρ:Env}{a:Act}{w w':World}{QA:Exit→S→Prop}{all l:List Oper}{o:Oper}{P:Program}{md:Bool}
variable {t kid vid:TypeId}{n dd nx:Nat}{L:List (Nat×AV)}{H:List (Nat×HO)}{ty:TypeId}{ps:String}{af:Array Edge}{c1 c2 c3:List Prop}{om ok ov:Operand}
def JL.vq{v:AV}(hg:o.guard=none)(hn:notDef o.op=true)(hd:dstOk X.n o.dst)(hb:v.bd s.nx)(h:∀ M ρ a w,SAT X M ρ s w→REG X M ρ s a→∃ z,v.rv M ρ z∧∀ w1,(execOp a.eval o).run X.P w1=.ok (.value z) w1)
  (k:JL X md all QA l (putS o.dst v s)):JL X md all QA (o::l) s:=by
 cases md
 ·intro M ρ a w0 h1 h2;obtain⟨z,hz,hr⟩:=h M ρ a w0 h1 h2;simp only[wpQuiet,Region.wanted,hg,if_true];refine⟨z,fun w hw=>?_,k M ρ _ w0 (j0 h1) (h2.putO hd.spec hb hz)⟩;unfold Oper.quietAt;rw[hr w];exact⟨rfl,rfl⟩
 ·intro M ρ a w h1 h2;obtain⟨z,hz,hr⟩:=h M ρ a w h1 h2;exact j6 (v4 hg) (y6 hn (hr w) (k M ρ _ w (j0 h1) (h2.putO hd.spec hb hz)))
def JL.eqQ(hK:KeyOK X.P kt t)(hag:kt.agg=true)(hgt:X.P.eqGuardType X.P.depth t=false)(hu:opd L om=some (c1,.val kt x))(hv:opd L ok=some (c2,.val kt y))(hd:ltB dd X.n=true)(hc:allP (c1++c2))
  (k:JL X md all QA l ⟨(dd,.val .bool (kt.eqB x y))::L,H,nx⟩):JL X md all QA (⟨some dd,.binOp .eql t om ok tt,ty,ps,af,none⟩::l) ⟨L,H,nx⟩:=by
 rw[z6] at hc;refine JL.vq rfl rfl (y8 hd) trivial (v:=.val .bool (kt.eqB x y)) (s:=⟨L,H,nx⟩) (fun M ρ a w h1 h2=>⟨.bool (kt.eqB x y),g8.2 rfl,fun w1=>?_⟩) k;obtain⟨cx,hx,hxe⟩:=q3i (vt:=kt) hu hc.1 h2;obtain⟨cy,hy,hye⟩:=q3i (vt:=kt) hv hc.2 h2;obtain⟨r,hr,hq⟩:=q4g hK.ty hK.ok hK.dep hK.flat hx hy w1;have hrb:r=kt.eqB x y:=by rw[yy2,v8];exact hq
 rw[v7 hag,v7 hag] at hr;simp only[execOp,hxe,hye,v7 hag,yye,run_eqGuard_agg w1 _ _ _ _ _ _ hgt,yyc,binOp,hr,yyf,hrb]
end
variable {md:Bool}
variable {es:List (Ent kt vt)}{d:Nat}{x y:kt.den}
structure EqT(P:Program)(kt:Ty)(t:TypeId):Prop where
 key:KeyOK P kt t
 ag:kt.agg=true
 gt:P.eqGuardType P.depth t=false
def keyB(P:Program)(kt:Ty)(t:TypeId):Bool:=tyB P kt t&&(eqOkB P kt t&&(Nat.ble kt.dep 10000&&kt.flatB))
def KeyOK.of(h:keyB P kt t=true):KeyOK P kt t:=by simp only[keyB,yyb] at h;exact⟨r8 h.1,h.2.1,yyd h.2.2.1,h.2.2.2⟩
def eqtB(P:Program)(kt:Ty)(t:TypeId):Bool:=keyB P kt t&&(kt.agg&&!P.eqGuardType P.depth t)
def EqT.of{P:Program}{kt:Ty}{t:TypeId}(h:eqtB P kt t=true):EqT P kt t:=by simp only[eqtB,yyb,yyt] at h;exact⟨.of h.1,h.2.1,h.2.2⟩
def z38(hK:EqT X.P kt t)(hu:opd L om=some (c1,.val kt x))(hv:opd L ok=some (c2,.val kt y))(hd:ltB d X.n=true)
  (k:JL X md all QA l ⟨(d,.val .bool (kt.eqB x y))::L,H,nx⟩) (hc:allP (c1++c2):=by exact zD):JL X md all QA (⟨some d,.binOp .eql t om ok tt,ty,ps,af,none⟩::l) ⟨L,H,nx⟩:=JL.eqQ hK.key hK.ag hK.gt hu hv hd hc k
variable {op:Op}{v:AV}{cs:List Prop}{g:Bool}{gg:Nat×Bool}
mutual
def q5l{n:Nat}:∀ {a:AV},a.scal=true→a.bd n
 |.val ..,_=>trivial
 |.undef,_=>trivial
 |.tup a,h=>q7l (a:=a) (by simpa only[AV.scal] using h)
 |.mix ..,h=>by simp[AV.scal] at h
 |.lf ..,h=>by simp[AV.scal] at h
 |.fn ..,h=>by simp[AV.scal] at h
 |.anil,h=>by simp[AV.scal] at h
 |.acons ..,h=>by simp[AV.scal] at h
 |.gd ..,h=>by simp[AV.scal] at h
 |.full ..,h=>by simp[AV.scal] at h
def q7l{n:Nat}:∀ {a:AV},a.scalL=true→a.bd n
 |.anil,_=>trivial
 |.acons a b,h=>by simp only[AV.scalL,yyb] at h;exact⟨q5l h.1,q7l h.2⟩
 |.val ..,h=>by simp[AV.scalL] at h
 |.undef,h=>by simp[AV.scalL] at h
 |.tup ..,h=>by simp[AV.scalL] at h
 |.mix ..,h=>by simp[AV.scalL] at h
 |.lf ..,h=>by simp[AV.scalL] at h
 |.fn ..,h=>by simp[AV.scalL] at h
 |.gd ..,h=>by simp[AV.scalL] at h
 |.full ..,h=>by simp[AV.scalL] at h
end
inductive Fr
 |code (c:Code)
 |blk (id:Nat)
 |ops (md:Bool) (all l:List Oper)
 |fin (P:S→Prop)
 |scp
def qq(X:Ctx):List Fr→(Exit→S→Prop)→Exit→S→Prop
 |[],QA=>QA
 |.code c::r,QA=>qThen (fun s=>JC X c (qq X r QA) s) (qq X r QA)
 |.blk id::r,QA=>qBlock id (qq X r QA)
 |.ops md all l::r,QA=>qThen (fun s=>JL X md all (qq X r QA) l s) (qq X r QA)
 |.fin P::r,QA=>qThen P (qq X r QA)
 |.scp::r,QA=>qScope (qq X r QA)
def JK(X:Ctx)(st:List Fr)(QA:Exit→S→Prop)(s:S):Prop:=qq X st QA .normal s
def popF:Nat→List Fr→Option (List Fr)
 |_,[]=>none
 |id,.blk j::r=>if j=id then some r else popF id r
 |id,_::r=>popF id r
def q05{id:Nat}:∀ {r r':List Fr},popF id r=some r'→JK X r' QA s→qq X r QA (.exit id) s
 |[],_,h,_=>by simp[popF] at h
 |.blk j::r,r',h,k=>by
  simp only[popF] at h;simp only[qq,qBlock];by_cases e:j=id
  ·rw[if_pos e] at h;injection h with h;subst h;rw[if_pos e.symm];exact k
  ·rw[if_neg e] at h;rw[if_neg (fun h=>e h.symm)];exact q05 h k
 |.code _::r,_,h,k=>q05 (r:=r) h k
 |.ops ..::r,_,h,k=>q05 (r:=r) h k
 |.fin _::r,_,h,k=>q05 (r:=r) h k
 |.scp::r,_,h,k=>q05 (r:=r) h k
def q7x:∀ {r:List Fr},QA .ret s→qq X r QA .ret s
 |[],h=>h
 |.blk _::r,h=>q7x (r:=r) h
 |.code _::r,h=>q7x (r:=r) h
 |.ops ..::r,h=>q7x (r:=r) h
 |.fin _::r,h=>q7x (r:=r) h
 |.scp::r,h=>q7x (r:=r) h
def stepO(T:List (Nat×Ty))(ET:List (Nat×Nat))(n:Nat)(md:Bool)(o:Oper)(s:S):Option (List Prop×S):=
 match o,s with
 |⟨some d,op,_,_,_,none⟩,⟨L,H,nx⟩=>match ltB d n with
  |true=>match evb T op ⟨L,H,nx⟩ with
   |some (cs,v)=>some (cs,⟨(d,v)::L,H,nx⟩)
   |none=>match md with
    |true=>match evm T ET op ⟨L,H,nx⟩ with
     |some (cs,v,⟨L',H',nx'⟩)=>some (cs,⟨(d,v)::L',H',nx'⟩)
     |none=>none
    |false=>none
  |false=>none
 |⟨none,op,_,_,_,none⟩,⟨L,H,nx⟩=>match md with
  |true=>match evm T ET op ⟨L,H,nx⟩ with
   |some (cs,_,s')=>some (cs,s')
   |none=>match evb T op ⟨L,H,nx⟩ with
    |some (cs,_)=>some (cs,⟨L,H,nx⟩)
    |none=>none
  |false=>match evb T op ⟨L,H,nx⟩ with
   |some (cs,_)=>some (cs,⟨L,H,nx⟩)
   |none=>none
 |_,_=>none
def z1j(hX:XOK X)(h:stepO X.T X.ET X.n md o s=some (cs,s'))(hc:allP cs)(k:JL X md all QA l s'):JL X md all QA (o::l) s:=by
 obtain⟨d,op,ty,ps,af,g⟩:=o;obtain⟨L,H,nx⟩:=s;unfold stepO at h;split at h
 ·rename_i heq heq2;injection heq with e1 e2 _ _ _ e3
  injection heq2 with e4 e5 e6
  subst e1;subst e2;subst e3;subst e4;subst e5;subst e6;split at h
  ·rename_i hd;split at h
   ·rename_i cs' v hv;simp only[yya,yyl] at h;obtain⟨rfl,rfl⟩:=h;exact JL.q hX rfl hv (y8 hd) hc k
   ·split at h
    ·split at h
     ·rename_i cs' v L' H' nx' hv;simp only[yya,yyl] at h;obtain⟨rfl,rfl⟩:=h;exact JL.m hX rfl hv (y8 hd) hc k
     ·cases h
    ·cases h
  ·cases h
 ·rename_i heq heq2;injection heq with e1 e2 _ _ _ e3
  injection heq2 with e4 e5 e6
  subst e1;subst e2;subst e3;subst e4;subst e5;subst e6;split at h
  ·split at h
   ·rename_i cs' v s'' hv;simp only[yya,yyl] at h;obtain⟨rfl,rfl⟩:=h;exact JL.m hX rfl hv trivial hc k
   ·split at h
    ·rename_i cs' v hv;simp only[yya,yyl] at h;obtain⟨rfl,rfl⟩:=h;exact JL.q hX rfl hv trivial hc k
    ·cases h
  ·split at h
   ·rename_i cs' v hv;simp only[yya,yyl] at h;obtain⟨rfl,rfl⟩:=h;exact JL.q hX rfl hv trivial hc k
   ·cases h
 ·cases h
def stepC(T:List (Nat×Ty))(ET:List (Nat×Nat))(n:Nat)(u:Bool):List Fr→S→Option (List Prop×List Fr×S)
 |.ops md all (o::l)::r,s=>match stepO T ET n md o s with
  |some (cs,s')=>some (cs,.ops md all l::r,s')
  |none=>none
 |.ops _ _ []::r,s=>some ([],r,s)
 |.blk _::r,s=>some ([],r,s)
 |.scp::r,s=>some ([],r,s)
 |.code c::r,s=>match c with
  |.skip=>some ([],r,s)
  |.label _=>some ([],r,s)
  |.seq (.region id ops d) (.cond x a b)=>match u with
   |true=>none
   |false=>some ([],.code (.region id ops d)::.code (.cond x a b)::r,s)
  |.seq a b=>some ([],.code a::.code b::r,s)
  |.block id c=>some ([],.code c::.blk id::r,s)
  |.scope c=>some ([],.code c::.scp::r,s)
  |.exit id=>match popF id r with
   |some r'=>some ([],r',s)
   |none=>none
  |.region _ ⟨ops⟩ false=>some ([],.ops true ops ops::r,s)
  |_=>none
 |_,_=>none
def z9q{u:Bool}{st st':List Fr}(hX:XOK X)(h:stepC X.T X.ET X.n u st s=some (cs,st',s'))(k:JK X st' QA s')(hc:allP cs):JK X st QA s:=by
 unfold stepC at h;split at h
 ·split at h
  ·rename_i hv;simp only[yya,yyl] at h;obtain⟨rfl,rfl,rfl⟩:=h;exact z1j hX hv hc k
  ·cases h
 ·simp only[yya,yyl] at h;obtain⟨rfl,rfl,rfl⟩:=h;exact JL.nil k
 ·simp only[yya,yyl] at h;obtain⟨rfl,rfl,rfl⟩:=h;exact k
 ·simp only[yya,yyl] at h;obtain⟨rfl,rfl,rfl⟩:=h;exact k
 ·split at h
  ·simp only[yya,yyl] at h;obtain⟨rfl,rfl,rfl⟩:=h;exact z94 k
  ·simp only[yya,yyl] at h;obtain⟨rfl,rfl,rfl⟩:=h;exact z4a k
  ·split at h
   ·cases h
   ·simp only[yya,yyl] at h;obtain⟨rfl,rfl,rfl⟩:=h;exact z1b k
  ·simp only[yya,yyl] at h;obtain⟨rfl,rfl,rfl⟩:=h;exact z1b k
  ·simp only[yya,yyl] at h;obtain⟨rfl,rfl,rfl⟩:=h;exact JC.block k
  ·simp only[yya,yyl] at h;obtain⟨rfl,rfl,rfl⟩:=h;exact JC.scope k
  ·split at h
   ·rename_i hp;simp only[yya,yyl] at h;obtain⟨rfl,rfl,rfl⟩:=h;exact j0b (q05 hp k)
   ·cases h
  ·simp only[yya,yyl] at h;obtain⟨rfl,rfl,rfl⟩:=h;exact z1c k
  ·cases h
 ·cases h
def JK.gd{L:List (Nat×AV)}{H:List (Nat×HO)}{nx d:Nat}{gg:Nat×Bool}{op:Op}{ty:TypeId}{ps:String}{af:Array Edge}{r:List Fr}{g:Bool}{cs:List Prop}{v:AV}(hX:XOK X)(hg:gOf all L (some gg)=some g)(h:evb X.T op ⟨L,H,nx⟩=some (cs,v))(hd:ltB d X.n=true)
  (k:JK X (.ops md all l::r) QA ⟨(d,.gd g v)::L,H,nx⟩) (hc:g=true→allP cs):JK X (.ops md all (⟨some d,op,ty,ps,af,some gg⟩::l)::r) QA ⟨L,H,nx⟩:=JL.g (s:=⟨L,H,nx⟩) hX hg h (y8 hd) hc k
def z5{x:Operand}{c d:Code}{r:List Fr}{b:Bool}(hb:opB s.L x=some b)(ht:b=true→JK X (.code c::r) QA s)(hf:b=false→JK X (.code d::r) QA s):JK X (.code (.cond x c d)::r) QA s:=JC.cond hb ht hf
def JK.draw{id:Nat}{ops:List Oper}{r:List Fr}(hX:XOK X)(k:JK X (.ops false ops ops::r) QA s)(hB:(Region.lexB .any ops.toArray&&ndAll ops)=true:=by decide +kernel):JK X (.code (.region id ⟨ops⟩ true)::r) QA s:=JC.draw hX hB k
def k8{r:List Fr}(h:QA .ret s):JK X (.code .ret::r) QA s:=JC.ret (q7x h)
def q0d(h:QA .normal s):JK X [] QA s:=h
def k9{P:S→Prop}{r:List Fr}(h:P s):JK X (.fin P::r) QA s:=h
def z7(h:JK X [.code c] QA s):JC X c QA s:=h
def JK.toL{r:List Fr}(h:JK X (.ops md all l::r) QA s):JL X md all (qq X r QA) l s:=h
def JK.ofC{r:List Fr}(h:JC X c (qq X r QA) s):JK X (.code c::r) QA s:=h
def JK.ofL{r:List Fr}(h:JL X md all (qq X r QA) l s):JK X (.ops md all l::r) QA s:=h
def JK.loop{c:Code}{r:List Fr}{σ:Type}(st:σ→S)(I:σ→Prop)(μ:σ→Nat)(i0:σ)(h0:I i0)(hs:JW X (st i0) s)
  (round:∀ i,I i→JK X (.code c::.fin (fun s'=>∃ i',JW X (st i') s'∧I i'∧μ i'<μ i)::r) QA (st i)):JK X (.code (.loop c)::r) QA s:=JC.loop st I μ i0 h0 hs round
def qq_fin{P:S→Prop}{r:List Fr}(k:∀ s,P s→JK X r QA s):∀ e s,qq X (.fin P::r) QA e s→qq X r QA e s:=by
 intro e s h;cases e with
 |normal=>exact k s h
 |_=>exact h
def JK.cutP{r:List Fr}(P:S→Prop)(h:JK X (.code c::.fin P::r) QA s)(k:∀ s,P s→JK X r QA s):JK X (.code c::r) QA s:=JC.mono h (qq_fin k)
def q18{r:List Fr}(h:JW X s' s)(k:JK X (.code c::r) QA s'):JK X (.code c::r) QA s:=e8 h k
def JK.cut{x y:Code}{r:List Fr}{σ:Type}(st:σ→S)(P:σ→Prop)(h:JK X (.code x::.fin (fun s=>∃ q,JW X (st q) s∧P q)::.code y::r) QA s)(k:∀ q,P q→JK X (.code y::r) QA (st q)):JK X (.code x::.code y::r) QA s:=JK.cutP _ h fun _ ⟨q,hw,hp⟩=>q18 hw (k q hp)
def v9{id:Nat}{y:Code}{r:List Fr}(hX:XOK X)(c:Code)(st:S)(ho:rgn id c=ops)(n:Nat)(hn:(rgn id c).length=n)
  (h:JF X (rgn id c) (fun s'=>JW X st s') [] n [] s) (k:JK X (.code y::r) QA st):JK X (.code (.region id ⟨ops⟩ true)::.code y::r) QA s:=by
 subst ho;subst hn;exact q5j hX _ h.any fun s' hs=>q18 hs k
def q0z{id j:Nat}{y:Code}{r:List Fr}(hX:XOK X)(c:Code)(st:S)(ho:rgn id c=ops)(n:Nat)(hn:(rgn id c).length=n)
  (h:JF X (rgn id c) (fun s'=>JW X st s') [] n [] s) (k:JK X (.code y::r) QA st):JK X (.code (.region id ⟨ops⟩ true)::.blk j::.code y::r) QA s:=by
 subst ho;subst hn;exact q5j hX _ h.any fun s' hs=>q18 hs k
def JK.lenOf{c:Code}{r:List Fr}(d:Nat){t:Ty}{x:t.den}(h:lk s.L d=some (.val t x))(k:t.lens x→JK X (.code c::r) QA s):JK X (.code c::r) QA s:=JC.lenOf d h k
def JK.ghost{c:Code}{r:List Fr}(d:Nat)(eid:TypeId)(e:Ty)(hd:lk s.L d=some (.lf .nils))(k:JK X (.code c::r) QA ⟨(d,.lf (.osl s.nx))::s.L,(s.nx,.sl eid e [])::s.H,s.nx+1⟩):JK X (.code c::r) QA s:=JC.ghost d eid e hd k
def JK.frz{c:Code}{r:List Fr}{cs:List Prop}{s':S}(F K:List Nat)(h:Ox.frz F K s=some (cs,s'))(hc:allP cs)(k:JK X (.code c::r) QA s'):JK X (.code c::r) QA s:=JC.frz F K h hc k
def q9h{r:List Fr}(F K:List Nat)(h:Ox.frz F K s=some (cs,s'))(k:JK X (.code c::r) QA s')(hc:allP cs:=by exact zD):JK X (.code c::r) QA s:=JC.frz F K h hc k
def z08{r:List Fr}(F K:List Nat)(h:Ox.frz F K s=some (cs,s'))(k:JK X (.ops md all l::r) QA s')(hc:allP cs:=by exact zD):JK X (.ops md all l::r) QA s:=JL.frz F K h hc k
section
variable {L:List (Nat×AV)}{H:List (Nat×HO)}{nx d n:Nat}{rr:List Fr}{om:Operand}{c1:List Prop}{kt vt:Ty}{es:List (Ent kt vt)}{clk m since last:Nat}{seen seen':List Nat}{ty:TypeId}{ps:String}{af:Array Edge}{e:Ent kt vt}
end
section
variable {op:Op}{L:List (Nat×AV)}{H:List (Nat×HO)}{nx d:Nat}{cs:List Prop}{ty:TypeId}{ps:String}{af:Array Edge}{g:Bool}{gg:Nat×Bool}{rr:List Fr}{f:FuncId}{args r:AV}
def JK.sc(h:callA X.T op ⟨L,H,nx⟩=some (cs,f,args))(hf:Fn X.P f args (·=r))(hr:r.scal=true)(hd:ltB d X.n=true)(k:JK X (.ops md all l::rr) QA ⟨(d,r)::L,H,nx⟩)(hc:allP cs) :
  JK X (.ops md all (⟨some d,op,ty,ps,af,none⟩::l)::rr) QA ⟨L,H,nx⟩:=JL.s1 (L:=L) (H:=H) (nx:=nx) h hf hr (q5l hr) hd hc k
def JK.scg(hg:gOf all L (some gg)=some g)(h:callA X.T op ⟨L,H,nx⟩=some (cs,f,args))(hf:g=true→Fn X.P f args (·=r))(hr:r.scal=true)(hd:ltB d X.n=true)(k:JK X (.ops md all l::rr) QA ⟨(d,.gd g r)::L,H,nx⟩)(hc:g=true→allP cs) :
  JK X (.ops md all (⟨some d,op,ty,ps,af,some gg⟩::l)::rr) QA ⟨L,H,nx⟩:=JL.s1g (L:=L) (H:=H) (nx:=nx) hg h hf hr (q5l hr) hd hc k
def JK.cl{R:AV→Prop}(h:callA X.T op ⟨L,[],nx⟩=some (cs,f,args))(hf:Fn X.P f args R)(hd:ltB d X.n=true)(k:∀ r,R r→JK X (.ops true all l::rr) QA ⟨(d,r)::L,H,nx⟩)(hc:allP cs) :
  JK X (.ops true all (⟨some d,op,ty,ps,af,none⟩::l)::rr) QA ⟨L,H,nx⟩:=JL.c1 (L:=L) (H:=H) (nx:=nx) h hf hd hc k
def JK.ce(h:callA X.T op ⟨L,[],nx⟩=some (cs,f,args))(hf:Fn X.P f args (·=r))(hd:ltB d X.n=true)(k:JK X (.ops true all l::rr) QA ⟨(d,r)::L,H,nx⟩)(hc:allP cs) :
  JK X (.ops true all (⟨some d,op,ty,ps,af,none⟩::l)::rr) QA ⟨L,H,nx⟩:=JK.cl h hf hd (fun _ e=>e▸k) hc
def JK.gT(hg:gOf all L (some gg)=some g)(hgt:g=true){dd:Option Nat}(k:JK X (.ops true all (⟨dd,op,ty,ps,af,none⟩::l)::rr) QA ⟨L,H,nx⟩):JK X (.ops true all (⟨dd,op,ty,ps,af,some gg⟩::l)::rr) QA ⟨L,H,nx⟩:=q7f hg hgt k
def z2j(k:JK X (.ops true all l::rr) QA ⟨del L d,H,nx⟩):JK X (.ops true all (⟨some d,.assign (.const .nilFunc),ty,ps,af,none⟩::l)::rr) QA ⟨L,H,nx⟩:=JL.nilF (L:=L) (H:=H) (nx:=nx) k
end
variable {a':Act}
abbrev Ctx.at(X:Ctx)(M0:Mem)(n:Nat)(rd:Option Nat):Ctx:=⟨X.P,X.T,X.ET,X.MT,X.E,M0,n,rd,X.up,X.dp⟩
def HO.ok_at{M0:Mem}{n:Nat}{rd:Option Nat}{l:Nat}{o:HO}(h:o.ok X M ρ l w):o.ok (X.at M0 n rd) M ρ l w:=by cases o<;>exact h
def HO.of_at{M0:Mem}{n:Nat}{rd:Option Nat}{l:Nat}{o:HO}(h:o.ok (X.at M0 n rd) M ρ l w):o.ok X M ρ l w:=by cases o<;>exact h
def SAT.at(h:SAT X M ρ s w){M0:Mem}(n:Nat)(rd:Option Nat)(L:List (Nat×AV))(h1:∀ b o,M0 b=some o→M b=some o)(h2:∀ b,b<X.E.heap.size→M b=M0 b):SAT (X.at M0 n rd) M ρ ⟨L,s.H,s.nx⟩ w:=⟨h.below,h1,h2,h.mem,fun l o hl=>let ⟨a,b,c⟩:=h.own l o hl;⟨a,b,HO.ok_at c⟩,h.apart,h.notM⟩
variable{M':Mem}{ρ':Env}
def SAT.since(h0:SAT X M ρ s w){n:Nat}{rd:Option Nat}(h:SAT (X.at M n rd) M' ρ' s' w')(L:List (Nat×AV)):SAT X M' ρ' ⟨L,s'.H,s'.nx⟩ w':=⟨h.below,fun b o hb=>h.msub b o (h0.msub b o hb),fun b hb=>(h.mnew b hb).trans (h0.mnew b hb),h.mem,fun l o hl=>let ⟨a,b,c⟩:=h.own l o hl;⟨a,b,HO.of_at c⟩,h.apart,h.notM⟩
def SAT.regs(h:SAT X M ρ s w)(L:List (Nat×AV)):SAT X M ρ ⟨L,s.H,s.nx⟩ w:=⟨h.below,h.msub,h.mnew,h.mem,h.own,h.apart,h.notM⟩
def stayB(lab:Nat):AV→Bool
 |.val _ _=>true
 |.lf (.yld l)=>Nat.beq l lab
 |_=>false
def stayL(lab:Nat):List (Nat×AV)→Bool
 |[]=>true
 |p::r=>stayB lab p.2&&stayL lab r
def q9u{lab:Nat}:∀ {L:List (Nat×AV)} {p:Nat×AV},stayL lab L=true→p∈L→stayB lab p.2=true
 |q::r,p,h,hp=>by
  simp only[stayL,yyb] at h;rcases yyn.1 hp with rfl|hp
  ·exact h.1
  ·exact q9u h.2 hp
def stay_rv{lab n:Nat}{u:Value}(h:stayB lab v=true)(hv:v.rv M ρ u)(hM:∀ b o,M b=some o→M' b=some o)(hρ:ρ'.blk lab=ρ.blk lab)(hl:lab<n):v.bd n∧v.rv M' ρ' u:=by
 cases v with
 |val t x=>exact⟨trivial,w3 (n:=0) (fun b c ty fz hb=>hM b _ hb) (fun l hl=>absurd hl (by omega)) trivial hv⟩
 |lf x=>
  cases x with
  |yld l=>have hl':l=lab:=yyg h;subst hl';refine⟨hl,?_⟩;rw[y7] at hv ⊢;simpa only[Leaf.at,hρ] using hv
  |_=>simp[stayB] at h
 |_=>simp[stayB] at h
def hasY(i n lab:Nat)(H:List (Nat×HO)):Prop:=∃ lf Lf,lk H lf=some (.fr i Lf)∧lk Lf n=some (.lf (.yld lab))
def hasY.blk{i n lab:Nat}(hy:hasY i n lab s.H)(h:SAT X M ρ s w):X.up i n=.func (.yield (ρ.blk lab)) #[] #[]∧lab<s.nx:=by obtain⟨lf,Lf,h1,h2⟩:=hy;obtain⟨_,e2,e3⟩:=h.own lf _ h1;simp only[HO.ok] at e3;have h3:=e3.2 n _ h2;rw[y7] at h3;simp only[Leaf.at,yya] at h3;exact⟨h3.1.symm,e2 _ (p5 h2)⟩
def FO(X:Ctx)(f:FuncId)(args:AV)(H:List (Nat×HO))(nx:Nat)(Q:AV→List (Nat×HO)→Nat→Prop):Prop:=∀ M0 M ρ w vs,SAT (X.at M0 0 none) M ρ ⟨[],H,nx⟩ w→args.bd nx→args.rvs M ρ vs→Calls X.P f vs.toArray w fun e w'=>∃ v r H' nx' M' ρ',e=.returned v∧SAT (X.at M 0 none) M' ρ' ⟨[],H',nx'⟩ w'∧r.bd nx'∧r.rv M' ρ' v∧Q r H' nx'
def REG.stay{i n lab:Nat}{Kp:List Nat}(h1:SAT X M ρ s w)(h2:REG X M ρ s a)(hy:hasY i n lab s.H)(hst:stayL lab (svL s.L Kp)=true){H':List (Nat×HO)}{nx':Nat}(h':SAT (X.at M 0 none) M' ρ' ⟨[],H',nx'⟩ w')
  (hy':hasY i n lab H'):REG X M' ρ' ⟨svL s.L Kp,H',nx'⟩ a:=by
 have e1:=hy.blk h1;have e2:=hasY.blk (X:=X.at M 0 none) (s:=⟨[],H',nx'⟩) hy' h';have hb:ρ'.blk lab=ρ.blk lab:=by
  have:=e1.1.symm.trans e2.1;injection this with this
  injection this with this
  exact this.symm
 refine⟨h2.size,let ⟨Ds,d1,d2,d3,d4⟩:=h2.defers;⟨Ds,d1,d2,fun D hD=>⟨(d3 D hD).1,h'.msub _ _ (d3 D hD).2⟩,d4⟩,fun d v hd=>?_⟩;have hm:=p5 hd;exact stay_rv (q9u hst hm) (h2.reg _ _ (q6i hm)).2 h'.msub hb e2.2
variable{LO L0 Lf LO0:List (Nat×AV)}{az cap:AV}
def z9k(Kp:List Nat){ps:Array Tmp}{args:Array Operand}{tys:Array TypeId}{b0:Bool}{H':List (Nat×HO)}{nx':Nat}(i n:Nat)(hg:o.guard=none)
  (hop:o.op=.call {callee:=.value fo,args:=args,argTypes:=tys})
  (hu:opd s.L fo=some (cs1,.lf (.yld lab))) (ha:opds s.L args.toList=some (cs2,az)) (hc:allP (cs1++cs2)) (hl:lk s.H lab=some (.loop .ready none ps assign body nO LO))
  (hps:setPs ps.toList az LO=some L0) (hpn:ps.toList.all (fun p=>Nat.blt p nO)=true) (hd:dstOk X.n o.dst) (hy:hasY i n lab s.H) (hy':hasY i n lab H') (hst:stayL lab (svL s.L Kp)=true)
  (h:∀ M0 up bl,up X.dp X.n=.func (.yield bl) #[] #[]→JC (X.sub M0 nO (some bl) up) assign
   (asgQ X nO fun s1=>JC (X.sub M0 nO (some bl) up) body (bodyQ X fun b _ H nx=>b=b0∧JW X ⟨[],H',nx'⟩ ⟨[],H,nx⟩) s1)
   ⟨L0,(s.nx,.fr X.dp [(X.n,.lf (.yld lab))])::s.H,s.nx+1⟩)
  (k:JL X true all QA l (putS o.dst (.val .bool b0) ⟨svL s.L Kp,H',nx'⟩)):JL X true all QA (o::l) s:=by
 intro M ρ a w h1 h2;rw[z6] at hc;obtain⟨hub,eu⟩:=z8 hu hc.1 h2;obtain⟨hab,ea⟩:=q0l h2 ha hc.2;have eu':a.eval fo=.func (.yield (ρ.blk lab)) #[] #[]:=by have:=(y7.1 eu).1;simp only[Leaf.at,yya] at this;exact this.symm
 obtain⟨fn,tm,D,e1,e2,e3,_⟩:=h1.turn (st':=.ready) (pe':=none) hl;obtain⟨p1,p2,p3⟩:=q3f hps (fun p hp=>by have:=yyx.1 hpn p hp;simpa using this) hab ea e2 e3
 let bl:=ρ.blk lab
 let u:Nat→Value:=fun d=>if d=X.n then .func (.yield bl) #[] #[] else a.tmps.getD d Go.undef
 have hlt:lab<s.nx:=(h1.own lab _ hl).1;have hyr:(AV.lf (.yld lab)).rv M ρ (.func (.yield bl) #[] #[]):=by rw[← eu'];exact eu
 have hLb:∀ p∈[(X.n,AV.lf (.yld lab))],p.2.bd s.nx:=fun p hp=>by rw[yyv.1 hp];exact hlt
 have hLv:∀ d v,lk [(X.n,AV.lf (.yld lab))] d=some v→v.rv M ρ (u d):=fun d v hd=>by
  simp only[lk] at hd;by_cases e:X.n=d
  ·subst e;rw[if_pos rfl] at hd;injection hd with hd;subst hd
   show(AV.lf (.yld lab)).rv M ρ (if X.n=X.n then _ else _);rw[if_pos rfl];exact hyr
  ·rw[if_neg e] at hd;cases hd
 have hup:upd1 X.up X.dp u X.dp X.n=.func (.yield bl) #[] #[]:=by simp[upd1,u]
 have hs:=h1.enter (L0:=L0) (n:=nO) (rd:=some bl) hLb hLv;have hmap:Array.map a.eval args=(List.map a.eval args.toList).toArray:=by rw[← yy9]
 refine j6 (v4 hg) ⟨fun f _=>q1b f,?_⟩;rw[o9 (by rw[hop];rfl)];have hrun:(execOp a.eval o).run X.P w=.ok (.round bl fn ((ps.zip (List.map a.eval args.toList).toArray).foldl (fun t (q:Tmp×Value)=>t.setIfInBounds q.1 q.2) tm) assign body) w:=by obtain⟨dst,op,ty,pos,after,guard⟩:=o;simp only at hop;subst hop;have hy:=run_yield (P:=X.P) (args:=(List.map a.eval args.toList).toArray) e1 (by simp only[List.size_toArray];rw[p1];simp);simp only[execOp,resolve,eu',Deferred.ofValue,yye,yyf,yyc,invoke,hmap];simpa using hy
 rw[hrun,Oper.uponIn_round];refine⟨fun h=>(by cases h),roundIn_of_wpIn (q1b _) ?_⟩;have hfold:(ps.zip (List.map a.eval args.toList).toArray).foldl (fun t (q:Tmp×Value)=>t.setIfInBounds q.1 q.2) tm=(ps.toList.zip (List.map a.eval args.toList)).foldl (fun t (q:Tmp×Value)=>t.setIfInBounds q.1 q.2) tm:=by rw[← Array.foldl_toList];simp
 rw[hfold];have hr:REG (X.sub M nO (some bl) (upd1 X.up X.dp u)) M ρ ⟨L0,(s.nx,.fr X.dp [(X.n,.lf (.yld lab))])::s.H,s.nx+1⟩ {tmps:=(ps.toList.zip (List.map a.eval args.toList)).foldl (fun t (q:Tmp×Value)=>t.setIfInBounds q.1 q.2) tm,defers:=[]}:=⟨p2,⟨[],rfl,yxr,by simp,.inl rfl⟩,fun d v hd=>⟨j3 (yy4 _) (p3 d v hd).1,(p3 d v hd).2⟩⟩
 refine wpIn_mono (h M (upd1 X.up X.dp u) bl hup M ρ _ w hs hr) ?_;rintro e a1 w1 ⟨M1,ρ1,s1,k1,k2,rfl,l1,L1,lab1,ps1,as1,bd1,n1,LO1,q1,q2,q3,q4⟩;have hb1:ρ1.blk lab1=bl:=by have:=(q0p k1 q1 _ _ q2).2;simp only[u,if_pos] at this;exact q8d this
 obtain⟨fn1,tm1,D1,f1,_,_,f4⟩:=k1.turn (st':=.busy) (pe':=none) q3;rw[hb1] at f1 f4;refine⟨_,run_beginRound f1 rfl,wpIn_mono (q4 M1 ρ1 a1 _ f4 ⟨k2.size,k2.defers,k2.reg⟩) ?_⟩;rintro e2 a2 w2 ⟨M2,ρ2,s2,g1,g2,jmp,hj,l2,L2,lab2,st2,pe2,ps2,as2,bd2,n2,LO2,r1,r2,r3,r4,r5,r6⟩;have hb2:ρ2.blk lab2=bl:=by have:=(q0p g1 r1 _ _ r2).2;simp only[u,if_pos] at this;exact q8d this
 have b1:=h1.leave g1 (H':=del s2.H l2) q2b r4 [];obtain⟨fn2,tm2,D2,t1,_,_,t4⟩:=b1.turn (st':=if jmp.isNone then .ready else .done) (pe':=jmp) r3;rw[hb2] at t1 t4;have hMM:∀ b o,M b=some o→M2 b=some o:=g1.msub;have hr0:REG X M2 ρ2 ⟨[],updH (del s2.H l2) lab2 (.loop (if jmp.isNone then .ready else .done) jmp ps2 as2 bd2 n2 LO2),s2.nx⟩ a:=⟨h2.size,let ⟨Ds,d1,d2,d3,d4⟩:=h2.defers;⟨Ds,d1,d2,fun D hD=>⟨(d3 D hD).1,hMM _ _ (d3 D hD).2⟩,d4⟩,fun d v hd=>by simp[lk] at hd⟩
 obtain⟨ρ3,t5,_⟩:=r6 M2 ρ2 a _ t4 hr0;have t6:SAT (X.at M 0 none) M2 ρ3 ⟨[],H',nx'⟩ _:=t5.at 0 none [] hMM fun b hb=>(t5.mnew b hb).trans (h1.mnew b hb).symm;have b2:=REG.stay h1 h2 hy hst t6 hy';have hend:=run_endRound (P:=X.P) jmp t1;subst r5;have hgo:=k M2 ρ3 (a.put o.dst (.bool jmp.isNone)) _ (j0 (t5.regs (svL s.L Kp))) (b2.putO hd.spec trivial (by rw[g8]));cases e2 with
 |normal=>simp only[jumpOf,yya] at hj;subst hj;exact⟨_,_,hend,hgo⟩
 |ret=>simp only[jumpOf,yya] at hj;subst hj;exact⟨_,_,hend,hgo⟩
 |exit id=>simp only[jumpOf,yya] at hj;subst hj;exact⟨_,_,hend,hgo⟩
 |_=>simp[jumpOf] at hj
def YO(X:Ctx)(n lab:Nat)(az:AV)(H:List (Nat×HO))(nx:Nat)(b:Bool)(H':List (Nat×HO))(nx':Nat):Prop:=
 ∀ M0 all QA (l:List Oper) (o:Oper) (fo:Operand) (args:Array Operand) (tys:Array TypeId) (cs1 cs2:List Prop) (L:List (Nat×AV)) (Kp:List Nat),o.guard=none→o.op=.call {callee:=.value fo,args:=args,argTypes:=tys} →
  opd L fo=some (cs1,.lf (.yld lab))→opds L args.toList=some (cs2,az)→allP (cs1++cs2)→dstOk n o.dst→stayL lab (svL L Kp)=true →
  JL (X.at M0 n none) true all QA l (putS o.dst (.val .bool b) ⟨svL L Kp,H',nx'⟩)→JL (X.at M0 n none) true all QA (o::l) ⟨L,H,nx⟩
def YO.intro{n lab:Nat}{H H':List (Nat×HO)}{nx nx':Nat}{b:Bool}{ps:Array Tmp}(i m:Nat)(hl:lk H lab=some (.loop .ready none ps assign body nO LO))
  (hps:setPs ps.toList az LO=some L0) (hpn:ps.toList.all (fun p=>Nat.blt p nO)=true) (hy:hasY i m lab H) (hy':hasY i m lab H')
  (h:∀ M0 M1 up bl,up X.dp n=.func (.yield bl) #[] #[]→JC ((X.at M0 n none).sub M1 nO (some bl) up) assign
   (asgQ (X.at M0 n none) nO fun s1=>JC ((X.at M0 n none).sub M1 nO (some bl) up) body (bodyQ (X.at M0 n none) fun b' _ H'' nx''=>b'=b∧JW (X.at M0 n none) ⟨[],H',nx'⟩ ⟨[],H'',nx''⟩) s1)
   ⟨L0,(nx,.fr X.dp [(n,.lf (.yld lab))])::H,nx+1⟩):YO X n lab az H nx b H' nx':=
 fun M0 _ _ _ _ _ _ _ _ _ L Kp hg hop hu ha hc hd hst k=>z9k (X:=X.at M0 n none) (s:=⟨L,H,nx⟩) Kp i m hg hop hu ha hc hl hps hpn hd hy hy' hst (fun M1 up bl hup=>h M0 M1 up bl hup) k
def q6c(h:JW X s' s)(k:JL X true all QA l s'):JL X true all QA l s:=fun M ρ a w h1 h2=>by obtain⟨ρ',e1,e2⟩:=h M ρ a w h1 h2;exact k M ρ' a w e1 e2
def z06{r:List Fr}{M0:Mem}{m:Nat}{H H':List (Nat×HO)}{nx nx' d:Nat}{ps:String}(Kp:List Nat){args:Array Operand}{tys:Array TypeId}{b:Bool}
  (hY:YO X m lab az H nx b H' nx') (hu:opd L fo=some (cs1,.lf (.yld lab))) (ha:opds L args.toList=some (cs2,az)) (hd:ltB d m=true) (hst:stayL lab (svL L Kp)=true) (hc:allP (cs1++cs2))
  (k:JK (X.at M0 m none) (.ops true all l::r) QA ⟨(d,.val .bool b)::svL L Kp,H',nx'⟩) :
  JK (X.at M0 m none) (.ops true all (⟨some d,.call {callee:=.value fo,args:=args,argTypes:=tys},ty,ps,af,none⟩::l)::r) QA ⟨L,H,nx⟩:=
 hY M0 _ _ _ _ _ _ _ _ _ L Kp rfl rfl hu ha hc (y8 hd) hst k
def z9t{r:List Fr}(Kp:List Nat){g:Operand}{ps:Array Tmp}(hrd:X.rd=none)(hdp:X.dp=0)(hu:opd s.L g=some (cs,.fn f .anil cap))
  (hf:X.P.funcs[f]?=some fn) (hb:fn.body=some c) (hcall:∀ az w,(callFunc f az).run X.P w=.ok (.enter f az) w) (hn:argN (.acons .anil cap)≤fn.ntmps) (hc:allP cs)
  (h:∀ M up,JC (X.sub M fn.ntmps none up) c (rngQ X fn.results.toList (qq X r QA))
   ⟨argL (.acons (.lf (.yld s.nx)) cap) 0,(s.nx+1,.fr X.dp ((X.n,.lf (.yld s.nx))::svL s.L Kp))::(s.nx,.loop .ready none ps assign body X.n (svL s.L Kp))::s.H,s.nx+2⟩):JK X (.code (.rangeFunc g ps assign body)::r) QA s:=
 z96 Kp hrd hdp hu hc hf hb hcall hn h
variable{ps0:Array Tmp}
def z9s{r:List Fr}(Kp:List Nat){g:Operand}{ps:Array Tmp}
  (hrd:X.rd=some bl) (hup:X.up i0 nI=.func (.yield bl) #[] #[]) (hlf:lk s.H lf=some (.fr i0 Lf)) (hl0:lk Lf nI=some (.lf (.yld lab0))) (hlp:lk s.H lab0=some (.loop st0 pe0 ps0 as0 bd0 n0 LO0))
  (hu:opd s.L g=some (cs,.fn f .anil cap))
  (hf:X.P.funcs[f]?=some fn) (hb:fn.body=some c) (hcall:∀ az w,(callFunc f az).run X.P w=.ok (.enter f az) w) (hn:argN (.acons .anil cap)≤fn.ntmps) (hc:allP cs)
  (h:∀ M up,JC (X.sub M fn.ntmps none up) c (rngQ X fn.results.toList (qq X r QA))
   ⟨argL (.acons (.lf (.yld s.nx)) cap) 0,(s.nx+1,.fr X.dp ((X.n,.lf (.yld s.nx))::svL s.L Kp))::(s.nx,.loop .ready none ps assign body X.n (svL s.L Kp))::s.H,s.nx+2⟩):JK X (.code (.rangeFunc g ps assign body)::r) QA s:=
 z95 Kp hrd hup hlf hl0 hlp hu hc hf hb hcall hn h
def z2d{r:List Fr}(h:JK X r QA s):endJ (qq X r QA) s none:=h
variable {rr:List Fr}
section
variable {kt vt:Ty}{t kid vid:TypeId}{es:List (Ent kt vt)}{ms:Array MapEntry}{clk b:Nat}{x:kt.den}{cx:List Value}
end
variable {ty2:TypeId}{ps2:String}{af2:Array Edge}
def JL.vqg(hg:gOf all s.L o.guard=some g)(hn:notDef o.op=true)(hd:dstOk X.n o.dst)(hb:v.bd s.nx)(h:g=true→∀ M ρ a w,SAT X M ρ s w→REG X M ρ s a→∃ z,v.rv M ρ z∧∀ w1,(execOp a.eval o).run X.P w1=.ok (.value z) w1)
  (k:JL X md all QA l (putS o.dst (.gd g v) s)):JL X md all QA (o::l) s:=by
 cases md
 ·intro M ρ a w0 h1 h2;have hw:=x7 hg h2;simp only[wpQuiet,hw];cases g with
  |true=>obtain⟨z,hz,hr⟩:=h rfl M ρ a w0 h1 h2;simp only[if_true];exact⟨z,fun w hw=>by unfold Oper.quietAt;rw[hr w];exact⟨rfl,rfl⟩,k M ρ _ w0 (j0 h1) (h2.putO hd.spec (by exact fun _=>hb) (by simp only[AV.rv];exact⟨fun _=>hz,fun h=>(by cases h)⟩))⟩
  |false=>simp only[yyr,if_false];exact k M ρ _ w0 (j0 h1) (h2.putO hd.spec (by exact fun h=>(by cases h)) (by simp[AV.rv]))
 ·intro M ρ a w h1 h2;have hw:=x7 hg h2;cases g with
  |true=>obtain⟨z,hz,hr⟩:=h rfl M ρ a w h1 h2;refine j6 hw (y6 hn (hr w) ?_);exact k M ρ _ w (j0 h1) (h2.putO hd.spec (by exact fun _=>hb) (by simp only[AV.rv];exact⟨fun _=>hz,fun h=>(by cases h)⟩))
  |false=>refine q0n hw ?_;exact k M ρ _ w (j0 h1) (h2.putO hd.spec (by exact fun h=>(by cases h)) (by simp[AV.rv]))
section
variable {kt:Ty}{t:TypeId}{om ok:Operand}{c2:List Prop}{x y:kt.den}{dd:Nat}{g:Bool}{gg:Nat×Bool}
def JK.eqQg(hK:EqT X.P kt t)(hg:gOf all L (some gg)=some g)(hu:opd L om=some (c1,.val kt x))(hv:opd L ok=some (c2,.val kt y))(hd:ltB dd X.n=true)(hc:g=true→allP (c1++c2))
  (k:JK X (.ops md all l::rr) QA ⟨(dd,.gd g (.val .bool (kt.eqB x y)))::L,H,nx⟩):JK X (.ops md all (⟨some dd,.binOp .eql t om ok tt,ty,ps,af,some gg⟩::l)::rr) QA ⟨L,H,nx⟩:=by
 refine JL.vqg (o:=⟨some dd,.binOp .eql t om ok tt,ty,ps,af,some gg⟩) (s:=⟨L,H,nx⟩) (v:=.val .bool (kt.eqB x y)) hg rfl (y8 hd) trivial (fun hgt M ρ a w h1 h2=>⟨.bool (kt.eqB x y),g8.2 rfl,fun w1=>?_⟩) k;have hc':=hc hgt;rw[z6] at hc';obtain⟨cx,hx,hxe⟩:=q3i (vt:=kt) hu hc'.1 h2;obtain⟨cy,hy,hye⟩:=q3i (vt:=kt) hv hc'.2 h2;obtain⟨r,hr,hq⟩:=q4g hK.key.ty hK.key.ok hK.key.dep hK.key.flat hx hy w1;have hrb:r=kt.eqB x y:=by rw[yy2,v8];exact hq
 rw[v7 hK.ag,v7 hK.ag] at hr;simp only[execOp,hxe,hye,v7 hK.ag,yye,run_eqGuard_agg w1 _ _ _ _ _ _ hK.gt,yyc,binOp,hr,yyf,hrb]
def JK.neQg(hK:EqT X.P kt t)(hg:gOf all L (some gg)=some g)(hu:opd L om=some (c1,.val kt x))(hv:opd L ok=some (c2,.val kt y))(hd:ltB dd X.n=true)(hc:g=true→allP (c1++c2))
  (k:JK X (.ops md all l::rr) QA ⟨(dd,.gd g (.val .bool (!kt.eqB x y)))::L,H,nx⟩):JK X (.ops md all (⟨some dd,.binOp .neq t om ok tt,ty,ps,af,some gg⟩::l)::rr) QA ⟨L,H,nx⟩:=by
 refine JL.vqg (o:=⟨some dd,.binOp .neq t om ok tt,ty,ps,af,some gg⟩) (s:=⟨L,H,nx⟩) (v:=.val .bool (!kt.eqB x y)) hg rfl (y8 hd) trivial (fun hgt M ρ a w h1 h2=>⟨.bool (!kt.eqB x y),g8.2 rfl,fun w1=>?_⟩) k;have hc':=hc hgt;rw[z6] at hc';obtain⟨cx,hx,hxe⟩:=q3i (vt:=kt) hu hc'.1 h2;obtain⟨cy,hy,hye⟩:=q3i (vt:=kt) hv hc'.2 h2;obtain⟨r,hr,hq⟩:=q4g hK.key.ty hK.key.ok hK.key.dep hK.key.flat hx hy w1;have hrb:r=kt.eqB x y:=by rw[yy2,v8];exact hq
 rw[v7 hK.ag,v7 hK.ag] at hr;simp only[execOp,hxe,hye,v7 hK.ag,yye,run_eqGuard_agg w1 _ _ _ _ _ _ hK.gt,yyc,binOp,hr,yyf,hrb]
end
variable {L':List (Nat×AV)}{H':List (Nat×HO)}{nx':Nat}
def subL(L:List (Nat×AV)):List (Nat×AV)→Prop
 |[]=>True
 |(d,v)::r=>lk L d=some v∧subL L r
def q9t:∀ {r:List (Nat×AV)},subL L r→∀ d v,lk r d=some v→lk L d=some v
 |[],_,d,v,h=>by simp[lk] at h
 |(k,u)::r,hc,d,v,h=>by
  simp only[lk] at h;by_cases e:k=d
  ·subst e;rw[if_pos rfl] at h;injection h with h;subst h;exact hc.1
  ·rw[if_neg e] at h;exact q9t hc.2 d v h
def subH(H H':List (Nat×HO)):Prop:=∀ m o,lk H' m=some o→lk H m=some o
def JW.same(hL:subL L L'):JW X ⟨L',H,nx⟩ ⟨L,H,nx⟩:=fun M ρ a w h1 h2=>⟨ρ,h1.regs L',h2.size,h2.defers,fun d v hd=>h2.reg d v (q9t hL d v hd)⟩
def JW.refl(s:S):JW X s s:=fun M ρ a w h1 h2=>⟨ρ,h1,h2⟩
def JW.trans{s1 s2 s3:S}(h:JW X s1 s2)(k:JW X s2 s3):JW X s1 s3:=fun M ρ a w h1 h2=>by obtain⟨ρ1,e1,e2⟩:=k M ρ a w h1 h2;exact h M ρ1 a w e1 e2
section
variable {r:List Fr}{eid:TypeId}{e t:Ty}{xs:List e.den}{x:t.den}{c:Code}
end
def FO.args{az az':AV}{Q:AV→List (Nat×HO)→Nat→Prop}(h:FO X f az H nx Q)(hb:az.bd nx)(hr:∀ M ρ vs,az'.rvs M ρ vs→az.rvs M ρ vs):FO X f az' H nx Q:=fun M0 M ρ w vs hS _ hvs=>h M0 M ρ w vs hS hb (hr M ρ vs hvs)
def z9u{r:List Fr}{ps:String}(Kp:List Nat){fst cap az:AV}{args:Array Operand}{tys:Array TypeId}
  (hu:opd L fo=some (cs1,.fn f fst cap)) (ha:opds L args.toList=some (cs2,az)) (hc:allP (cs1++cs2)) (hf:X.P.funcs[f]?=some fn) (hb:fn.body=some c) (hcall:∀ az w,(callFunc f az).run X.P w=.ok (.enter f az) w)
  (hn:argN (apA fst (apA az cap))≤fn.ntmps) (hd:ltB d X.n=true)
  (h:∀ M0 up,JK (X.sub M0 fn.ntmps none up) [.code c] (inlQ X fn.results.toList fun v L H nx=>JK X (.ops true all l::r) QA ⟨(d,v)::L,H,nx⟩) ⟨argL (apA fst (apA az cap)) 0,(nx,.fr X.dp (svL L Kp))::H,nx+1⟩) :
  JK X (.ops true all (⟨some d,.call {callee:=.value fo,args:=args,argTypes:=tys},ty,ps,af,none⟩::l)::r) QA ⟨L,H,nx⟩:=
 JL.inl (s:=⟨L,H,nx⟩) Kp rfl rfl hu ha hc hf hb hcall hn (y8 hd) h
def blkF(id:Nat):Code→Option Code
 |.block j c=>if j=id then some (.block j c) else blkF id c
 |.seq a b=>match blkF id a with|some r=>some r|none=>blkF id b
 |.loop c|.scope c=>blkF id c
 |.cond _ a b=>match blkF id a with|some r=>some r|none=>blkF id b
 |.rangeFunc _ _ a b=>match blkF id a with|some r=>some r|none=>blkF id b
 |_=>none
def subH.cons{n m:Nat}{o:HO}(h:subH H H')(hb:bdH n H')(hm:n≤m):subH ((m,o)::H) H':=fun j q hj=>by simp only[lk];rw[if_neg (fun e=>by subst e;have:=(q9c hb _ _ (p5 hj)).1;omega)];exact h j q hj
def JK.pickF{r:List Fr}{c x y:Operand}{b:Bool}{cs1 cs2:List Prop}{d:Nat}{v:AV}{ty:TypeId}{ps:String}{af:Array Edge}(hc:opd L c=some (cs1,.val .bool b))(hb:b=false)(hy:opd L y=some (cs2,v))(hd:ltB d X.n=true)(h1:allP cs1)(h2:allP cs2)(k:JK X (.ops true all l::r) QA ⟨(d,v)::L,H,nx⟩) :
  JK X (.ops true all (⟨some d,.pick c x y,ty,ps,af,none⟩::l)::r) QA ⟨L,H,nx⟩:=JL.pickF hc hb hy hd h1 h2 k
def z98(m:Nat)(eid:TypeId)(e:Ty)(hm:lk s.H m=some (.cell (.slice e) (.lf .nils)))
  (k:JC X c QA ⟨s.L,updH ((s.nx,.sl eid e [])::s.H) m (.cell (.slice e) (.lf (.osl s.nx))),s.nx+1⟩):JC X c QA s:=fun M ρ a w h1 h2=>by
 have g1:=h1.ghost eid e;have hr:=q0m ρ s.nx e;have g2:REG X M (ρ.nilAt s.nx e) ⟨s.L,updH ((s.nx,.sl eid e [])::s.H) m (.cell (.slice e) (.lf (.osl s.nx))),s.nx+1⟩ a:=by have:=h2.grow (H':=updH ((s.nx,.sl eid e [])::s.H) m (.cell (.slice e) (.lf (.osl s.nx)))) (nx':=s.nx+1) (Mem.le_refl M) hr (yy4 _) (x8 M);exact this
 obtain⟨o1,o2,o3⟩:=h1.own m _ hm;have hm':lk ((s.nx,HO.sl eid e [])::s.H) m=some (.cell (.slice e) (.lf .nils)):=by simp only[lk];rw[if_neg (by omega)];exact hm
 obtain⟨q1,q2,q3⟩:=g1.own m _ hm';refine k M _ a w (g1.upd hm' (q0v w _) rfl (yy6 _) ?_) g2;simp only[HO.ok] at q3 ⊢;obtain⟨r1,r2,r3,c,ty,r4,r5⟩:=q3;refine⟨r1,rfl,r3,c,ty,r4,?_⟩;simp only[AV.rc,Leaf.at] at r5 ⊢;obtain⟨v,v1,v2,v3⟩:=r5;simp only[yya] at v1;subst v1;exact⟨_,by simp[Env.nilAt],rfl,v3⟩
def z9v{r:List Fr}(m:Nat)(eid:TypeId)(e:Ty)(hm:lk s.H m=some (.cell (.slice e) (.lf .nils)))
  (k:JK X (.code c::r) QA ⟨s.L,updH ((s.nx,.sl eid e [])::s.H) m (.cell (.slice e) (.lf (.osl s.nx))),s.nx+1⟩):JK X (.code c::r) QA s:=z98 m eid e hm k
def z07{r:List Fr}(Kp:List Nat){g:Operand}{ps:Array Tmp}(hrd:X.rd=none)(hdp:X.dp=0)(hu:opd s.L g=some (cs,.fn f .anil cap))
  (hf:X.P.funcs[f]?=some fn) (hb:fn.body=some c) (hcall:∀ az w,(callFunc f az).run X.P w=.ok (.enter f az) w) (hn:argN (.acons .anil cap)≤fn.ntmps) (hc:allP cs)
  (h:∀ M up az bd,az=assign→bd=body→JK (X.sub M fn.ntmps none up) [.code c] (rngQ X fn.results.toList (qq X r QA))
   ⟨argL (.acons (.lf (.yld s.nx)) cap) 0,(s.nx+1,.fr X.dp ((X.n,.lf (.yld s.nx))::svL s.L Kp))::(s.nx,.loop .ready none ps az bd X.n (svL s.L Kp))::s.H,s.nx+2⟩):JK X (.code (.rangeFunc g ps assign body)::r) QA s:=
 z9t Kp hrd hdp hu hf hb hcall hn hc fun M up=>h M up _ _ rfl rfl
def z9r{r:List Fr}(Kp:List Nat){g:Operand}{ps:Array Tmp}
  (hrd:X.rd=some bl) (hup:X.up i0 nI=.func (.yield bl) #[] #[]) (hlf:lk s.H lf=some (.fr i0 Lf)) (hl0:lk Lf nI=some (.lf (.yld lab0))) (hlp:lk s.H lab0=some (.loop st0 pe0 ps0 as0 bd0 n0 LO0))
  (hu:opd s.L g=some (cs,.fn f .anil cap))
  (hf:X.P.funcs[f]?=some fn) (hb:fn.body=some c) (hcall:∀ az w,(callFunc f az).run X.P w=.ok (.enter f az) w) (hn:argN (.acons .anil cap)≤fn.ntmps) (hc:allP cs)
  (h:∀ M up az bd,az=assign→bd=body→JK (X.sub M fn.ntmps none up) [.code c] (rngQ X fn.results.toList (qq X r QA))
   ⟨argL (.acons (.lf (.yld s.nx)) cap) 0,(s.nx+1,.fr X.dp ((X.n,.lf (.yld s.nx))::svL s.L Kp))::(s.nx,.loop .ready none ps az bd X.n (svL s.L Kp))::s.H,s.nx+2⟩):JK X (.code (.rangeFunc g ps assign body)::r) QA s:=
 z9s Kp hrd hup hlf hl0 hlp hu hf hb hcall hn hc fun M up=>h M up _ _ rfl rfl
def q1f{r:List Fr}{c c':Code}(h:c=c')(k:JK X (.code c'::r) QA s):JK X (.code c::r) QA s:=by subst h;exact k
def lpF:Code→Option Code
 |.loop c=>some (.loop c)
 |.block _ c|.scope c=>lpF c
 |.seq a b=>match lpF a with|some r=>some r|none=>lpF b
 |.cond _ a b=>match lpF a with|some r=>some r|none=>lpF b
 |.rangeFunc _ _ a b=>match lpF a with|some r=>some r|none=>lpF b
 |_=>none
def lpC(c:Option Code):Code:=match c with|some c=>(lpF c).getD .skip|none=>.skip
end Ox
namespace Go.Proofs.YtjjkdjbbkagclaaGreatDoor
open Go Go.RowKit Ox
def tys:List (Nat×Ty):=[
 (2,(.int .i64)),
 (3,(.int .i64)),
 (4,.bool),
 (5,(.int .u8)),
 (6,(.int .u8)),
 (7,(.cons (.int .i64) (.cons (.int .i64) (.cons .bool (.cons (.int .u8) .nil))))),
 (8,(.cons (.int .i64) (.cons (.int .i64) (.cons .bool (.cons (.int .u8) .nil))))),
 (12,(.int .u64)),
 (21,(.int .i32)),
 (22,(.slice (.cons (.cons (.int .i64) (.cons (.int .i64) .nil)) (.cons (.int .i64) (.cons (.int .i64) .nil))))),
 (23,(.slice (.arr 2 (.int .i64)))),
 (24,(.cons (.int .i64) (.cons (.slice (.cons (.cons (.int .i64) (.cons (.int .i64) .nil)) (.cons (.int .i64) (.cons (.int .i64) .nil)))) (.cons (.slice (.arr 2 (.int .i64))) .nil)))),
 (25,(.cons (.int .i64) (.cons (.slice (.cons (.cons (.int .i64) (.cons (.int .i64) .nil)) (.cons (.int .i64) (.cons (.int .i64) .nil)))) (.cons (.slice (.arr 2 (.int .i64))) .nil)))),
 (26,(.slice (.int .u8))),
 (29,(.slice (.int .i64))),
 (31,(.slice (.slice (.int .i64)))),
 (32,(.slice (.cons (.int .i64) (.cons (.int .i64) .nil)))),
 (33,(.int .i64)),
 (35,(.cons (.int .i64) (.cons (.int .i64) .nil))),
 (36,(.cons (.int .i64) (.cons (.int .i64) .nil))),
 (38,(.slice (.cons (.int .i64) (.cons (.int .i64) .nil)))),
 (39,(.slice (.cons (.int .i64) (.cons (.cons (.int .i64) (.cons (.int .i64) .nil)) .nil)))),
 (40,(.cons (.int .i64) (.cons (.slice (.cons (.int .i64) (.cons (.int .i64) .nil))) (.cons (.slice (.cons (.int .i64) (.cons (.cons (.int .i64) (.cons (.int .i64) .nil)) .nil))) .nil)))),
 (41,(.cons (.int .i64) (.cons (.slice (.cons (.int .i64) (.cons (.int .i64) .nil))) (.cons (.slice (.cons (.int .i64) (.cons (.cons (.int .i64) (.cons (.int .i64) .nil)) .nil))) .nil)))),
 (42,(.cons (.int .i64) (.cons (.int .i64) .nil))),
 (43,(.cons (.int .i64) (.cons (.int .i64) .nil))),
 (44,(.cons (.cons (.int .i64) (.cons (.int .i64) .nil)) (.cons (.int .i64) (.cons (.int .i64) .nil)))),
 (45,(.cons (.cons (.int .i64) (.cons (.int .i64) .nil)) (.cons (.int .i64) (.cons (.int .i64) .nil)))),
 (49,(.cons (.int .i64) (.cons (.cons (.int .i64) (.cons (.int .i64) .nil)) .nil))),
 (50,(.cons (.int .i64) (.cons (.cons (.int .i64) (.cons (.int .i64) .nil)) .nil))),
 (56,(.slice (.arr 2 (.int .u8)))),
 (58,(.cons (.int .i64) (.cons (.slice (.arr 2 (.int .i64))) .nil))),
 (59,(.cons (.int .i64) (.cons (.slice (.arr 2 (.int .i64))) .nil))),
 (60,(.arr 2 (.int .i64))),
 (72,(.ptr (.cons (.cons (.int .i64) (.cons (.slice (.cons (.cons (.int .i64) (.cons (.int .i64) .nil)) (.cons (.int .i64) (.cons (.int .i64) .nil)))) (.cons (.slice (.arr 2 (.int .i64))) .nil))) (.cons (.arr 10 (.cons (.int .i64) (.cons (.int .i64) .nil))) (.cons (.arr 10 (.int .u64)) .nil))))),
 (80,(.int .u64)),
 (81,(.int .u64)),
 (82,(.arr 10 (.cons (.int .i64) (.cons (.int .i64) .nil)))),
 (83,(.arr 10 (.cons (.int .i64) (.cons (.int .i64) .nil)))),
 (84,(.arr 10 (.int .u64))),
 (85,(.arr 10 (.int .u64))),
 (86,(.cons (.cons (.int .i64) (.cons (.slice (.cons (.cons (.int .i64) (.cons (.int .i64) .nil)) (.cons (.int .i64) (.cons (.int .i64) .nil)))) (.cons (.slice (.arr 2 (.int .i64))) .nil))) (.cons (.arr 10 (.cons (.int .i64) (.cons (.int .i64) .nil))) (.cons (.arr 10 (.int .u64)) .nil)))),
 (87,(.cons (.cons (.int .i64) (.cons (.slice (.cons (.cons (.int .i64) (.cons (.int .i64) .nil)) (.cons (.int .i64) (.cons (.int .i64) .nil)))) (.cons (.slice (.arr 2 (.int .i64))) .nil))) (.cons (.arr 10 (.cons (.int .i64) (.cons (.int .i64) .nil))) (.cons (.arr 10 (.int .u64)) .nil)))),
 (92,(.ptr (.cons (.cons (.int .i64) (.cons (.slice (.cons (.int .i64) (.cons (.int .i64) .nil))) (.cons (.slice (.cons (.int .i64) (.cons (.cons (.int .i64) (.cons (.int .i64) .nil)) .nil))) .nil))) (.cons (.slice (.cons (.int .i64) (.cons (.int .i64) .nil))) (.cons (.arr 12 (.arr 12 (.int .i64))) .nil))))),
 (96,(.arr 12 (.int .i64))),
 (97,(.arr 12 (.int .i64))),
 (98,(.arr 12 (.arr 12 (.int .i64)))),
 (99,(.cons (.cons (.int .i64) (.cons (.slice (.cons (.int .i64) (.cons (.int .i64) .nil))) (.cons (.slice (.cons (.int .i64) (.cons (.cons (.int .i64) (.cons (.int .i64) .nil)) .nil))) .nil))) (.cons (.slice (.cons (.int .i64) (.cons (.int .i64) .nil))) (.cons (.arr 12 (.arr 12 (.int .i64))) .nil)))),
 (100,(.cons (.cons (.int .i64) (.cons (.slice (.cons (.int .i64) (.cons (.int .i64) .nil))) (.cons (.slice (.cons (.int .i64) (.cons (.cons (.int .i64) (.cons (.int .i64) .nil)) .nil))) .nil))) (.cons (.slice (.cons (.int .i64) (.cons (.int .i64) .nil))) (.cons (.arr 12 (.arr 12 (.int .i64))) .nil)))),
 (107,(.arr 2 (.int .u8))),
 (110,(.ptr (.cons (.cons (.int .i64) (.cons (.slice (.arr 2 (.int .i64))) .nil)) (.cons (.arr 8 (.arr 8 (.int .i64))) .nil)))),
 (115,(.ptr (.cons (.ptr (.cons (.cons (.int .i64) (.cons (.slice (.arr 2 (.int .i64))) .nil)) (.cons (.arr 8 (.arr 8 (.int .i64))) .nil))) (.cons (.arr 8 (.slice (.int .i64))) .nil)))),
 (123,(.cons (.int .i64) (.cons (.int .i64) (.cons (.slice (.int .i64)) .nil)))),
 (124,(.cons (.int .i64) (.cons (.int .i64) (.cons (.slice (.int .i64)) .nil)))),
 (138,(.slice (.int .i64))),
 (146,(.slice (.int .u64))),
 (152,(.cons (.int .i64) .nil)),
 (153,(.cons (.int .i64) .nil)),
 (156,(.arr 8 (.slice (.int .i64)))),
 (157,(.cons (.ptr (.cons (.cons (.int .i64) (.cons (.slice (.arr 2 (.int .i64))) .nil)) (.cons (.arr 8 (.arr 8 (.int .i64))) .nil))) (.cons (.arr 8 (.slice (.int .i64))) .nil))),
 (158,(.cons (.ptr (.cons (.cons (.int .i64) (.cons (.slice (.arr 2 (.int .i64))) .nil)) (.cons (.arr 8 (.arr 8 (.int .i64))) .nil))) (.cons (.arr 8 (.slice (.int .i64))) .nil))),
 (159,(.arr 8 (.int .i64))),
 (160,(.arr 8 (.int .i64))),
 (161,(.arr 8 (.arr 8 (.int .i64)))),
 (162,(.cons (.cons (.int .i64) (.cons (.slice (.arr 2 (.int .i64))) .nil)) (.cons (.arr 8 (.arr 8 (.int .i64))) .nil))),
 (163,(.cons (.cons (.int .i64) (.cons (.slice (.arr 2 (.int .i64))) .nil)) (.cons (.arr 8 (.arr 8 (.int .i64))) .nil))),
 (201,(.ptr (.cons (.int .i64) (.cons (.int .i64) .nil)))),
 (273,(.int .i64)),
 (281,(.int .u32)),
 (283,(.int .u64)),
 (383,(.arr 32 (.int .u8))),
 (384,(.arr 64 (.int .u8)))]
def ets:List (Nat×Nat):=[(22,45),(23,60),(26,5),(29,3),(31,29),(32,43),(38,36),(39,50),(56,107),(138,2),(146,81)]
def mts:List (Nat×(Nat×Nat)):=[(145,(81,2)),(154,(153,2))]
def tab:tabB Tryz.prog tys ets mts=true:=by decide +kernel
def xok{X:Ctx}(h1:X.P=Tryz.prog)(h2:X.T=tys)(h3:X.ET=ets)(h4:X.MT=mts):XOK X:=z42 tab h1 h2 h3 h4
def xk{E:World}{M0:Mem}{n:Nat}{rd:Option Nat}{dp:Nat}:XOK ⟨Tryz.prog,tys,ets,mts,E,M0,n,rd,up,dp⟩:=xok rfl rfl rfl rfl
end Go.Proofs.YtjjkdjbbkagclaaGreatDoor
namespace Ox.Two
abbrev Ev:=List (Int×Int×Unit)
def isSay(n:Nat)(s:Int):Prop:=(1≤s∧s≤n)∨(-(n:Int)≤s∧s≤-1)
def valid(n:Nat)(ev:Ev):Prop:=∀ x∈ev,isSay n x.1∧isSay n x.2.1
def holds(v:Nat→Bool)(s:Int):Bool:=if s<0 then !v (-1-s).toNat else v (s-1).toNat
def Sat(ev:Ev)(v:Nat→Bool):Prop:=∀ x∈ev,holds v x.1=true∨holds v x.2.1=true
def Step(ev:Ev)(a b:Int):Prop:=∃ x∈ev,(x.1=-a∧x.2.1=b)∨(x.2.1=-a∧x.1=b)
inductive Ch(ev:Ev):Nat→Int→Int→Prop
 |nil (a:Int):Ch ev 0 a a
 |snoc {k:Nat} {a b c:Int}:Ch ev k a b→Step ev b c→Ch ev (k+1) a c
def Reach(ev:Ev)(a b:Int):Prop:=∃ k,Ch ev k a b
def isSay.neg{n:Nat}(h:isSay n s):isSay n (-s):=by unfold isSay at *;omega
variable{ev:Ev}{b:Int}
def Step.say{n:Nat}(hv:valid n ev)(h:Step ev a b):isSay n a∧isSay n b:=by
 obtain⟨x,hx,h|h⟩:=h
 ·have:=hv x hx;rw[h.1,h.2] at this;exact⟨by have:=this.1.neg;rwa[Int.neg_neg] at this,this.2⟩
 ·have:=hv x hx;rw[h.1,h.2] at this;exact⟨by have:=this.2.neg;rwa[Int.neg_neg] at this,this.1⟩
def Ch.cons{ev:Ev}{a b:Int}(h:Step ev a b):∀ {k:Nat} {c:Int},Ch ev k b c→Ch ev (k+1) a c
 |_,_,.nil _=>.snoc (.nil a) h
 |_,_,.snoc h1 h2=>.snoc (Ch.cons h h1) h2
def Ch.trans{ev:Ev}{a b c:Int}{k:Nat}(h:Ch ev k a b):∀ {m:Nat},Ch ev m b c→Ch ev (k+m) a c
 |_,.nil _=>h
 |_,.snoc h1 h2=>.snoc (Ch.trans h h1) h2
def Reach.trans{ev:Ev}{a b c:Int}(h:Reach ev a b)(k:Reach ev b c):Reach ev a c:=by obtain⟨i,h⟩:=h;obtain⟨j,k⟩:=k;exact⟨i+j,h.trans k⟩
def z7u{n:Nat}(v:Nat→Bool)(h:isSay n s):holds v (-s)=!holds v s:=by
 unfold holds;unfold isSay at h;by_cases hs:s<0
 ·rw[if_neg (by omega),if_pos hs,Bool.not_not];congr 1;omega
 ·rw[if_pos (by omega),if_neg hs];congr 2;omega
def Sat.step{n:Nat}{v:Nat→Bool}(hv:valid n ev)(h:Sat ev v)(hs:Step ev a b)(ha:holds v a=true):holds v b=true:=by
 have hsa:=(hs.say hv).1;have hn:=z7u v hsa;rw[ha] at hn;obtain⟨x,hx,e|e⟩:=hs
 ·have:=h x hx;rw[e.1,e.2,hn] at this;simpa using this
 ·have:=h x hx;rw[e.1,e.2,hn] at this;simpa using this
end Ox.Two
namespace Ox.Sh
open Ox
abbrev Sh:=Int×Int×Int×Unit
abbrev da(s:Sh):Int:=s.1
abbrev dr(s:Sh):Int:=s.2.1
abbrev dp(s:Sh):Int:=s.2.2.1
abbrev z0:Sh:=(0,0,0,())
def nx(l:List Sh)(p:Int×Int)(n:Nat):Int×Int:=(p.1+da (l.getD n z0),Max.max (p.1+da (l.getD n z0)+dr (l.getD n z0)) p.2+dp (l.getD n z0))
def okS(s:Sh):Prop:=0≤da s∧da s≤1000∧0≤dr s∧dr s≤1000∧0≤dp s∧dp s≤1000
def okD(l:List Sh):Prop:=∀ s∈l,okS s
def okD.get{l:List Sh}(h:okD l)(n:Nat):okS (l.getD n z0):=by
 by_cases hn:n<l.length
 ·rw[yyp,yys hn];exact h _ (yy5 hn)
 ·rw[yyp,yxn (by omega)];exact⟨by decide,by decide,by decide,by decide,by decide,by decide⟩
def sm(f:Nat→Int)(o:List Nat):Int:=(o.map f).sum
section
variable {l:List Sh}{m n:Nat}(hm:okS (l.getD m z0))(hn:okS (l.getD n z0))
include hm hn
end
def freeL(N:Nat)(row:List Nat):List Nat:=(List.range N).filter fun n=>decide (n∉row)
end Ox.Sh
namespace Ox.Se
open Ox
variable {E A:Nat→Int}
abbrev ps(c:Nat×List Nat):List Nat:=c.1::c.2
abbrev flat(L:List (Nat×List Nat)):List Nat:=L.flatMap ps
end Ox.Se
namespace Ox.Se
open Ox Ox.Sh
abbrev Pt:=Int×Int×Unit
abbrev zP:Pt:=(0,0,())
def aT(l:List Pt)(n:Nat):Int:=(l.getD n zP).1
def lO(l:List Pt)(n:Nat):Int:=(l.getD n zP).2.1
def eN(P:Int)(l:List Pt)(n:Nat):Int:=(aT l n+lO l n) % P
def gp(P:Int)(l:List Pt)(i j:Nat):Int:=(aT l j-eN P l i) % P
def wst(P:Int)(l:List Pt):Nat→List Nat→Int
 |_,[]=>0
 |i,j::r=>gp P l i j+wst P l j r
def tot(P:Int)(l:List Pt)(h:Nat)(t:List Nat):Int:=sm (lO l) (h::t)+wst P l h (t++[h])
def ov1(P:Int)(l:List Pt)(u:Int)(n:Nat):Int:=lO l n / P+if (u-aT l n) % P<lO l n % P then 1 else 0
def ov(P:Int)(l:List Pt)(u:Int):Int:=sm (ov1 P l u) (List.range l.length)
variable {P:Int}{l:List Pt}{c:Int}
def LA(P:Int)(l:List Pt)(c:Int)(n:Nat):Int:=(aT l n-c-1) % P
def LE(P:Int)(l:List Pt)(c:Int)(n:Nat):Int:=(eN P l n-c-1) % P
def rd(P:Int)(l:List Pt)(h:Nat)(t:List Nat):Int:=tot P l h t / P
abbrev isO(l:List Pt)(h:Nat)(t:List Nat):Prop:=(h::t).Perm (List.range l.length)
def opn(P:Int)(l:List Pt)(c z:Int):Prop:=ov P l ((z+c+1) % P)<ov P l c
def tch(P:Int)(l:List Pt)(c:Int)(i k:Nat):Prop:=∃ x y,(x=LA P l c i∨x=LE P l c i)∧(y=LA P l c k∨y=LE P l c k)∧∀ z,Min.min x y≤z→z<Max.max x y→opn P l c z
def held(P:Int)(l:List Pt)(c:Int):Prop:=∀ S:Nat→Prop,(∃ i,i<l.length∧S i)→(∃ k,k<l.length∧¬ S k)→∃ i k,i<l.length∧k<l.length∧S i∧¬ S k∧tch P l c i k
def amx(f:Nat→Int):Nat→Nat
 |0=>0
 |k+1=>if f (amx f k)<f (k+1) then k+1 else amx f k
def pkA(P:Int)(l:List Pt):Nat:=amx (fun u=>ov P l (u:Int)) (P.toNat-1)
def pkV(P:Int)(l:List Pt):Int:=ov P l (pkA P l:Int)
def flB(P:Int)(l:List Pt)(u:Nat):Bool:=decide (ov P l (u:Int)=pkV P l)
def okP(P:Int)(l:List Pt):Prop:=∀ s∈l,(0≤s.1∧s.1<P)∧1≤s.2.1∧s.2.1≤10000
def okP.get(h:okP P l){n:Nat}(hn:n<l.length):(0≤aT l n∧aT l n<P)∧1≤lO l n∧lO l n≤10000:=by unfold aT lO;rw[yyp,yys hn];exact h _ (yy5 hn)
end Ox.Se
namespace Ox
open Go Go.RowKit
variable {X:Ctx}{M:Mem}{ρ:Env}{a:Act}{w w':World}{QA:Exit→S→Prop}{all l:List Oper}{L:List (Nat×AV)}{H:List (Nat×HO)}{nx d:Nat}{ty:TypeId}{ps:String}{af:Array Edge}
end Ox
