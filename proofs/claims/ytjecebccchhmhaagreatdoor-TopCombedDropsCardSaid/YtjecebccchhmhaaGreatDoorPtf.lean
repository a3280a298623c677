/- Texts of the proof of the statement that the last text proves. -/
import Derived.Test.YtjecebccchhmhaaGreatDoorPte
import Derived.ProofKit
import Derived.OpenShut
import Derived.Carry
import Derived.JoinedOf
import Derived.FnData
import GoSem.ClaimJoined
set_option linter.all false
set_option maxHeartbeats 2000000
variable{x x0 x1:Go.Operand}{w1:Go.World}{N a b d i j k lm m n tid:Nat}{o rv xs:List Int}{f:Go.FuncId}{g:Bool}{cs:List Prop}{R:Nat→List Int}{p q:Prop}{hi lo s y:Int}{ops:List Go.Oper}{gg:Nat×Bool}{fn:Go.Func}{eid kid t tm tt ty vid:Go.TypeId}{α:Type}{af:Array Go.Edge}{c:Go.Code}{P:Go.Program}
namespace Ox
open Go Go.RowKit
variable {X:Ctx}{s:S}{M:Mem}{ρ:Env}{a:Act}{w w':World}{QA:Exit→S→Prop}{all l:List Oper}{P:Program}
variable {L:List (Nat×AV)}{H:List (Nat×HO)}{nx d n:Nat}{rr:List Fr}{c1 c2:List Prop}{ty ty2:TypeId}{ps ps2:String}{af af2:Array Edge}{md:Bool}
def mapB(P:Program)(t:TypeId):Bool:=match P.info? t with
 |some i=>(match i.zero with|some (Value.map none)=>true|_=>false)&&(i.size==1)&&(match P.underlying t with|some (.map ..)=>true|_=>false)
 |none=>false
structure MpT(P:Program)(t:TypeId):Prop where
 zero:∀ w,(zeroValue t).run P w=.ok (Value.map none) w
 size:∀ w,(Go.sizeOf t).run P w=.ok 1 w
 agg:∀ w,(isAgg t).run P w=.ok false w
def MpT.of(h:mapB P t=true):MpT P t:=by
 unfold mapB at h;cases hi:P.info? t with
 |none=>rw[hi] at h;cases h
 |some i=>
  rw[hi] at h;simp only[yyc,beq_iff_eq] at h;obtain⟨⟨h1,h2⟩,h3⟩:=h;refine⟨fun w=>?_,fun w=>?_,fun w=>?_⟩
  ·split at h1
   ·rename_i hz;simp[zeroValue,typeInfo,hi,hz]
   ·cases h1
  ·simp[Go.sizeOf,typeInfo,hi,h2]
  ·split at h3
   ·rename_i hu;simp[isAgg,run_underlying hu]
   ·cases h3
def AV.mpB:AV→Bool
 |.lf (.mp _)=>true
 |_=>false
variable{v:AV}
def mpB_rv(h:v.mpB=true){u:Value}(hu:v.rv M ρ u):∃ b,u=.map (some b):=by
 cases v with
 |lf x=>
  cases x with
  |mp l=>simp only[AV.rv,Leaf.at,yya] at hu;exact⟨_,hu.1.symm⟩
  |_=>simp[AV.mpB] at h
 |_=>simp[AV.mpB] at h
def JL.layM(hF:mapB X.P t=true)(hu:opd (del L d) x=some (c1,v))(hv:v.mpB=true)(hc:allP c1)(hd:ltB d X.n=true)(k:JL X true all QA l ⟨(d,.pfn v)::L,H,nx⟩) :
  JL X true all QA (⟨some d,.alloc t,ty,ps,af,none⟩::⟨none,.store t (.tmp d) x,ty2,ps2,af2,none⟩::l) ⟨L,H,nx⟩:=by
 have hf:=MpT.of hF;intro M ρ a w h1 h2
 let p:Value:=.pointer (some ⟨w.heap.size,0,none⟩)
 let w1:World:=w.alloc (.cells #[(Value.map none)] t)
 have hE:=h1.below.size;have hW:d<X.n:=j9 hd;have hG:=h2.size;have hN:(execOp a.eval ⟨some d,.alloc t,ty,ps,af,none⟩).run X.P w=.ok (.value p) w1:=by simp only[execOp,Instr.alloc,yye,hf.zero,yyb,newVar,newRow,run_newObj,yyf];rfl
 have hk:REG X M ρ ⟨del L d,H,nx⟩ (a.put (some d) p):=⟨by simp[Act.put,hG],h2.defers,fun e y he=>by
  obtain⟨e1,e2⟩:=q3h he;have:=h2.reg e y e2;refine⟨this.1,?_⟩;have e3:((a.put (some d) p).tmps.getD e Go.undef)=a.tmps.getD e Go.undef:=by simp only[Act.put,yyr];rw[yxs (Ne.symm e1)]
  rw[e3];exact this.2⟩
 obtain⟨hH,hJ⟩:=z5 (s:=⟨del L d,H,nx⟩) hu hc hk;obtain⟨f,hK⟩:=mpB_rv hv hJ
 let w2:World:=w.alloc (.cells #[(a.put (some d) p).eval x] t)
 have hw:w1.heap[w.heap.size]?=some (.cells #[(Value.map none)] t (0,0)):=World.alloc_heap_new w _;have hP:(a.put (some d) p).eval (.tmp d)=p:=by simp only[Act.eval,Act.put,yyr];rw[yxq (by omega)];rfl
 have hA:∀ y∈[(a.put (some d) p).eval x],y.oneCell'=true:=fun y hy=>by rw[yyp.1 hy,hK];rfl
 have hst:=run_storeCells_at X.P w.heap.size 0 t [(a.put (some d) p).eval x] 0 #[(Value.map none)] w1 hw (by simp) hA;have hg:((a.put (some d) p).eval x).cells=#[(a.put (some d) p).eval x]:=by rw[hK];rfl
 have hB:w1.setRow w.heap.size (([Value.map none].take (0+0)++[(a.put (some d) p).eval x]++[Value.map none].drop (0+0+1)).toArray)=w2:=by show({heap:=(w.heap.push (.cells #[(Value.map none)] t)).modify w.heap.size _,tape:=w.tape,drawn:=w.drawn,os:=w.os,output:=w.output}:World)={heap:=w.heap.push _,tape:=w.tape,drawn:=w.drawn,os:=w.os,output:=w.output};rw[z3o];rfl
 have hQ:(execOp (a.put (some d) p).eval ⟨none,.store t (.tmp d) x,ty2,ps2,af2,none⟩).run X.P w1=.ok .skip w2:=by
  have h3:(storeVar t ⟨w.heap.size,0,none⟩ ((a.put (some d) p).eval x)).run X.P w1=.ok () w2:=by unfold storeVar;simp only[yye,hf.size,yyb,hg];simp only[List.size_toArray,List.length_cons,List.length_nil,ne_eq,not_true_eq_false,if_false,Array.toList];rw[hst];exact congrArg (Result.ok ()) hB
  simp only[execOp,Instr.storeAt,hP,p,Instr.sureAddr,yye,yyf,yyb];rw[h3];rfl
 let M':Mem:=fun b=>if b=w.heap.size then some (.cells #[(a.put (some d) p).eval x] t (0,0)) else M b
 have ha:∀ b o,M b=some o→M' b=some o:=fun b o hb=>by show(if b=w.heap.size then _ else _)=_;rw[if_neg (by have:=(yyi.1 (h1.mem _ _ hb)).1;omega)];exact hb
 have hM:Mem.le M M':=fun b c ty fz hb=>ha b _ hb;have hR:w2.heap[w.heap.size]?=some (.cells #[(a.put (some d) p).eval x] t (0,0)):=World.alloc_heap_new w _;have hL:Below w.heap.size w w2:=(Below.refl _ _).alloc (yyl _) _;have hT:SAT X M' ρ ⟨L,H,nx⟩ w2:=h1.ext hL hM (fun b o hb=>by
  by_cases e:b=w.heap.size
  ·subst e;have:some (Obj.cells #[(a.put (some d) p).eval x] t (0,0))=some o:=by have hh:(if w.heap.size=w.heap.size then some (Obj.cells #[(a.put (some d) p).eval x] t (0,0)) else M w.heap.size)=some o:=hb;rwa[if_pos rfl] at hh
   rw[← this];exact hR
  ·have hh:(if b=w.heap.size then some (Obj.cells #[(a.put (some d) p).eval x] t (0,0)) else M b)=some o:=hb;rw[if_neg e] at hh;have hU:=(yyi.1 (h1.mem b o hh)).1;rw[hL.block b hU];exact h1.mem b o hh) (fun b hb=>by
  show(if b=w.heap.size then _ else _)=_;rw[if_neg (by omega)])
 have hj:REG X M' ρ ⟨(d,.pfn v)::L,H,nx⟩ ((a.put (some d) p).put none Go.undef):=by
  refine⟨by simp[Act.put,hG],let ⟨Ds,e1,e2,e3,e4⟩:=h2.defers;⟨Ds,e1,e2,fun D hD=>⟨(e3 D hD).1,ha _ _ (e3 D hD).2⟩,e4⟩,fun e y he=>?_⟩;simp only[lk] at he;by_cases hC:d=e
  ·subst hC;rw[if_pos rfl] at he;injection he with he;subst he
   refine⟨hH,?_⟩;simp only[AV.rv];refine⟨w.heap.size,_,t,(0,0),?_,?_,j5 hM (Env.upTo.refl ρ nx) hH hJ⟩
   ·show(a.put (some d) p).tmps.getD d Go.undef=p;simp only[Act.put,yyr];rw[yxq (by omega)];rfl
   ·show(if w.heap.size=w.heap.size then _ else _)=_;rw[if_pos rfl]
  ·rw[if_neg hC] at he;have:=h2.reg e y he;refine⟨this.1,?_⟩;have e3:(((a.put (some d) p).put none Go.undef).tmps.getD e Go.undef)=a.tmps.getD e Go.undef:=by simp only[Act.put,yyr];rw[yxs hC]
   rw[e3];exact j5 hM (Env.upTo.refl ρ nx) this.1 this.2
 refine z9 (j6 rfl) (w3 rfl hN (z9 (j6 rfl) (q3p rfl hQ ?_)));exact k M' ρ _ w2 (hT.regs _) hj
def j0j(hF:mapB X.P t=true)(hu:opd s.L x=some (c1,.pfn v))(hc:allP c1):∀ {M ρ a w0} {d:Option Nat} {gu:Option (Nat×Bool)},SAT X M ρ s w0→REG X M ρ s a→v.bd s.nx∧∃ z,v.rv M ρ z∧∀ w1,Below w0.heap.size w0 w1→(execOp a.eval ⟨d,.load t x,ty,ps,af,gu⟩).run X.P w1=.ok (.value z) w1:=by
 have hf:=MpT.of hF;intro M ρ a w0 d gu h1 h2;obtain⟨hb,hr⟩:=z5 hu hc h2;simp only[AV.rv] at hr;obtain⟨b,fv,ty',fz,e1,e2,e3⟩:=hr;refine⟨hb,fv,e3,fun w1 hw=>?_⟩;have hm:=h1.mem b _ e2;have ha:=(yyi.1 hm).1;have hd:w1.heap[b]?=some (.cells #[fv] ty' fz):=by rw[hw.block b ha];exact hm
 have h3:(loadVar t ⟨b,0,none⟩).run X.P w1=.ok fv w1:=by unfold loadVar;simp only[yye,hf.agg,yyb];simp[u6 hd]
 simp only[execOp,e1,Instr.loadAt,Instr.sureAddr,yye,yyf,yyb,h3]
def JL.ldM(hF:mapB X.P t=true)(hu:opd s.L x=some (c1,.pfn v))(hc:allP c1)(hd:ltB d X.n=true)(k:JL X md all QA l ⟨(d,v)::s.L,s.H,s.nx⟩):JL X md all QA (⟨some d,.load t x,ty,ps,af,none⟩::l) s:=by
 cases md
 ·intro M ρ a w0 h1 h2;obtain⟨hb,z,hz,hr⟩:=j0j (d:=some d) (gu:=none) (ty:=ty) (ps:=ps) (af:=af) hF hu hc h1 h2;simp only[wpQuiet,Region.wanted,if_true];refine⟨z,fun w hw=>?_,k M ρ _ w0 (h1.regs _) (h2.putO (d:=some d) (dstOk.spec (j9 hd)) hb hz)⟩;unfold Oper.quietAt;rw[hr w hw];exact⟨rfl,rfl⟩
 ·intro M ρ a w h1 h2;obtain⟨hb,z,hz,hr⟩:=j0j (d:=some d) (gu:=none) (ty:=ty) (ps:=ps) (af:=af) hF hu hc h1 h2;exact z9 (j6 rfl) (w3 rfl (hr w (Below.refl _ _)) (k M ρ _ w (h1.regs _) (h2.putO (d:=some d) (dstOk.spec (j9 hd)) hb hz)))
def JK.layM{t:TypeId}{x:Operand}{v:AV}(hF:mapB X.P t=true)(hu:opd (del L d) x=some (c1,v))(hv:v.mpB=true)(hd:ltB d X.n=true)(hc:allP c1)(k:JK X (.ops true all l::rr) QA ⟨(d,.pfn v)::L,H,nx⟩) :
  JK X (.ops true all (⟨some d,.alloc t,ty,ps,af,none⟩::⟨none,.store t (.tmp d) x,ty2,ps2,af2,none⟩::l)::rr) QA ⟨L,H,nx⟩:=JL.layM hF hu hv hc hd k
def JK.ldM{t:TypeId}{x:Operand}{v:AV}(hF:mapB X.P t=true)(hu:opd L x=some (c1,.pfn v))(hd:ltB d X.n=true)(hc:allP c1)(k:JK X (.ops md all l::rr) QA ⟨(d,v)::L,H,nx⟩):JK X (.ops md all (⟨some d,.load t x,ty,ps,af,none⟩::l)::rr) QA ⟨L,H,nx⟩:=JL.ldM (s:=⟨L,H,nx⟩) hF hu hc hd k
variable {m:Nat}
section
variable {x:Operand}{t:TypeId}{xs:List Int}{eid:TypeId}{e:Ty}
end
section
variable {kt vt:Ty}{t kid vid:TypeId}{es:List (Ent kt vt)}{clk n:Nat}{x:kt.den}{om ok ov:Operand}{c3:List Prop}{o:Oper}
def JL.mUpd(hT:MapT X.P kt vt t kid vid)(hu:opd L om=some (c1,.lf (.mp n)))(hl:lk H n=some (.map kt vt es clk))(hv:opd L ok=some (c2,.val kt x)){y:vt.den}(hy:opd L ov=some (c3,.val vt y))(hc:allP (c1++(c2++c3)))
  (k:JL X true all QA l ⟨L,updH H n (.map kt vt (mPut es clk x y) (mClk es clk x)),nx⟩):JL X true all QA (⟨none,.mapUpdate t om ok ov,ty,ps,af,none⟩::l) ⟨L,H,nx⟩:=by
 rw[z7,z7] at hc;refine q08 rfl rfl trivial (v:=.undef) (s':=⟨L,updH H n (.map kt vt (mPut es clk x y) (mClk es clk x)),nx⟩) (fun M ρ a w h1 h2=>?_) k;obtain⟨ms,hb,hm⟩:=q2s h1 hl;obtain⟨cx,hx,ha⟩:=o8 hv hc.2.1 h2;obtain⟨cy,hd,he⟩:=o8 hy hc.2.2 h2;obtain⟨ms',r1,r2⟩:=z8r hT hb hm hx hd;refine⟨ρ,_,_,?_,Env.upTo.refl _ _,yyl _,rfl,h1.setMap hl r1,trivial,.inr ⟨rfl,rfl⟩⟩;simp only[execOp,q2t hu hc.1 h2,ha,he,yye,r2,yyb,yyf]
end
end Ox
namespace Go.Proofs.YtjecebccchhmhaaGreatDoor
open Go Go.RowKit Ox
variable {E:World}{M0:Mem}{n:Nat}{rd:Option Nat}{up:Nat→Nat→Value}{dp:Nat}{QA:Exit→S→Prop}{st st' r:List Fr}{s s':S}{cs:List Prop}{md:Bool}{all l:List Oper}{d:Nat}{op:Op}{ty:TypeId}{ps:String}{af:Array Edge}{g:Bool}{gg:Nat×Bool}{v:AV}{f:FuncId}{args:AV}{L:List (Nat×AV)}{H:List (Nat×HO)}{nx:Nat}{kt vt:Ty}{t kid vid:TypeId}{es:List (Ent kt vt)}{clk m:Nat}{x y:kt.den}{c1 c2 c3:List Prop}{om ok ov:Operand}
def zs(h:stepC tys ets n false st s=some (cs,st',s'))(k:JK ⟨Tryz.prog,tys,ets,mts,E,M0,n,rd,up,dp⟩ st' QA s')(hc:allP cs:=by exact zD):JK ⟨Tryz.prog,tys,ets,mts,E,M0,n,rd,up,dp⟩ st QA s:=j24 xk h k hc
def zu(h:stepC tys ets n true st s=some (cs,st',s'))(k:JK ⟨Tryz.prog,tys,ets,mts,E,M0,n,rd,up,dp⟩ st' QA s')(hc:allP cs:=by exact zD):JK ⟨Tryz.prog,tys,ets,mts,E,M0,n,rd,up,dp⟩ st QA s:=j24 xk h k hc
def zg(hg:gOf all L (some gg)=some g)(h:evb tys op ⟨L,H,nx⟩=some (cs,v))(hd:ltB d n=true)(k:JK ⟨Tryz.prog,tys,ets,mts,E,M0,n,rd,up,dp⟩ (.ops md all l::r) QA ⟨(d,.gd g v)::L,H,nx⟩)
  (hc:g=true→allP cs:=by(first|(exact fun _=>trivial)|(exact fun hgd=>hgd)|(exact zE)|(exact fun hgd=>And.intro hgd (fun hpk=>Bool.and_eq_true_iff.2 ⟨hgd,by rw[hpk];rfl⟩))|(exact zF))) :
  JK ⟨Tryz.prog,tys,ets,mts,E,M0,n,rd,up,dp⟩ (.ops md all (⟨some d,op,ty,ps,af,some gg⟩::l)::r) QA ⟨L,H,nx⟩:=JK.gd xk hg h hd k hc
def zd{id:Nat}(k:JK ⟨Tryz.prog,tys,ets,mts,E,M0,n,rd,up,dp⟩ (.ops false ops ops::r) QA s)(hB:(Region.lexB .any ops.toArray&&ndAll ops)=true:=by decide +kernel):JK ⟨Tryz.prog,tys,ets,mts,E,M0,n,rd,up,dp⟩ (.code (.region id ⟨ops⟩ true)::r) QA s:=JK.draw xk k hB
def zc(h:callA tys op ⟨L,H,nx⟩=some (cs,f,args))(hf:Ox.Fn Tryz.prog f args (·=v))(hr:v.scal=true)(hd:ltB d n=true)(k:JK ⟨Tryz.prog,tys,ets,mts,E,M0,n,rd,up,dp⟩ (.ops md all l::r) QA ⟨(d,v)::L,H,nx⟩)(hc:allP cs:=by exact zD) :
  JK ⟨Tryz.prog,tys,ets,mts,E,M0,n,rd,up,dp⟩ (.ops md all (⟨some d,op,ty,ps,af,none⟩::l)::r) QA ⟨L,H,nx⟩:=JK.sc h hf hr hd k hc
def zk(hg:gOf all L (some gg)=some g)(h:callA tys op ⟨L,H,nx⟩=some (cs,f,args))(hf:g=true→Ox.Fn Tryz.prog f args (·=v))(hr:v.scal=true)(hd:ltB d n=true)(k:JK ⟨Tryz.prog,tys,ets,mts,E,M0,n,rd,up,dp⟩ (.ops md all l::r) QA ⟨(d,.gd g v)::L,H,nx⟩)
  (hc:g=true→allP cs:=by(first|(exact fun _=>trivial)|(exact fun hgd=>hgd)|(exact zE)|(exact zF))):JK ⟨Tryz.prog,tys,ets,mts,E,M0,n,rd,up,dp⟩ (.ops md all (⟨some d,op,ty,ps,af,some gg⟩::l)::r) QA ⟨L,H,nx⟩:=JK.scg hg h hf hr hd k hc
def ze(h:callA tys op ⟨L,[],nx⟩=some (cs,f,args))(hf:Ox.Fn Tryz.prog f args (·=v))(hd:ltB d n=true)(k:JK ⟨Tryz.prog,tys,ets,mts,E,M0,n,rd,up,dp⟩ (.ops true all l::r) QA ⟨(d,v)::L,H,nx⟩)(hc:allP cs:=by exact zD) :
  JK ⟨Tryz.prog,tys,ets,mts,E,M0,n,rd,up,dp⟩ (.ops true all (⟨some d,op,ty,ps,af,none⟩::l)::r) QA ⟨L,H,nx⟩:=JK.ce h hf hd k hc
def zt(hg:gOf all L (some gg)=some g)(ha:g=true){dd:Option Nat}(k:JK ⟨Tryz.prog,tys,ets,mts,E,M0,n,rd,up,dp⟩ (.ops true all (⟨dd,op,ty,ps,af,none⟩::l)::r) QA ⟨L,H,nx⟩):JK ⟨Tryz.prog,tys,ets,mts,E,M0,n,rd,up,dp⟩ (.ops true all (⟨dd,op,ty,ps,af,some gg⟩::l)::r) QA ⟨L,H,nx⟩:=JK.gT hg ha k
def zfl(hg:gOf all L (some gg)=some g)(ha:g=false)(hd:ltB d n=true)(k:JK ⟨Tryz.prog,tys,ets,mts,E,M0,n,rd,up,dp⟩ (.ops true all l::r) QA ⟨(d,.undef)::L,H,nx⟩):JK ⟨Tryz.prog,tys,ets,mts,E,M0,n,rd,up,dp⟩ (.ops true all (⟨some d,op,ty,ps,af,some gg⟩::l)::r) QA ⟨L,H,nx⟩:=JK.gF hg ha hd k
def znf(k:JK ⟨Tryz.prog,tys,ets,mts,E,M0,n,rd,up,dp⟩ (.ops true all l::r) QA ⟨del L d,H,nx⟩):JK ⟨Tryz.prog,tys,ets,mts,E,M0,n,rd,up,dp⟩ (.ops true all (⟨some d,.assign (.const .nilFunc),ty,ps,af,none⟩::l)::r) QA ⟨L,H,nx⟩:=z1a k
def zml(hT:MapT Tryz.prog kt vt t kid vid)(hu:opd L om=some (c1,.lf (.mp m)))(hl:lk H m=some (.map kt vt es clk))(hv:opd L ok=some (c2,.val kt x))(hd:ltB d n=true)
  (k:JK ⟨Tryz.prog,tys,ets,mts,E,M0,n,rd,up,dp⟩ (.ops true all l::r) QA ⟨(d,.val vt (mGet es x vt.dflt))::L,H,nx⟩) (hc:allP (c1++c2):=by exact zD):JK ⟨Tryz.prog,tys,ets,mts,E,M0,n,rd,up,dp⟩ (.ops true all (⟨some d,.lookup t om ok false,ty,ps,af,none⟩::l)::r) QA ⟨L,H,nx⟩:=JL.mLook (X:=⟨Tryz.prog,tys,ets,mts,E,M0,n,rd,up,dp⟩)  hT hu hl hv hd hc k
def zmi(hT:MapT Tryz.prog kt vt t kid vid)(hu:opd L om=some (c1,.lf (.mp m)))(hl:lk H m=some (.map kt vt es clk))(hv:opd L ok=some (c2,.val kt x)){y:vt.den}(hy:opd L ov=some (c3,.val vt y))
  (k:JK ⟨Tryz.prog,tys,ets,mts,E,M0,n,rd,up,dp⟩ (.ops true all l::r) QA ⟨L,updH H m (.map kt vt (mPut es clk x y) (mClk es clk x)),nx⟩) (hc:allP (c1++(c2++c3)):=by exact zD):JK ⟨Tryz.prog,tys,ets,mts,E,M0,n,rd,up,dp⟩ (.ops true all (⟨none,.insert t om ok ov,ty,ps,af,none⟩::l)::r) QA ⟨L,H,nx⟩:=JL.mIns (X:=⟨Tryz.prog,tys,ets,mts,E,M0,n,rd,up,dp⟩)  hT hu hl hv hy hc k
def zmd(hT:MapT Tryz.prog kt vt t kid vid){ta:TypeId}(hu:opd L om=some (c1,.lf (.mp m)))(hl:lk H m=some (.map kt vt es clk))(hv:opd L ok=some (c2,.val kt x))
  (k:JK ⟨Tryz.prog,tys,ets,mts,E,M0,n,rd,up,dp⟩ (.ops true all l::r) QA ⟨L,updH H m (.map kt vt (Ox.mDel es x) clk),nx⟩) (hc:allP (c1++c2):=by exact zD):JK ⟨Tryz.prog,tys,ets,mts,E,M0,n,rd,up,dp⟩ (.ops true all (⟨none,.call {callee:=.builtin .delete,args:=#[om,ok],argTypes:=#[t,ta]},ty,ps,af,none⟩::l)::r) QA ⟨L,H,nx⟩:=JL.mDel (X:=⟨Tryz.prog,tys,ets,mts,E,M0,n,rd,up,dp⟩)  hT hu hl hv hc k
def zmr(hT:MapT Tryz.prog kt vt t kid vid)(hu:opd L om=some (c1,.lf (.mp m)))(hl:lk H m=some (.map kt vt es clk))(hd:ltB d n=true)
  (k:JK ⟨Tryz.prog,tys,ets,mts,E,M0,n,rd,up,dp⟩ (.ops true all l::r) QA ⟨(d,.lf (.itr nx))::L,(nx,.iter m clk [] clk)::H,nx+1⟩) (hc:allP c1:=by exact zD):JK ⟨Tryz.prog,tys,ets,mts,E,M0,n,rd,up,dp⟩ (.ops true all (⟨some d,.range t om,ty,ps,af,none⟩::l)::r) QA ⟨L,H,nx⟩:=j2t (X:=⟨Tryz.prog,tys,ets,mts,E,M0,n,rd,up,dp⟩)  hT hu hl hd hc k
def zmm(hT:MapT Tryz.prog kt vt t kid vid)(hd:ltB d n=true)
  (k:JK ⟨Tryz.prog,tys,ets,mts,E,M0,n,rd,up,dp⟩ (.ops true all l::r) QA ⟨(d,.lf (.mp nx))::L,(nx,.map kt vt [] 0)::H,nx+1⟩):JK ⟨Tryz.prog,tys,ets,mts,E,M0,n,rd,up,dp⟩ (.ops true all (⟨some d,.makeMap t none,ty,ps,af,none⟩::l)::r) QA ⟨L,H,nx⟩:=z08 (X:=⟨Tryz.prog,tys,ets,mts,E,M0,n,rd,up,dp⟩)  hT hd k
def zeq(hK:EqT Tryz.prog kt t)(hu:opd L om=some (c1,.val kt x))(hv:opd L ok=some (c2,.val kt y))(hd:ltB d n=true)
  (k:JK ⟨Tryz.prog,tys,ets,mts,E,M0,n,rd,up,dp⟩ (.ops md all l::r) QA ⟨(d,.val .bool (kt.eqB x y))::L,H,nx⟩) (hc:allP (c1++c2):=by exact zD):JK ⟨Tryz.prog,tys,ets,mts,E,M0,n,rd,up,dp⟩ (.ops md all (⟨some d,.binOp .eql t om ok tt,ty,ps,af,none⟩::l)::r) QA ⟨L,H,nx⟩:=JL.eqQ (X:=⟨Tryz.prog,tys,ets,mts,E,M0,n,rd,up,dp⟩)  hK.key hK.ag hK.gt hu hv hd hc k
def zne(hK:EqT Tryz.prog kt t)(hu:opd L om=some (c1,.val kt x))(hv:opd L ok=some (c2,.val kt y))(hd:ltB d n=true)
  (k:JK ⟨Tryz.prog,tys,ets,mts,E,M0,n,rd,up,dp⟩ (.ops md all l::r) QA ⟨(d,.val .bool (!kt.eqB x y))::L,H,nx⟩) (hc:allP (c1++c2):=by exact zD):JK ⟨Tryz.prog,tys,ets,mts,E,M0,n,rd,up,dp⟩ (.ops md all (⟨some d,.binOp .neq t om ok tt,ty,ps,af,none⟩::l)::r) QA ⟨L,H,nx⟩:=JL.neQ (X:=⟨Tryz.prog,tys,ets,mts,E,M0,n,rd,up,dp⟩)  hK.key hK.ag hK.gt hu hv hd hc k
def zneg{x y:kt.den}(hK:EqT Tryz.prog kt t)(hg:gOf all L (some gg)=some g)(hu:opd L om=some (c1,.val kt x))(hv:opd L ok=some (c2,.val kt y))(hd:ltB d n=true)
  (k:JK ⟨Tryz.prog,tys,ets,mts,E,M0,n,rd,up,dp⟩ (.ops md all l::r) QA ⟨(d,.gd g (.val .bool (!kt.eqB x y)))::L,H,nx⟩) (hc:g=true→allP (c1++c2):=by(first|(exact fun _=>trivial)|(exact fun hgd=>hgd)|(exact zE)|(exact zF))):JK ⟨Tryz.prog,tys,ets,mts,E,M0,n,rd,up,dp⟩ (.ops md all (⟨some d,.binOp .neq t om ok tt,ty,ps,af,some gg⟩::l)::r) QA ⟨L,H,nx⟩:=JK.neQg (X:=⟨Tryz.prog,tys,ets,mts,E,M0,n,rd,up,dp⟩) hK hg hu hv hd hc k
def zdf{x:Operand}(hF:funB Tryz.prog t=true)(hu:opd L x=some (cs,.pfn v))(hd:ltB d n=true)(k:JK ⟨Tryz.prog,tys,ets,mts,E,M0,n,rd,up,dp⟩ (.ops md all l::r) QA ⟨(d,v)::L,H,nx⟩)(hc:allP cs:=by exact zD) :
  JK ⟨Tryz.prog,tys,ets,mts,E,M0,n,rd,up,dp⟩ (.ops md all (⟨some d,.load t x,ty,ps,af,none⟩::l)::r) QA ⟨L,H,nx⟩:=JK.ldF (X:=⟨Tryz.prog,tys,ets,mts,E,M0,n,rd,up,dp⟩) hF hu hd hc k
def zlm{x:Operand}{ty2:TypeId}{ps2:String}{af2:Array Edge}(hF:mapB Tryz.prog t=true)(hu:opd (del L d) x=some (cs,v))(hv:v.mpB=true)(hd:ltB d n=true)(k:JK ⟨Tryz.prog,tys,ets,mts,E,M0,n,rd,up,dp⟩ (.ops true all l::r) QA ⟨(d,.pfn v)::L,H,nx⟩)(hc:allP cs:=by exact zD) :
  JK ⟨Tryz.prog,tys,ets,mts,E,M0,n,rd,up,dp⟩ (.ops true all (⟨some d,.alloc t,ty,ps,af,none⟩::⟨none,.store t (.tmp d) x,ty2,ps2,af2,none⟩::l)::r) QA ⟨L,H,nx⟩:=JK.layM (X:=⟨Tryz.prog,tys,ets,mts,E,M0,n,rd,up,dp⟩) hF hu hv hd hc k
def zdm{x:Operand}(hF:mapB Tryz.prog t=true)(hu:opd L x=some (cs,.pfn v))(hd:ltB d n=true)(k:JK ⟨Tryz.prog,tys,ets,mts,E,M0,n,rd,up,dp⟩ (.ops md all l::r) QA ⟨(d,v)::L,H,nx⟩)(hc:allP cs:=by exact zD) :
  JK ⟨Tryz.prog,tys,ets,mts,E,M0,n,rd,up,dp⟩ (.ops md all (⟨some d,.load t x,ty,ps,af,none⟩::l)::r) QA ⟨L,H,nx⟩:=JK.ldM (X:=⟨Tryz.prog,tys,ets,mts,E,M0,n,rd,up,dp⟩) hF hu hd hc k
def zmo(hT:MapT Tryz.prog kt vt t kid vid)(hu:opd L om=some (c1,.lf (.mp m)))(hl:lk H m=some (.map kt vt es clk))(hv:opd L ok=some (c2,.val kt x))(hd:ltB d n=true)
  (k:JK ⟨Tryz.prog,tys,ets,mts,E,M0,n,rd,up,dp⟩ (.ops true all l::r) QA ⟨(d,.tup (.acons (.val vt (mGet es x vt.dflt)) (.acons (.val .bool (mHas es x)) .anil)))::L,H,nx⟩) (hc:allP (c1++c2):=by exact zD) :
  JK ⟨Tryz.prog,tys,ets,mts,E,M0,n,rd,up,dp⟩ (.ops true all (⟨some d,.lookup t om ok true,ty,ps,af,none⟩::l)::r) QA ⟨L,H,nx⟩:=z7v (X:=⟨Tryz.prog,tys,ets,mts,E,M0,n,rd,up,dp⟩) hT hu hl hv hd k hc
structure HB(q:Prop):Prop where
 h:q
def zK0(k:q)(h:HB q→p:=by(intro hzz;(repeat (first|refine zs rfl ?_|refine zg rfl rfl rfl ?_|refine zd ?_|refine JK.fin ?_|refine n4 ?_));exact hzz.h)):p:=h ⟨k⟩
def zK1(k:q)(h:HB q→p:=by(intro hzz;(first|refine z4l xk rfl rfl ?_|refine z09 xk rfl rfl rfl ?_|refine q19 xk rfl rfl ?_|refine JL.M0 xk rfl ?_|refine z08 mapP rfl ?_|(refine JL.ldM q7b rfl trivial rfl ?_)|(refine JL.mUpd mapP rfl rfl rfl rfl trivial ?_));exact hzz.h)):p:=h ⟨k⟩
def zK2(k:q)(h:HB q→p:=by(intro hzz;(repeat (first|refine zs rfl ?_|refine zg rfl rfl rfl ?_|refine JK.fin ?_|refine n4 ?_));exact hzz.h)):p:=h ⟨k⟩
def zK3(k:q)(h:HB q→p:=by(intro hzz;(first|refine JL.M0 xk rfl ?_);exact hzz.h)):p:=h ⟨k⟩
def zK4(k:q)(h:HB q→p:=by(intro hzz;(repeat (first|refine zs rfl ?_|refine zc rfl (hx) rfl rfl ?_));exact hzz.h)):p:=h ⟨k⟩
def zK5(k:q)(h:HB q→p:=by(intro hzz;(repeat (first|refine zs rfl ?_|refine n4 ?_|refine zc rfl (c) rfl rfl ?_));exact hzz.h)):p:=h ⟨k⟩
def zK6(k:q)(h:HB q→p:=by(intro hzz;(repeat (first|refine zs rfl ?_|refine n4 ?_|refine znf ?_));exact hzz.h)):p:=h ⟨k⟩
def zK7(k:q)(h:HB q→p:=by(intro hzz;(first|refine z4l xk rfl rfl ?_|refine z09 xk rfl rfl rfl ?_|refine q19 xk rfl rfl ?_|refine JL.M0 xk rfl ?_);exact hzz.h)):p:=h ⟨k⟩
def zK8(k:q)(h:HB q→p:=by(intro hzz;(repeat (first|refine zs rfl ?_|refine ze rfl (c1) rfl ?_));exact hzz.h)):p:=h ⟨k⟩
def zK9(k:q)(h:HB q→p:=by(intro hzz;(first|refine q19 xk rfl rfl ?_|refine JL.M0 xk rfl ?_|refine z4l xk rfl rfl ?_);exact hzz.h)):p:=h ⟨k⟩
def zK10(k:q)(h:HB q→p:=by(intro hzz;(repeat (first|refine zu rfl ?_|refine zg rfl rfl rfl ?_|refine zd ?_|refine JK.fin ?_|refine n4 ?_));exact hzz.h)):p:=h ⟨k⟩
def zK11(k:q)(h:HB q→p:=by(intro hzz;(first|refine z4l xk rfl rfl ?_|refine q19 xk rfl rfl ?_);exact hzz.h)):p:=h ⟨k⟩
def zK12(k:q)(h:HB q→p:=by(intro hzz;(first|refine z4l xk rfl rfl ?_|refine z09 xk rfl rfl rfl ?_|refine q19 xk rfl rfl ?_|refine JL.M0 xk rfl ?_|refine z08 z28 rfl ?_);exact hzz.h)):p:=h ⟨k⟩
def zK13(k:q)(h:HB q→p:=by(intro hzz;(first|refine q81 rfl (hgm) rfl trivial rfl ?_|(refine z2x rfl (hgm) rfl (fun r hr=>?_);subst hr)|refine q81 rfl (c227) rfl trivial rfl ?_|(refine z2x rfl (c227) rfl (fun r hr=>?_);subst hr));exact hzz.h)):p:=h ⟨k⟩
def zK14(k:q)(h:HB q→p:=by(intro hzz;(first|refine z4l xk rfl rfl ?_|refine z09 xk rfl rfl rfl ?_|refine q19 xk rfl rfl ?_|refine JL.M0 xk rfl ?_|(refine z6m (gs:=gs) hz rfl rfl c8 (j9 rfl) trivial (fun r hr=>?_);subst hr)|refine q81 rfl (c9) rfl trivial rfl ?_|refine z2x rfl (c9) rfl (fun r hr=>?_);subst hr|refine z6n rfl rfl (fun hgd=>c9) rfl trivial rfl ?_);exact hzz.h)):p:=h ⟨k⟩
def zB0(h:p:=by(· refine zK1 ?_;refine q8 ?_;refine v7 xk StF.nil ?_;((refine zK0 ?_;refine k7 (bodyQ.of rfl rfl rfl rfl rfl rfl ⟨rfl,?_,rfl⟩);exact q1u (swL 2 2) (B:=0) (fun l hl=>absurd hl (Nat.not_lt_zero _)) (q0u hLf) (yyw _) ⟨rfl,rfl,rfl,rfl,rfl,rfl,rfl,rfl,rfl,rfl,rfl,trivial⟩ (q88 z07) rfl)))):p:=h
def zB1(h:p:=by(· refine zK3 ?_;refine q8 ?_;refine v7 xk ?_ ?_;exact zS;(exact zJ))):p:=h
def zB2(h:p:=by(· refine zK3 ?_;refine q8 ?_;refine v7 xk StF.nil ?_;(exact zJ))):p:=h
def zB3(h:p:=by(· refine zK1 ?_;refine q8 ?_;refine zU 11 xk rfl rfl ?_;refine zK1 ?_;refine q8 ?_;refine v7 xk StF.nil ?_;((refine zK0 ?_;refine k7 (bodyQ.of rfl rfl rfl rfl rfl rfl ⟨rfl,?_,rfl⟩);exact q1u (swL 2 2) (B:=0) (fun l hl=>absurd hl (Nat.not_lt_zero _)) (q0u hLf) (yyw _) ⟨rfl,rfl,rfl,rfl,rfl,rfl,rfl,rfl,rfl,rfl,rfl,trivial⟩ (q88 z07) rfl)))):p:=h
def zB4(h:p:=by(· refine zK1 ?_;refine q8 ?_;refine zU 10 xk rfl rfl ?_;refine zK1 ?_;refine q8 ?_;refine zU 11 xk rfl rfl ?_;exact zB0)):p:=h
def zB5(h:p:=by(· refine zK1 ?_;refine q8 ?_;refine zU 11 xk rfl rfl ?_;exact zB0)):p:=h
def zB6(h:p:=by(· refine zK1 ?_;refine q8 ?_;refine zU 3 xk rfl rfl ?_;refine zK1 ?_;refine q8 ?_;refine zU 11 xk rfl rfl ?_;exact zB0)):p:=h
def zB7(h:p:=by(· refine zK1 ?_;refine q8 ?_;refine zU 5 xk rfl rfl ?_;refine zK1 ?_;refine q8 ?_;refine zU 11 xk rfl rfl ?_;exact zB0)):p:=h
def zB8(h:p:=by(· refine zK1 ?_;refine q8 ?_;refine zU 10 xk rfl rfl ?_;exact zB5)):p:=h
def zU{X:Ctx}{K:S→Prop}{ls fl fl2:List Nat}{fuel:Nat}{o:Oper}(i:Nat)(hX:XOK X)(ho:ops[i]?=some o)(hf:(fl.filter fun f=>!waits o f)=fl2)(h:JL X true ops (qN fun t=>JF X ops K fl2 fuel (i::ls) t) [o] s)(hst:StF X ops s fl:=by(focus (repeat (first|exact StF.nil|refine r7 rfl rfl rfl ?_))))(hc:ndB ops ls fl [i]=true:=by decide +kernel):JF X ops K fl (fuel+1) ls s:=j0 i [] hX hst (BrF.one ho hf h BrF.nil) hc
def zS(h:p:=by(focus (repeat (first|exact StF.nil|refine r7 rfl rfl rfl ?_)))):p:=h
def zC(a:p)(h:p→q:=by(intro hzz;simp only[↓cdL] at hzz;(try simp only[Ty.dflt,Int.toNat_natCast] at hzz);exact hzz)):q:=h a
def zJ(h:p:=by(exact JW.Auto (by conv=>lhs;reduce))):p:=h
variable{R:AV→Prop}
def zR{T:List (Nat×Ty)}{r:AV}(h:resA T fn s=some (cs,r))(hc:allP cs)(hr:R r):retQ T fn R .ret s:=⟨.inl rfl,cs,r,h,hc,hr⟩
def zI(hf:Tryz.prog.funcs[f]?=some fn)(hb:fn.body=some c)(ha:∀ az w,(callFunc f az).run Tryz.prog w=.ok (.enter f az) w)(hn:Nat.ble (argN args) fn.ntmps=true)(h:∀ E M0 up,JK ⟨Tryz.prog,tys,ets,mts,E,M0,fn.ntmps,none,up,0⟩ [.code c] (retQ tys fn R) ⟨argL args 0,[],0⟩):Ox.Fn Tryz.prog f args R:=Ox.Fn.intro xok hf hb ha (yyd hn) fun E M0 up=>JK.start (h E M0 up)
end Go.Proofs.YtjecebccchhmhaaGreatDoor
namespace Ox.Gl
def swp[Inhabited α](l:List α)(i k:Nat):List α:=(l.set i (l.getD k default)).set k (l.getD i default)
def q98{α:Type}{x:α}:∀ {l:List α} {i:Nat} (h:i<l.length),(l[i]::l.set i x).Perm (x::l)
 |a::r,0,_=>by simpa using List.Perm.swap x a r
 |a::r,i+1,h=>by have ih:=q98 (x:=x) (l:=r) (i:=i) (Nat.lt_of_succ_lt_succ h);simp only[List.getElem_cons_succ,List.set_cons_succ];exact(List.Perm.swap _ _ _).trans ((ih.cons a).trans (List.Perm.swap _ _ _))
def swp_perm[Inhabited α]{l:List α}(hi:i<l.length)(hk:k<l.length):(swp l i k).Perm l:=by
 unfold swp;have e1:l.getD k default=l[k]:=by simp[List.getD,hk]
 have e2:l.getD i default=l[i]:=by simp[List.getD,hi]
 rw[e1,e2];have p1:=q98 (x:=l[k]) hi;have ha:k<(l.set i l[k]).length:=by simpa using hk
 have p2:=q98 (l:=l.set i l[k]) (x:=l[i]) ha;have e3:(l.set i l[k])[k]=l[k]:=by rw[List.getElem_set];split<;>rfl
 rw[e3] at p2;exact(List.perm_cons _).1 (p2.trans p1)
def z3c[Inhabited α](l:List α)(i k:Nat):(swp l i k).length=l.length:=by simp[swp]
def okc(P:Nat→Nat→Bool)(n:Nat)(q:List Nat)(c:Nat):Bool:=!(q.contains c)&&(List.range n).all fun a=>!(P a c)||q.contains a
def okc_iff{P:Nat→Nat→Bool}{q:List Nat}{c:Nat}:okc P n q c=true↔c∉q∧∀ a,a<n→P a c=true→a∈q:=by
 unfold okc;rw[yyc,yyv,yyx];refine and_congr (by rw[← Bool.not_eq_true,List.contains_iff_mem]) ⟨fun h a ha hp=>?_,fun h a ha=>?_⟩
 ·have:=h a (yy3.2 ha);rw[hp] at this;simpa using this
 ·cases hp:P a c
  ·rfl
  ·simpa using h a (yy3.1 ha) hp
def j04{α β:Type}{f:α→List β}{l l':List α}(h:l.Perm l'):(l.flatMap f).Perm (l'.flatMap f):=by
 induction h with
 |nil=>exact List.Perm.refl _
 |cons x _ ih=>simp only[List.flatMap_cons];exact List.Perm.append_left _ ih
 |swap x y l=>simp only[List.flatMap_cons,← yxl];exact List.Perm.append_right _ List.perm_append_comm
 |trans _ _ i1 i2=>exact i1.trans i2
section
variable {P P':Nat→Nat→Bool}{n:Nat}{f:Nat→Nat}
end
end Ox.Gl
namespace Ox
open Go Go.RowKit
variable {X:Ctx}{s:S}{M:Mem}{ρ:Env}{a:Act}{w w':World}{QA:Exit→S→Prop}{all l:List Oper}{o:Oper}
variable {md:Bool}
variable {L:List (Nat×AV)}{H:List (Nat×HO)}{nx m lo hi:Nat}{t:TypeId}{e:Ty}{eid:TypeId}{xs:List e.den}{c1:List Prop}{x:Operand}{ty:TypeId}{ps:String}{af:Array Edge}{f:Bool}
variable {d:Nat}
def ghP(n:Nat):AV→List Bool→Option AV
 |.lf .nils,[]=>some (.lf (.osl n))
 |.mix a b,false::p=>(ghP n a p).map fun x=>.mix x b
 |.mix a b,true::p=>(ghP n b p).map fun x=>.mix a x
 |_,_=>none
def j0y:∀ {v:AV} {p:List Bool} {v':AV},ghP n v p=some v'→v.bd n→v'.bd (n+1)∧(∀ t,confB t v=true→confB t v'=true)∧∀ cs,v.rc M ρ cs→v'.rc M (ρ.nilAt n e) cs:=by
 intro v p v' h hb
 fun_induction ghP n v p generalizing v' with
 |case1=>
  injection h with h;subst h
  refine⟨yy2 _,fun t ht=>?_,fun cs hc=>?_⟩
  ·cases t<;>first|rfl|(simp[confB] at ht;done)
  ·simp only[AV.rc,Leaf.at] at hc ⊢;obtain⟨v,h1,h2,h3⟩:=hc;exact⟨v,by rw[← h1];simp[Env.nilAt],h2,h3⟩
 |case2 a b p ih=>
  simp only[yym] at h;obtain⟨a',ha,rfl⟩:=h;obtain⟨e1,e2,e3⟩:=ih ha hb.1;refine⟨⟨e1,j3 (yy5 _) hb.2⟩,fun t ht=>?_,fun cs hc=>?_⟩
  ·cases t with
   |cons ta tb=>simp only[confB,yyc] at ht ⊢;exact⟨e2 _ ht.1,ht.2⟩
   |arr m e=>
    cases m with
    |zero=>simp[confB] at ht
    |succ m=>simp only[confB,yyc] at ht ⊢;exact⟨e2 _ ht.1,ht.2⟩
   |_=>simp[confB] at ht
  ·simp only[AV.rc] at hc ⊢;obtain⟨c1,c2,k1,k2,k3⟩:=hc;exact⟨c1,c2,e3 _ k1,p7 (Mem.le_refl M) (q1l ρ n e) hb.2 k2,k3⟩
 |case3 a b p ih=>
  simp only[yym] at h;obtain⟨b',hd,rfl⟩:=h;obtain⟨e1,e2,e3⟩:=ih hd hb.2;refine⟨⟨j3 (yy5 _) hb.1,e1⟩,fun t ht=>?_,fun cs hc=>?_⟩
  ·cases t with
   |cons ta tb=>simp only[confB,yyc] at ht ⊢;exact⟨ht.1,e2 _ ht.2⟩
   |arr m e=>
    cases m with
    |zero=>simp[confB] at ht
    |succ m=>simp only[confB,yyc] at ht ⊢;exact⟨ht.1,e2 _ ht.2⟩
   |_=>simp[confB] at ht
  ·simp only[AV.rc] at hc ⊢;obtain⟨c1,c2,k1,k2,k3⟩:=hc;exact⟨c1,c2,p7 (Mem.le_refl M) (q1l ρ n e) hb.1 k1,e3 _ k2,k3⟩
 |case4=>cases h
variable{v v':AV}
def j3l(m:Nat)(p:List Bool)(eid:TypeId)(e:Ty){t:Ty}(hm:lk s.H m=some (.cell t v))(hv:ghP s.nx v p=some v')
  (k:JC X c QA ⟨s.L,updH ((s.nx,.sl eid e [])::s.H) m (.cell t v'),s.nx+1⟩):JC X c QA s:=fun M ρ a w h1 h2=>by
 have g1:=h1.ghost eid e;have hr:=q1l ρ s.nx e;have g2:REG X M (ρ.nilAt s.nx e) ⟨s.L,updH ((s.nx,.sl eid e [])::s.H) m (.cell t v'),s.nx+1⟩ a:=by have:=h2.grow (H':=updH ((s.nx,.sl eid e [])::s.H) m (.cell t v')) (nx':=s.nx+1) (Mem.le_refl M) hr (yy5 _) (p5 M);exact this
 obtain⟨o1,o2,o3⟩:=h1.own m _ hm;have ha:lk ((s.nx,HO.sl eid e [])::s.H) m=some (.cell t v):=by simp only[lk];rw[if_neg (by omega)];exact hm
 obtain⟨q1,q2,q3⟩:=g1.own m _ ha;obtain⟨b1,b2,b3⟩:=j0y (M:=M) (ρ:=ρ) (e:=e) hv o2;refine k M _ a w (g1.upd ha (q11 w _) rfl b1 ?_) g2;simp only[HO.ok] at q3 o3 ⊢;obtain⟨r1,r2,r3,c,ty,r4,r5⟩:=q3;obtain⟨u1,u2,u3,c',ty',u4,u5⟩:=o3;refine⟨r1,b2 t r2,r3,c,ty,r4,?_⟩;have:w.heap[ρ.blk m]?=some (.cells c ty (0,0)):=by simpa[Env.nilAt] using r4
 rw[this] at u4;injection u4 with u4;injection u4 with u4 u4';subst u4
 exact b3 _ u5
variable{r:List Fr}
def q83(m:Nat)(p:List Bool)(eid:TypeId)(e:Ty){t:Ty}(hm:lk s.H m=some (.cell t v))(hv:ghP s.nx v p=some v')
  (k:JK X (.code c::r) QA ⟨s.L,updH ((s.nx,.sl eid e [])::s.H) m (.cell t v'),s.nx+1⟩):JK X (.code c::r) QA s:=j3l m p eid e hm hv k
def toV:(t:Ty)→AV→Option t.den
 |t,.val t' x=>if h:t'=t then some (h▸x) else none
 |.cons a b,.mix x y=>(toV a x).bind fun u=>(toV b y).map fun v=>(u,v)
 |.arr (n+1) e,.mix x y=>(toV e x).bind fun u=>(toV (.arr n e) y).map fun v=>(u::v:List e.den)
 |.slice _,.lf .nils=>some []
 |_,_=>none
def toV_rc:∀ {v:AV} {t:Ty} {x:t.den} {cs:List Value},toV t v=some x→v.rc M ρ cs→Rep M t x cs:=by
 intro v;induction v with
 |val t' y=>
  intro t x cs h hr;simp only[toV] at h;split at h
  ·rename_i e;subst e;injection h with h;subst h;simpa only[AV.rc] using hr
  ·cases h
 |mix a b iha ihb=>
  intro t x cs h hr;simp only[AV.rc] at hr;obtain⟨c1,c2,r1,r2,rfl⟩:=hr;cases t with
  |cons ta tb=>simp only[toV,yyo,yym] at h;obtain⟨u,hu,v,hv,rfl⟩:=h;simp only[Rep];exact⟨c1,c2,rfl,iha hu r1,ihb hv r2⟩
  |arr n e=>
   cases n with
   |zero=>simp[toV] at h
   |succ n=>simp only[toV,yyo,yym] at h;obtain⟨u,hu,v,hv,rfl⟩:=h;have e1:=iha hu r1;have e2:=ihb hv r2;rw[q16] at e2 ⊢;obtain⟨f1,f2⟩:=e2;exact⟨by simp[f1],RL.append (l:=[u]) (m:=v) (q6i e1) f2⟩
  |_=>simp[toV] at h
 |lf y=>
  intro t x cs h hr;cases t<;>cases y<;>simp only[toV,reduceCtorEq,yya] at h
  subst h;simp only[AV.rc,Leaf.at] at hr;obtain⟨v,h1,_,rfl⟩:=hr;injection h1 with h1;subst h1
  exact w7 M (.slice _)
 |fn f a c _ _=>intro t x cs h hr;cases t<;>simp[toV] at h
 |_=>intro t x cs h hr;simp only[AV.rc] at hr
def JC.cellV(m:Nat){t:Ty}{x:t.den}(hm:lk s.H m=some (.cell t v))(hv:toV t v=some x)(k:JC X c QA ⟨s.L,updH s.H m (.cell t (.val t x)),s.nx⟩):JC X c QA s:=fun M ρ a w h1 h2=>by obtain⟨o1,o2,o3⟩:=h1.own m _ hm;refine k M ρ a w (h1.upd hm (q11 w _) rfl trivial ?_) ⟨h2.size,h2.defers,h2.reg⟩;simp only[HO.ok] at o3 ⊢;obtain⟨r1,r2,r3,c,ty,r4,r5⟩:=o3;exact⟨r1,by simp[confB],r3,c,ty,r4,by simp only[AV.rc];exact toV_rc hv r5⟩
def z1c(m:Nat){t:Ty}{x:t.den}(hm:lk s.H m=some (.cell t v))(hv:toV t v=some x)(k:JK X (.code c::r) QA ⟨s.L,updH s.H m (.cell t (.val t x)),s.nx⟩):JK X (.code c::r) QA s:=JC.cellV m hm hv k
end Ox
namespace Ox.St
def lnS(s:Int):Nat:=s.natAbs-1
variable (X:Nat→Nat→Bool)
def ext(s:Int)(k:Nat):List Int:=if k=lnS s then [s] else if X (lnS s) k then [0] else []
def layR(R:Nat→List Int)(s:Int):Nat→List Int:=fun k=>
 if k≠lnS s∧X (lnS s) k=false then R k
 else if (R (lnS s)).getLast?=some (-s) then(R k).dropLast
 else if k=lnS s then R k++[s] else R k++[0]
def bld:List Int→Nat→List Int
 |[],_=>[]
 |t::r,k=>bld r k++ext X t k
variable {X:Nat→Nat→Bool}(hs:∀ i j,X i j=X j i)
def z4d(s:Int):ext X s (lnS s)=[s]:=by simp[ext]
def q8e(s:Int):lnS (-s)=lnS s:=by simp[lnS]
def lay_no(h:(R (lnS s)).getLast?≠some (-s)):layR X R s=fun k=>R k++ext X s k:=by
 funext k;unfold layR ext;by_cases h1:k=lnS s
 ·rw[if_neg (by simp[h1]),if_neg h,if_pos h1,if_pos h1]
 ·cases h2:X (lnS s) k
  ·simp[h1]
  ·simp[h1,h]
def lay_of{R R':Nat→List Int}(h:∀ k,R k=R' k++ext X (-s) k):layR X R s=R':=by
 funext k;have hl:(R (lnS s)).getLast?=some (-s):=by rw[h,← q8e s,z4d];simp
 unfold layR;by_cases h1:k=lnS s
 ·rw[if_neg (by simp[h1]),if_pos hl,h,h1,← q8e s,z4d];simp
 ·cases h2:X (lnS s) k
  ·simp[h1,h,ext,q8e,h2]
  ·simp only[h1,ne_eq,not_false_eq_true,true_and,Bool.true_eq_false,if_false,hl,if_true];rw[h];simp[ext,q8e,h1,h2]
def Adj:List Int→Prop
 |x::y::r=>¬ (x≠0∧y=-x)∧Adj (y::r)
 |_=>True
def Adj.app:∀ {r:List Int} {y:Int},Adj r→(∀ x,r.getLast?=some x→¬ (x≠0∧y=-x))→Adj (r++[y])
 |[],_,_,_=>trivial
 |[x],y,_,h=>⟨h x rfl,trivial⟩
 |x::z::r,y,h,k=>⟨h.1,Adj.app (r:=z::r) h.2 fun w hw=>k w (by rw[List.getLast?_cons_cons];exact hw)⟩
def Adj.left:∀ {r q:List Int},Adj (r++q)→Adj r
 |[],_,_=>trivial
 |[x],_,_=>trivial
 |x::z::r,q,h=>⟨h.1,Adj.left (r:=z::r) (q:=q) h.2⟩
def Adj.last:∀ {r:List Int} {x y:Int},Adj (r++[y])→r.getLast?=some x→¬ (x≠0∧y=-x)
 |[],_,_,_,h=>by cases h
 |[z],x,y,h,hx=>by simp at hx;subst hx;exact h.1
 |z::w::r,x,y,h,hx=>Adj.last (r:=w::r) h.2 (by rw[List.getLast?_cons_cons] at hx;exact hx)
structure Pile(X:Nat→Nat→Bool)(rv:List Int)(R:Nat→List Int):Prop where
 eq:R=bld X rv
 nz:∀ t∈rv,t≠0
 adj:∀ k,Adj (R k)
def Pile.nil:Pile X [] (fun _=>[]):=⟨by funext k;rfl,fun _ h=>absurd h yy9,fun _=>trivial⟩
def z59(hs:∀ i j,X i j=X j i){s:Int}(ha:s≠0):∀ {rv:List Int},(∀ t∈rv,t≠0)→(bld X rv (lnS s)).getLast?=some (-s) →
  ∃ r1 r2,rv=r1++-s::r2∧(∀ t∈r1,lnS t≠lnS s∧X (lnS t) (lnS s)=false)∧∀ k,bld X rv k=bld X (r1++r2) k++ext X (-s) k
 |[],_,h=>by simp[bld] at h
 |t::r,hn,h=>by
  simp only[bld] at h;by_cases h1:lnS s=lnS t
  ·have:ext X t (lnS s)=[t]:=by simp[ext,h1]
   rw[this] at h;simp at h;subst h;exact⟨[],r,rfl,fun _ h=>absurd h yy9,fun k=>rfl⟩
  ·cases h2:X (lnS t) (lnS s)
   ·have:ext X t (lnS s)=[]:=by simp[ext,h1,h2]
    rw[this,yxj] at h;obtain⟨r1,r2,e1,e2,e3⟩:=z59 hs ha (fun x hx=>hn x (yyj _ hx)) h;refine⟨t::r1,r2,by rw[e1];rfl,fun x hx=>?_,fun k=>?_⟩
    ·rcases yyk.1 hx with rfl|hx
     ·exact⟨fun e=>h1 e.symm,h2⟩
     ·exact e2 x hx
    ·show bld X r k++ext X t k=(bld X (r1++r2) k++ext X t k)++ext X (-s) k;rw[e3 k,yxl,yxl];congr 1;unfold ext;rw[q8e];by_cases k1:k=lnS s
     ·rw[if_pos k1,k1,if_neg h1,h2];simp
     ·rw[if_neg k1];by_cases k2:k=lnS t
      ·rw[if_pos k2,k2,hs (lnS s) (lnS t),h2];simp
      ·rw[if_neg k2];cases X (lnS s) k<;>cases X (lnS t) k<;>rfl
   ·have:ext X t (lnS s)=[0]:=by simp[ext,h1,h2]
    rw[this] at h;simp at h;omega
def Pile.undo(hs:∀ i j,X i j=X j i)(h:Pile X rv R)(ha:s≠0)(hu:(R (lnS s)).getLast?=some (-s)) :
  ∃ r1 r2,rv=r1++-s::r2∧(∀ t∈r1,lnS t≠lnS s∧X (lnS t) (lnS s)=false)∧Pile X (r1++r2) (layR X R s)∧∀ k,R k=layR X R s k++ext X (-s) k:=by
 obtain⟨r1,r2,e1,e2,e3⟩:=z59 hs ha h.nz (by rw[← h.eq];exact hu);have e4:∀ k,R k=bld X (r1++r2) k++ext X (-s) k:=fun k=>by rw[h.eq];exact e3 k
 have e5:=lay_of e4;refine⟨r1,r2,e1,e2,⟨e5,fun t ht=>h.nz t ?_,fun k=>?_⟩,fun k=>by rw[e5];exact e4 k⟩
 ·rw[e1];rcases yxd.1 ht with ht|ht
  ·exact yxy _ ht
  ·exact List.mem_append_right _ (yyj _ ht)
 ·rw[e5];have:=h.adj k;rw[e4 k] at this;exact this.left
def Pile.put(h:Pile X rv R)(ha:s≠0)(hu:(R (lnS s)).getLast?≠some (-s)) :
  Pile X (s::rv) (layR X R s)∧∀ k,layR X R s k=R k++ext X s k:=by
 have e:=lay_no (X:=X) hu;refine⟨⟨?_,fun t ht=>?_,fun k=>?_⟩,fun k=>by rw[e]⟩
 ·rw[e,h.eq];rfl
 ·rcases yyk.1 ht with rfl|ht
  ·exact ha
  ·exact h.nz t ht
 ·rw[e];show Adj (R k++ext X s k);have hk:=h.adj k;unfold ext;split
  ·rename_i h1;refine hk.app fun x hx ⟨_,hy⟩=>hu ?_;rw[← h1,hx,hy,Int.neg_neg]
  ·split
   ·exact hk.app fun x hx ⟨h1,hy⟩=>by omega
   ·rw[yxj];exact hk
def layL(R:Nat→List Int)(u:List Int):Nat→List Int:=u.foldl (layR X) R
def Pile.lay(hs:∀ i j,X i j=X j i)(h:Pile X rv R)(ha:s≠0):∃ rv',Pile X rv' (layR X R s)∧rv'.length≤rv.length+1∧∀ t∈rv',t=s∨t∈rv:=by
 by_cases hu:(R (lnS s)).getLast?=some (-s)
 ·obtain⟨r1,r2,e1,_,e2,_⟩:=h.undo hs ha hu;refine⟨_,e2,by rw[e1];simp;omega,fun t ht=>.inr ?_⟩;rw[e1];rcases yxd.1 ht with ht|ht
  ·exact yxy _ ht
  ·exact List.mem_append_right _ (yyj _ ht)
 ·exact⟨_,(h.put ha hu).1,by simp,fun t ht=>yyk.1 ht⟩
def Pile.layL(hs:∀ i j,X i j=X j i):∀ {u rv:List Int} {R:Nat→List Int},Pile X rv R→(∀ s∈u,s≠0)→∃ rv',Pile X rv' (Ox.St.layL (X:=X) R u)∧rv'.length≤rv.length+u.length∧∀ t∈rv',t∈u∨t∈rv
 |[],rv,R,h,_=>⟨rv,h,by simp,fun t ht=>.inr ht⟩
 |s::u,rv,R,h,hn=>by
  obtain⟨rv1,h1,h2,h4⟩:=h.lay hs (hn s yyh);obtain⟨rv2,h3,h5,h6⟩:=Pile.layL hs (u:=u) h1 fun x hx=>hn x (yyj _ hx);refine⟨rv2,h3,by rw[List.length_cons];omega,fun t ht=>?_⟩;rcases h6 t ht with h|h
  ·exact .inl (yyj _ h)
  ·rcases h4 t h with h|h
   ·exact .inl (h▸yyh)
   ·exact .inr h
def Eqv(X:Nat→Nat→Bool)(u v:List Int):Prop:=∀ rv R,Pile X rv R→layL (X:=X) R u=layL (X:=X) R v
def Nz(u:List Int):Prop:=∀ s∈u,s≠0
def q7u(R:Nat→List Int)(u v:List Int):layL (X:=X) R (u++v)=layL (X:=X) (layL (X:=X) R u) v:=List.foldl_append ..
def Eqv.trans{u v w:List Int}(h:Eqv X u v)(k:Eqv X v w):Eqv X u w:=fun rv R p=>(h rv R p).trans (k rv R p)
def Eqv.symm{u v:List Int}(h:Eqv X u v):Eqv X v u:=fun rv R p=>(h rv R p).symm
def Eqv.app(hs:∀ i j,X i j=X j i){u v:List Int}(h:Eqv X u v){x:List Int}(hx:Nz x)(y:List Int):Eqv X (x++u++y) (x++v++y):=fun rv R p=>by obtain⟨rv',p',_⟩:=p.layL hs hx;rw[q7u,q7u,q7u,q7u,h _ _ p']
def j1y(a b:List Int)(k:Nat):bld X (a++b) k=bld X b k++bld X a k:=by
 induction a with
 |nil=>simp[bld]
 |cons t a ih=>rw[List.cons_append];simp only[bld];rw[ih,yxl]
def z6b(h:y∈bld X rv k)(hy:y≠0):lnS y=k∧y∈rv:=by
 induction rv with
 |nil=>simp[bld] at h
 |cons t r ih=>
  simp only[bld,yxd] at h;rcases h with h|h
  ·exact⟨(ih h).1,yyj _ (ih h).2⟩
  ·unfold ext at h;split at h
   ·rename_i e;rw[yyp.1 h];exact⟨e.symm,yyh⟩
   ·split at h
    ·exact absurd (yyp.1 h) hy
    ·simp at h
def bld_off(h:bld X rv k=[]):∀ t∈rv,lnS t≠k∧X (lnS t) k=false:=by
 induction rv with
 |nil=>exact fun _ h=>absurd h yy9
 |cons t r ih=>
  simp only[bld,List.append_eq_nil_iff] at h;intro x hx;rcases yyk.1 hx with rfl|hx
  ·have h2:=h.2;unfold ext at h2;by_cases e:k=lnS x
   ·rw[if_pos e] at h2;simp at h2
   ·rw[if_neg e] at h2;refine⟨fun q=>e q.symm,?_⟩;cases hX:X (lnS x) k
    ·rfl
    ·rw[hX] at h2;simp at h2
  ·exact ih h.1 x hx
def q9b:∀ {l:List Int},(∀ y∈l,y=0)→l++[0]=0::l
 |[],_=>rfl
 |x::r,h=>by rw[h x yyh,List.cons_append,q9b fun y hy=>h y (yyj _ hy)]
def z2m(hs:∀ i j,X i j=X j i){s:Int}(ha:s≠0):∀ {rv:List Int},(∀ t∈rv,t≠0)→(bld X rv (lnS s)).head?=some s →
  ∃ r1 r2,rv=r1++s::r2∧(∀ t∈r2,lnS t≠lnS s∧X (lnS t) (lnS s)=false)∧∀ k,bld X rv k=ext X s k++bld X (r1++r2) k
 |[],_,h=>by simp[bld] at h
 |t::r,hn,h=>by
  by_cases hr:bld X r (lnS s)=[]
  ·simp only[bld,hr,List.nil_append] at h;unfold ext at h;split at h
   ·simp at h;subst h;have ho:=bld_off hr;refine⟨[],r,rfl,ho,fun k=>?_⟩;simp only[bld,List.nil_append];unfold ext;by_cases h1:k=lnS t
    ·rw[if_pos h1,h1,hr];rfl
    ·rw[if_neg h1];cases h2:X (lnS t) k
     ·simp
     ·simp only[if_true];exact q9b fun y hy=>yxh fun hd=>by obtain⟨q1,q2⟩:=z6b hy hd;have q3:=(ho y q2).2;rw[q1,hs,h2] at q3;cases q3
   ·split at h
    ·simp at h;omega
    ·simp at h
  ·have h':(bld X r (lnS s)).head?=some s:=by
    simp only[bld] at h;cases hb:bld X r (lnS s) with
    |nil=>exact absurd hb hr
    |cons x y=>rw[hb] at h;simpa using h
   obtain⟨r1,r2,e1,e2,e3⟩:=z2m hs ha (fun x hx=>hn x (yyj _ hx)) h';refine⟨t::r1,r2,by rw[e1];rfl,e2,fun k=>?_⟩;simp only[bld,List.cons_append];rw[e3 k,yxl]
def takeR(X:Nat→Nat→Bool)(R:Nat→List Int)(s:Int):Nat→List Int:=fun k=>if k=lnS s∨X (lnS s) k=true then(R k).drop 1 else R k
def Adj.tail{x:Int}{r:List Int}(h:Adj (x::r)):Adj r:=by
 cases r with
 |nil=>trivial
 |cons y r=>exact h.2
def Pile.take(hs:∀ i j,X i j=X j i)(h:Pile X rv R)(ha:s≠0)(hf:(R (lnS s)).head?=some s) :
  ∃ r1 r2,rv=r1++s::r2∧(∀ t∈r2,lnS t≠lnS s∧X (lnS t) (lnS s)=false)∧Pile X (r1++r2) (takeR X R s)∧∀ k,R k=ext X s k++takeR X R s k:=by
 obtain⟨r1,r2,e1,e2,e3⟩:=z2m hs ha h.nz (by rw[← h.eq];exact hf);have e4:∀ k,R k=ext X s k++bld X (r1++r2) k:=fun k=>by rw[h.eq];exact e3 k
 have e5:takeR X R s=bld X (r1++r2):=by
  funext k;unfold takeR;by_cases h1:k=lnS s
  ·rw[if_pos (.inl h1),e4 k];simp[ext,h1]
  ·cases h2:X (lnS s) k
   ·rw[if_neg (by simp[h1]),e4 k];simp[ext,h1,h2]
   ·rw[if_pos (.inr rfl),e4 k];simp[ext,h1,h2]
 refine⟨r1,r2,e1,e2,⟨e5,fun t ht=>h.nz t ?_,fun k=>?_⟩,fun k=>by rw[e5];exact e4 k⟩
 ·rw[e1];rcases yxd.1 ht with ht|ht
  ·exact yxy _ ht
  ·exact List.mem_append_right _ (yyj _ ht)
 ·rw[e5];have:=h.adj k;rw[e4 k] at this;unfold ext at this;split at this
  ·exact this.tail
  ·split at this
   ·exact this.tail
   ·exact this
def frontK(r:List Int):List Int:=match r with
 |s::_=>if s=0 then [] else [s]
 |[]=>[]
def frontsN(R:Nat→List Int):Nat→List Int
 |0=>[]
 |n+1=>frontsN R n++frontK (R n)
def frontsR(R:Nat→List Int):List Int:=frontsN R 8
def q8i{R:Nat→List Int}{s:Int}:∀ {n:Nat},s∈frontsN R n↔∃ k,k<n∧s≠0∧(R k).head?=some s
 |0=>by simp[frontsN]
 |n+1=>by
  simp only[frontsN,yxd,q8i (n:=n)];constructor
  ·rintro(⟨k,h1,h2⟩|h)
   ·exact⟨k,by omega,h2⟩
   ·refine⟨n,yy2 n,?_⟩;unfold frontK at h;split at h
    ·rename_i x y e;split at h
     ·simp at h
     ·rename_i h0;rw[yyp.1 h];exact⟨h0,by rw[e];rfl⟩
    ·simp at h
  ·rintro⟨k,h1,h2,h3⟩;rcases Nat.lt_or_ge k n with h|h
   ·exact .inl ⟨k,h,h2,h3⟩
   ·obtain rfl:k=n:=by omega
    right;cases hR:R k with
    |nil=>rw[hR] at h3;simp at h3
    |cons x y=>rw[hR] at h3;simp at h3;subst h3;simp[frontK,h2]
def Pile.none(h:Pile X rv R)(hb:∀ t∈rv,lnS t<8)(hf:frontsR R=[]):rv=[]:=by
 rcases List.eq_nil_or_concat rv with h0|⟨r,t,h0⟩
 ·exact h0
 ·exfalso;have h0:rv=r++[t]:=by simpa using h0
  have ht:t∈rv:=by rw[h0];simp
  have h1:R (lnS t)=t::bld X r (lnS t):=by rw[h.eq,h0,j1y];simp[bld,ext]
  have:t∈frontsR R:=q8i.2 ⟨lnS t,hb t ht,h.nz t ht,by rw[h1];rfl⟩;rw[hf] at this;simp at this
end Ox.St
namespace Ox.Gl
open Ox.St
def stk(c:Nat):Int:=(c:Int)+1
def q1b(c:Nat):lnS (stk c)=c:=by unfold lnS stk;omega
def stk_of{t:Int}(h:0<t):t=stk (lnS t):=by unfold lnS stk;omega
variable {P:Nat→Nat→Bool}{n:Nat}
def crsP(P:Nat→Nat→Bool):Nat→Nat→Bool:=fun i j=>P i j||P j i
def z54(i j:Nat):crsP P i j=crsP P j i:=by unfold crsP;rw[Bool.or_comm]
structure PQ(P:Nat→Nat→Bool)(n:Nat)(q:List Nat)(rv:List Int)(R:Nat→List Int):Prop where
 pile:Pile (crsP P) rv R
 pos:∀ t∈rv,0<t∧lnS t<n
 ne:rv.Pairwise fun x y=>lnS x≠lnS y
 lin:rv.Pairwise fun x y=>P (lnS x) (lnS y)=false
 mem:∀ c,c<n→(stk c∈rv↔c∉q)
def z6a{X:Nat→Nat→Bool}{k:Nat}:∀ {r:List Int},(∀ t∈r,lnS t≠k∧X (lnS t) k=false)→bld X r k=[]
 |[],_=>rfl
 |t::r,h=>by have h1:=h t yyh;simp only[bld,z6a fun y hy=>h y (yyj _ hy),List.nil_append,ext];rw[if_neg (fun e=>h1.1 e.symm),h1.2];rfl
def head_of{X:Nat→Nat→Bool}{r1 r2:List Int}(h:Pile X (r1++s::r2) R)(h2:∀ t∈r2,lnS t≠lnS s∧X (lnS t) (lnS s)=false):(R (lnS s)).head?=some s:=by rw[h.eq,j1y];simp only[bld,z6a h2,List.nil_append,z4d];rfl
variable{q:List Nat}
def PQ.front_iff(hi:∀ a,P a a=false)(h:PQ P n q rv R){c:Nat}(hc:c<n) :
  (R c).head?=some (stk c)↔okc P n q c=true:=by
 rw[okc_iff];constructor
 ·intro hf;have hh:(R (lnS (stk c))).head?=some (stk c):=by rw[q1b];exact hf
  obtain⟨r1,r2,e1,e2,-,-⟩:=h.pile.take z54 (by unfold stk;omega) hh;have hm:stk c∈rv:=by rw[e1];simp
  refine⟨(h.mem c hc).1 hm,fun a ha hp=>yxh fun hq=>?_⟩;have hd:=(h.mem a ha).2 hq;rw[e1] at hd;rcases yxd.1 hd with h1|h1
  ·have hl:=h.lin;rw[e1,List.pairwise_append] at hl;have:=hl.2.2 _ h1 _ yyh;rw[q1b,q1b,hp] at this;cases this
  ·rcases yyk.1 h1 with h1|h1
   ·have:a=c:=by unfold stk at h1;omega
    subst this;rw[hi] at hp;cases hp
   ·have:=(e2 _ h1).2;rw[q1b,q1b] at this;unfold crsP at this;rw[hp] at this;simp at this
 ·intro⟨h1,h2⟩;have hm:=(h.mem c hc).2 h1;obtain⟨r1,r2,e⟩:=List.append_of_mem hm;have hp:=h.pile;have hb:=h.ne;have hl:=h.lin;rw[e] at hp hb hl;rw[List.pairwise_append] at hb hl;have:=head_of hp (fun t ht=>by
   have k1:=(List.pairwise_cons.1 hb.2.1).1 t ht;have k2:=(List.pairwise_cons.1 hl.2.1).1 t ht;have he:t∈rv:=by rw[e];simp[ht]
   obtain⟨p1,p2⟩:=h.pos t he;refine⟨fun e=>k1 e.symm,?_⟩;unfold crsP;rw[k2,Bool.or_false];cases hg:P (lnS t) (lnS (stk c))
   ·rfl
   ·rw[q1b] at hg;have:=h2 _ p2 hg;exact absurd this ((h.mem _ p2).1 (by rw[← stk_of p1];exact he)))
  rw[q1b] at this;exact this
def PQ.row(hi:∀ a,P a a=false)(h:PQ P n q rv R)(c:Nat) :
  frontK (R c)=if c<n∧okc P n q c=true then [stk c] else []:=by
 split
 ·rename_i k;have:=(h.front_iff hi k.1).2 k.2;cases hR:R c with
  |nil=>rw[hR] at this;cases this
  |cons x r=>rw[hR] at this;simp at this;subst this;simp[frontK,show stk c≠0 by unfold stk;omega]
 ·rename_i k;cases hR:R c with
  |nil=>rfl
  |cons x r=>
   by_cases h0:x=0
   ·simp[frontK,h0]
   ·exfalso;have hk:x∈bld (crsP P) rv c:=by rw[← h.pile.eq,hR];simp
    obtain⟨e1,e2⟩:=z6b hk h0;obtain⟨p1,p2⟩:=h.pos x e2;have e3:=stk_of p1;rw[e1] at e3 p2;exact k ⟨p2,(h.front_iff hi p2).1 (by rw[hR,e3];rfl)⟩
def z7p(hi:∀ a,P a a=false){q:List Nat}{rv:List Int}{R:Nat→List Int}(h:PQ P n q rv R):∀ m,frontsN R m=((List.range m).filter fun c=>decide (c<n∧okc P n q c=true)).map stk
 |0=>rfl
 |m+1=>by
  rw[St.frontsN,z7p hi h m,h.row hi,List.range_succ,List.filter_append,yxz];congr 1;by_cases k:m<n∧okc P n q m=true
  ·simp[k]
  ·rw[if_neg k,yx8 (by simpa using k)];rfl
def PQ.take(hi:∀ a,P a a=false){q:List Nat}{rv:List Int}{R:Nat→List Int}(h:PQ P n q rv R){c:Nat}(hc:c<n)(ho:okc P n q c=true) :
  ∃ rv',PQ P n (q++[c]) rv' (takeR (crsP P) R (stk c)):=by
 have hf:=(h.front_iff hi hc).2 ho;have he:(R (lnS (stk c))).head?=some (stk c):=by rw[q1b];exact hf
 obtain⟨r1,r2,e1,e2,e3,-⟩:=h.pile.take z54 (by unfold stk;omega) he;have hb:(r1++r2).Sublist rv:=by rw[e1];exact List.Sublist.append_left (List.sublist_cons_self _ _) _
 refine⟨r1++r2,e3,fun t ht=>h.pos t (hb.subset ht),h.ne.sublist hb,h.lin.sublist hb,fun a ha=>?_⟩;have hd:=h.ne;rw[e1,List.pairwise_append] at hd;have hx:∀ t,t∈r1++r2↔t∈rv∧lnS t≠c:=by
  intro t;rw[e1];constructor
  ·intro ht;refine⟨?_,?_⟩
   ·rcases yxd.1 ht with k|k<;>simp[k]
   ·rcases yxd.1 ht with k|k
    ·have:=hd.2.2 t k _ yyh;rw[q1b] at this;exact this
    ·have:=(List.pairwise_cons.1 hd.2.1).1 t k;rw[q1b] at this;exact fun e=>this e.symm
  ·intro⟨ht,k⟩;rcases yxd.1 ht with j|j
   ·simp[j]
   ·rcases yyk.1 j with j|j
    ·subst j;rw[q1b] at k;exact absurd rfl k
    ·simp[j]
 rw[hx,h.mem a ha,q1b];simp
end Ox.Gl
namespace Ox.Gl
variable {P:Nat→Nat→Bool}{n:Nat}
structure Sch(P:Nat→Nat→Bool)(n:Nat)(p:Nat→Int):Prop where
 inj:∀ a c,a<n→c<n→p a=p c→a=c
 lt:∀ a c,a<n→c<n→P a c=true→p a+1≤p c
def Bnd(n:Nat)(p L U:Nat→Int):Prop:=∀ c,c<n→L c≤p c∧p c≤U c
def Bnd.step{p L U:Nat→Int}(h:Sch P n p)(hb:Bnd n p L U){a c:Nat}(ha:a<n)(hc:c<n)(hp:P a c=true) :
  Bnd n p (fun x=>if x=c then max (L c) (L a+1) else L x) (fun x=>if x=a then min (U a) (U c-1) else U x):=fun x hx=>by
 have h1:=h.lt a c ha hc hp;have h2:=hb a ha;have h3:=hb c hc;have h4:=hb x hx;constructor
 ·show(if x=c then _ else _)≤_;split
  ·rename_i e;subst e;omega
  ·exact h4.1
 ·show _≤(if x=a then _ else _);split
  ·rename_i e;subst e;omega
  ·exact h4.2
variable {β:Type}(a0 a1:β→Nat)
variable {a0 a1}
def get_set{l:List Int}{x:Int}(hi:i<l.length):(l.set i x).getD a 0=if a=i then x else l.getD a 0:=by
 simp only[yyq,List.getElem?_set];by_cases h:i=a
 ·subst h;simp[hi]
 ·rw[if_neg h,if_neg fun e=>h e.symm]
def okx(P:Nat→Nat→Bool)(n x c:Nat):Bool:=!(x.testBit c)&&(List.range n).all fun a=>!(P a c)||x.testBit a
def kb(P:Nat→Nat→Bool)(n:Nat):Nat→List Nat
 |0=>[0]
 |m+1=>(kb P n m).flatMap fun x=>((List.range n).filter (okx P n x)).map fun c=>x ||| 2 ^ c
end Ox.Gl
namespace Ox.Gl
open Ox.St
variable {P:Nat→Nat→Bool}{n:Nat}
def pick(u:List Int)(m:Nat)(cs:List Nat):Nat:=cs.getD (if 0<u.length then(u.getD (m % u.length) 0).toNat % cs.length else 0) 0
end Ox.Gl
namespace Ox.Gl
variable (P:Nat→Nat→Bool)(n:Nat)
variable {P n}
abbrev RgD:=Int×Int×Unit
variable {P:Nat→Nat→Bool}{n:Nat}
abbrev CoD:=RgD×Int×Int×Unit
def z0(p:List Int):Int:=p.getD 0 0
def z1(p:List Int):Int:=p.getD 1 0
def q0(p:List Int):Nat:=(z0 p).toNat
def q1(p:List Int):Nat:=(z1 p).toNat
variable {d:Int}{cs:List CoD}{ps:List (List Int)}
def z9k(m:Nat):(1*2 ^ m:Int).toNat=2 ^ m:=by
 rw[Int.one_mul];have:((2:Int) ^ m)=((2 ^ m:Nat):Int):=by rw[Int.natCast_pow];rfl
 rw[this,Int.toNat_natCast]
end Ox.Gl
namespace Go.Proofs.YtjecebccchhmhaaGreatDoor
open Go Go.RowKit Ox
attribute [local irreducible] JC JL JK JW
abbrev vI(n:Int):AV:=.val (.int .i64) n
abbrev vB(b:Bool):AV:=.val .bool b
abbrev vL(xs:List Int):AV:=.val (.slice (.int .i64)) xs
abbrev pI(n:Int):AV:=.val (.ptr (.int .i64)) (some n)
def w8(xs:List α)(h:i<xs.length)(d:α):xs.getD i d=xs[i]:=by simp[yyq,yyt h]
variable{X:Ctx}{Q:Exit→S→Prop}
def cdf{s:S}(hb:fn.body=some c)(k:JK X [.code c] Q s):JK X [.code (fn.body.getD .skip)] Q s:=by rw[hb];exact k
def cdt{s:S}(hb:fn.body=some c)(k:JK X [.code (fn.body.getD .skip)] Q s):JK X [.code c] Q s:=by rw[hb] at k;exact k
def idxB{α:Type}(p:α→Bool):List α→Nat→Int
 |[],_=>-1
 |x::r,i=>if p x then(i:Int) else idxB p r (i+1)
def o9{α:Type}{p:α→Bool}:∀ {xs:List α} {i:Nat},(0≤idxB p xs i)↔xs.any p=true
 |[],i=>by simp[idxB]
 |x::r,i=>by
  simp only[idxB,List.any_cons,yyy];by_cases h:p x=true
  ·simp[h]
  ·rw[if_neg h,o9];simp[h]
def fn75(xs:List Int)(b:Int):Ox.Fn Tryz.prog 75 (.acons (vL xs) (.acons (vI b) .anil)) (·=vI (idxB (fun x=>decide (b=x)) xs 0)):=by
 refine zI Tryz.func75 rfl Tryz.call75 rfl fun E M0 up=>?_;refine JK.lenOf 0 rfl fun ha=>?_;replace ha:xs.length≤9223372036854775807:=ha.1;refine zK0 ?_;refine JK.loop (fun i:Nat=>⟨[(0,vL xs),(1,vI b),(7,vI xs.length),(8,vI (i:Int))],[],0⟩) (fun i=>i≤xs.length∧idxB (fun x=>decide (b=x)) xs 0=idxB (fun x=>decide (b=x)) (xs.drop i) i) (fun i=>xs.length-i) 0 (by simp) (by exact zJ) fun i ⟨hi,hn⟩=>?_;refine zK0 ?_;refine q9 rfl (fun hc=>?_) (fun hc=>?_)
 ·replace hc:=zC hc;have hb:i<xs.length:=by omega
  refine zK0 ?_;refine q9 rfl (fun hd=>?_) (fun hd=>?_)
  ·replace hd:=zC hd;refine zK0 ?_;refine zR rfl trivial ?_;rw[w8 xs hb] at hd;rw[hn,yxf hb,idxB,if_pos (by simpa using hd)]
  ·replace hd:=zC hd;refine zK0 ?_;rw[w8 xs hb] at hd;refine⟨i+1,by exact zJ,⟨by omega,?_⟩,by omega⟩;rw[hn,yxf hb,idxB,if_neg (by simpa using hd)]
 ·replace hc:=zC hc;refine zK0 ?_;refine zR rfl trivial ?_;obtain rfl:i=xs.length:=by omega
  rw[hn,List.drop_length];rfl
def fn44(xs:List Int)(b:Int):Ox.Fn Tryz.prog 44 (.acons (vL xs) (.acons (vI b) .anil)) (·=vB (decide (b∈xs))):=by
 refine zI Tryz.func44 rfl Tryz.call44 rfl fun E M0 up=>?_
 (repeat (first|refine zs rfl ?_|refine n4 ?_|refine zc rfl (fn75 xs b) rfl rfl ?_))
 refine zR rfl trivial ?_;refine congrArg vB ?_;rw[yxb];simp only[yyu];refine(o9 (p:=fun x=>decide (b=x)) (i:=0)).trans ?_;simp
variable{t1 t2:Ty}
def fn138{x1:t1.den}{x2:t2.den}(xs:List Int)(p:Int→Bool)(h:∀ x∈xs,Ox.Fn Tryz.prog f (.acons (vI x) (.acons (.val t1 x1) (.acons (.val t2 x2) .anil))) (·=vB (p x))) :
  Ox.Fn Tryz.prog 138 (.acons (vL xs) (.acons (.fn f .anil (.acons (.val t1 x1) (.acons (.val t2 x2) .anil))) .anil)) (·=vI (idxB p xs 0)):=by
 refine zI Tryz.func138 rfl Tryz.call138 rfl fun E M0 up=>?_;refine JK.lenOf 0 rfl fun hb=>?_;replace hb:xs.length≤9223372036854775807:=hb.1;refine zK0 ?_;refine JK.loop (fun i:Nat=>⟨[(0,vL xs),(1,.fn f .anil (.acons (.val t1 x1) (.acons (.val t2 x2) .anil))),(7,vI xs.length),(8,vI (i:Int))],[],0⟩) (fun i=>i≤xs.length∧idxB p xs 0=idxB p (xs.drop i) i) (fun i=>xs.length-i) 0 (by simp) (by exact zJ) fun i ⟨hi,hn⟩=>?_;refine zK0 ?_;refine q9 rfl (fun hc=>?_) (fun hc=>?_)
 ·replace hc:=zC hc;have ha:i<xs.length:=by omega
  have hx:=h (xs.getD i 0) (by rw[w8 xs ha];exact yy4 ha);refine zK4 ?_;refine q9 rfl (fun hd=>?_) (fun hd=>?_)
  ·refine zK0 ?_;refine zR rfl trivial ?_;rw[w8 xs ha] at hd;rw[hn,yxf ha,idxB,if_pos hd]
  ·refine zK0 ?_;rw[w8 xs ha] at hd;refine⟨i+1,by exact zJ,⟨by omega,?_⟩,by omega⟩;rw[hn,yxf ha,idxB,if_neg (by rw[hd];simp)]
 ·replace hc:=zC hc;refine zK0 ?_;refine zR rfl trivial ?_;obtain rfl:i=xs.length:=by omega
  rw[hn,List.drop_length];rfl
def fn66{x1:t1.den}{x2:t2.den}(xs:List Int)(p:Int→Bool)(h:∀ x∈xs,Ox.Fn Tryz.prog f (.acons (vI x) (.acons (.val t1 x1) (.acons (.val t2 x2) .anil))) (·=vB (p x))) :
  Ox.Fn Tryz.prog 66 (.acons (vL xs) (.acons (.fn f .anil (.acons (.val t1 x1) (.acons (.val t2 x2) .anil))) .anil)) (·=vB (xs.any p)):=by
 refine zI Tryz.func66 rfl Tryz.call66 rfl fun E M0 up=>?_
 (repeat (first|refine zs rfl ?_|refine n4 ?_|refine zc rfl (fn138 xs p h) rfl rfl ?_))
 refine zR rfl trivial ?_;refine congrArg vB ?_;rw[yxb,← o9 (p:=p) (i:=0)];simp
end Go.Proofs.YtjecebccchhmhaaGreatDoor
namespace Ox.Gl
def insD:Nat→List Int→List Int
 |0,l=>l
 |j+1,l=>if l.getD (j+1) 0<l.getD j 0 then insD j (swp l (j+1) j) else l
def srtD:Nat→List Int→List Int
 |0,l=>l
 |i+1,l=>insD (i+1) (srtD i l)
def z5q:∀ (j:Nat) (l:List Int),(insD j l).length=l.length
 |0,l=>rfl
 |j+1,l=>by unfold insD;split;rw[z5q,z3c];rfl
def q97:∀ (i:Nat) (l:List Int),(srtD i l).length=l.length
 |0,l=>rfl
 |i+1,l=>by rw[srtD,z5q,q97]
def z18:∀ {j:Nat} {l:List Int},j<l.length→(insD j l).Perm l
 |0,l,_=>List.Perm.refl _
 |j+1,l,h=>by
  unfold insD;split
  ·exact(z18 (by rw[z3c];omega)).trans (swp_perm h (by omega))
  ·exact List.Perm.refl _
def z1l:∀ {i:Nat} {l:List Int},i<l.length→(srtD i l).Perm l
 |0,l,_=>List.Perm.refl _
 |i+1,l,h=>(z18 (by rw[q97];exact h)).trans (z1l (by omega))
def z9g(hp:o.Perm ((List.range n).map Int.ofNat)):o.length=n∧(∀ x∈o,0≤x∧x<n)∧o.Nodup∧(∀ a:Nat,a<n→(a:Int)∈o):=by
 refine⟨by simpa using hp.length_eq,fun x hx=>?_,?_,fun a ha=>?_⟩
 ·obtain⟨k,h1,rfl⟩:=yy7.1 (hp.mem_iff.1 hx);have:=yy3.1 h1;simp only[Int.ofNat_eq_natCast];omega
 ·refine hp.nodup_iff.2 ?_;rw[List.nodup_iff_pairwise_ne,List.pairwise_map];exact(List.nodup_iff_pairwise_ne.1 List.nodup_range).imp fun {a b} h e=>h (Int.ofNat.inj e)
 ·exact hp.mem_iff.2 (yy7.2 ⟨a,yy3.2 ha,rfl⟩)
variable {d:Int}{cs:List CoD}{ps:List (List Int)}
def isO(n:Nat)(o:List Int):Prop:=o.Perm ((List.range n).map Int.ofNat)
def isO.get(h:isO n o)(hi:i<o.length):0≤o.getD i 0∧o.getD i 0<n:=by obtain⟨_,h2,_,_⟩:=z9g h;have:=h2 (o.getD i 0) (by rw[yyq,yyt hi];exact yy4 hi);omega
def isO.len(h:isO n o):o.length=n:=(z9g h).1
end Ox.Gl
namespace Go.Proofs.YtjecebccchhmhaaGreatDoor.Dp
open Go Go.RowKit Ox Ox.Gl
attribute [local irreducible] JC JL JK JW
abbrev rgT:Ty:=.cons (.int .i64) (.cons (.int .i64) .nil)
abbrev RgD:=Int×Int×Unit
abbrev spT:Ty:=.cons (.int .i64) (.cons (.int .i64) .nil)
abbrev drT:Ty:=.cons (.int .i64) (.cons rgT .nil)
abbrev SpD:=Int×Int×Unit
abbrev DrD:=Int×RgD×Unit
abbrev baT:Ty:=.cons (.int .i64) (.cons (.slice spT) (.cons (.slice drT) .nil))
abbrev drZ:DrD:=(0,(0,0,()),())
def eqSp:EqT Tryz.prog spT 35:=.of (by decide +kernel)
def spS(f s:Int)(n:Nat):List SpD:=(List.range n).map fun k:Nat=>(f+(k:Int)*s,500,())
def drS(lo hi:Int)(n:Nat):List DrD:=(List.range n).map fun k:Nat=>((k:Int),(lo,hi,()),())
structure okB(f s lo hi:Int)(n:Nat):Prop where
 n2:2≤n
 n6:n≤6
 f1:1≤f
 f2:f≤100
 s1:1≤s
 s2:s≤50
 l1:1≤lo
 l2:lo≤hi
 l3:hi≤10000
abbrev mkBa(S:List SpD)(D:List DrD):baT.den:=(1000,S,D,())
abbrev vBa(S:List SpD)(D:List DrD):AV:=.val baT (mkBa S D)
abbrev pBa(S:List SpD)(D:List DrD):AV:=.val (.ptr baT) (some (mkBa S D))
def q09(f s:Int)(n:Nat):(spS f s n).length=n:=by simp[spS]
def z0x(lo hi:Int)(n:Nat):(drS lo hi n).length=n:=by simp[drS]
def spS_succ(f s:Int)(n:Nat):spS f s (n+1)=spS f s n++[(f+(n:Int)*s,500,())]:=by unfold spS;rw[List.range_succ,yxz];rfl
def drS_succ(lo hi:Int)(n:Nat):drS lo hi (n+1)=drS lo hi n++[((n:Int),(lo,hi,()),())]:=by unfold drS;rw[List.range_succ,yxz];rfl
def z3h(f s:Int)(h:k<n):(spS f s n).getD k (0,0,())=(f+(k:Int)*s,500,()):=by unfold spS;rw[yyq,List.getElem?_map,List.getElem?_range h];rfl
def drS_get(lo hi:Int)(h:k<n):(drS lo hi n).getD k drZ=((k:Int),(lo,hi,()),()):=by unfold drS;rw[yyq,List.getElem?_map,List.getElem?_range h];rfl
def spS_take(f s:Int)(h:i≤n):(spS f s n).take i=spS f s i:=by unfold spS;rw[← List.map_take,List.take_range,yxu h]
def z3g{f s lo hi:Int}(h:okB f s lo hi n)(hk:k<n):f≤f+(k:Int)*s∧f+(k:Int)*s≤f+250:=by have h1:=h.n6;have h2:=h.s1;have h3:=h.s2;have h4:0≤(k:Int)*s:=Int.mul_nonneg (by omega) (by omega);have h5:(k:Int)*s≤5*s:=Int.mul_le_mul_of_nonneg_right (by omega) (by omega);omega
variable{x:SpD}
def spS_mem{f s lo hi:Int}(h:okB f s lo hi n)(hx:x∈spS f s n):1≤x.1∧x.1≤350∧x.2.1=500:=by obtain⟨k,hk,rfl⟩:=yy7.1 hx;have:=z3g h (yy3.1 hk);have h1:=h.f1;have h2:=h.f2;exact⟨by dsimp only;omega,by dsimp only;omega,rfl⟩
def fn202(x lo hi:Int):Ox.Fn Tryz.prog 202 (.acons (vI x) (.acons (pI lo) (.acons (pI hi) .anil))) (·=vB (decide (x<lo∨x>hi))):=by refine zI Tryz.func202 rfl Tryz.call202 rfl fun E M0 up=>?_;refine zK0 ?_;refine zR rfl trivial ?_;by_cases h:x<lo<;>simp[h]
variable{b:Bool}
def z51(hb:b=true)(h:∀ x∈xs,lo≤x∧x≤hi):Ox.Fn Tryz.prog 145 (.acons (vI lo) (.acons (vI hi) (.acons (vL xs) .anil))) (·=vB b):=by
 refine zI Tryz.func145 rfl Tryz.call145 rfl fun E M0 up=>?_
 (repeat (first|refine zs rfl ?_|refine n4 ?_|refine zc rfl (fn66 xs (fun x=>decide (x<lo∨x>hi)) (fun x _=>fn202 x lo hi)) rfl rfl ?_))
 refine zR rfl trivial ?_;refine congrArg vB ?_;rw[hb,yyv,List.any_eq_false];intro x hx;have:=h x hx;simp;omega
variable{t1:Ty}
def fn203{x1:t1.den}(hb:b=false)(xs:List DrD)(h:∀ x∈xs,Ox.Fn Tryz.prog f (.acons (.val drT x) (.acons (.val t1 x1) .anil)) (·=vB b)) :
  Ox.Fn Tryz.prog 203 (.acons (.val (.slice drT) xs) (.acons (.fn f .anil (.acons (.val t1 x1) .anil)) .anil)) (·=vI (-1)):=by
 refine zI Tryz.func203 rfl Tryz.call203 rfl fun E M0 up=>?_;refine JK.lenOf 0 rfl fun ha=>?_;replace ha:xs.length≤9223372036854775807:=ha.1;refine zK0 ?_;refine JK.loop (fun i:Nat=>⟨[(0,.val (.slice drT) xs),(1,.fn f .anil (.acons (.val t1 x1) .anil)),(7,vI xs.length),(8,vI (i:Int))],[],0⟩) (fun i=>i≤xs.length) (fun i=>xs.length-i) 0 (by simp) (by exact zJ) fun i hi=>?_;refine zK0 ?_;refine q9 rfl (fun hc=>?_) (fun hc=>?_)
 ·replace hc:=zC hc;have he:i<xs.length:=by omega
  have hx:=h (xs.getD i drZ) (by rw[w8 xs he];exact yy4 he);refine zK4 ?_;rw[hb];refine q9 rfl (fun hd=>by cases hd) (fun _=>?_);refine zK0 ?_;exact⟨i+1,by exact zJ,by omega,by omega⟩
 ·replace hc:=zC hc;refine zK0 ?_;refine zR rfl trivial ?_;rfl
def fn148{x1:t1.den}(hb:b=false)(xs:List DrD)(h:∀ x∈xs,Ox.Fn Tryz.prog f (.acons (.val drT x) (.acons (.val t1 x1) .anil)) (·=vB b)) :
  Ox.Fn Tryz.prog 148 (.acons (.val (.slice drT) xs) (.acons (.fn f .anil (.acons (.val t1 x1) .anil)) .anil)) (·=vB b):=by
 refine zI Tryz.func148 rfl Tryz.call148 rfl fun E M0 up=>?_;obtain⟨m,hm⟩:∃ m:Int,m=-1:=⟨_,rfl⟩;have c:=fn203 hb xs h;rw[← hm] at c;refine zK5 ?_;refine zR rfl trivial ?_;rw[hb,hm];rfl
def fn225{x1:t1.den}(hb:b=false)(xs:List SpD)(h:∀ x∈xs,Ox.Fn Tryz.prog f (.acons (.val spT x) (.acons (.val t1 x1) .anil)) (·=vB b)) :
  Ox.Fn Tryz.prog 225 (.acons (.val (.slice spT) xs) (.acons (.fn f .anil (.acons (.val t1 x1) .anil)) .anil)) (·=vI (-1)):=by
 refine zI Tryz.func225 rfl Tryz.call225 rfl fun E M0 up=>?_;refine JK.lenOf 0 rfl fun ha=>?_;replace ha:xs.length≤9223372036854775807:=ha.1;refine zK0 ?_;refine JK.loop (fun i:Nat=>⟨[(0,.val (.slice spT) xs),(1,.fn f .anil (.acons (.val t1 x1) .anil)),(7,vI xs.length),(8,vI (i:Int))],[],0⟩) (fun i=>i≤xs.length) (fun i=>xs.length-i) 0 (by simp) (by exact zJ) fun i hi=>?_;refine zK0 ?_;refine q9 rfl (fun hc=>?_) (fun hc=>?_)
 ·replace hc:=zC hc;have he:i<xs.length:=by omega
  have hx:=h (xs.getD i (0,0,())) (by rw[w8 xs he];exact yy4 he);refine zK4 ?_;rw[hb];refine q9 rfl (fun hd=>by cases hd) (fun _=>?_);refine zK0 ?_;exact⟨i+1,by exact zJ,by omega,by omega⟩
 ·replace hc:=zC hc;refine zK0 ?_;refine zR rfl trivial ?_;rfl
def fn188{x1:t1.den}(hb:b=false)(xs:List SpD)(h:∀ x∈xs,Ox.Fn Tryz.prog f (.acons (.val spT x) (.acons (.val t1 x1) .anil)) (·=vB b)) :
  Ox.Fn Tryz.prog 188 (.acons (.val (.slice spT) xs) (.acons (.fn f .anil (.acons (.val t1 x1) .anil)) .anil)) (·=vB b):=by
 refine zI Tryz.func188 rfl Tryz.call188 rfl fun E M0 up=>?_;obtain⟨m,hm⟩:∃ m:Int,m=-1:=⟨_,rfl⟩;have c:=fn225 hb xs h;rw[← hm] at c;refine zK5 ?_;refine zR rfl trivial ?_;rw[hb,hm];rfl
def fn226(xs:List SpD)(s:SpD)(hg:s∉xs):Ox.Fn Tryz.prog 226 (.acons (.val (.slice spT) xs) (.acons (.val spT s) .anil)) (·=vI (-1)):=by
 refine zI Tryz.func226 rfl Tryz.call226 rfl fun E M0 up=>?_;refine JK.lenOf 0 rfl fun ha=>?_;replace ha:xs.length≤9223372036854775807:=ha.1;refine zK0 ?_
 (refine z20 [0] [0,3,4,7,8] rfl ?_)
 refine JK.loop (fun i:Nat=>⟨[(0,.val (.slice spT) xs),(3,.val (.ptr spT) (some s)),(7,vI xs.length),(8,vI (i:Int))],[],1⟩) (fun i=>i≤xs.length) (fun i=>xs.length-i) 0 (yyw _) (by exact zJ) fun i hi=>?_;refine zK0 ?_;refine q9 rfl (fun hc=>?_) (fun hc=>?_)
 ·replace hc:=zC hc;have hb:i<xs.length:=by omega
  have hh:spT.eqB s (xs.getD (Int.toNat (i:Int)) spT.dflt)=false:=by
   have e:xs.getD (Int.toNat (i:Int)) spT.dflt=xs[i]:=w8 xs hb _;rw[e];cases he:spT.eqB s xs[i] with
   |false=>rfl
   |true=>exact absurd (y7.1 he▸yy4 hb) hg
  (repeat (first|refine zs rfl ?_|refine zd ?_|refine zeq eqSp rfl rfl rfl ?_))
  refine q9 rfl (fun hd=>absurd (hh.symm.trans hd) (by decide)) (fun _=>?_);refine zK0 ?_;exact⟨i+1,by exact zJ,by omega,by omega⟩
 ·replace hc:=zC hc;refine zK0 ?_;refine zR rfl trivial ?_;rfl
def fn189(xs:List SpD)(s:SpD)(ha:s∉xs)(hb:b=false):Ox.Fn Tryz.prog 189 (.acons (.val (.slice spT) xs) (.acons (.val spT s) .anil)) (·=vB b):=by refine zI Tryz.func189 rfl Tryz.call189 rfl fun E M0 up=>?_;obtain⟨m,hm⟩:∃ m:Int,m=-1:=⟨_,rfl⟩;have c:=fn226 xs s ha;rw[← hm] at c;refine zK5 ?_;refine zR rfl trivial ?_;rw[hb,hm];rfl
def fn186(S:List SpD)(D:List DrD)(hx:1≤x.1∧x.1≤350∧x.2.1=500)(hb:b=false):Ox.Fn Tryz.prog 186 (.acons (.val spT x) (.acons (pBa S D) .anil)) (·=vB b):=by
 refine zI Tryz.func186 rfl Tryz.call186 rfl fun E M0 up=>?_;obtain⟨x,y,u⟩:=x;obtain⟨h1,h2,h3⟩:=hx;dsimp only at h1 h2 h3;subst h3;obtain⟨u,hu⟩:∃ u,u=true:=⟨true,rfl⟩;have c1:=z51 (lo:=1) (hi:=1000-1) (xs:=x::List.nil) hu (by simp;omega);have c2:=z51 (lo:=0) (hi:=1000) (xs:=(500:Int)::List.nil) hu (by simp);subst hu
 (repeat (first|refine zt rfl (by simp[wantB]) ?_|refine zs rfl ?_|refine zc rfl c1 rfl rfl ?_|refine zc rfl c2 rfl rfl ?_|refine JK.fin ?_|refine n4 ?_))
 refine zR rfl trivial ?_;rw[hb];rfl
def fn187{f s lo hi:Int}(h:okB f s lo hi n)(hk:k<n)(D:List DrD)(hb:b=false):Ox.Fn Tryz.prog 187 (.acons (.val drT ((k:Int),(lo,hi,()),())) (.acons (pBa (spS f s n) D) .anil)) (·=vB b):=by
 refine zI Tryz.func187 rfl Tryz.call187 rfl fun E M0 up=>?_;have h1:=h.l1;have h2:=h.l2;have h3:=h.l3;have h6:=h.n6;have hl:=q09 f s n;obtain⟨u,hu⟩:∃ u,u=true:=⟨true,rfl⟩;have c1:=z51 (lo:=1) (hi:=10000) (xs:=lo::hi::List.nil) hu (by simp;omega);subst hu;have k1:¬ (k:Int)<0:=by omega
 have k2:¬ (((spS f s n).length:Nat):Int)≤(k:Int):=by rw[hl];omega
 have k3:¬ lo>hi:=by omega
 (repeat (first|refine zt rfl (by simp[wantB,k1,k2,k3]) ?_|refine zs rfl ?_|refine zc rfl c1 rfl rfl ?_|refine JK.fin ?_|refine n4 ?_))
 refine zR rfl trivial ?_;rw[hb];simp[k1,k2,k3]
def spS_no(f s:Int)(hs:1≤s)(h:n≤k):((f+(k:Int)*s,500,()):SpD)∉spS f s n:=fun hm=>by obtain⟨j,hj,e⟩:=yy7.1 hm;have hj:=yy3.1 hj;have e:f+(j:Int)*s=f+(k:Int)*s:=congrArg Prod.fst e;have:(j:Int)*s<(k:Int)*s:=Int.mul_lt_mul_of_pos_right (by omega) (by omega);omega
def fn139{f s lo hi:Int}(h:okB f s lo hi n):Ox.Fn Tryz.prog 139 (.acons (vBa (spS f s n) (drS lo hi n)) .anil) (·=vI 0):=by
 refine zI Tryz.func139 rfl Tryz.call139 rfl fun E M0 up=>?_;have h6:=h.n6;have hd:=q09 f s n;have he:=z0x lo hi n;obtain⟨u,hu⟩:∃ u,u=true:=⟨true,rfl⟩;obtain⟨b,hb⟩:∃ b,b=false:=⟨false,rfl⟩;have c1:=z51 (lo:=2) (hi:=1000) (xs:=(1000:Int)::List.nil) hu (by simp);have c2:=fn188 (f:=186) (t1:=.ptr baT) (x1:=some (mkBa (spS f s n) (drS lo hi n))) hb (spS f s n) (fun x hx=>fn186 _ _ (spS_mem h hx) hb);have c4:=fn148 (f:=187) (t1:=.ptr baT) (x1:=some (mkBa (spS f s n) (drS lo hi n))) hb (drS lo hi n) (fun x hx=>by obtain⟨k,hk,rfl⟩:=yy7.1 hx;exact fn187 h (yy3.1 hk) _ hb)
 have c3:=fun i (hi:i<n)=>fn189 (spS f s i) ((spS f s n).getD i (0,0,())) (by rw[z3h f s hi];exact spS_no f s h.s1 (yyl _)) hb;have ha:=fun i (hi:i≤n)=>spS_take f s hi;have hh:∀ i:Nat,spS f s i=spS f s i:=fun _=>rfl;generalize hS:spS f s n=S at hd c2 c3 c4 ha ⊢;generalize drS lo hi n=D at he c2 c4 ⊢
 (repeat (first|refine zs rfl ?_|refine zc rfl (c1) rfl rfl ?_))
 refine q9 rfl (fun h=>absurd h (by rw[hu];decide)) (fun _=>?_)
 (refine z20 [0] [1,2,3,4] rfl ?_)
 refine zK0 ?_;refine q9 rfl (fun h=>absurd h (by
  have k1:¬ 10<(S.length:Int):=by omega
  have k2:¬ 40<(D.length:Int):=by omega
  simp[k1,k2])) (fun _=>?_)
 (repeat (first|refine zs rfl ?_|refine zc rfl (c2) rfl rfl ?_))
 rw[hb];refine q9 rfl (fun h=>by cases h) (fun _=>?_);refine zK0 ?_;refine JK.loop (fun i:Nat=>⟨[(1,pBa S D),(4,.fn 187 .anil (.acons (pBa S D) .anil)),(32,.val (.slice spT) S),(33,vI S.length),(34,vI (i:Int))],[],0⟩) (fun i=>i≤n) (fun i=>n-i) 0 (yyw _) (by exact zJ) fun i hi=>?_;refine zK0 ?_;refine q9 rfl (fun hc=>?_) (fun hc=>?_)
 ·replace hc:=zC hc;have hg:i<n:=by omega
  have c3:=c3 i hg;rw[← ha i (by omega)] at c3;refine zK2 ?_;refine g9 xk (Tryz.f139.body.getD .skip) ⟨[(1,pBa S D),(4,.fn 187 .anil (.acons (pBa S D) .anil)),(32,.val (.slice spT) S),(33,vI S.length),(34,vI (i:Int)),(44,vB b)],[],0⟩ rfl 6 rfl ?_ ?_
  ·(refine q7 0 xk rfl rfl (q7 2 xk rfl rfl (z6 1 xk rfl rfl (z6 3 xk rfl rfl (z6 4 xk rfl rfl (zU 5 xk rfl rfl ?_)))));(first|refine z4l xk rfl rfl ?_|refine z09 xk rfl rfl rfl ?_|refine q19 xk rfl rfl ?_|refine JL.M0 xk rfl ?_|refine q81 rfl (c3) rfl trivial rfl ?_|refine z2x rfl (c3) rfl (fun r hr=>?_);subst hr|refine z6n rfl rfl (fun hgd=>c3) rfl trivial rfl ?_);refine q8 ?_;refine v7 xk ?_ ?_;exact zS;(exact zJ))
  rw[hb];refine q9 rfl (fun h=>by cases h) (fun _=>?_);refine zK0 ?_;exact⟨i+1,by exact zJ,by omega,by omega⟩
 ·replace hc:=zC hc;refine zK0 ?_
  (repeat (first|refine zs rfl ?_|refine zc rfl (c4) rfl rfl ?_))
  rw[hb];refine q9 rfl (fun h=>by cases h) (fun _=>?_);refine zK0 ?_;refine zR rfl trivial ?_;rfl
end Go.Proofs.YtjecebccchhmhaaGreatDoor.Dp
namespace Ox
open Go Go.RowKit
variable {X:Ctx}{s:S}{M:Mem}{ρ:Env}{a:Act}{w:World}{QA:Exit→S→Prop}{all l:List Oper}
namespace Rn
noncomputable section
variable {P:Program}{g:Nat}{l':Lit}
end
end Rn
variable {md:Bool}
variable {L L':List (Nat×AV)}{H H':List (Nat×HO)}{nx nx':Nat}
def faR_off{i o:Nat}(h:faR P t (.p 0 0) i=some (.p 0 o))(lb off:Nat):faR P t (.p lb off) i=some (.p lb (off+o)):=by
 unfold faR at h ⊢;dsimp only at h ⊢;split at h
 ·split at h
  ·split at h
   ·injection h with h
    injection h with h1 h2
    rw[yxt] at h2;rw[h2]
   ·cases h
  ·cases h
 ·cases h
variable{A B:Ty}
def q8j{y:(Ty.cons A B).den}{tid:TypeId}{v:Value}(hf:faR P tid (.p 0 0) 0=some (.p 0 0))(h:(AV.val (.ptr (.cons A B)) (some y)).rv M ρ v) :
  ∃ z,(AV.val (.ptr A) (some y.1)).rv M ρ z∧∀ w,(Instr.fieldAt tid v 0).run P w=.ok z w:=by
 obtain⟨b,off,c,ty,fz,rfl,hM,hr⟩:=q25.1 h;have e:=faR_off hf 0 off;have hk:=(z52 (ρ:=⟨fun _=>b,fun _=>.nil,fun _=>Go.undef⟩) (n:=1) e (yy2 0)).2;refine⟨.pointer (some ⟨b,off,none⟩),q25.2 ⟨b,off,c,ty,fz,rfl,hM,?_⟩,fun w=>hk w⟩;simp only[Rep] at hr;obtain⟨c1,c2,e1,e2,_⟩:=hr;have hl:=Rep.length e2;have:(c.toList.drop off).take A.size=c1:=by have:=congrArg (List.take A.size) e1;rw[List.take_take,← hl,List.take_left] at this;rw[← this,hl];congr 1;exact(yxu (Nat.le_add_right _ _)).symm
 rw[this];exact e2
def JL.fldP{y:(Ty.cons A B).den}{ps:String}
  (h:opd s.L x=some (cs,.val (.ptr (.cons A B)) (some y))) (hf:faR X.P tid (.p 0 0) 0=some (.p 0 0)) (hd:ltB d X.n=true) (hc:allP cs)
  (k:JL X md all QA l (putS (some d) (.val (.ptr A) (some y.1)) s)):JL X md all QA (⟨some d,.fieldAddr tid x 0,ty,ps,af,none⟩::l) s:=by
 have ha:=dstOk.spec (d:=some d) (j9 hd);cases md
 ·intro M ρ a w0 h1 h2;obtain⟨z,e2,e3⟩:=q8j (P:=X.P) hf (z5 h hc h2).2;simp only[wpQuiet,Region.wanted,if_true];exact⟨z,fun w hw=>by unfold Oper.quietAt;simp only[execOp,yye,e3,yyb,yyf];exact⟨rfl,rfl⟩,k M ρ _ w0 (z8 h1) (h2.putO ha trivial e2)⟩
 ·intro M ρ a w h1 h2;obtain⟨z,e2,e3⟩:=q8j (P:=X.P) hf (z5 h hc h2).2;exact z9 (j6 rfl) (w3 rfl (by simp only[execOp,yye,e3,yyb,yyf]) (k M ρ _ w (z8 h1) (h2.putO ha trivial e2)))
def JL.callN{os:Array Operand}{ts:Array TypeId}{args r:AV}{ps:String}
  (hf:Fn X.P f args (·=r)) (hr:r.scal=true) (hd:ltB d X.n=true) (hb:args.bd 0)
  (ha:∀ M ρ a w,SAT X M ρ s w→REG X M ρ s a→args.rvs (fun b=>w.heap[b]?) ρ (os.toList.map a.eval))
  (k:JL X true all QA l (putS (some d) r s)) :
  JL X true all QA (⟨some d,.call ⟨.value (.func f),os,ts⟩,ty,ps,af,none⟩::l) s:=by
 intro M ρ a w h1 h2;have he:Array.map a.eval os=(List.map a.eval os.toList).toArray:=by rw[← yxc]
 have k3:a.eval (.func f)=.func (.func f) #[] #[]:=rfl;have hg:∀ w',(execOp a.eval ⟨some d,.call ⟨.value (.func f),os,ts⟩,ty,ps,af,none⟩).run X.P w'=(callFunc f (os.toList.map a.eval).toArray).run X.P w':=fun w'=>by simp only[execOp,resolve,k3,Deferred.ofValue,yye,yyf,yyb,invoke,he];simp
 have e2:Calls X.P f (os.toList.map a.eval).toArray w (fun e w'=>e=.returned r.toV∧Below w.heap.size w w'):=by refine(hf.run _ ρ w _ (q5q (Below.refl _ _)) (ha M ρ a w h1 h2) hb).mono ?_;rintro e w' ⟨v,r',M',rfl,rfl,_,hv,hh,_⟩;exact⟨by rw[(x5 hr).1 hv],hh⟩
 refine z9 (j6 rfl) (x8 rfl (by rw[hg,hf.call]) e2 ?_);rintro e w' ⟨rfl,hh⟩;exact⟨_,rfl,k M ρ _ w' (z8 (h1.later hh)) (h2.putO (dstOk.spec (d:=some d) (j9 hd)) (j3 (yyw _) (q2o hr)) ((x5 hr).2 rfl))⟩
def SAT.part(h1:SAT X M ρ ⟨L,H,nx⟩ w){o0:HO}(hl:lk H m=some o0)(ha:o0.at ρ m=some (ρ.blk m))(hge:X.E.heap.size≤ρ.blk m)(hH:subH H H')(hm:lk H' m=none)(bH:bdH nx' H') :
  ∃ M',SAT X M' ρ ⟨L',H',nx'⟩ w∧M.le M'∧(∀ b o,M b=some o→M' b=some o)∧M' (ρ.blk m)=w.heap[ρ.blk m]?:=by
 have hn:=h1.notM m o0 _ hl ha;have hM:∀ b o,M b=some o→(if b=ρ.blk m then w.heap[b]? else M b)=some o:=fun b o hb=>by
  by_cases e:b=ρ.blk m
  ·rw[e,hn] at hb;cases hb
  ·rw[if_neg e];exact hb
 refine⟨fun b=>if b=ρ.blk m then w.heap[b]? else M b,⟨h1.below,fun b o hb=>hM b o (h1.msub b o hb),fun b hb=>?_,fun b o hb=>?_,fun l o k=>?_,fun l l' o o' b k1 k2=>h1.apart l l' o o' b (hH _ _ k1) (hH _ _ k2),fun l o b k1 k2=>?_⟩,fun b c ty fz hb=>hM b _ hb,hM,if_pos rfl⟩
 ·show(if b=ρ.blk m then w.heap[b]? else M b)=X.M0 b;rw[if_neg (by omega)];exact h1.mnew b hb
 ·have hb:(if b=ρ.blk m then w.heap[b]? else M b)=some o:=hb;split at hb
  ·exact hb
  ·exact h1.mem b o hb
 ·obtain⟨e1,e2⟩:=g8 bH l o (w5 k);obtain⟨q1,q2,q3⟩:=h1.own l o (hH l o k);exact⟨e1,e2,t9 (fun b c ty fz hb=>hM b _ hb) (Env.upTo.refl ρ nx) q1 q2 q3⟩
 ·show(if b=ρ.blk m then w.heap[b]? else M b)=none;by_cases e:b=ρ.blk m
  ·subst e;have:=h1.apart l m o o0 _ (hH _ _ k1) hl k2 ha;subst this;rw[hm] at k1;cases k1
  ·rw[if_neg e];exact h1.notM l o b (hH _ _ k1) k2
variable{q:AV}
def SAT.partG(h1:SAT X M ρ ⟨L,H,nx⟩ w)(h2:REG X M ρ ⟨L,H,nx⟩ a){t A:Ty}{x:A.den}(hl:lk H m=some (.cell t (.mix (.val A x) q)))(hd:lk L d=some (.lf (.optr m [])))
  (hL:subL L L') (hH:subH H H') (hm:lk H' m=none) (bL:bdL nx' L') (bH:bdH nx' H') :
  ∃ M',SAT X M' ρ ⟨(d,.val (.ptr (.cons A .nil)) (some (x,())))::L',H',nx'⟩ w∧REG X M' ρ ⟨(d,.val (.ptr (.cons A .nil)) (some (x,())))::L',H',nx'⟩ a:=by
 obtain⟨_,_,_,_,hge,c,ty,hh,hr⟩:=h1.own m _ hl;obtain⟨M',e1,e2,e3,e4⟩:=h1.part (L':=(d,.val (.ptr (.cons A .nil)) (some (x,())))::L') hl rfl hge hH hm bH;refine⟨M',e1,h2.size,?_,fun d' v ha=>?_⟩
 ·obtain⟨Ds,k1,k2,k3,k4⟩:=h2.defers;exact⟨Ds,k1,k2,fun D hD=>⟨(k3 D hD).1,e3 _ _ (k3 D hD).2⟩,k4⟩
 ·simp only[lk] at ha;by_cases e':d=d'
  ·subst e';rw[if_pos rfl] at ha;injection ha with ha;subst ha
   refine⟨trivial,?_⟩;have hv:=(h2.reg d _ hd).2;simp only[AV.rv,Leaf.at,yya] at hv;have h0:(ρ.ty m).off []=0:=by cases ρ.ty m<;>rfl
   rw[← hv.1,h0];obtain⟨c1,c2,r1,_,r3⟩:=hr;have hx:Rep M' A x c1:=Rep.mono e2 r1;have hs:=Rep.length hx;refine q25.2 ⟨_,0,c,ty,(0,0),rfl,e4.trans hh,?_⟩;rw[List.drop_zero,r3];have:(Ty.cons A .nil).size=A.size:=by simp[Ty.size]
   rw[this,← hs,List.take_left];simp only[Rep];exact⟨c1,[],by simp,hx,rfl⟩
  ·rw[if_neg e'] at ha;have q:=h2.reg d' v (q3b hL d' v ha);exact⟨q1i bL d' v (w5 ha),j5 e2 (Env.upTo.refl ρ nx) q.1 q.2⟩
def JL.part{t A:Ty}{x:A.den}(hl:lk H m=some (.cell t (.mix (.val A x) q)))(hd:lk L d=some (.lf (.optr m [])))(hL:subL L L')(hH:subH H H')(hm:lk H' m=none)(bL:bdL nx' L')(bH:bdH nx' H')
  (k:JL X md all QA l ⟨(d,.val (.ptr (.cons A .nil)) (some (x,())))::L',H',nx'⟩):JL X md all QA l ⟨L,H,nx⟩:=by
 cases md
 ·intro M ρ a w h1 h2;obtain⟨M',e1,e2⟩:=h1.partG h2 hl hd hL hH hm bL bH;exact k _ ρ a w e1 e2
 ·intro M ρ a w h1 h2;obtain⟨M',e1,e2⟩:=h1.partG h2 hl hd hL hH hm bL bH;exact k _ ρ a w e1 e2
def JC.part{t A:Ty}{x:A.den}(hl:lk H m=some (.cell t (.mix (.val A x) q)))(hd:lk L d=some (.lf (.optr m [])))(hL:subL L L')(hH:subH H H')(hm:lk H' m=none)(bL:bdL nx' L')(bH:bdH nx' H')
  (k:JC X c QA ⟨(d,.val (.ptr (.cons A .nil)) (some (x,())))::L',H',nx'⟩):JC X c QA ⟨L,H,nx⟩:=by
 intro M ρ a w h1 h2;obtain⟨M',e1,e2⟩:=h1.partG h2 hl hd hL hH hm bL bH;exact k _ ρ a w e1 e2
variable {r:List Fr}
def JK.part{c:Code}(m d:Nat){t A:Ty}{x:A.den}{q:AV}(hl:lk H m=some (.cell t (.mix (.val A x) q)))(hd:lk L d=some (.lf (.optr m [])))(hL:subL L L')(hH:subH H H')(hm:lk H' m=none)(bL:bdL nx' L')(bH:bdH nx' H')
  (k:JK X (.code c::r) QA ⟨(d,.val (.ptr (.cons A .nil)) (some (x,())))::L',H',nx'⟩):JK X (.code c::r) QA ⟨L,H,nx⟩:=JC.part hl hd hL hH hm bL bH k
def q66{y:(Ty.cons A B).den}{ps:String}
  (hf:faR X.P tid (.p 0 0) 0=some (.p 0 0)) (h:opd L x=some (cs,.val (.ptr (.cons A B)) (some y))) (hd:ltB d X.n=true) (hc:allP cs)
  (k:JK X (.ops md all l::r) QA ⟨(d,.val (.ptr A) (some y.1))::L,H,nx⟩):JK X (.ops md all (⟨some d,.fieldAddr tid x 0,ty,ps,af,none⟩::l)::r) QA ⟨L,H,nx⟩:=JL.fldP (s:=⟨L,H,nx⟩) h hf hd hc k
def JL.fldPG{y:(Ty.cons A B).den}{ps:String}(hg:gOf all s.L (some gg)=some g)
  (h:opd s.L x=some (cs,.val (.ptr (.cons A B)) (some y))) (hf:faR X.P tid (.p 0 0) 0=some (.p 0 0)) (hd:ltB d X.n=true) (hc:g=true→allP cs)
  (k:JL X md all QA l (putS (some d) (.gd g (.val (.ptr A) (some y.1))) s)):JL X md all QA (⟨some d,.fieldAddr tid x 0,ty,ps,af,some gg⟩::l) s:=by
 have ha:=dstOk.spec (d:=some d) (j9 hd);cases md
 ·intro M ρ a w0 h1 h2;have hw:=u7 (o:=⟨some d,.fieldAddr tid x 0,ty,ps,af,some gg⟩) hg h2;simp only[wpQuiet,hw];cases g with
  |true=>obtain⟨z,e2,e3⟩:=q8j (P:=X.P) hf (z5 h (hc rfl) h2).2;simp only[if_true];exact⟨z,fun w hw=>by unfold Oper.quietAt;simp only[execOp,yye,e3,yyb,yyf];exact⟨rfl,rfl⟩,k M ρ _ w0 (z8 h1) (h2.putO ha (by exact fun _=>trivial) (by simp only[AV.rv];exact⟨fun _=>e2,fun h=>(by cases h)⟩))⟩
  |false=>simp only[yys,if_false];exact k M ρ _ w0 (z8 h1) (h2.putO ha (by exact fun h=>(by cases h)) (by simp[AV.rv]))
 ·intro M ρ a w h1 h2;have hw:=u7 (o:=⟨some d,.fieldAddr tid x 0,ty,ps,af,some gg⟩) hg h2;cases g with
  |true=>
   obtain⟨z,e2,e3⟩:=q8j (P:=X.P) hf (z5 h (hc rfl) h2).2;have e4:(execOp a.eval (⟨some d,.fieldAddr tid x 0,ty,ps,af,some gg⟩:Oper)).run X.P w=.ok (.value z) w:=by simp only[execOp,yye,e3,yyb,yyf]
   refine z9 hw (w3 rfl e4 ?_);exact k M ρ _ w (z8 h1) (h2.putO ha (by exact fun _=>trivial) (by simp only[AV.rv];exact⟨fun _=>e2,fun h=>(by cases h)⟩))
  |false=>refine o7 hw ?_;exact k M ρ _ w (z8 h1) (h2.putO ha (by exact fun h=>(by cases h)) (by simp[AV.rv]))
def JK.fldPG{A B:Ty}{y:(Ty.cons A B).den}{tid d:Nat}{x:Operand}{cs:List Prop}{ty:TypeId}{ps:String}{af:Array Edge}{gg:Nat×Bool}{g:Bool}(hf:faR X.P tid (.p 0 0) 0=some (.p 0 0))(hg:gOf all L (some gg)=some g)
  (h:opd L x=some (cs,.val (.ptr (.cons A B)) (some y))) (hd:ltB d X.n=true) (hc:g=true→allP cs)
  (k:JK X (.ops md all l::r) QA ⟨(d,.gd g (.val (.ptr A) (some y.1)))::L,H,nx⟩):JK X (.ops md all (⟨some d,.fieldAddr tid x 0,ty,ps,af,some gg⟩::l)::r) QA ⟨L,H,nx⟩:=JL.fldPG (s:=⟨L,H,nx⟩) hg h hf hd hc k
def faR_of(h:(match faR P t (.p 0 0) 0 with|some v=>v.eqb (.p 0 0)|none=>false)=true):faR P t (.p 0 0) 0=some (.p 0 0):=by
 split at h
 ·rename_i v hv;rw[hv,m9 h]
 ·cases h
end Ox
namespace Ox.Gl
variable {d:Int}{cs:List CoD}{ps:List (List Int)}
structure OB(Bs:List (List Nat))(n:Nat):Prop where
 ne:Bs≠[]
 pm:∀ o∈Bs,o.Perm (List.range n)
 nd:Bs.Nodup
def alw(Bs:List (List Nat))(n:Nat)(a c:Nat):Bool:=decide (a<n∧c<n∧∀ o∈Bs,o.idxOf a<o.idxOf c)
variable {Bs:List (List Nat)}{n:Nat}
variable{c:Nat}
def z4j:alw Bs n a c=true↔a<n∧c<n∧∀ o∈Bs,o.idxOf a<o.idxOf c:=decide_eq_true_iff
def OB.mem(h:OB Bs n):∃ o,o∈Bs:=List.exists_mem_of_ne_nil _ h.ne
def OB.trans(h1:alw Bs n a b=true)(h2:alw Bs n b c=true):alw Bs n a c=true:=by obtain⟨k1,_,k2⟩:=z4j.1 h1;obtain⟨_,k3,k4⟩:=z4j.1 h2;exact z4j.2 ⟨k1,k3,fun o ho=>Nat.lt_trans (k2 o ho) (k4 o ho)⟩
end Ox.Gl
namespace Ox.Gl
open Ox.St
variable {P:Nat→Nat→Bool}{n:Nat}
end Ox.Gl
namespace Ox.Gl
variable {bt:Nat→Nat}{n:Nat}{o:List Nat}
end Ox.Gl
namespace Go.Proofs.YtjecebccchhmhaaGreatDoor.Cb
open Go Go.RowKit Ox Ox.Gl
attribute [local irreducible] JC JL JK JW
abbrev vI(n:Int):AV:=.val (.int .i64) n
abbrev vB(b:Bool):AV:=.val .bool b
abbrev vL(xs:List Int):AV:=.val (.slice (.int .i64)) xs
abbrev pI(n:Int):AV:=.val (.ptr (.int .i64)) (some n)
abbrev vS64(n:Nat):AV:=.val (.int .u64) (n:Int)
abbrev twT:Ty:=.cons (.int .i64) (.cons (.int .i64) .nil)
abbrev TwD:=Int×Int×Unit
abbrev shT:Ty:=.cons (.slice twT) (.cons (.slice twT) .nil)
abbrev mkS(cs ms:List TwD):shT.den:=(cs,ms,())
abbrev vBd(cs ms:List TwD):AV:=.val (.ptr (.cons shT .nil)) (some (mkS cs ms,()))
abbrev vTw(z:TwD):AV:=.val twT z
def brd:faR Tryz.prog 123 (.p 0 0) 0=some (.p 0 0):=faR_of (by decide +kernel)
def w8(xs:List α)(h:i<xs.length)(d:α):xs.getD i d=xs[i]:=by simp[yyq,yyt h]
def idxB{α:Type}(p:α→Bool):List α→Nat→Int
 |[],_=>-1
 |x::r,i=>if p x then(i:Int) else idxB p r (i+1)
def inP(at_:Int)(m:TwD):Bool:=bif decide (m.1≤at_) then decide (at_≤m.2.1) else false
def inM(ms:List TwD)(at_:Int):Int:=idxB (inP at_) ms 0
def j0t{α:Type}{p:α→Bool}:∀ {xs:List α} {i:Nat},idxB p xs i=-1∨((i:Int)≤idxB p xs i∧idxB p xs i<(i:Int)+xs.length)
 |[],i=>.inl rfl
 |x::r,i=>by
  simp only[idxB];split
  ·refine .inr ⟨Int.le_refl _,?_⟩;simp only[List.length_cons];omega
  ·rcases j0t (xs:=r) (i:=i+1) with h|⟨h1,h2⟩
   ·exact .inl h
   ·refine .inr ⟨by omega,?_⟩;simp only[List.length_cons];omega
def fn122(m:TwD)(at_:Int):Ox.Fn Tryz.prog 122 (.acons (vTw m) (.acons (pI at_) .anil)) (·=vB (inP at_ m)):=by refine zI Tryz.func122 rfl Tryz.call122 rfl fun E M0 up=>?_;refine zK0 ?_;refine zR rfl trivial ?_;rfl
def fn121{t1:Ty}{x1:t1.den}(xs:List TwD)(p:TwD→Bool)(h:∀ x∈xs,Ox.Fn Tryz.prog f (.acons (vTw x) (.acons (.val t1 x1) .anil)) (·=vB (p x))) :
  Ox.Fn Tryz.prog 121 (.acons (.val (.slice twT) xs) (.acons (.fn f .anil (.acons (.val t1 x1) .anil)) .anil)) (·=vI (idxB p xs 0)):=by
 refine zI Tryz.func121 rfl Tryz.call121 rfl fun E M0 up=>?_;refine JK.lenOf 0 rfl fun hb=>?_;replace hb:xs.length≤9223372036854775807:=hb.1;refine zK0 ?_;refine JK.loop (fun i:Nat=>⟨[(1,.fn f .anil (.acons (.val t1 x1) .anil)),(7,.val (.slice twT) xs),(8,vI xs.length),(9,vI (i:Int))],[],0⟩) (fun i=>i≤xs.length∧idxB p xs 0=idxB p (xs.drop i) i) (fun i=>xs.length-i) 0 (by simp) (by exact zJ) fun i ⟨hi,hn⟩=>?_;refine zK0 ?_;refine q9 rfl (fun hc=>?_) (fun hc=>?_)
 ·replace hc:=zC hc;have ha:i<xs.length:=by omega
  have hx:=h (xs.getD i (0,0,())) (by rw[w8 xs ha];exact yy4 ha);refine zK4 ?_;refine q9 rfl (fun hd=>?_) (fun hd=>?_)
  ·refine zK0 ?_;refine zR rfl trivial ?_;rw[w8 xs ha] at hd;rw[hn,yxf ha,idxB,if_pos hd]
  ·refine zK0 ?_;rw[w8 xs ha] at hd;refine⟨i+1,by exact zJ,⟨by omega,?_⟩,by omega⟩;rw[hn,yxf ha,idxB,if_neg (by rw[hd];simp)]
 ·replace hc:=zC hc;refine zK0 ?_;refine zR rfl trivial ?_;obtain rfl:i=xs.length:=by omega
  rw[hn,List.drop_length];rfl
def fn56(cs ms:List TwD)(at_:Int):Ox.Fn Tryz.prog 56 (.acons (vBd cs ms) (.acons (vI at_) .anil)) (·=vI (inM ms at_)):=by
 refine zI Tryz.func56 rfl Tryz.call56 rfl fun E M0 up=>?_;have c380:=fn121 (f:=122) ms (inP at_) (fun x _=>fn122 x at_);refine zK0 ?_;refine q66 brd rfl rfl trivial ?_
 (repeat (first|refine zs rfl ?_|refine n4 ?_|refine zc rfl (c380) rfl rfl ?_))
 refine zR rfl trivial ?_;rfl
def fn25(cs ms:List TwD)(n:Int):Ox.Fn Tryz.prog 25 (.acons (vBd cs ms) (.acons (vI n) .anil)) (·=vB (decide (0≤n∧n<cs.length))):=by refine zI Tryz.func25 rfl Tryz.call25 rfl fun E M0 up=>?_;refine zK0 ?_;refine JK.fldPG brd rfl rfl rfl (fun h=>h) ?_;refine zK0 ?_;refine zR rfl trivial ?_;refine congrArg vB ?_;by_cases h:0≤n<;>simp[h]
end Go.Proofs.YtjecebccchhmhaaGreatDoor.Cb
namespace Ox
open Go Go.RowKit
variable {X:Ctx}{s:S}{M:Mem}{ρ:Env}{a a':Act}{w w':World}{QA:Exit→S→Prop}{K:S→Prop}{ops:List Oper}{ls fl fr:List Nat}{fuel:Nat}
variable{L:List (Nat×AV)}{H:List (Nat×HO)}
def j3e(i:Nat){op:Op}{ps:String}{v:AV}{nx:Nat}
  (hf:fsB ops ls fl i=true) (ho:ops[i]?=some ⟨some d,op,ty,ps,af,none⟩)
  (hS:∀ M ρ a w,SAT X M ρ ⟨L,H,nx⟩ w→REG X M ρ ⟨L,H,nx⟩ a→v.bd nx∧∃ z,v.rv M ρ z∧∀ w',(execOp a.eval ⟨some d,op,ty,ps,af,none⟩).run X.P w'=.ok (.value z) w')
  (hd:ltB d X.n=true) (k:JF X ops K fl fuel (i::ls) ⟨(d,v)::L,H,nx⟩):JF X ops K fl (fuel+1) ls ⟨L,H,nx⟩:=by
 intro M ρ a a' w l fr ha hE hl hp h1 h2;simp only[fsB,yyc,yyv] at hf;obtain⟨⟨⟨⟨hF,hA⟩,hf⟩,hB⟩,hs,hv⟩:=hf;simp only[frB,ho,yyc,yyv] at hf;obtain⟨⟨_,h4⟩,e4⟩:=hf;have hC:i<ops.length:=(yy6.1 ho).1;have hG:i∉fr:=fun hc=>by simp at hA;exact hA (ha i hc)
 have hD:=u0.1 h4;have hh:∀ g∈fr,∀ q,ops[g]?=some q→halfB ops q (⟨some d,op,ty,ps,af,none⟩:Oper)=true:=by intro g hg q hq;simp only[apB,ho] at hB;have:=yyx.1 hB g (ha g hg);rw[hq] at this;simp only[yyy] at this;refine this.resolve_left fun hw=>?_;obtain⟨e,he,hb,rfl⟩:=r9.1 hw;have:=(hD e (by simpa using he) hb).2;rw[m5] at this;simp[ha _ hg] at this
 obtain⟨hb,z,hz,hy⟩:=hS M ρ _ w h1 h2;have hk:∀ (j:Nat) (o:Oper) cs b,ops.toArray[j]?=some o→o.op≠.select cs b:=Region.noSelect_spec hs;obtain⟨hH,hN⟩:=PutsR.exec (o:=⟨some d,op,ty,ps,af,none⟩) (hk i _ · · (by simpa using ho)) hp fun g hg q hq=>(p6 (hh g hg q hq)).1;rw[show fuel+1+fr.length=(fuel+fr.length)+1 by omega];refine q02 (fun _ _ _ h=>q46 h) (i:=i) (oi:=⟨some d,op,ty,ps,af,none⟩) (v:=z) (by simpa using ho) hk (q0a hv) (fuel+fr.length) l a w ?_ ?_ (.inl ⟨rfl,by rw[← hH];exact hy⟩) ?_
 ·intro j oj hj hP hu hJ;have hK:j<ops.length:=by have:=(yyi.1 hj).1;simpa using this
  refine q1n e4 j oj (by simpa using hj) (by omega) ?_ hJ;rw[hl.getT hK] at hu;rw[yxt,m5];cases hc:ls.contains j with
  |false=>rfl
  |true=>rw[hc] at hu;simp at hu;simp[ha _ hu]
 ·refine mem_ready.2 ⟨by rw[hl.getT hC,hF];rfl,_,by simpa using ho,fun e he hb=>?_⟩;obtain⟨e1,e2⟩:=hD e (by simpa using he) hb;rw[m5,yyc] at e2;rw[hl.getT e1,e2.1];have:e.on∉fr:=fun hc=>by have:=e2.2;simp[ha _ hc] at this
  simp[this]
 ·exact k M ρ _ (a'.put (some d) z) w _ fr ha hE (hl.setNew hC hG) (PutsR.put (d:=some d) hp fun f hf o hL e he hM=>(p6 (hh f hf o hL)).2 e he hM)
   (z8 (d:=some d) (v:=v) h1) (h2.putO (d:=some d) (dstOk.spec (j9 hd)) hb hz)
def JF.FldP(i:Nat){A B:Ty}{y:(Ty.cons A B).den}{ps:String}{nx:Nat}
  (hr:faR X.P tid (.p 0 0) 0=some (.p 0 0)) (ho:ops[i]?=some ⟨some d,.fieldAddr tid x 0,ty,ps,af,none⟩) (h:opd L x=some (cs,.val (.ptr (.cons A B)) (some y)))
  (k:JF X ops K fl fuel (i::ls) ⟨(d,.val (.ptr A) (some y.1))::L,H,nx⟩) (hf:fsB ops ls fl i=true:=by decide +kernel) (hd:ltB d X.n=true:=by rfl) (hc:allP cs:=by trivial):JF X ops K fl (fuel+1) ls ⟨L,H,nx⟩:=
 j3e i hf ho (fun M ρ a w h1 h2=>by obtain⟨z,e2,e3⟩:=q8j (P:=X.P) hr (z5 h hc h2).2;exact⟨trivial,z,e2,fun w'=>by simp only[execOp,yye,e3,yyb,yyf]⟩) hd k
end Ox
namespace Go.Proofs.YtjecebccchhmhaaGreatDoor.Cb
open Go Go.RowKit Ox Ox.Gl
attribute [local irreducible] JC JL JK JW
structure okSh(cs ms:List TwD):Prop where
 c1:1≤cs.length
 c8:cs.length≤8
 m1:1≤ms.length
 m12:ms.length≤12
 co:∀ c∈cs,(1≤c.1∧c.1≤50)∧2≤c.2.1∧c.2.1≤20
 mo:∀ m∈ms,0≤m.1∧m.1≤m.2.1∧m.2.1≤500
variable{ms cs:List TwD}
def inM_bd(ha:ms.length≤12)(at_:Int):inM ms at_=-1∨(0≤inM ms at_∧inM ms at_<12):=by
 rcases j0t (p:=inP at_) (xs:=ms) (i:=0) with h|⟨h1,h2⟩
 ·exact .inl h
 ·refine .inr ⟨by simpa[inM] using h1,?_⟩;unfold inM;omega
def inM_at{at_:Int}:∀ {ms:List TwD} {i:Nat},(∀ m∈ms,0≤m.1∧m.1≤m.2.1∧m.2.1≤500)→0≤idxB (inP at_) ms i→0≤at_∧at_≤500
 |[],i,_,h=>by simp[idxB] at h
 |m::r,i,hm,h=>by
  simp only[idxB] at h;by_cases e:inP at_ m=true
  ·have:=hm m yyh;unfold inP at e;by_cases e1:m.1≤at_
   ·by_cases e2:at_≤m.2.1
    ·omega
    ·simp[e1,e2] at e
   ·simp[e1] at e
  ·rw[if_neg e] at h;exact inM_at (fun x hx=>hm x (yyj _ hx)) h
def tth(ms:List TwD)(at_ sp:Int):Nat→Option Nat
 |0=>some 0
 |t+1=>match tth ms at_ sp t with
  |none=>none
  |some o=>if inM ms (at_+(t:Int)*sp)<0 then none else some (o ||| 2 ^ (inM ms (at_+(t:Int)*sp)).toNat)
def q92{ms:List TwD}{at_ sp:Int}{t:Nat}(h:tth ms at_ sp t=none):∀ k,tth ms at_ sp (t+k)=none
 |0=>h
 |k+1=>by show(match tth ms at_ sp (t+k) with|none=>none|some o=>_)=none;rw[q92 h k]
def z8a{ms:List TwD}(ha:ms.length≤12){at_ sp:Int}:∀ {t o:Nat},tth ms at_ sp t=some o→o<4096
 |0,o,h=>by injection h with h;omega
 |t+1,o,h=>by
  have h:(match tth ms at_ sp t with|none=>none|some o=>if inM ms (at_+(t:Int)*sp)<0 then none else some (o ||| 2 ^ (inM ms (at_+(t:Int)*sp)).toNat))=some o:=h;split at h
  ·cases h
  ·rename_i o' hb;split at h
   ·cases h
   ·rename_i hn;injection h with h
    subst h;have:=inM_bd ha (at_+(t:Int)*sp);exact Nat.or_lt_two_pow (n:=12) (z8a ha hb) (Nat.pow_lt_pow_right (by decide) (by omega))
def mkM(cs ms:List TwD)(r:TwD):Nat:=if inM ms r.2.1<0 then 0 else(tth ms r.2.1 (cs.getD r.1.toNat (0,0,())).1 (cs.getD r.1.toNat (0,0,())).2.1.toNat).getD 0
def z9k(n:Nat):((1:Int)*2 ^ n).toNat=2 ^ n:=by
 rw[Int.one_mul];have:((2:Int) ^ n)=((2 ^ n:Nat):Int):=by push_cast;rfl
 rw[this,Int.toNat_natCast]
set_option maxHeartbeats 2000000 in
set_option maxRecDepth 20000 in
def fn26(hs:okSh cs ms)(r:TwD)(hr:0≤r.1∧r.1<cs.length):Ox.Fn Tryz.prog 26 (.acons (vBd cs ms) (.acons (vTw r) .anil)) (·=vS64 (mkM cs ms r)):=by
 refine zI Tryz.func26 rfl Tryz.call26 rfl fun E M0 up=>?_;have c355:=fun at_=>fn56 cs ms at_;have he:=hs.m12
 (repeat (first|refine zs rfl ?_|refine zc rfl (c355 r.2.1) rfl rfl ?_))
 refine q9 rfl (fun hc=>?_) (fun hc=>?_)
 ·have hc:decide (inM ms r.2.1<0)=true:=hc;refine zK0 ?_;refine zR rfl trivial ?_;unfold mkM;rw[if_pos (of_decide_eq_true hc)];rfl
 have hc:decide (inM ms r.2.1<0)=false:=hc;have hc:=of_decide_eq_false hc;have hj:=inM_at (at_:=r.2.1) (i:=0) hs.mo (by unfold inM at hc;omega);have hg:mkM cs ms r=(tth ms r.2.1 (cs.getD r.1.toNat (0,0,())).1 (cs.getD r.1.toNat (0,0,())).2.1.toNat).getD 0:=if_neg hc;have hh:=hs.co (cs.getD r.1.toNat (0,0,())) (by rw[w8 cs (by omega)];exact yy4 (by omega));rw[hg];clear hg hc;refine zK2 ?_;refine g9 xk (Tryz.f26.body.getD .skip) ⟨[(3,.lf (.optr 0 [])),(4,.val (.int .u64) 0),(5,.val (.int .u64) 0),(6,.fn 56 (.acons (vBd cs ms) .anil) .anil),(7,.lf (.optr 1 []))],[(0,.cell twT (vTw r)),(1,.cell twT (vTw (cs.getD r.1.toNat (0,0,()))))],2⟩ rfl 11 rfl ?_ ?_
 ·(refine q7 0 xk rfl rfl (q7 1 xk rfl rfl ?_);refine JF.FldP 2 brd rfl rfl ?_;refine q7 3 xk rfl rfl (q7 5 xk rfl rfl (z6 4 xk rfl rfl (z6 6 xk rfl rfl (z6 7 xk rfl rfl (z6 8 xk rfl rfl (zU 9 xk rfl rfl ?_))))));(refine q19 xk rfl rfl ?_);refine q8 ?_;refine zU 10 xk rfl rfl ?_;refine zK3 ?_;refine q8 ?_;refine v7 xk StF.nil ?_;(exact zJ))
 generalize cs.getD r.1.toNat (0,0,())=c at hh ⊢;obtain⟨⟨s1,s50⟩,t2,t20⟩:=hh;obtain⟨sp,te,u⟩:=c;dsimp only at s1 s50 t2 t20 ⊢;obtain⟨rc,ra,ru⟩:=r;dsimp only at hj hr ⊢;obtain⟨T,rfl⟩:∃ T:Nat,te=(T:Int):=⟨te.toNat,by omega⟩;rw[Int.toNat_natCast];refine zK0 ?_;refine JK.loop (σ:=Nat×Nat) (fun q=>⟨[(3,.lf (.optr 0 [])),(4,.val (.int .u64) 0),(5,vS64 q.2),(6,.fn 56 (.acons (vBd cs ms) .anil) .anil),(7,.lf (.optr 1 [])),(27,vI (T:Int)),(28,vI (q.1:Int))],[(0,.cell twT (vTw (rc,ra,ru))),(1,.cell twT (vTw (sp,(T:Int),u)))],2⟩) (fun q=>q.1≤T∧tth ms ra sp q.1=some q.2) (fun q=>T-q.1) (0,0) ⟨yyw _,rfl⟩ (by exact zJ) fun⟨t,o⟩ ⟨ht,ha⟩=>?_;dsimp only at ht ha ⊢;have ho:=z8a he ha;refine zK0 ?_;refine q9 rfl (fun hc=>?_) (fun hc=>?_)
 ·replace hc:=zC hc;have hu:t<T:=by omega
  have hv:0≤(t:Int)*sp:=Int.mul_nonneg (by omega) (by omega);have hw:(t:Int)*sp≤1000:=by have h1:(t:Int)*sp≤(t:Int)*50:=Int.mul_le_mul_of_nonneg_left s50 (by omega);omega
  have hst:tth ms ra sp (t+1)=if inM ms (ra+(t:Int)*sp)<0 then none else some (o ||| 2 ^ (inM ms (ra+(t:Int)*sp)).toNat):=by show(match tth ms ra sp t with|none=>none|some o=>_)=_;rw[ha]
  have hb:=inM_bd he (ra+(t:Int)*sp);have c355:=c355 (ra+(t:Int)*sp);generalize inM ms (ra+(t:Int)*sp)=m at hst hb c355
  (repeat (first|refine zs rfl ?_|refine zc rfl (c355) rfl rfl ?_))
  refine q9 rfl (fun hd=>?_) (fun hd=>?_)
  ·have hd:decide (m<0)=true:=hd;rw[if_pos (of_decide_eq_true hd)] at hst;have:=q92 hst (T-(t+1));rw[show t+1+(T-(t+1))=T by omega] at this;rw[this];refine zK0 ?_;refine zR rfl trivial ?_;rfl
  ·have hd:decide (m<0)=false:=hd;have hd:=of_decide_eq_false hd;rw[if_neg hd] at hst;have hb:0≤m∧m<12:=by omega
   obtain⟨k,rfl⟩:∃ k:Nat,m=(k:Int):=⟨m.toNat,by omega⟩;rw[Int.toNat_natCast] at hst;have hk:1≤(2:Int) ^ k∧(2:Int) ^ k≤4096:=by
    have h1:2 ^ k≤2 ^ 12:=yxg (by decide) (by omega);have h2:1≤2 ^ k:=Nat.one_le_two_pow;have e:(2:Int) ^ k=((2 ^ k:Nat):Int):=by push_cast;rfl
    rw[e];omega
   have hy:1≤(2:Int) ^ (Int.toNat (k:Int))∧(2:Int) ^ (Int.toNat (k:Int))≤4096:=by rw[Int.toNat_natCast];exact hk
   refine zK0 ?_;refine⟨(t+1,o ||| 2 ^ k),?_,⟨by omega,hst⟩,by dsimp only;omega⟩;dsimp only;have e:((o ||| 2 ^ k:Nat):Int)=((((o:Nat):Int).toNat ||| ((1:Int)*2 ^ (Int.toNat (k:Int))).toNat:Nat):Int):=by rw[Int.toNat_natCast,Int.toNat_natCast,z9k]
   rw[show vS64 (o ||| 2 ^ k)=AV.val (.int .u64) ((((o:Nat):Int).toNat ||| ((1:Int)*2 ^ (Int.toNat (k:Int))).toNat:Nat):Int) by rw[← e]];exact zJ
 ·replace hc:=zC hc;have:t=T:=by omega
  subst this;rw[ha];refine zK0 ?_;refine zR rfl trivial ?_;rfl
def o9{α:Type}{p:α→Bool}:∀ {xs:List α} {i:Nat},(0≤idxB p xs i)↔xs.any p=true
 |[],i=>by simp[idxB]
 |x::r,i=>by
  simp only[idxB,List.any_cons,yyy];by_cases h:p x=true
  ·simp[h]
  ·rw[if_neg h,o9];simp[h]
variable{t1 t2:Ty}
def fn138{x1:t1.den}{x2:t2.den}(xs:List Int)(p:Int→Bool)(h:∀ x∈xs,Ox.Fn Tryz.prog f (.acons (vI x) (.acons (.val t1 x1) (.acons (.val t2 x2) .anil))) (·=vB (p x))) :
  Ox.Fn Tryz.prog 138 (.acons (vL xs) (.acons (.fn f .anil (.acons (.val t1 x1) (.acons (.val t2 x2) .anil))) .anil)) (·=vI (idxB p xs 0)):=by
 refine zI Tryz.func138 rfl Tryz.call138 rfl fun E M0 up=>?_;refine JK.lenOf 0 rfl fun hb=>?_;replace hb:xs.length≤9223372036854775807:=hb.1;refine zK0 ?_;refine JK.loop (fun i:Nat=>⟨[(0,vL xs),(1,.fn f .anil (.acons (.val t1 x1) (.acons (.val t2 x2) .anil))),(7,vI xs.length),(8,vI (i:Int))],[],0⟩) (fun i=>i≤xs.length∧idxB p xs 0=idxB p (xs.drop i) i) (fun i=>xs.length-i) 0 (by simp) (by exact zJ) fun i ⟨hi,hn⟩=>?_;refine zK0 ?_;refine q9 rfl (fun hc=>?_) (fun hc=>?_)
 ·replace hc:=zC hc;have ha:i<xs.length:=by omega
  have hx:=h (xs.getD i 0) (by rw[w8 xs ha];exact yy4 ha);refine zK4 ?_;refine q9 rfl (fun hd=>?_) (fun hd=>?_)
  ·refine zK0 ?_;refine zR rfl trivial ?_;rw[w8 xs ha] at hd;rw[hn,yxf ha,idxB,if_pos hd]
  ·refine zK0 ?_;rw[w8 xs ha] at hd;refine⟨i+1,by exact zJ,⟨by omega,?_⟩,by omega⟩;rw[hn,yxf ha,idxB,if_neg (by rw[hd];simp)]
 ·replace hc:=zC hc;refine zK0 ?_;refine zR rfl trivial ?_;obtain rfl:i=xs.length:=by omega
  rw[hn,List.drop_length];rfl
def fn66{x1:t1.den}{x2:t2.den}(xs:List Int)(p:Int→Bool)(h:∀ x∈xs,Ox.Fn Tryz.prog f (.acons (vI x) (.acons (.val t1 x1) (.acons (.val t2 x2) .anil))) (·=vB (p x))) :
  Ox.Fn Tryz.prog 66 (.acons (vL xs) (.acons (.fn f .anil (.acons (.val t1 x1) (.acons (.val t2 x2) .anil))) .anil)) (·=vB (xs.any p)):=by
 refine zI Tryz.func66 rfl Tryz.call66 rfl fun E M0 up=>?_
 (repeat (first|refine zs rfl ?_|refine n4 ?_|refine zc rfl (fn138 xs p h) rfl rfl ?_))
 refine zR rfl trivial ?_;refine congrArg vB ?_;rw[yxb,← o9 (p:=p) (i:=0)];simp
def fn67(x lo hi:Int):Ox.Fn Tryz.prog 67 (.acons (vI x) (.acons (pI lo) (.acons (pI hi) .anil))) (·=vB (decide (x<lo∨x>hi))):=by refine zI Tryz.func67 rfl Tryz.call67 rfl fun E M0 up=>?_;refine zK0 ?_;refine zR rfl trivial ?_;by_cases h:x<lo<;>simp[h]
def fn38(lo hi:Int)(xs:List Int):Ox.Fn Tryz.prog 38 (.acons (vI lo) (.acons (vI hi) (.acons (vL xs) .anil))) (·=vB (decide (∀ x∈xs,lo≤x∧x≤hi))):=by
 refine zI Tryz.func38 rfl Tryz.call38 rfl fun E M0 up=>?_
 (repeat (first|refine zs rfl ?_|refine n4 ?_|refine zc rfl (fn66 xs (fun x=>decide (x<lo∨x>hi)) (fun x _=>fn67 x lo hi)) rfl rfl ?_))
 refine zR rfl trivial ?_;refine congrArg vB ?_;rw[yxb];simp only[yyv,List.any_eq_false,yyu];refine⟨fun h x hx=>?_,fun h x hx=>?_⟩
 ·have:=h x hx;omega
 ·have:=h x hx;omega
def z39{b:Bool}(hb:b=true)(h:∀ x∈xs,lo≤x∧x≤hi):Ox.Fn Tryz.prog 38 (.acons (vI lo) (.acons (vI hi) (.acons (vL xs) .anil))) (·=vB b):=by have:=fn38 lo hi xs;rw[decide_eq_true h,← hb] at this;exact this
def fn177(xs:List TwD)(p:TwD→Bool)(h:∀ x∈xs,Ox.Fn Tryz.prog f (.acons (vTw x) .anil) (·=vB (p x))) :
  Ox.Fn Tryz.prog 177 (.acons (.val (.slice twT) xs) (.acons (.fn f .anil .anil) .anil)) (·=vI (idxB p xs 0)):=by
 refine zI Tryz.func177 rfl Tryz.call177 rfl fun E M0 up=>?_;refine JK.lenOf 0 rfl fun hb=>?_;replace hb:xs.length≤9223372036854775807:=hb.1;refine zK0 ?_;refine JK.loop (fun i:Nat=>⟨[(0,.val (.slice twT) xs),(1,.fn f .anil .anil),(7,vI xs.length),(8,vI (i:Int))],[],0⟩) (fun i=>i≤xs.length∧idxB p xs 0=idxB p (xs.drop i) i) (fun i=>xs.length-i) 0 (by simp) (by exact zJ) fun i ⟨hi,hn⟩=>?_;refine zK0 ?_;refine q9 rfl (fun hc=>?_) (fun hc=>?_)
 ·replace hc:=zC hc;have ha:i<xs.length:=by omega
  have hx:=h (xs.getD i (0,0,())) (by rw[w8 xs ha];exact yy4 ha);refine zK4 ?_;refine q9 rfl (fun hd=>?_) (fun hd=>?_)
  ·refine zK0 ?_;refine zR rfl trivial ?_;rw[w8 xs ha] at hd;rw[hn,yxf ha,idxB,if_pos hd]
  ·refine zK0 ?_;rw[w8 xs ha] at hd;refine⟨i+1,by exact zJ,⟨by omega,?_⟩,by omega⟩;rw[hn,yxf ha,idxB,if_neg (by rw[hd];simp)]
 ·replace hc:=zC hc;refine zK0 ?_;refine zR rfl trivial ?_;obtain rfl:i=xs.length:=by omega
  rw[hn,List.drop_length];rfl
def fn120(xs:List TwD)(p:TwD→Bool)(h:∀ x∈xs,Ox.Fn Tryz.prog f (.acons (vTw x) .anil) (·=vB (p x))) :
  Ox.Fn Tryz.prog 120 (.acons (.val (.slice twT) xs) (.acons (.fn f .anil .anil) .anil)) (·=vB (xs.any p)):=by
 refine zI Tryz.func120 rfl Tryz.call120 rfl fun E M0 up=>?_
 (repeat (first|refine zs rfl ?_|refine n4 ?_|refine zc rfl (fn177 xs p h) rfl rfl ?_))
 refine zR rfl trivial ?_;refine congrArg vB ?_;rw[yxb,← o9 (p:=p) (i:=0)];simp
def fn119(c:TwD)(h:(1≤c.1∧c.1≤50)∧2≤c.2.1∧c.2.1≤20):Ox.Fn Tryz.prog 119 (.acons (vTw c) .anil) (·=vB false):=by
 refine zI Tryz.func119 rfl Tryz.call119 rfl fun E M0 up=>?_;have c1:=z39 (b:=true) (lo:=1) (hi:=50) (xs:=[c.1]) rfl (by simp;omega);have c2:=z39 (b:=true) (lo:=2) (hi:=20) (xs:=[c.2.1]) rfl (by simp;omega)
 (repeat (first|refine zt rfl rfl ?_|refine zs rfl ?_|refine n4 ?_|refine zc rfl (c1) rfl rfl ?_|refine zc rfl (c2) rfl rfl ?_))
 refine zR rfl trivial ?_;rfl
def okMk:List TwD→Int→Prop
 |[],_=>True
 |m::r,nx=>nx≤m.1∧m.1≤m.2.1∧m.2.1≤500∧m.2.1-m.1≤3∧okMk r (m.2.1+1)
def fn39(h:okMk ms 0)(hd:ms.length≤12):Ox.Fn Tryz.prog 39 (.acons (.val (.slice twT) ms) .anil) (·=vI 0):=by
 refine zI Tryz.func39 rfl Tryz.call39 rfl fun E M0 up=>?_;refine zK0 ?_;refine JK.loop (σ:=Nat×Int) (fun q=>⟨[(3,vI q.2),(6,.val (.slice twT) ms),(7,vI ms.length),(8,vI (q.1:Int))],[],0⟩) (fun q=>q.1≤ms.length∧(0≤q.2∧q.2≤501)∧okMk (ms.drop q.1) q.2) (fun q=>ms.length-q.1) (0,0) ⟨yyw _,by decide,h⟩ (by exact zJ) fun⟨i,nx⟩ ⟨hi,hb,hn⟩=>?_;dsimp only at hi hb hn ⊢;refine zK0 ?_;refine q9 rfl (fun hc=>?_) (fun hc=>?_)
 ·replace hc:=zC hc;have ha:i<ms.length:=by omega
  rw[yxf ha] at hn;obtain⟨k1,k2,k3,k4,k5⟩:=hn;have e:ms.getD (Int.toNat (i:Int)) twT.dflt=ms[i]:=w8 ms ha _;rw[← e] at k1 k2 k3 k4 k5;have c1:=z39 (b:=true) (lo:=nx) (hi:=500) (xs:=[(ms.getD (Int.toNat (i:Int)) twT.dflt).1,(ms.getD (Int.toNat (i:Int)) twT.dflt).2.1]) rfl (fun x hx=>by simp only[yyk,yy9,or_false] at hx;rcases hx with rfl|rfl<;>omega);have c2:=z39 (b:=true) (lo:=0) (hi:=3) (xs:=[(ms.getD (Int.toNat (i:Int)) twT.dflt).2.1-(ms.getD (Int.toNat (i:Int)) twT.dflt).1]) rfl (fun x hx=>by rw[yyp.1 hx];omega)
  (repeat (first|refine zt rfl rfl ?_|refine zs rfl ?_|refine zc rfl (c1) rfl rfl ?_|refine zc rfl (c2) rfl rfl ?_))
  refine q9 rfl (fun h=>absurd h (by decide)) (fun _=>?_);refine zK0 ?_;exact⟨(i+1,(ms.getD (Int.toNat (i:Int)) twT.dflt).2.1+1),by exact zJ,⟨by omega,⟨by omega,by omega⟩,k5⟩,by dsimp only;omega⟩
 ·replace hc:=zC hc;refine zK0 ?_;refine zR rfl trivial ?_;rfl
structure okSt(cs ms:List TwD):Prop extends okSh cs ms where
 mks:okMk ms 0
def fn54(h:okSt cs ms):Ox.Fn Tryz.prog 54 (.acons (.val shT (mkS cs ms)) .anil) (·=vI 0):=by
 refine zI Tryz.func54 rfl Tryz.call54 rfl fun E M0 up=>?_;have h1:=h.c1;have h2:=h.c8;have h3:=h.m1;have h4:=h.m12;have c1:=z39 (b:=true) (lo:=1) (hi:=8) (xs:=[(cs.length:Int)]) rfl (by simp;omega);have c2:=z39 (b:=true) (lo:=1) (hi:=12) (xs:=[(ms.length:Int)]) rfl (by simp;omega);have c3:=fn120 (f:=119) cs (fun _=>false) fun x hx=>fn119 x (h.co x hx);have e3:(cs.any fun _=>false)=false:=by simp
 rw[e3] at c3;have c4:=fn39 h.mks h.m12
 (repeat (first|refine zt rfl rfl ?_|refine zs rfl ?_|refine zc rfl (c1) rfl rfl ?_|refine zc rfl (c2) rfl rfl ?_))
 refine q9 rfl (fun h=>absurd h (by decide)) (fun _=>?_)
 (repeat (first|refine zs rfl ?_|refine zc rfl (c3) rfl rfl ?_))
 refine q9 rfl (fun h=>absurd h (by decide)) (fun _=>?_)
 (repeat (first|refine zs rfl ?_|refine n4 ?_|refine zc rfl (c4) rfl rfl ?_))
 refine zR rfl trivial ?_;rfl
end Go.Proofs.YtjecebccchhmhaaGreatDoor.Cb
namespace Ox
open Go Go.RowKit
variable {X:Ctx}{s:S}{M:Mem}{ρ:Env}{a a':Act}{w w':World}{QA:Exit→S→Prop}{K:S→Prop}{ops all l:List Oper}{ls fl fr:List Nat}{fuel:Nat}{P:Program}
variable {L L':List (Nat×AV)}{H H':List (Nat×HO)}{nx nx' d:Nat}{ty:TypeId}{ps:String}{af:Array Edge}{c1 c2:List Prop}{x om ok ov:Operand}{t:TypeId}
def RdY(X:Ctx)(o:Oper)(s:S)(v:AV):Prop:=∀ M ρ a w,SAT X M ρ s w→REG X M ρ s a→v.bd s.nx∧∃ z,v.rv M ρ z∧(execOp a.eval o).run X.P w=.ok (.value z) w
variable{op:Op}{v:AV}
def j3c(i:Nat)(hf:ftB ops ls fl i d=true)(ho:ops[i]?=some ⟨some d,op,ty,ps,af,none⟩)(h:RdY X ⟨some d,op,ty,ps,af,none⟩ ⟨L,H,nx⟩ v)(hd:ltB d X.n=true)
  (k:JF X ops K (i::fl) fuel (i::ls) ⟨(d,v)::L,H,nx⟩):JF X ops K fl (fuel+1) ls ⟨L,H,nx⟩:=by
 intro M ρ a a' w l fr ha hh hl hp h1 h2;simp only[ftB,yyc,yyv] at hf;obtain⟨⟨hj,hg⟩,hk⟩:=hf;have hu:i∉fr:=fun hc=>by simp at hg;exact hg (ha i hc)
 obtain⟨hb,z,hz,_⟩:=h M ρ _ w h1 h2;have hv:PutsR ops (i::fr) a (a'.put (some d) z):=by refine⟨_,z,ho,PutsR.put (d:=some d) hp fun f hf o hw e he hy=>?_⟩;have:=yyx.1 hk f (ha f hf);rw[hw] at this;simp only[bne_iff_ne,ne_eq] at this;exact this (he.trans hy.symm)
 have:=k M ρ a (a'.put (some d) z) w l (i::fr) (fun f hf=>by
  rcases yyk.1 hf with e|e
  ·exact e▸yyh
  ·exact yyj _ (ha f e)) (yx4.2 ⟨hu,hh⟩) (hl.float hj) hv (z8 (d:=some d) (v:=v) h1) (h2.putO (d:=some d) (dstOk.spec (j9 hd)) hb hz)
 rw[show fuel+1+fr.length=fuel+(i::fr).length by simp;omega];exact this
def n3(i:Nat)(ho:ops[i]?=some ⟨some d,op,ty,ps,af,none⟩)(h:RdY X ⟨some d,op,ty,ps,af,none⟩ ⟨L,H,nx⟩ v)
  (k:JF X ops K (i::fl) fuel (i::ls) ⟨(d,v)::L,H,nx⟩) (hf:ftB ops ls fl i d=true:=by decide +kernel) (hd:ltB d X.n=true:=by rfl):JF X ops K fl (fuel+1) ls ⟨L,H,nx⟩:=j3c i hf ho h hd k
def x6{f:Nat}{r:List Nat}(ho:ops[f]?=some ⟨some d,op,ty,ps,af,none⟩)(h:RdY X ⟨some d,op,ty,ps,af,none⟩ s v)(hn:notDef op=true)(hl:lk s.L d=some v)(k:StF X ops s r)(hd:ltB d X.n=true:=by rfl):StF X ops s (f::r):=⟨⟨_,d,v,ho,rfl,hd,hn,hl,fun _ M ρ a w h1 h2=>let ⟨e1,z,e2,e3⟩:=h M ρ a w h1 h2;⟨e1,z,e2,.inl ⟨rfl,e3⟩⟩⟩,k⟩
def JL.rdY(h:RdY X ⟨some d,op,ty,ps,af,none⟩ s v)(hn:notDef op=true)(hd:ltB d X.n=true)(k:JL X true all QA l (putS (some d) v s)):JL X true all QA (⟨some d,op,ty,ps,af,none⟩::l) s:=q08 rfl hn (j9 hd) (v:=v) (s':=s) (fun M ρ a w h1 h2=>by obtain⟨e1,z,e2,e3⟩:=h M ρ a w h1 h2;exact⟨ρ,w,_,e3,Env.upTo.refl _ _,yyl _,rfl,h1,e1,.inl ⟨z,rfl,e2⟩⟩) k
structure Brd(P:Program)(t tm:TypeId):Prop where
 und:∃ f0 f1:Field,P.underlying t=some (.struct #[f0,f1])∧f0.offset=0∧f1.offset=2∧(∃ i,P.info? f0.type=some i∧i.size=2)∧∃ i,P.info? f1.type=some i∧i.size=1
 zero:∃ i z,P.info? t=some i∧i.zero=some (.agg z)∧z.size=3
 fld:faR P t (.p 0 0) 1=some (.p 0 2)
 map:∃ k e,P.underlying tm=some (.map k e)
def szB(P:Program)(t:TypeId)(n:Nat):Bool:=match P.info? t with|some i=>Nat.beq i.size n|none=>false
noncomputable def brdB(P:Program)(t tm:TypeId):Bool:=
 (match P.underlying t with
  |some (.struct fs)=>(match fs.toList with|[f0,f1]=>Nat.beq f0.offset 0&&Nat.beq f1.offset 2&&szB P f0.type 2&&szB P f1.type 1|_=>false)
  |_=>false) &&
 (match P.info? t with|some i=>(match i.zero with|some (.agg z)=>Nat.beq z.size 3|_=>false)|none=>false) &&
 (match faR P t (.p 0 0) 1 with|some v=>v.eqb (.p 0 2)|none=>false) &&
 (match P.underlying tm with|some (.map _ _)=>true|_=>false)
def szB_ok(h:szB P t n=true):∃ i,P.info? t=some i∧i.size=n:=by
 unfold szB at h;split at h
 ·rename_i i hi;exact⟨i,hi,yyg h⟩
 ·cases h
def Brd.of(h:brdB P t tm=true):Brd P t tm:=by
 unfold brdB at h;simp only[yyc] at h;obtain⟨⟨⟨h1,h2⟩,h3⟩,h4⟩:=h;refine⟨?_,?_,?_,?_⟩
 ·split at h1
  ·rename_i fs hu;split at h1
   ·rename_i f0 f1 hf;simp only[yyc] at h1;obtain⟨⟨⟨k0,k1⟩,k2⟩,k3⟩:=h1;refine⟨f0,f1,?_,yyg k0,yyg k1,szB_ok k2,szB_ok k3⟩;rw[hu,← Array.toArray_toList (xs:=fs),hf]
   ·cases h1
  ·cases h1
 ·split at h2
  ·rename_i i hi;split at h2
   ·rename_i z hz;exact⟨i,z,hi,hz,yyg h2⟩
   ·cases h2
  ·cases h2
 ·split at h3
  ·rename_i v hv;rw[hv,m9 h3]
  ·cases h3
 ·split at h4
  ·rename_i k e hk;exact⟨k,e,hk⟩
  ·cases h4
def arr3(z:Array α)(h:z.size=3):∃ a b c,z=#[a,b,c]:=by
 obtain⟨l⟩:=z
 match l,h with
 |[a,b,c],_=>exact⟨a,b,c,rfl⟩
def z3k(hB:Brd P t tm){x y:Value}(w:World):(Instr.build t #[(0,.agg #[x,y]),(1,.map (some b))]).run P w=.ok (.agg #[x,y,.map (some b)]) w:=by obtain⟨f0,f1,hu,o0,o1,⟨i0,q0,s0⟩,⟨i1,q1,s1⟩⟩:=hB.und;obtain⟨i,zz,hi,hz,hs⟩:=hB.zero;obtain⟨a,b',c,rfl⟩:=arr3 zz hs;simp[Instr.build,zeroValue,typeInfo,hi,hz,run_underlying hu,Go.sizeOf,q0,q1,s0,s1,o0,o1,Value.cells,Instr.fill]
abbrev mpT(A:Ty):Ty:=.cons A (.cons (.ptr .nil) .nil)
abbrev mpV(A:Ty)(y:A.den)(m:Nat):AV:=.mix (.val A y) (.mix (.lf (.mp m)) (.val .nil ()))
def mpV_conf(A:Ty)(y:A.den)(m:Nat):confB (mpT A) (mpV A y m)=true:=by simp[confB]
variable{A vt e:Ty}
def mpV_rc{y:A.den}{cs:List Value}:(mpV A y m).rc M ρ cs↔∃ c1,Rep M A y c1∧cs=c1++[.map (some (ρ.blk m))]:=by
 simp only[AV.rc,Leaf.at,yya,Rep];constructor
 ·rintro⟨c1,c2,h1,⟨d1,d2,⟨v,rfl,_,rfl⟩,rfl,rfl⟩,rfl⟩;exact⟨c1,h1,by simp⟩
 ·rintro⟨c1,h1,rfl⟩;exact⟨c1,_,h1,⟨_,[],⟨_,rfl,rfl,rfl⟩,rfl,rfl⟩,by simp⟩
def list2{l:List α}(h:l.length=2):∃ a b,l=[a,b]:=by
 match l,h with
 |[a,b],_=>exact⟨a,b,rfl⟩
def JL.bldM{y:A.den}(hB:Brd X.P t tm)(hA:A.agg=true)(hs:A.size=2)(h0:opd L x0=some (c1,.val A y))(h1:opd L x1=some (c2,.lf (.mp m)))(hc:allP c1)(ha:allP c2)(hd:ltB d X.n=true)
  (k:JL X true all QA l ⟨(d,mpV A y m)::L,H,nx⟩):JL X true all QA (⟨some d,.build t #[(0,x0),(1,x1)],ty,ps,af,none⟩::l) ⟨L,H,nx⟩:=by
 refine q08 rfl rfl (j9 hd) (v:=mpV A y m) (s':=⟨L,H,nx⟩) (fun M ρ a w e1 e2=>?_) k;obtain⟨cs,hr,he⟩:=o8 h0 hc e2;have hm:=q2t h1 ha e2;have hb:=(z5 (s:=⟨L,H,nx⟩) h1 ha e2).1;rw[y4 hA] at he;obtain⟨u,v,rfl⟩:=list2 ((Rep.length hr).trans hs);refine⟨ρ,w,.value (.agg #[u,v,.map (some (ρ.blk m))]),?_,Env.upTo.refl _ _,yyl _,rfl,e1,⟨trivial,hb,trivial⟩,.inl ⟨_,rfl,?_⟩⟩
 ·have:=z3k (b:=ρ.blk m) hB (x:=u) (y:=v) w;simp only[execOp,List.map_toArray,yy0,List.map_nil,he,hm,yye,this,yyb,yyf]
 ·have:(mpV A y m).rc M ρ ([u,v]++[.map (some (ρ.blk m))]):=mpV_rc.2 ⟨[u,v],hr,rfl⟩;simp only[AV.rc,AV.rv] at this ⊢;obtain⟨d1,d2,k1,k2,k3⟩:=this;exact⟨d1,d2,k1,k2,by rw[← k3];rfl⟩
def JL.boxM{y:A.den}(h0:opd L x=some (c1,mpV A y m))(hc:allP c1)(hd:ltB d X.n=true)
  (k:JL X true all QA l ⟨(d,.lf (.optr nx []))::L,(nx,.cell (mpT A) (mpV A y m))::H,nx+1⟩):JL X true all QA (⟨some d,.box t x,ty,ps,af,none⟩::l) ⟨L,H,nx⟩:=by
 refine q08 rfl rfl (j9 hd) (v:=.lf (.optr nx [])) (s':=⟨L,(nx,.cell (mpT A) (mpV A y m))::H,nx+1⟩) (fun M ρ a w e1 e2=>?_) k;obtain⟨hb,hr⟩:=z5 (s:=⟨L,H,nx⟩) h0 hc e2;simp only[mpV,AV.rv] at hr;obtain⟨d1,d2,k1,k2,k3⟩:=hr;have ha:(mpV A y m).rc M ρ (d1++d2):=by rw[AV.rc];exact⟨d1,d2,k1,k2,rfl⟩
 refine z02 (s:=⟨L,H,nx⟩) (cs:=d1++d2) (id:=t) e1 (mpV_conf A y m) hb ha ?_;simp only[execOp,Instr.box,yye,newVar,newRow,run_newObj,yyb,yyf,k3];rfl
def own_mp(h1:SAT X M ρ s w){y:A.den}(hl:lk s.H lm=some (.cell (mpT A) (mpV A y m))):ρ.ty lm=mpT A∧∃ c ty c1,w.heap[ρ.blk lm]?=some (.cells c ty (0,0))∧Rep M A y c1∧c.toList=c1++[.map (some (ρ.blk m))]:=by obtain⟨e1,_,_,c,ty,e2,e3⟩:=x9 h1 hl;obtain⟨c1,q1,q2⟩:=mpV_rc.1 e3;exact⟨e1,c,ty,c1,e2,q1,q2⟩
def z5b(m:Nat):∀ (ms:List MapEntry) (i:Nat),(∀ e∈ms,∃ k:Nat,e.key=.int .u64 (k:Nat)) →
  (Instr.findNow (.int .u64) (.int .u64 (m:Nat)) ms i=some none∧∀ e∈ms,e.key≠.int .u64 (m:Nat)) ∨
  ∃ j e,ms[j]?=some e∧e.key=.int .u64 (m:Nat)∧Instr.findNow (.int .u64) (.int .u64 (m:Nat)) ms i=some (some (i+j,e.val))
 |[],i,_=>.inl ⟨rfl,fun e he=>by cases he⟩
 |x::r,i,h=>by
  obtain⟨k,hk⟩:=h x yyh;by_cases e:m=k
  ·subst e;refine .inr ⟨0,x,rfl,hk,?_⟩;simp[Instr.findNow,Instr.sameNow,hk]
  ·have he:((m:Int)==(k:Int))=false:=by simp;omega
   rcases z5b m r (i+1) (fun e he=>h e (yyj _ he)) with⟨h1,h2⟩|⟨j,y,h1,h2,h3⟩
   ·refine .inl ⟨?_,fun y hy=>?_⟩
    ·simp only[Instr.findNow,hk,Instr.sameNow,if_true,he];exact h1
    ·rcases yyk.1 hy with rfl|hy
     ·rw[hk];intro hq;injection hq with _ hq;omega
     ·exact h2 y hy
   ·refine .inr ⟨j+1,y,h1,h2,?_⟩;simp only[Instr.findNow,hk,Instr.sameNow,if_true,he];rw[h3];congr 3;omega
def z5l(hT:MapT P (.int .u64) vt t kid vid)(m:Nat)(ms:List MapEntry)(h:∀ e∈ms,∃ k:Nat,e.key=.int .u64 (k:Nat))(w:World) :
  ((Instr.findKey kid (.int .u64 (m:Nat)) ms).run P w=.ok none w∧∀ e∈ms,e.key≠.int .u64 (m:Nat)) ∨
  ∃ j e,ms[j]?=some e∧e.key=.int .u64 (m:Nat)∧(Instr.findKey kid (.int .u64 (m:Nat)) ms).run P w=.ok (some (j,e.val)) w:=by
 have hu:P.underlying kid=some (.int .u64):=hT.key.ty.under;unfold Instr.findKey;rcases z5b m ms 0 h with⟨h1,h2⟩|⟨j,e,h1,h2,h3⟩
 ·exact .inl ⟨by simp[run_underlying hu,h1],h2⟩
 ·exact .inr ⟨j,e,h1,h2,by simp[run_underlying hu,h3]⟩
def j0o(hT:MapT P (.int .u64) vt t kid vid)(em:Bool)(m:Nat)(w:World):(Instr.checkKey em 10000 kid (.int .u64 (m:Nat))).run P w=.ok () w:=q2e (M:=fun _=>none) hT.key (x:=(m:Int)) (cx:=[.int .u64 (m:Nat)]) (by simp only[Rep]) em w
variable{f:Nat→Nat}
def z0f(h1:SAT X M ρ s w){n c m:Nat}(hl:lk s.H m=some (.mrow f n c)):∃ ms clk,w.heap[ρ.blk m]?=some (.map ms clk)∧ms.size≤c∧(∀ e∈ms,∃ k,k<n∧e.key=.int .u64 (k:Nat)∧e.val=ρ.sv (f k)) ∧
   (∀ k,k<n→(∀ e∈ms,e.key≠.int .u64 (k:Nat))→ρ.sv (f k)=.slice none 0 0)∧(∀ i j,∀ (hi:i<ms.size) (hj:j<ms.size),ms[i].key=ms[j].key→i=j)∧∀ e∈ms,e.born<clk:=(x9 h1 hl).2
def z9i(hu:opd L ok=some (c2,.val (.int .u64) (m:Int)))(hc:allP c2)(h2:REG X M ρ ⟨L,H,nx⟩ a):a.eval ok=.int .u64 (m:Nat):=by obtain⟨cs,h,e⟩:=o8 hu hc h2;simp only[Rep] at h;subst h;exact e
def q13{n c m lm:Nat}{xs:List e.den}(hT:MapT X.P (.int .u64) (.slice e) t kid vid)(hu:opd L om=some (c1,.lf (.mp lm)))(hl:lk H lm=some (.mrow f n c))(hv:opd L ok=some (c2,.val (.int .u64) (m:Int)))
  (hm:m<n) (hr:lk H (f m)=some (.sl eid e xs)) (hc:allP c1) (hg:allP c2):RdY X ⟨some d,.lookup t om ok false,ty,ps,af,none⟩ ⟨L,H,nx⟩ (.lf (.osl (f m))):=by
 intro M ρ a w h1 h2;obtain⟨ms,clk,e1,_,e3,e4,_⟩:=z0f (s:=⟨L,H,nx⟩) h1 hl;have hb:=x9 (s:=⟨L,H,nx⟩) h1 hr;have hd:(ρ.sv (f m)).oneCell'=true:=by obtain⟨_,cs,ho,_⟩:=hb;rcases ho.2 with⟨q,_⟩|⟨g,cap,cur,q,_⟩<;>rw[q]<;>rfl
 have ha:∀ e∈ms.toList,∃ k:Nat,e.key=.int .u64 (k:Nat):=fun e he=>by obtain⟨k,_,q,_⟩:=e3 e (by simpa using he);exact⟨k,q⟩
 refine⟨(h1.own _ _ hr).1,ρ.sv (f m),w9.2 ⟨rfl,hd⟩,?_⟩;have key:(Instr.lookup t (.map (some (ρ.blk lm))) (.int .u64 (m:Nat)) false).run X.P w=.ok (ρ.sv (f m)) w:=by
  unfold Instr.lookup;simp only[yye,run_underlying hT.under,yyb,MapKept.run_getObj_map e1,yyf,j0o hT];rcases z5l hT m ms.toList ha w with⟨q1,q2⟩|⟨j,en,q1,q2,q3⟩
  ·have hz:ρ.sv (f m)=.slice none 0 0:=e4 m hm fun e he=>q2 e (by simpa using he);rw[hz];simp[q1,q91 hT.val];rfl
  ·obtain⟨k,_,k2,k3⟩:=e3 en (by have:=List.mem_of_getElem? q1;simpa using this);have:k=m:=by rw[q2] at k2;injection k2 with _ k2;omega
   subst this;simp[q3,k3]
 simp only[execOp,q2t hu hc h2,z9i hv hg h2,yye,key,yyb,yyf]
variable {c3:List Prop}
def j21{q:Nat}{xs ys:List e.den}{y:Operand}{vy:AV}(hX:XOK X)(hT:lk X.T t=some (.slice e))(hE:lk X.ET t=some eid)(ha:0<e.size)(hu:opd L x=some (c1,.lf (.osl q)))(hl:lk H q=some (.sl eid e xs))
  (hv:opd L y=some (c2,vy)) (hg:srcK e H vy (fun cs q=>some (cs,q))=some (c3,ys)) (hA:xs.length+ys.length≤100000000) (hc:allP c1) (hB:allP c2) (hC:allP c3) (hd:ltB d X.n=true) (hH:∀ l o,lk H' l=some o→l≠q∧lk H l=some o)
  (k:JL X true all QA l ⟨(d,.lf (.osl nx))::L,(nx,.sl eid e (xs++ys))::H',nx+1⟩) :
  JL X true all QA (⟨some d,.call {callee:=.builtin .append,args:=⟨[x,y]⟩,argTypes:=⟨[t,t]⟩},ty,ps,af,none⟩::l) ⟨L,H,nx⟩:=by
 refine q08 rfl rfl (j9 hd) (v:=.lf (.osl nx)) (s':=⟨L,(nx,.sl eid e (xs++ys))::H',nx+1⟩) (fun M ρ a w h1 h2=>?_) k;have eu:=(z5 (s:=⟨L,H,nx⟩) hu hc h2).2;have ev:=z5 (s:=⟨L,H,nx⟩) hv hB h2;obtain⟨cs',ys',hk,hs⟩:=q3r h1 hg ev.2;simp only[yya,yyn] at hk;obtain⟨rfl,rfl⟩:=hk;obtain⟨ad,scap,news,k1,k2,k3,k4⟩:=hs hC;have ht:=hX.t _ _ hT;rw[TyOf] at ht;obtain⟨eid2,hw,he⟩:=ht;have hh:eid2=eid:=by have q1:=hX.e _ _ hE;rw[hw.under] at q1;injection q1 with q1;injection q1
 subst hh;rw[w9] at eu;simp only[Leaf.at,yya] at eu;obtain⟨_,cs0,hj,hD⟩:=x9 (s:=⟨L,H,nx⟩) h1 hl;have hF:=h1.below.size;obtain⟨v',w',r1,r2,r3,r4⟩:=q2x (ty:=ty) hw.under he ha hj k2.1 k3 k2.one (fun h=>⟨(k4 h).1,by rw[(k4 h).2];rfl⟩) hA hF;have hy:(HO.sl eid2 e xs).at ρ q=(ρ.sv q).ownBlock:=rfl;refine q44 (s:=⟨L,H,nx⟩) (xs:=xs++ys') h1 r3 (fun b hb=>h1.row hl b (by rw[hy];exact hb)) ?_ (by rw[yyz];exact r2) (hD.append k2) ?_ (r:=_) ?_
 ·intro m o hm;obtain⟨h3,h4⟩:=hH m o hm;exact⟨h4,fun b hb hr=>h3 (h1.apart q m _ o b hl h4 (by rw[hy];exact hr) hb).symm⟩
 ·intro b hb;rcases r4 with r4|r4
  ·exact .inl (by rw[← r4];exact hb)
  ·rw[hb] at r4;injection r4 with r4;exact .inr (by omega)
 ·simp only[execOp,resolve,invoke,builtin,yye,yyf,yyb,List.map_toArray,yy0,List.map_nil,← eu.1,k1,r1]
def j2s{f f':Nat→Nat}{n c m j lm:Nat}(hT:MapT X.P (.int .u64) (.slice e) t kid vid)(hu:opd L om=some (c1,.lf (.mp lm)))(hl:lk H lm=some (.mrow f n c))(hv:opd L ok=some (c2,.val (.int .u64) (m:Int)))
  (hy:opd L ov=some (c3,.lf (.osl j))) (hm:m<n) (hf:∀ k,f' k=if k=m then j else f k) (hc:allP c1) (hC:allP c2) (hD:allP c3)
  (k:JL X true all QA l ⟨L,updH H lm (.mrow f' n (c+1)),nx⟩):JL X true all QA (⟨none,.mapUpdate t om ok ov,ty,ps,af,none⟩::l) ⟨L,H,nx⟩:=by
 refine q08 rfl rfl trivial (v:=.undef) (s':=⟨L,updH H lm (.mrow f' n (c+1)),nx⟩) (fun M ρ a w h1 h2=>?_) k;obtain⟨ms,clk,e1,e2,e3,e4,e5,e6⟩:=z0f (s:=⟨L,H,nx⟩) h1 hl;obtain⟨hF,ej⟩:=z5 (s:=⟨L,H,nx⟩) hy hD h2;have ej:=(w9.1 ej).1;simp only[Leaf.at,yya] at ej;have hG:=(yyi.1 e1).1;have hw:∀ i,i<n→f i<nx:=(h1.own _ _ hl).2.1;have hE:=(x9 (s:=⟨L,H,nx⟩) h1 hl).1;have hb:∀ e∈ms.toList,∃ k:Nat,e.key=.int .u64 (k:Nat):=fun e he=>by obtain⟨k,_,q,_⟩:=e3 e (by simpa using he);exact⟨k,q⟩
 have hd:∀ (ms':Array MapEntry) (clk':Nat),ms'.size≤c+1→(∀ e∈ms',∃ k,k<n∧e.key=.int .u64 (k:Nat)∧e.val=ρ.sv (f' k))→(∀ k,k<n→(∀ e∈ms',e.key≠.int .u64 (k:Nat))→ρ.sv (f' k)=.slice none 0 0) →
   (∀ i j,∀ (hi:i<ms'.size) (hj:j<ms'.size),ms'[i].key=ms'[j].key→i=j)→(∀ e∈ms',e.born<clk')→SAT X M ρ ⟨L,updH H lm (.mrow f' n (c+1)),nx⟩ (ChangeMaps.setBlock w (ρ.blk lm) (.map ms' clk')):=by
  intro ms' clk' q1 q2 q3 q4 q5;refine SAT.upd (s:=⟨L,H,nx⟩) h1 hl ⟨rfl,rfl,rfl,by simp[ChangeMaps.setBlock],fun k hk hH=>?_⟩ rfl (fun i hi=>?_) ?_
  ·simp only[ChangeMaps.setBlock];rw[yxs];exact fun h=>hH (by rw[← h];rfl)
  ·rw[hf];split
   ·exact hF
   ·exact hw i hi
  ·simp only[HO.ok];refine⟨hE,ms',clk',?_,q1,q2,q3,q4,q5⟩;simp only[ChangeMaps.setBlock];rw[yxq hG]
 have run:∀ ms' clk',(Instr.mapUpdate t (.map (some (ρ.blk lm))) (.int .u64 (m:Nat)) (ρ.sv j)).run X.P w=.ok () (ChangeMaps.setBlock w (ρ.blk lm) (.map ms' clk'))→SAT X M ρ ⟨L,updH H lm (.mrow f' n (c+1)),nx⟩ (ChangeMaps.setBlock w (ρ.blk lm) (.map ms' clk')) →
   Did X M ρ ⟨L,H,nx⟩ .undef ⟨L,updH H lm (.mrow f' n (c+1)),nx⟩ ((execOp a.eval ⟨none,.mapUpdate t om ok ov,ty,ps,af,none⟩).run X.P w):=by
  intro ms' clk' hr hs;refine⟨ρ,_,_,?_,Env.upTo.refl _ _,yyl _,rfl,hs,trivial,.inr ⟨rfl,rfl⟩⟩;simp only[execOp,q2t hu hc h2,z9i hv hC h2,← ej,yye,hr,yyb,yyf]
 have hB:f' m=j:=by rw[hf,if_pos rfl]
 rcases z5l hT m ms.toList hb w with⟨q1,q2⟩|⟨i,en,q1,q2,q3⟩
 ·
  have hA:∀ e∈ms,e.key≠.int .u64 (m:Nat):=fun e he=>q2 e (by simpa using he);refine run (ms.push ⟨.int .u64 (m:Nat),ρ.sv j,clk⟩) (clk+1) ?_ (hd _ _ (by simp;omega) (fun e he=>?_) (fun k hk he=>?_) (fun i i' hi hJ he=>?_) (fun e he=>?_))
  ·unfold Instr.mapUpdate;simp only[yye,run_underlying hT.under,yyb,MapKept.run_getObj_map e1,j0o hT,q1,MapKept.run_setObj_map _ e1];rfl
  ·rcases Array.mem_push.1 he with he|rfl
   ·obtain⟨k,k1,k2,k3⟩:=e3 e he;have:k≠m:=fun h=>hA e he (by rw[k2,h]);exact⟨k,k1,k2,by rw[hf,if_neg this];exact k3⟩
   ·exact⟨m,hm,rfl,by rw[hB]⟩
  ·have:k≠m:=fun h=>he _ (Array.mem_push_self) (by rw[h]);rw[hf,if_neg this];exact e4 k hk fun e h=>he e (Array.mem_push_of_mem _ h)
  ·simp only[Array.size_push] at hi hJ;rw[Array.getElem_push,Array.getElem_push] at he;by_cases h:i<ms.size<;>by_cases h':i'<ms.size
   ·rw[dif_pos h,dif_pos h'] at he;exact e5 i i' h h' he
   ·rw[dif_pos h,dif_neg h'] at he;exact absurd he (hA _ (Array.getElem_mem h))
   ·rw[dif_neg h,dif_pos h'] at he;exact absurd he.symm (hA _ (Array.getElem_mem h'))
   ·omega
  ·rcases Array.mem_push.1 he with he|rfl
   ·exact Nat.lt_succ_of_lt (e6 e he)
   ·exact yy2 _
 ·
  have hi:i<ms.size:=by have:=(yy6.1 q1).1;simpa using this
  have hK:ms[i]=en:=by have:=(yy6.1 q1).2;simpa using this
  have hg:ms[i].key=.int .u64 (m:Nat):=by rw[hK];exact q2
  have ha:∀ q (h:q<(ms.modify i fun e=>{e with key:=.int .u64 (m:Nat),val:=ρ.sv j}).size),∃ h':q<ms.size,(ms.modify i fun e=>{e with key:=.int .u64 (m:Nat),val:=ρ.sv j})[q].key=ms[q].key ∧
    (q=i→(ms.modify i fun e=>{e with key:=.int .u64 (m:Nat),val:=ρ.sv j})[q].val=ρ.sv j)∧(q≠i→(ms.modify i fun e=>{e with key:=.int .u64 (m:Nat),val:=ρ.sv j})[q]=ms[q]):=by
   intro q h;refine⟨by simpa using h,?_⟩;rw[Array.getElem_modify];by_cases e:i=q
   ·subst e;simp only[if_true,hg,true_and,forall_const,ne_eq,not_true_eq_false,false_implies,and_self]
   ·rw[if_neg e];exact⟨rfl,fun h=>absurd h.symm e,fun _=>rfl⟩
  refine run (ms.modify i fun e=>{e with key:=.int .u64 (m:Nat),val:=ρ.sv j}) clk ?_ (hd _ _ (by simp;omega) (fun e he=>?_) (fun k hk he=>?_) (fun q q' h h' he=>?_) (fun e he=>?_))
  ·unfold Instr.mapUpdate;simp only[yye,run_underlying hT.under,yyb,MapKept.run_getObj_map e1,j0o hT,q3];have hst:(Instr.keyThatStays (((ms[i]?).map (·.key)).getD (.int .u64 (m:Nat))) (.int .u64 (m:Nat))).run X.P w=.ok (.int .u64 (m:Nat)) w:=by rw[Array.getElem?_eq_getElem hi];simp[Instr.keyThatStays,hg,Instr.sameBits]
   rw[hst];simp only[yyb,MapKept.run_setObj_map _ e1];rfl
  ·obtain⟨q,hq,rfl⟩:=Array.getElem_of_mem he;obtain⟨h',g1,g2,g3⟩:=ha q hq;by_cases e:q=i
   ·exact⟨m,hm,by rw[g1];subst e;exact hg,by rw[g2 e,hB]⟩
   ·rw[g3 e];obtain⟨k,k1,k2,k3⟩:=e3 _ (Array.getElem_mem h');have:k≠m:=fun h=>e (e5 q i h' hi (by rw[k2,hg,h]));exact⟨k,k1,k2,by rw[hf,if_neg this];exact k3⟩
  ·have hh:∀ q,q<ms.size→q<(ms.modify i fun e=>{e with key:=.int .u64 (m:Nat),val:=ρ.sv j}).size:=fun q h=>by simpa using h
   have hL:k≠m:=fun h=>by obtain⟨_,g1,_⟩:=ha i (hh i hi);exact he _ (Array.getElem_mem (hh i hi)) (by rw[g1,hg,h])
   rw[hf,if_neg hL];refine e4 k hk fun e h=>?_;obtain⟨q,hq,rfl⟩:=Array.getElem_of_mem h;obtain⟨_,g1,_⟩:=ha q (hh q hq);rw[← g1];exact he _ (Array.getElem_mem (hh q hq))
  ·obtain⟨hM,g1,_⟩:=ha q h;obtain⟨hN,g2,_⟩:=ha q' h';rw[g1,g2] at he;exact e5 q q' hM hN he
  ·obtain⟨q,hq,rfl⟩:=Array.getElem_of_mem he;have hP:q<ms.size:=by simpa using hq
   have:(ms.modify i fun e=>{e with key:=.int .u64 (m:Nat),val:=ρ.sv j})[q].born=ms[q].born:=by
    rw[Array.getElem_modify];split
    ·rename_i e1;subst e1;rfl
    ·rfl
   rw[this];exact e6 _ (Array.getElem_mem hP)
def rwH(eid:TypeId)(e:Ty)(b n:Nat)(g:Nat→List e.den):List (Nat×HO):=(List.range n).map fun k=>(b+k,.sl eid e (g k))
def z13{eid:TypeId}{e:Ty}{b l:Nat}{g:Nat→List e.den}:∀ {n:Nat},lk (rwH eid e b n g) l=if b≤l∧l<b+n then some (.sl eid e (g (l-b))) else none
 |0=>by rw[if_neg (by omega)];rfl
 |n+1=>by
  have:rwH eid e b (n+1) g=rwH eid e b n g++[(b+n,.sl eid e (g n))]:=by simp[rwH,List.range_succ]
  rw[this,q38,z13];by_cases h:b≤l∧l<b+n
  ·rw[if_pos h,if_pos (by omega)]
  ·rw[if_neg h];show(if b+n=l then some (HO.sl eid e (g n)) else none)=_;by_cases h2:b+n=l
   ·rw[if_pos h2,if_pos (by omega),show l-b=n by omega]
   ·rw[if_neg h2,if_neg (by omega)]
def rwD(eid:TypeId)(e:Ty)(b n m:Nat)(g:Nat→List e.den):List (Nat×HO):=(rwH eid e b n g).filter fun p=>p.1 != b+m
def z14{α:Type}{q d:Nat}:∀ {r:List (Nat×α)},lk (r.filter fun p=>p.1 != q) d=if d=q then none else lk r d
 |[]=>by split<;>rfl
 |(k,v)::r=>by
  have ih:=z14 (q:=q) (d:=d) (r:=r);by_cases h:k=q
  ·subst h;rw[yx8 (by simp),ih];by_cases h2:d=k
   ·rw[if_pos h2,if_pos h2]
   ·rw[if_neg h2,if_neg h2];show _=if k=d then some v else lk r d;rw[if_neg (fun h=>h2 h.symm)]
  ·rw[List.filter_cons_of_pos (by simp[h])];show(if k=d then some v else lk (r.filter fun p=>p.1 != q) d)=if d=q then none else if k=d then some v else lk r d;rw[ih];by_cases h2:k=d
   ·subst h2;rw[if_pos rfl,if_neg h,if_pos rfl]
   ·rw[if_neg h2,if_neg h2]
def z99{b l n m:Nat}{g:Nat→List e.den}:lk (rwD eid e b n m g) l=if b≤l∧l<b+n∧l≠b+m then some (.sl eid e (g (l-b))) else none:=by
 unfold rwD;rw[z14,z13];by_cases h:l=b+m
 ·rw[if_pos h,if_neg (by omega)]
 ·rw[if_neg h];by_cases h2:b≤l∧l<b+n
  ·rw[if_pos h2,if_pos ⟨h2.1,h2.2,h⟩]
  ·rw[if_neg h2,if_neg (by omega)]
def JW.ofP(f:Nat→Nat)(hL:covL f L' s.L)(hH:∀ l o,lk H' l=some o→lk s.H (f l)=some (o.ren f))(hg:bdL nx' L')(hh:∀ l o,lk H' l=some o→l<nx'∧o.bd nx')
  (hi:∀ l l' o o',lk H' l=some o→lk H' l'=some o'→f l=f l'→l=l'):JW X ⟨L',H',nx'⟩ s:=by
 intro M ρ a w h1 h2;refine⟨ρ.via f,⟨h1.below,h1.msub,h1.mnew,h1.mem,fun l o hl=>?_,fun l l' o o' b hl ha hb he=>?_,fun l o b hl hb=>?_⟩,⟨h2.size,h2.defers,fun d v hd=>?_⟩⟩
 ·have e:=hh l o hl;exact⟨e.1,e.2,q3o (h1.own _ _ (hH l o hl)).2.2⟩
 ·rw[q0h] at hb he;exact hi l l' o o' hl ha (h1.apart _ _ _ _ b (hH l o hl) (hH l' o' ha) hb he)
 ·rw[q0h] at hb;exact h1.notM _ _ b (hH l o hl) hb
 ·have e:=q8q hL d v (w5 hd);exact⟨q1i hg d v (w5 hd),q35 M ρ f v _ (h2.reg _ _ e).2⟩
def rnB(b n m j l:Nat):Nat:=bif Nat.ble b l&&Nat.blt l (b+n) then(if l=b+m then j else l) else l
def outB(b n j:Nat)(r:List (Nat×HO)):Bool:=r.all fun p=>!(Nat.ble b p.1&&Nat.blt p.1 (b+n))&&!(Nat.beq p.1 j)
def z0c{b n m j l:Nat}(h:¬ (b≤l∧l<b+n)):rnB b n m j l=l:=by
 unfold rnB;have:(Nat.ble b l&&Nat.blt l (b+n))=false:=by rw[Bool.eq_false_iff];intro hc;simp only[yyc,Nat.ble_eq,Nat.blt_eq] at hc;exact h hc
 rw[this];rfl
def z8w{b n m j l:Nat}(h:b≤l∧l<b+n):rnB b n m j l=if l=b+m then j else l:=by
 unfold rnB;have:(Nat.ble b l&&Nat.blt l (b+n))=true:=by simp only[yyc,Nat.ble_eq,Nat.blt_eq];exact h
 rw[this];rfl
def q5v{r:List (Nat×HO)}(h:outB b n j r=true){l:Nat}{o:HO}(hl:lk r l=some o):¬ (b≤l∧l<b+n)∧l≠j:=by
 have:=yyx.1 h _ (w5 hl);simp only[yyc,yyv] at this;refine⟨fun hc=>?_,fun e=>?_⟩
 ·have h2:=this.1;have h3:(Nat.ble b l&&Nat.blt l (b+n))=true:=by simp only[yyc,Nat.ble_eq,Nat.blt_eq];exact hc
  rw[h3] at h2;cases h2
 ·have h2:=this.2;subst e;have:Nat.beq l l=true:=Nat.beq_refl l;rw[this] at h2;cases h2
def j2p(b n m j:Nat){g':Nat→List e.den}{front:List (Nat×HO)}(hL:covL (rnB b n m j) L' s.L)(hF:covH (rnB b n m j) front s.H)(ha:bdL nx' L')(hb:bdH nx' front)
  (hi:injH (rnB b n m j) front=true) (ho:outB b n j front=true) (hn:b+n≤nx') (hj:j<b∨b+n≤j) (hr:∀ k,k<n→lk s.H (if k=m then j else b+k)=some (.sl eid e (g' k))):JW X ⟨L',front++rwH eid e b n g',nx'⟩ s:=by
 have spl:∀ l o,lk (front++rwH eid e b n g') l=some o→lk front l=some o∨((b≤l∧l<b+n)∧o=.sl eid e (g' (l-b))):=by
  intro l o hl;rw[q38,z13] at hl;cases hf:lk front l with
  |some o'=>rw[hf] at hl;exact .inl hl
  |none=>
   rw[hf] at hl;by_cases h:b≤l∧l<b+n
   ·rw[if_pos h] at hl;exact .inr ⟨h,by injection hl with hl;exact hl.symm⟩
   ·rw[if_neg h] at hl;cases hl
 have fin:∀ l,(b≤l∧l<b+n)→rnB b n m j l=if l-b=m then j else b+(l-b):=fun l h=>by
  rw[z8w h];by_cases h2:l=b+m
  ·rw[if_pos h2,if_pos (by omega)]
  ·rw[if_neg h2,if_neg (by omega)];omega
 refine JW.ofP (rnB b n m j) hL (fun l o hl=>?_) ha (fun l o hl=>?_) (fun l l' o o' hl hd e=>?_)
 ·rcases spl l o hl with h|⟨h,rfl⟩
  ·exact q58 hF l o (w5 h)
  ·rw[fin l h,hr (l-b) (by omega)];rfl
 ·rcases spl l o hl with h|⟨h,rfl⟩
  ·exact g8 hb l o (w5 h)
  ·exact⟨by omega,trivial⟩
 ·rcases spl l o hl with h|⟨h,rfl⟩<;>rcases spl l' o' hd with h'|⟨h',rfl⟩
  ·exact q51 hi l o l' o' (w5 h) (w5 h') e
  ·obtain⟨q1,q2⟩:=q5v ho h;rw[z0c q1,fin l' h'] at e;by_cases h3:l'-b=m
   ·rw[if_pos h3] at e;exact absurd e q2
   ·rw[if_neg h3] at e;omega
  ·obtain⟨q1,q2⟩:=q5v ho h';rw[z0c q1,fin l h] at e;by_cases h3:l-b=m
   ·rw[if_pos h3] at e;exact absurd e.symm q2
   ·rw[if_neg h3] at e;omega
  ·rw[fin l h,fin l' h'] at e;by_cases h3:l-b=m<;>by_cases h4:l'-b=m
   ·omega
   ·rw[if_pos h3,if_neg h4] at e;omega
   ·rw[if_neg h3,if_pos h4] at e;omega
   ·rw[if_neg h3,if_neg h4] at e;omega
def JL.makeR(f:Nat→Nat)(hd:ltB d X.n=true)(k:JL X true all QA l ⟨(d,.lf (.mp nx))::L,(nx,.mrow f 0 0)::H,nx+1⟩):JL X true all QA (⟨some d,.makeMap t none,ty,ps,af,none⟩::l) ⟨L,H,nx⟩:=by
 refine q08 rfl rfl (j9 hd) (v:=.lf (.mp nx)) (s':=⟨L,(nx,.mrow f 0 0)::H,nx+1⟩) (fun M ρ a w h1 h2=>?_) k;have hs:=h1.newOb (ob:=.map #[] 0) (o:=.mrow f 0 0) (fun _=>rfl) (fun i h=>absurd h (Nat.not_lt_zero _)) (by simp only[HO.ok,Env.with,if_true];exact⟨h1.below.size,#[],0,heap_alloc_new w _,yyl _,fun e he=>absurd he (by simp),fun k hk=>absurd hk (Nat.not_lt_zero _),fun i j hi=>absurd hi (Nat.not_lt_zero _),fun e he=>absurd he (by simp)⟩)
 refine⟨_,_,_,?_,j8 _ _ w.heap.size .nil Go.undef,yy5 _,rfl,hs,yy2 _,.inl ⟨.map (some w.heap.size),rfl,?_⟩⟩
 ·simp only[execOp,Instr.makeMap,Option.map_none,yye,run_newObj_alloc,yyb,yyf]
 ·rw[w9];simp[Leaf.at,Env.with,Value.oneCell']
def Env.nilsFrom(ρ:Env)(b:Nat)(e:Ty):Env:=⟨ρ.blk,fun k=>if b≤k then e else ρ.ty k,fun k=>if b≤k then .slice none 0 0 else ρ.sv k⟩
def z6k(b n:Nat)(hb:nx≤b)(hn:b+n≤nx'):JW X ⟨L,(lm,.mrow (fun k=>b+k) n 0)::(H++rwH eid e b n fun _=>[]),nx'⟩ ⟨L,(lm,.mrow f 0 0)::H,nx⟩:=by
 intro M ρ a w h1 h2;have ha:ρ.upTo (ρ.nilsFrom b e) nx:=fun l hl=>by
  have:¬ b≤l:=by omega
  simp[Env.nilsFrom,this]
 have hv:=h1.own lm _ (show lk ((lm,HO.mrow f 0 0)::H) lm=_ by rw[lk,if_pos rfl]);have spl:∀ l o,lk ((lm,HO.mrow (fun k=>b+k) n 0)::(H++rwH eid e b n fun _=>[])) l=some o→(l=lm∧o=.mrow (fun k=>b+k) n 0)∨(l≠lm∧lk H l=some o)∨((b≤l∧l<b+n)∧o=.sl eid e []):=by
  intro l o hl;rw[lk] at hl;by_cases h:lm=l
  ·rw[if_pos h] at hl;injection hl with hl;exact .inl ⟨h.symm,hl.symm⟩
  ·rw[if_neg h,q38,z13] at hl;cases hf:lk H l with
   |some o'=>rw[hf] at hl;exact .inr (.inl ⟨fun h'=>h h'.symm,hl⟩)
   |none=>
    rw[hf] at hl;by_cases h:b≤l∧l<b+n
    ·rw[if_pos h] at hl;exact .inr (.inr ⟨h,by injection hl with hl;exact hl.symm⟩)
    ·rw[if_neg h] at hl;cases hl
 have old:∀ l o,l≠lm→lk H l=some o→lk ((lm,HO.mrow f 0 0)::H) l=some o:=fun l o h hl=>by rw[lk,if_neg (fun h'=>h h'.symm)];exact hl
 have hg:lk ((lm,HO.mrow f 0 0)::H) lm=some (.mrow f 0 0):=by rw[lk,if_pos rfl]
 have hh:∀ l o bb,lk ((lm,HO.mrow (fun k=>b+k) n 0)::(H++rwH eid e b n fun _=>[])) l=some o→o.at (ρ.nilsFrom b e) l=some bb→∃ o',lk ((lm,HO.mrow f 0 0)::H) l=some o'∧o'.at ρ l=some bb:=by
  intro l o bb hl hj;rcases spl l o hl with⟨rfl,rfl⟩|⟨h,h'⟩|⟨h,rfl⟩
  ·exact⟨_,hg,hj⟩
  ·exact⟨o,old l o h h',by rw[← q0i ha (h1.own l o (old l o h h')).1 o];exact hj⟩
  ·simp[HO.at,Env.nilsFrom,h.1,Value.ownBlock] at hj
 refine⟨ρ.nilsFrom b e,⟨h1.below,h1.msub,h1.mnew,h1.mem,fun l o hl=>?_,fun l l' o o' bb hl hw hu hy=>?_,fun l o bb hl hu=>?_⟩,⟨h2.size,h2.defers,fun d v hd=>?_⟩⟩
 ·rcases spl l o hl with⟨rfl,rfl⟩|⟨h,h'⟩|⟨h,rfl⟩
  ·obtain⟨q1,ms,clk,q2,q3,_⟩:=hv.2.2;refine⟨yxa hv.1 (show nx≤nx' by omega),fun i hi=>by show b+i<nx';omega,q1,ms,clk,q2,q3,fun e he=>?_,fun k hk _=>?_,fun i j hi=>?_,fun e he=>?_⟩
   ·obtain⟨i,hi,_⟩:=Array.getElem_of_mem he;exact absurd hi (by omega)
   ·simp[Env.nilsFrom]
   ·exact absurd hi (by omega)
   ·obtain⟨i,hi,_⟩:=Array.getElem_of_mem he;exact absurd hi (by omega)
  ·have g:=h1.own l o (old l o h h');exact⟨yxa g.1 (by show nx≤nx';omega),s6 (by show nx≤nx';omega) g.2.1,t9 (Mem.le_refl M) ha g.1 g.2.1 g.2.2⟩
  ·refine⟨by show l<nx';omega,trivial,?_⟩;simp only[HO.ok];exact⟨by simp[Env.nilsFrom,h.1],[],⟨by simp,.inl ⟨by simp[Env.nilsFrom,h.1],rfl⟩⟩,by simp,fun i h=>absurd h (by simp)⟩
 ·obtain⟨o1,g1,g2⟩:=hh l o bb hl hu;obtain⟨o2,g3,g4⟩:=hh l' o' bb hw hy;exact h1.apart l l' o1 o2 bb g1 g3 g2 g4
 ·obtain⟨o1,g1,g2⟩:=hh l o bb hl hu;exact h1.notM l o1 bb g1 g2
 ·have g:=h2.reg d v hd;exact⟨j3 (by show nx≤nx';omega) g.1,j5 (Mem.le_refl M) ha g.1 g.2⟩
variable {r:List Fr}
variable {y:Operand}
def z6p(f:Nat→Nat)(hd:ltB d X.n=true)(k:JK X (.ops true all l::r) QA ⟨(d,.lf (.mp nx))::L,(nx,.mrow f 0 0)::H,nx+1⟩):JK X (.ops true all (⟨some d,.makeMap t none,ty,ps,af,none⟩::l)::r) QA ⟨L,H,nx⟩:=JL.makeR f hd k
def q1v(h:RdY X ⟨some d,op,ty,ps,af,none⟩ ⟨L,H,nx⟩ v)(hn:notDef op=true)(hd:ltB d X.n=true)(k:JK X (.ops true all l::r) QA ⟨(d,v)::L,H,nx⟩):JK X (.ops true all (⟨some d,op,ty,ps,af,none⟩::l)::r) QA ⟨L,H,nx⟩:=JL.rdY h hn hd k
def j3a{yA:A.den}(hB:Brd X.P t tm)(hA:A.agg=true)(hs:A.size=2)(h0:opd L x0=some (c1,.val A yA))(h1:opd L x1=some (c2,.lf (.mp m)))(hc:allP c1)(ha:allP c2)(hd:ltB d X.n=true)
  (k:JK X (.ops true all l::r) QA ⟨(d,mpV A yA m)::L,H,nx⟩):JK X (.ops true all (⟨some d,.build t #[(0,x0),(1,x1)],ty,ps,af,none⟩::l)::r) QA ⟨L,H,nx⟩:=JL.bldM hB hA hs h0 h1 hc ha hd k
def j29{yA:A.den}(h0:opd L x=some (c1,mpV A yA m))(hc:allP c1)(hd:ltB d X.n=true)
  (k:JK X (.ops true all l::r) QA ⟨(d,.lf (.optr nx []))::L,(nx,.cell (mpT A) (mpV A yA m))::H,nx+1⟩):JK X (.ops true all (⟨some d,.box t x,ty,ps,af,none⟩::l)::r) QA ⟨L,H,nx⟩:=JL.boxM h0 hc hd k
variable {md:Bool}
def d9{n m:Nat}(h:n≤m):∀ {H:List (Nat×HO)},bdH n H→bdH m H
 |[],_=>trivial
 |(_,_)::_,hb=>⟨yxa hb.1 h,s6 h hb.2.1,d9 h hb.2.2⟩
def bdH_of{n:Nat}:∀ {H:List (Nat×HO)},(∀ p∈H,p.1<n∧p.2.bd n)→bdH n H
 |[],_=>trivial
 |p::r,h=>⟨(h p yyh).1,(h p yyh).2,bdH_of fun q hq=>h q (yyj _ hq)⟩
def z2n{g:Nat→List e.den}(h:b+n≤k):bdH k (rwH eid e b n g):=bdH_of fun p hp=>by obtain⟨i,hi,rfl⟩:=yy7.1 hp;rw[yy3] at hi;exact⟨by show b+i<k;omega,trivial⟩
def j11(hb:bdH n H):lk H n=none:=by
 cases h:lk H n with
 |none=>rfl
 |some o=>exact absurd (g8 hb _ _ (w5 h)).1 (Nat.lt_irrefl _)
def z4m{t:Ty}{xv:t.den}(d:Nat)(hd:lk L d=some (.lf (.optr m [])))(hL:subL L L')(bL:bdL m L')(bH:bdH m H)(k:JK X (.ops md all l::r) QA ⟨(d,.val (.ptr t) (some xv))::L',H,m⟩) :
  JK X (.ops md all l::r) QA ⟨L,(m,.cell t (.val t xv))::H,nx⟩:=j28 m d (by rw[lk,if_pos rfl]) hd hL (subH.cons (subH.refl H) bH (yyl _)) (j11 bH) bL bH k
def z6r{t:Ty}{xv:t.den}(d:Nat)(hd:lk L d=some (.lf (.optr m [])))(hL:subL L L')(bL:bdL m L')(bH:bdH m H)(k:JK X (.code c::r) QA ⟨(d,.val (.ptr t) (some xv))::L',H,m⟩) :
  JK X (.code c::r) QA ⟨L,(m,.cell t (.val t xv))::H,nx⟩:=JK.frzPC m d (by rw[lk,if_pos rfl]) hd hL (subH.cons (subH.refl H) bH (yyl _)) (j11 bH) bL bH k
def SAT.toD{yA:A.den}(h1:SAT X M ρ ⟨L,(lm,.cell (mpT A) (mpV A yA m))::H,nx⟩ w)(bH:bdH lm H)(hm:m<nx) :
  ∃ M',SAT X M' ρ ⟨L,(lm,.dlk A yA m)::H,nx⟩ w∧M.le M'∧∀ b o,M b=some o→M' b=some o:=by
 have hl:lk ((lm,HO.cell (mpT A) (mpV A yA m))::H) lm=some (.cell (mpT A) (mpV A yA m)):=by rw[lk,if_pos rfl]
 have ha:lm<nx:=(h1.own lm _ hl).1;have hge:X.E.heap.size≤ρ.blk lm:=by obtain⟨_,_,h,_⟩:=x9 h1 hl;exact h
 obtain⟨e1,c,ty,c1,e2,e3,e4⟩:=own_mp h1 hl;obtain⟨M',g1,g2,g3,g4⟩:=h1.part (L':=L) (H':=H) (nx':=nx) hl rfl hge (subH.cons (subH.refl H) bH (yyl _)) (j11 bH) (d9 (Nat.le_of_lt ha) bH);have spl:∀ l o,lk ((lm,HO.dlk A yA m)::H) l=some o→(l=lm∧o=.dlk A yA m)∨lk H l=some o:=fun l o h=>by
  rw[lk] at h;by_cases e:lm=l
  ·rw[if_pos e] at h;injection h with h;exact .inl ⟨e.symm,h.symm⟩
  ·rw[if_neg e] at h;exact .inr h
 refine⟨M',⟨g1.below,g1.msub,g1.mnew,g1.mem,fun l o h=>?_,fun l l' o o' b h h' hb hd=>?_,fun l o b h hb=>?_⟩,g2,g3⟩
 ·rcases spl l o h with⟨rfl,rfl⟩|h
  ·exact⟨ha,hm,e1,c,ty,c1,g4.trans e2,Rep.mono g2 e3,e4⟩
  ·exact g1.own l o h
 ·rcases spl l o h with⟨rfl,rfl⟩|h
  ·cases hb
  ·rcases spl l' o' h' with⟨rfl,rfl⟩|h'
   ·cases hd
   ·exact g1.apart l l' o o' b h h' hb hd
 ·rcases spl l o h with⟨rfl,rfl⟩|h
  ·cases hb
  ·exact g1.notM l o b h hb
def REG.toM{M':Mem}(h2:REG X M ρ ⟨L,H,nx⟩ a)(hM:M.le M')(ha:∀ b o,M b=some o→M' b=some o):REG X M' ρ ⟨L,H',nx⟩ a:=by
 refine⟨h2.size,?_,fun d v hd=>?_⟩
 ·obtain⟨Ds,k1,k2,k3,k4⟩:=h2.defers;exact⟨Ds,k1,k2,fun D hD=>⟨(k3 D hD).1,ha _ _ (k3 D hD).2⟩,k4⟩
 ·have q:=h2.reg d v hd;exact⟨q.1,j5 hM (Env.upTo.refl ρ nx) q.1 q.2⟩
def JL.toD{A:Ty}{yA:A.den}{m lm:Nat}(bH:bdH lm H)(hm:m<nx)(k:JL X md all QA l ⟨L,(lm,.dlk A yA m)::H,nx⟩):JL X md all QA l ⟨L,(lm,.cell (mpT A) (mpV A yA m))::H,nx⟩:=by
 cases md
 ·intro M ρ a w h1 h2;obtain⟨M',e1,e2,e3⟩:=h1.toD bH hm;exact k _ ρ a w e1 (h2.toM e2 e3)
 ·intro M ρ a w h1 h2;obtain⟨M',e1,e2,e3⟩:=h1.toD bH hm;exact k _ ρ a w e1 (h2.toM e2 e3)
def JK.toD{A:Ty}{yA:A.den}{m lm:Nat}(bH:bdH lm H)(hm:m<nx)(k:JK X (.ops md all l::r) QA ⟨L,(lm,.dlk A yA m)::H,nx⟩):JK X (.ops md all l::r) QA ⟨L,(lm,.cell (mpT A) (mpV A yA m))::H,nx⟩:=JL.toD bH hm k
def z9f(h1:SAT X M ρ s w){yA:A.den}(hl:lk s.H lm=some (.dlk A yA m)):ρ.ty lm=mpT A∧∃ c ty c1,w.heap[ρ.blk lm]?=some (.cells c ty (0,0))∧M (ρ.blk lm)=some (.cells c ty (0,0))∧Rep M A yA c1∧c.toList=c1++[.map (some (ρ.blk m))]:=by obtain⟨e1,c,ty,c1,e2,e3,e4⟩:=x9 h1 hl;exact⟨e1,c,ty,c1,h1.mem _ _ e2,e2,e3,e4⟩
def q3n{yA:A.den}(d:Nat)(hd:lk L d=some (.lf (.optr lm [])))(hl:lk H lm=some (.dlk A yA m)):JW X ⟨(d,.val (.ptr (.cons A .nil)) (some (yA,())))::L,H,nx⟩ ⟨L,H,nx⟩:=by
 intro M ρ a w h1 h2;refine⟨ρ,h1.regs _,h2.size,h2.defers,fun d' v ha=>?_⟩;simp only[lk] at ha;by_cases e':d=d'
 ·subst e';rw[if_pos rfl] at ha;injection ha with ha;subst ha
  refine⟨trivial,?_⟩;obtain⟨_,c,ty,c1,_,e2,e3,e4⟩:=z9f h1 hl;have hv:=(h2.reg d _ hd).2;simp only[AV.rv,Leaf.at,yya,q1a] at hv;rw[← hv.1];have hs:=Rep.length e3;refine q25.2 ⟨_,0,c,ty,(0,0),rfl,e2,?_⟩;rw[List.drop_zero,e4];have:(Ty.cons A .nil).size=A.size:=by simp[Ty.size]
  rw[this,← hs,List.take_left];simp only[Rep];exact⟨c1,[],by simp,e3,rfl⟩
 ·rw[if_neg e'] at ha;exact h2.reg d' v ha
def d0{yA:A.den}(hB:Brd X.P t tm)(hs:A.size=2)(hu:opd L x=some (c1,.lf (.optr lm [])))(hl:lk H lm=some (.dlk A yA m))(hc:allP c1) :
  RdY X ⟨some d,.fieldAddr t x 1,ty,ps,af,none⟩ ⟨L,H,nx⟩ (.lf (.optr lm [.fld 1])):=by
 intro M ρ a w h1 h2;obtain⟨hb,hv⟩:=z5 (s:=⟨L,H,nx⟩) hu hc h2;obtain⟨e1,_⟩:=z9f (s:=⟨L,H,nx⟩) h1 hl;have hx:=(w9.1 hv).1;simp only[Leaf.at,yya,q1a] at hx;have hk:=(z52 (ρ:=⟨fun _=>ρ.blk lm,fun _=>.nil,fun _=>Go.undef⟩) (n:=1) hB.fld (yy2 0)).2 w;refine⟨hb,.pointer (some ⟨ρ.blk lm,2,none⟩),w9.2 ⟨?_,rfl⟩,?_⟩
 ·simp only[Leaf.at,e1,Ty.off,hs]
 ·simp only[RV.cv] at hk;simp only[execOp,← hx,yye,hk,yyb,yyf]
def r8{tb tm:TypeId}{yA:A.den}(hB:Brd X.P tb tm)(hs:A.size=2)(hu:opd L x=some (c1,.lf (.optr lm [.fld 1])))(hl:lk H lm=some (.dlk A yA m))(hm:m<nx)(hc:allP c1) :
  RdY X ⟨some d,.load tm x,ty,ps,af,none⟩ ⟨L,H,nx⟩ (.lf (.mp m)):=by
 intro M ρ a w h1 h2;obtain⟨hb,hv⟩:=z5 (s:=⟨L,H,nx⟩) hu hc h2;obtain⟨e1,c,ty',c1,e2,_,e3,e4⟩:=z9f (s:=⟨L,H,nx⟩) h1 hl;have hx:=(w9.1 hv).1;have ho:(mpT A).off [.fld 1]=2:=by simp only[Ty.off,hs]
 simp only[Leaf.at,yya,e1,ho] at hx;obtain⟨kk,ke,hu⟩:=hB.map;obtain⟨u,v,rfl⟩:=list2 ((Rep.length e3).trans hs);have ha:c[2]?=some (.map (some (ρ.blk m))):=by rw[← yxw,e4];rfl
 refine⟨hm,.map (some (ρ.blk m)),w9.2 ⟨rfl,rfl⟩,?_⟩;simp[execOp,Instr.loadAt,Instr.sureAddr,← hx,loadVar,isAgg,run_underlying hu,u6 e2,ha]
end Ox
namespace Go.Proofs.YtjecebccchhmhaaGreatDoor.Cb
open Go Go.RowKit Ox Ox.Gl
attribute [local irreducible] JC JL JK JW
def rwA(cs ms:List TwD)(c:Nat)(m:TwD)(k:Nat):List TwD:=((List.range k).map fun j:Nat=>((c:Int),m.1+(j:Int),())).filter fun r=>mkM cs ms r != 0
def lnA(m:TwD):Nat:=(m.2.1-m.1+1).toNat
def rwB(cs ms:List TwD)(c i:Nat):List TwD:=(ms.take i).flatMap fun m=>rwA cs ms c m (lnA m)
def rwC(cs ms:List TwD)(c:Nat):List TwD:=(List.range c).flatMap fun c=>rwB cs ms c ms.length
abbrev rwAll(cs ms:List TwD):List TwD:=rwC cs ms cs.length
def z0a(cs ms:List TwD)(c:Nat)(m:TwD)(k:Nat):rwA cs ms c m (k+1)=if mkM cs ms ((c:Int),m.1+(k:Int),()) != 0 then rwA cs ms c m k++[((c:Int),m.1+(k:Int),())] else rwA cs ms c m k:=by
 unfold rwA;rw[List.range_succ,yxz,List.filter_append];by_cases h:(mkM cs ms ((c:Int),m.1+(k:Int),()) != 0)=true
 ·rw[if_pos h];congr 1;show List.filter _ [((c:Int),m.1+(k:Int),())]=_;simp only[List.filter,h]
 ·rw[if_neg h];have h':(mkM cs ms ((c:Int),m.1+(k:Int),()) != 0)=false:=by simpa using h
  show _++List.filter _ [((c:Int),m.1+(k:Int),())]=_;simp only[List.filter,h',yxj]
def z4z(cs ms:List TwD)(c:Nat)(h:i<ms.length):rwB cs ms c (i+1)=rwB cs ms c i++rwA cs ms c (ms.getD i (0,0,())) (lnA (ms.getD i (0,0,()))):=by unfold rwB;rw[List.take_succ_eq_append_getElem h,List.flatMap_append,w8 ms h];simp
def q99(cs ms:List TwD)(c:Nat):rwC cs ms (c+1)=rwC cs ms c++rwB cs ms c ms.length:=by simp[rwC,List.range_succ]
def z8p(cs ms:List TwD)(c:Nat)(m:TwD):∀ {k n:Nat},k≤n→∃ t,rwA cs ms c m n=rwA cs ms c m k++t
 |k,0,h=>⟨[],by rw[show k=0 by omega];rfl⟩
 |k,n+1,h=>by
  rcases Nat.lt_or_ge n k with h1|h1
  ·exact⟨[],by rw[show k=n+1 by omega,yxj]⟩
  ·obtain⟨t,ht⟩:=z8p cs ms c m (k:=k) (n:=n) h1;rw[z0a];split
   ·exact⟨t++[((c:Int),m.1+(n:Int),())],by rw[ht,yxl]⟩
   ·exact⟨t,ht⟩
def rwB_pre(cs ms:List TwD)(c:Nat)(hi:i≤ms.length):∃ t,rwB cs ms c ms.length=rwB cs ms c i++t:=by refine⟨(ms.drop i).flatMap fun m=>rwA cs ms c m (lnA m),?_⟩;unfold rwB;rw[← List.flatMap_append,List.take_append_drop,yx6]
def z8o(cs ms:List TwD):∀ {c n:Nat},c≤n→∃ t,rwC cs ms n=rwC cs ms c++t
 |c,0,h=>⟨[],by rw[show c=0 by omega];rfl⟩
 |c,n+1,h=>by
  rcases Nat.lt_or_ge n c with h1|h1
  ·exact⟨[],by rw[show c=n+1 by omega,yxj]⟩
  ·obtain⟨t,ht⟩:=z8o cs ms (c:=c) (n:=n) h1;exact⟨t++rwB cs ms n ms.length,by rw[q99,ht,yxl]⟩
def rw_next{cs ms:List TwD}{c i k:Nat}(hc:c<cs.length)(hi:i<ms.length)(hk:k<lnA (ms.getD i (0,0,())))(h:(mkM cs ms ((c:Int),(ms.getD i (0,0,())).1+(k:Int),()) != 0)=true) :
  ∃ post,rwAll cs ms=(rwC cs ms c++rwB cs ms c i++rwA cs ms c (ms.getD i (0,0,())) k)++((c:Int),(ms.getD i (0,0,())).1+(k:Int),())::post:=by
 obtain⟨t1,h1⟩:=z8o cs ms (c:=c+1) (n:=cs.length) hc;obtain⟨t2,h2⟩:=rwB_pre cs ms c (i:=i+1) hi;obtain⟨t3,h3⟩:=z8p cs ms c (ms.getD i (0,0,())) (k:=k+1) (n:=lnA (ms.getD i (0,0,()))) hk;rw[z0a,if_pos h] at h3;rw[z4z cs ms c hi,h3] at h2;rw[q99,h2] at h1;exact⟨t3++t2++t1,by rw[rwAll,h1];simp⟩
abbrev bpT:Ty:=.ptr (.cons shT .nil)
abbrev vBb(cs ms:List TwD):AV:=.val (.ptr bpT) (some (some (mkS cs ms,())))
section
variable {E:World}{Mx M0:Mem}{nX:Nat}{rdX:Option Nat}{up:Nat→Nat→Value}{dp lab N:Nat}{r:List Fr}{QA:Exit→S→Prop}
set_option maxRecDepth 20000 in
set_option maxHeartbeats 2000000 in
def z3m{cs ms:List TwD}(hs:okSt cs ms)(K:List TwD→List (Nat×HO))(hh:lab<15010)(hK:∀ pre,bdH 15010 (K pre))
  (hY:∀ pre z post,rwAll cs ms=pre++z::post→YO ⟨Tryz.prog,tys,ets,mts,E,Mx,nX,rdX,up,dp⟩ 50 lab (.acons (vTw z) .anil) (K pre) 15010 true (K (pre++[z])) 15010)
  (k:∀ L,JK ⟨Tryz.prog,tys,ets,mts,E,M0,50,none,up,dp⟩ r QA ⟨L,K (rwAll cs ms),15010⟩) :
  JK ⟨Tryz.prog,tys,ets,mts,E,M0,50,none,up,dp⟩ (.code (lpC Tryz.f58.body)::.blk 0::r) QA ⟨[(0,.lf (.yld lab)),(1,vBb cs ms),(13,vI cs.length),(14,vI 0)],K [],15010⟩:=by
 have hD:=hs.m12;have h8:=hs.c8;refine JK.loop (fun c:Nat=>⟨[(0,.lf (.yld lab)),(1,vBb cs ms),(13,vI cs.length),(14,vI (c:Int))],K (rwC cs ms c),15010⟩) (fun c=>c≤cs.length) (fun c=>cs.length-c) 0 (yyw _) (JW.refl _) fun c hc=>?_;refine zK0 ?_;refine q9 rfl (fun hd=>?_) (fun hd=>?_)
 ·replace hd:=zC hd;have hB:c<cs.length:=by omega
  (repeat (first|refine zs rfl ?_|refine q66 brd rfl rfl trivial ?_))
  refine JK.loop (fun i:Nat=>⟨[(0,.lf (.yld lab)),(1,vBb cs ms),(13,vI cs.length),(14,vI (c:Int)),(3,vI (c:Int)),(21,.val (.slice twT) ms),(22,vI ms.length),(23,vI (i:Int))],K (rwC cs ms c++rwB cs ms c i),15010⟩) (fun i=>i≤ms.length) (fun i=>ms.length-i) 0 (yyw _) (by rw[show rwB cs ms c 0=[] from rfl,yxj];exact JW.same ⟨rfl,rfl,rfl,rfl,rfl,rfl,rfl,rfl,trivial⟩) fun i hi=>?_;have hy:i=ms.length→rwC cs ms c++rwB cs ms c i=rwC cs ms (c+1):=fun e=>by rw[e,← q99]
  have hj:=z4z cs ms c (i:=i);have ha:=fun k=>rw_next (cs:=cs) (ms:=ms) (c:=c) (i:=i) (k:=k) hB;refine zK0 ?_;refine q9 rfl (fun he=>?_) (fun he=>?_)
  ·replace he:=zC he;have hw:i<ms.length:=by omega
   have hj:=hj hw;have ha:=fun k=>ha k hw;have hm:=hs.mo (ms.getD i (0,0,())) (by rw[w8 ms hw];exact yy4 hw);have e0:ms.getD (Int.toNat (i:Int)) twT.dflt=ms.getD i (0,0,()):=rfl;refine zK0 ?_;rw[e0];generalize ms.getD i (0,0,())=m at hj ha hm ⊢;obtain⟨ml,mh,mu⟩:=m;dsimp only at hm;obtain⟨T,hT⟩:∃ T:Nat,T=lnA (ml,mh,mu):=⟨_,rfl⟩;have hE:(T:Int)=mh-ml+1:=by rw[hT];unfold lnA;dsimp only;omega
   rw[← hT] at hj;refine z6r (L':=[(0,.lf (.yld lab)),(1,vBb cs ms),(13,vI cs.length),(14,vI (c:Int)),(3,vI (c:Int)),(21,.val (.slice twT) ms),(22,vI ms.length),(23,vI (i:Int)),(6,vI ml)]) 5 rfl ⟨rfl,rfl,rfl,rfl,rfl,rfl,rfl,rfl,rfl,trivial⟩ ⟨hh,trivial,trivial,trivial,trivial,trivial,trivial,trivial,trivial,trivial⟩ (hK _) ?_;refine JK.loop (fun k:Nat=>⟨[(5,.val (.ptr twT) (some (ml,mh,mu))),(0,.lf (.yld lab)),(1,vBb cs ms),(13,vI cs.length),(14,vI (c:Int)),(3,vI (c:Int)),(21,.val (.slice twT) ms),(22,vI ms.length),(23,vI (i:Int)),(6,vI (ml+(k:Int)))],K (rwC cs ms c++rwB cs ms c i++rwA cs ms c (ml,mh,mu) k),15010⟩) (fun k=>k≤T) (fun k=>T-k) 0 (yyw _) (by rw[show rwA cs ms c (ml,mh,mu) 0=[] from rfl,yxj];exact JW.same ⟨rfl,rfl,rfl,rfl,rfl,rfl,rfl,rfl,rfl,by show some (vI ml)=some (vI (ml+((0:Nat):Int)));rw[Int.natCast_zero,Int.add_zero],trivial⟩) fun k hk=>?_;have hA:=z0a cs ms c (ml,mh,mu) k;have ha:=ha k;rw[← hT] at ha;have c26:=fn26 hs.tookSh ((c:Int),ml+(k:Int),()) (by dsimp only;omega);refine zK0 ?_;refine q9 rfl (fun hf=>?_) (fun hf=>?_)
   ·replace hf:=zC hf;have hC:k<T:=by omega
    have ha:=ha hC;refine zK0 ?_;refine z4m (t:=twT) (xv:=((c:Int),ml+(k:Int),())) (L':=[(39,vTw ((c:Int),ml+(k:Int),())),(38,vBd cs ms),(5,.val (.ptr twT) (some (ml,mh,mu))),(0,.lf (.yld lab)),(1,vBb cs ms),(13,vI cs.length),(14,vI (c:Int)),(3,vI (c:Int)),(21,.val (.slice twT) ms),(22,vI ms.length),(23,vI (i:Int)),(6,vI (ml+(k:Int)))]) 7 rfl ⟨rfl,rfl,rfl,rfl,rfl,rfl,rfl,rfl,rfl,rfl,rfl,rfl,trivial⟩ ⟨trivial,trivial,trivial,hh,trivial,trivial,trivial,trivial,trivial,trivial,trivial,trivial,trivial⟩ (hK _) ?_;dsimp only at hA ha;generalize rwC cs ms c++rwB cs ms c i=pre0 at ha ⊢;have hu:ml+((k+1:Nat):Int)=ml+(k:Int)+1:=by omega
    generalize mkM cs ms ((c:Int),ml+(k:Int),())=q at hA ha c26
    (repeat (first|refine zs rfl ?_|refine zc rfl c26 rfl rfl ?_))
    have hg:((q:Int) != 0)=(q != 0):=by
     by_cases h:q=0
     ·subst h;rfl
     ·have h2:(q:Int)≠0:=by omega
      rw[bne_iff_ne.2 h2,bne_iff_ne.2 h]
    cases hb:(q != 0) with
    |false=>
     rw[hb,if_neg (by simp)] at hA;rw[hb] at hg
     (repeat (first|refine zs rfl ?_|refine zfl rfl (by show wantB true ((q:Int) != 0)=false;rw[hg];rfl) rfl ?_|refine z6o rfl (by show((q:Int) != 0)=false;exact hg) rfl rfl trivial trivial ?_))
     refine q9 rfl (fun h=>by cases h) (fun _=>?_);refine zK0 ?_;refine⟨k+1,?_,by omega,by omega⟩;dsimp only;rw[hA,hu];exact JW.same ⟨rfl,rfl,rfl,rfl,rfl,rfl,rfl,rfl,rfl,rfl,trivial⟩
    |true=>
     rw[hb,if_pos rfl] at hA;rw[hb] at hg;obtain⟨post,hv⟩:=ha hb;have y1:=hY _ _ _ hv
     (repeat (first|refine zs rfl ?_|refine zt rfl (by show wantB true ((q:Int) != 0)=true;rw[hg];rfl) ?_))
     refine j23 (X:=⟨Tryz.prog,tys,ets,mts,E,Mx,nX,rdX,up,dp⟩) [0,1,13,14,3,21,22,23,6,5,42] y1 rfl rfl rfl (by simp[stayL,stayB,svL,lk]) trivial ?_
     (repeat (first|refine zs rfl ?_|refine zt rfl (by show wantB true ((q:Int) != 0)=true;rw[hg];rfl) ?_))
     refine q9 rfl (fun h=>by revert h;cases ((q:Int) != 0)<;>simp) (fun _=>?_);refine zK0 ?_;refine⟨k+1,?_,by omega,by omega⟩;dsimp only;rw[hA,hu,yxl];exact JW.same ⟨rfl,rfl,rfl,rfl,rfl,rfl,rfl,rfl,rfl,rfl,trivial⟩
   ·replace hf:=zC hf;have:k=T:=by omega
    subst this;rw[yxl,← hj];refine zK0 ?_;exact⟨i+1,JW.same ⟨rfl,rfl,rfl,rfl,rfl,rfl,rfl,rfl,trivial⟩,by omega,by omega⟩
  ·replace he:=zC he;rw[hy (by omega)];refine zK0 ?_;exact⟨c+1,JW.same ⟨rfl,rfl,rfl,rfl,trivial⟩,by omega,by omega⟩
 ·replace hd:=zC hd;obtain rfl:c=cs.length:=by omega
  refine zK0 ?_;exact k _
end
abbrev cpT:Ty:=.cons (.int .i64) (.cons twT .nil)
abbrev CpD:Type:=cpT.den
def atS(ms:List TwD)(sp:Int):Nat→TwD
 |0=>ms.getD 0 (0,0,())
 |i+1=>(max (atS ms sp i).1 ((ms.getD i (0,0,())).1-i*sp),min (atS ms sp i).2.1 ((ms.getD i (0,0,())).2.1-i*sp),())
def spL(ms:List TwD)(k:Nat):List CpD:=(List.range k).flatMap fun j:Nat=>if (atS ms ((j:Int)+1) ms.length).1≤(atS ms ((j:Int)+1) ms.length).2.1 then [((j:Int)+1,atS ms ((j:Int)+1) ms.length,())] else []
def z4x(ms:List TwD)(k:Nat):spL ms (k+1)=spL ms k++if (atS ms ((k:Int)+1) ms.length).1≤(atS ms ((k:Int)+1) ms.length).2.1 then [((k:Int)+1,atS ms ((k:Int)+1) ms.length,())] else []:=by simp[spL,List.range_succ]
def spL_len(ms:List TwD)(k:Nat):(spL ms k).length≤k:=by
 induction k with
 |zero=>exact yyl _
 |succ k ih=>rw[z4x,yyz];split<;>simp<;>omega
def bdM(ms:List TwD):Prop:=∀ m∈ms,(0≤m.1∧m.1≤500)∧0≤m.2.1∧m.2.1≤500
variable{ms:List TwD}
def z4i(h:bdM ms)(hi:i<ms.length):(0≤(ms.getD i (0,0,())).1∧(ms.getD i (0,0,())).1≤500)∧0≤(ms.getD i (0,0,())).2.1∧(ms.getD i (0,0,())).2.1≤500:=by rw[w8 ms hi];exact h _ (yy4 hi)
def isp_bd{sp:Int}(hi:i≤12)(h1:1≤sp)(h2:sp≤50):0≤(i:Int)*sp∧(i:Int)*sp≤600:=by have h3:(i:Int)*sp≤12*50:=Int.mul_le_mul (by omega) h2 (by omega) (by omega);exact⟨Int.mul_nonneg (by omega) (by omega),by omega⟩
def atS_bd{ms:List TwD}(h:bdM ms)(ha:ms.length≤12)(h2:2≤ms.length){sp:Int}(s1:1≤sp)(s2:sp≤50):∀ {i:Nat},i≤ms.length→(-1000≤(atS ms sp i).1∧(atS ms sp i).1≤1000)∧-1000≤(atS ms sp i).2.1∧(atS ms sp i).2.1≤1000
 |0,_=>by have:=z4i h (i:=0) (by omega);unfold atS;omega
 |i+1,hi=>by have h3:=atS_bd h ha h2 s1 s2 (i:=i) (by omega);have h4:=z4i h (i:=i) (by omega);have h5:=isp_bd (i:=i) (by omega) s1 s2;unfold atS;dsimp only;generalize (i:Int)*sp=p at h5 ⊢;omega
set_option maxRecDepth 20000 in
set_option maxHeartbeats 2000000 in
def fn13(h:okMk ms 0)(hb:bdM ms)(hh:ms.length≤12)(h2:2≤ms.length):Ox.Fn Tryz.prog 13 (.acons (.val (.slice twT) ms) .anil) (·=.tup (.acons (.val (.slice cpT) (spL ms 50)) (.acons (vI 0) .anil))):=by
 refine zI Tryz.func13 rfl Tryz.call13 rfl fun E M0 up=>?_;have c1:=z39 (b:=true) (lo:=2) (hi:=12) (xs:=[(ms.length:Int)]) rfl (by simp;omega);have c2:=fn39 h hh
 (repeat (first|refine zs rfl ?_|refine zc rfl (c1) rfl rfl ?_))
 refine q9 rfl (fun h=>absurd h (by decide)) (fun _=>?_)
 (repeat (first|refine zs rfl ?_|refine zc rfl (c2) rfl rfl ?_))
 refine q9 rfl (fun h=>absurd h (by decide)) (fun _=>?_);refine zK0 ?_;refine JK.ghost 5 61 cpT rfl ?_;refine JK.loop (fun k:Nat=>⟨[(0,.val (.slice twT) ms),(5,.lf (.osl 0)),(6,vI ((k:Int)+1))],[(0,.sl 61 cpT (spL ms k))],1⟩) (fun k=>k≤50) (fun k=>50-k) 0 (yyw _) (by dsimp only;rw[show spL ms 0=[] from rfl];exact zJ) fun k hk=>?_;have hu:=spL_len ms k;have hg:=z4x ms k;generalize hv:spL ms k=xs at hu hg ⊢;refine zK0 ?_;refine q9 rfl (fun hc=>?_) (fun hc=>?_)
 ·replace hc:=zC hc;refine zK0 ?_;refine JK.loop (fun i:Nat=>⟨[(0,.val (.slice twT) ms),(5,.lf (.osl 0)),(6,vI ((k:Int)+1)),(7,.lf (.optr 1 [])),(28,.val (.slice twT) ms),(29,vI ms.length),(30,vI (i:Int))],[(1,.cell twT (vTw (atS ms ((k:Int)+1) i))),(0,.sl 61 cpT xs)],2⟩) (fun i=>i≤ms.length) (fun i=>ms.length-i) 0 (yyw _) (by exact zJ) fun i hi=>?_;have hw:=atS_bd hb hh h2 (sp:=(k:Int)+1) (by omega) (by omega) hi;have hj:atS ms ((k:Int)+1) (i+1)=(max (atS ms ((k:Int)+1) i).1 ((ms.getD i (0,0,())).1-i*((k:Int)+1)),min (atS ms ((k:Int)+1) i).2.1 ((ms.getD i (0,0,())).2.1-i*((k:Int)+1)),()):=rfl;have ha:i=ms.length→atS ms ((k:Int)+1) i=atS ms ((k:Int)+1) ms.length:=fun e=>by rw[e]
  generalize atS ms ((k:Int)+1) i=q at hw hj ha ⊢;refine zK0 ?_;refine q9 rfl (fun hd=>?_) (fun hd=>?_)
  ·replace hd:=zC hd;have hy:i<ms.length:=by omega
   have hm:=z4i hb hy;have hp:=isp_bd (i:=i) (sp:=(k:Int)+1) (by omega) (by omega) (by omega);have hgd:ms.getD (Int.toNat (i:Int)) twT.dflt=ms.getD i (0,0,()):=rfl;refine zK2 ?_;refine⟨i+1,?_,by omega,by omega⟩;dsimp only;rw[hj];exact zJ
  ·replace hd:=zC hd;obtain rfl:i=ms.length:=by omega
   have ha:=ha rfl;subst ha;refine zK0 ?_;refine q9 rfl (fun he=>?_) (fun he=>?_)
   ·have he:(atS ms ((k:Int)+1) ms.length).1≤(atS ms ((k:Int)+1) ms.length).2.1:=of_decide_eq_true he;rw[if_pos he] at hg;clear he;refine zK0 ?_;refine⟨k+1,?_,by omega,by omega⟩;dsimp only;rw[hg];exact zJ
   ·have he:¬ (atS ms ((k:Int)+1) ms.length).1≤(atS ms ((k:Int)+1) ms.length).2.1:=of_decide_eq_false he;rw[if_neg he,yxj] at hg;clear he;refine zK0 ?_;refine⟨k+1,?_,by omega,by omega⟩;dsimp only;rw[hg];exact zJ
 ·replace hc:=zC hc;obtain rfl:k=50:=by omega
  (iterate 4 (first|refine zs rfl ?_|refine JK.fin ?_))
  refine q84 (H':=[]) (L':=[]) (nx':=0) 0 65 rfl rfl trivial (fun l o h=>by cases h) rfl trivial trivial ?_;refine zK0 ?_;refine zR rfl trivial ?_;rw[hv]
end Go.Proofs.YtjecebccchhmhaaGreatDoor.Cb
namespace Ox.Gl
def twB(b:Nat):List Nat:=(List.range 12).filter fun i=>b.testBit i
def lwB(b:Nat):Nat:=(twB b).headD 0
def tw_all:((List.range 4096).all fun b=>b==0||(twB b==lwB b::twB (b &&& (b-1))&&decide (lwB b<12)&&decide (b &&& (b-1)<b)&&decide (b &&& (b-1)<4096)))=true:=by decide +kernel
def z79(h0:b≠0)(h:b<4096):twB b=lwB b::twB (b &&& (b-1))∧lwB b<12∧b &&& (b-1)<b∧b &&& (b-1)<4096:=by
 have:=yyx.1 tw_all b (yy3.2 h);simp only[yyy,yyc,beq_iff_eq,yyu] at this;rcases this with k|⟨⟨⟨k1,k2⟩,k3⟩,k4⟩
 ·exact absurd k h0
 ·exact⟨k1,k2,k3,k4⟩
def tw_len(b:Nat):(twB b).length≤12:=by unfold twB;have:=yx7 (fun i=>b.testBit i) (List.range 12);rwa[List.length_range] at this
def tw_zero:twB 0=[]:=by decide
def twI(b:Nat):List Int:=(twB b).map Int.ofNat
end Ox.Gl
namespace Go.Proofs.YtjecebccchhmhaaGreatDoor.Cb
open Go Go.RowKit Ox Ox.Gl
structure okC(f s:Int)(n:Nat):Prop where
 f1:1≤f
 f2:f≤100
 s1:1≤s
 s2:s≤50
 n2:2≤n
 n6:n≤6
def csL(s:Int)(n:Nat):List TwD:=[(s,(n:Int),())]
def msL(f s:Int)(n:Nat):List TwD:=(List.range n).map fun k:Nat=>(f+k*s,f+k*s,())
def msL_len(f s:Int)(n:Nat):(msL f s n).length=n:=by simp[msL]
def q6r(f s:Int)(h:k<n):(msL f s n)[k]'(by rw[msL_len];exact h)=(f+k*s,f+k*s,()):=by simp[msL]
def z2b{α:Type}{p:α→Bool}:∀ {xs:List α} {j i:Nat} (hj:j<xs.length),(∀ k (hk:k<j),p (xs[k]'(by omega))=false)→p xs[j]=true→idxB p xs i=((i+j:Nat):Int)
 |[],j,i,hj,_,_=>by simp at hj
 |x::r,0,i,hj,_,h=>by show(if p x=true then _ else _)=_;rw[if_pos (show p x=true from h)];rfl
 |x::r,j+1,i,hj,hk,h=>by have h0:p x=false:=hk 0 (by omega);show(if p x=true then _ else _)=_;rw[if_neg (by rw[h0];decide)];rw[z2b (xs:=r) (j:=j) (i:=i+1) (by simpa using hj) (fun k ha=>hk (k+1) (by omega)) h];omega
def z5s{α:Type}{p:α→Bool}:∀ {xs:List α} {i:Nat},(∀ x∈xs,p x=false)→idxB p xs i=-1
 |[],i,_=>rfl
 |x::r,i,h=>by show(if p x=true then _ else _)=_;rw[if_neg (by rw[h x yyh];decide)];exact z5s fun y hy=>h y (yyj _ hy)
def z9y(h:1≤s)(e:(a:Int)*s=b*s):a=b:=by have:=Int.eq_of_mul_eq_mul_right (by omega:s≠0) e;omega
def z34(a:Int)(m:TwD):inP a m=true↔m.1≤a∧a≤m.2.1:=by unfold inP;by_cases h1:m.1≤a<;>by_cases h2:a≤m.2.1<;>simp[h1,h2]
variable{f:Int}
def z35(h:1≤s)(hk:k<n):inM (msL f s n) (f+k*s)=k:=by
 have h1:∀ j (hj:j<k),inP (f+k*s) ((msL f s n)[j]'(by rw[msL_len];omega))=false:=fun j hj=>by
  rw[q6r f s (by omega)];cases hb:inP (f+k*s) (f+j*s,f+j*s,()) with
  |false=>rfl
  |true=>have:=(z34 _ _).1 hb;dsimp only at this;have:=z9y h (a:=j) (b:=k) (by omega);omega
 have h2:inP (f+k*s) ((msL f s n)[k]'(by rw[msL_len];exact hk))=true:=by rw[q6r f s hk,z34];exact⟨Int.le_refl _,Int.le_refl _⟩
 unfold inM;rw[z2b (j:=k) (by rw[msL_len];exact hk) h1 h2];simp
def inM_miss(h:1≤s):inM (msL f s n) (f+n*s)=-1:=by
 unfold inM;refine z5s fun x hx=>?_;obtain⟨j,hj,rfl⟩:=yy7.1 hx;rw[yy3] at hj;cases hb:inP (f+n*s) (f+j*s,f+j*s,()) with
 |false=>rfl
 |true=>have:=(z34 _ _).1 hb;dsimp only at this;have:=z9y h (a:=j) (b:=n) (by omega);omega
def or_pow:∀ t<6,(2 ^ t-1) ||| 2 ^ t=2 ^ (t+1)-1:=by decide
def z8b{f s:Int}{n:Nat}(h:1≤s)(h6:n≤6):∀ {t:Nat},t≤n→tth (msL f s n) f s t=some (2 ^ t-1)
 |0,_=>rfl
 |t+1,ht=>by show(match tth (msL f s n) f s t with|none=>none|some o=>if inM (msL f s n) (f+(t:Int)*s)<0 then none else some (o ||| 2 ^ (inM (msL f s n) (f+(t:Int)*s)).toNat))=_;rw[z8b h h6 (by omega)];dsimp only;rw[z35 h (by omega),if_neg (by omega),Int.toNat_natCast,or_pow t (by omega)]
def tth_miss{ms:List TwD}{a s:Int}{t:Nat}(h:inM ms (a+(t:Int)*s)<0):tth ms a s (t+1)=none:=by
 show(match tth ms a s t with|none=>none|some o=>if inM ms (a+(t:Int)*s)<0 then none else some (o ||| 2 ^ (inM ms (a+(t:Int)*s)).toNat))=_;cases tth ms a s t with
 |none=>rfl
 |some o=>dsimp only;rw[if_pos h]
def mkM_0(h:okC f s n):mkM (csL s n) (msL f s n) (0,f,())=2 ^ n-1:=by have hn:=h.n2;have h0:=z35 (f:=f) h.s1 (k:=0) (n:=n) (by omega);rw[show f+((0:Nat):Int)*s=f by simp] at h0;unfold mkM;dsimp only;rw[h0,if_neg (by omega)];show(tth (msL f s n) f s (Int.toNat (n:Int))).getD 0=_;rw[Int.toNat_natCast,z8b h.s1 h.n6 (yyl _)];rfl
def mkM_i(h:okC f s n)(h1:1≤i)(hi:i<n):mkM (csL s n) (msL f s n) (0,f+i*s,())=0:=by
 unfold mkM;dsimp only;rw[z35 h.s1 hi,if_neg (by omega)];show(tth (msL f s n) (f+i*s) s (Int.toNat (n:Int))).getD 0=_;rw[Int.toNat_natCast];have e:(f+i*s)+((n-i:Nat):Int)*s=f+n*s:=by rw[Int.add_assoc,← Int.add_mul];congr 2;omega
 have hm:=tth_miss (ms:=msL f s n) (a:=f+i*s) (s:=s) (t:=n-i) (by rw[e,inM_miss h.s1];omega);have:=q92 hm (i-1);rw[show n-i+1+(i-1)=n by omega] at this;rw[this];rfl
def nn_mul(h:1≤s)(h2:s≤50)(hi:i≤5):0≤(i:Int)*s∧(i:Int)*s≤250:=by have h3:(i:Int)*s≤5*50:=Int.mul_le_mul (by omega) h2 (by omega) (by omega);exact⟨Int.mul_nonneg (by omega) (by omega),by omega⟩
def z5a{f s:Int}(h:1≤s)(hs:s≤50)(f1:1≤f)(f2:f≤100):∀ {k a:Nat} {nx:Int},a+k≤6→nx≤f+a*s→okMk ((List.range' a k).map fun k:Nat=>(f+k*s,f+k*s,())) nx
 |0,_,_,_,_=>trivial
 |k+1,a,nx,hk,hn=>by
  have h1:=nn_mul h hs (i:=a) (by omega);rw[List.range'_succ];refine⟨hn,Int.le_refl _,by show f+(a:Int)*s≤500;omega,by show f+(a:Int)*s-(f+a*s)≤3;omega,z5a h hs f1 f2 (by omega) ?_⟩;show f+a*s+1≤f+((a+1:Nat):Int)*s;have:((a+1:Nat):Int)*s=a*s+s:=by push_cast;rw[Int.add_mul,Int.one_mul]
  omega
def okSt_C(h:okC f s n):okSt (csL s n) (msL f s n):=by
 have h1:=h.f1;have h2:=h.f2;have h3:=h.s1;have h4:=h.s2;have h5:=h.n2;have h6:=h.n6;refine⟨⟨yyl 1,by show 1≤8;decide,by rw[msL_len];omega,by rw[msL_len];omega,fun c hc=>?_,fun m hm=>?_⟩,?_⟩
 ·rw[yyp.1 hc];dsimp only;omega
 ·obtain⟨j,hj,rfl⟩:=yy7.1 hm;rw[yy3] at hj;have:=nn_mul h3 h4 (i:=j) (by omega);dsimp only;omega
 ·have:=z5a h3 h4 h1 h2 (k:=n) (a:=0) (nx:=0) (by omega) (by simp;omega);rw[← List.range_eq_range'] at this;exact this
def bdM_C(h:okC f s n):bdM (msL f s n):=fun m hm=>by have:=(okSt_C h).mo m hm;omega
def z0t{α:Type}{g:Nat→List α}{x:α}:∀ {n k:Nat},k<n→(∀ j,j<n→j≠k→g j=[])→g k=[x]→(List.range n).flatMap g=[x]
 |0,k,h,_,_=>absurd h (by omega)
 |n+1,k,h,h1,h2=>by
  rw[List.range_succ,List.flatMap_append];by_cases e:k=n
  ·subst e;rw[show(List.range k).flatMap g=[] from List.flatMap_eq_nil_iff.2 fun j hj=>by have:=yy3.1 hj;exact h1 j (by omega) (by omega)]
   simp[h2]
  ·rw[z0t (k:=k) (by omega) (fun j hj hk=>h1 j (by omega) hk) h2];simp[h1 n (by omega) (Ne.symm e)]
def rwAll_C(h:okC f s n):rwAll (csL s n) (msL f s n)=[(0,f,())]:=by
 have hn:=h.n2;have hA:∀ i,i<n→rwA (csL s n) (msL f s n) 0 (f+(i:Int)*s,f+(i:Int)*s,()) (lnA (f+(i:Int)*s,f+(i:Int)*s,()))=if i=0 then [(0,f,())] else []:=fun i hi=>by
  have h1:lnA (f+(i:Int)*s,f+(i:Int)*s,())=1:=by unfold lnA;dsimp only;omega
  rw[h1];show List.filter (fun r=>mkM (csL s n) (msL f s n) r != 0) [(0,f+(i:Int)*s+((0:Nat):Int),())]=_;rw[show f+(i:Int)*s+((0:Nat):Int)=f+(i:Int)*s by omega];by_cases e:i=0
  ·subst e;rw[if_pos rfl,show f+((0:Nat):Int)*s=f by simp];have hm:=mkM_0 h;have hp:2 ^ 2≤2 ^ n:=yxg (by decide) hn;simp[hm];omega
  ·rw[if_neg e];simp[mkM_i h (i:=i) (by omega) hi]
 show(List.range 1).flatMap (fun c=>rwB (csL s n) (msL f s n) c (msL f s n).length)=_;rw[show List.range 1=[0] from rfl];simp only[List.flatMap_cons,List.flatMap_nil,yxj];unfold rwB;rw[yx6,show(msL f s n).flatMap (fun m=>rwA (csL s n) (msL f s n) 0 m (lnA m))=(List.range n).flatMap (fun i:Nat=>rwA (csL s n) (msL f s n) 0 (f+(i:Int)*s,f+(i:Int)*s,()) (lnA (f+(i:Int)*s,f+(i:Int)*s,()))) from by rw[show(msL f s n).flatMap (fun m=>rwA (csL s n) (msL f s n) 0 m (lnA m))=((List.range n).map fun k:Nat=>(f+k*s,f+k*s,())).flatMap (fun m=>rwA (csL s n) (msL f s n) 0 m (lnA m)) from rfl,List.flatMap_map]]
 refine z0t (k:=0) (by omega) (fun j hj hk=>?_) ?_
 ·rw[hA j hj,if_neg hk]
 ·rw[hA 0 (by omega),if_pos rfl]
def atS_eq{f s:Int}{n:Nat}:∀ {t:Nat},t≤n→1≤n→atS (msL f s n) s t=(f,f,())
 |0,_,hn=>by show(msL f s n).getD 0 (0,0,())=_;rw[w8 _ (by rw[msL_len];omega),q6r f s (by omega)];simp
 |t+1,ht,hn=>by unfold atS;rw[atS_eq (t:=t) (by omega) hn,w8 _ (by rw[msL_len];omega),q6r f s (by omega)];dsimp only;rw[show f+(t:Int)*s-t*s=f by omega];simp
def atS_ne{f s q:Int}{n:Nat}(hn:2≤n):∀ {t:Nat},t+2≤n→(f≤(atS (msL f s n) q (t+2)).1∧f+(s-q)≤(atS (msL f s n) q (t+2)).1)∧(atS (msL f s n) q (t+2)).2.1≤f∧(atS (msL f s n) q (t+2)).2.1≤f+(s-q)
 |0,h=>by unfold atS atS atS;rw[w8 _ (by rw[msL_len];omega),q6r f s (by omega),w8 _ (by rw[msL_len];omega),q6r f s (by omega)];dsimp only;simp only[Int.natCast_zero,Int.zero_mul,Int.natCast_one,Int.one_mul];omega
 |t+1,h=>by have:=atS_ne (s:=s) (q:=q) (f:=f) hn (t:=t) (by omega);rw[show atS (msL f s n) q (t+1+2)=(max (atS (msL f s n) q (t+2)).1 (((msL f s n).getD (t+2) (0,0,())).1-((t+2:Nat):Int)*q),min (atS (msL f s n) q (t+2)).2.1 (((msL f s n).getD (t+2) (0,0,())).2.1-((t+2:Nat):Int)*q),()) from rfl];dsimp only;omega
def spL_C(h:okC f s n):spL (msL f s n) 50=[(s,(f,f,()),())]:=by
 have h3:=h.s1;have h4:=h.s2;have h5:=h.n2;unfold spL;rw[msL_len];refine z0t (k:=(s-1).toNat) (by omega) (fun j hj hk=>?_) ?_
 ·obtain⟨t,rfl⟩:∃ t,n=t+2:=⟨n-2,by omega⟩;have:=atS_ne (f:=f) (s:=s) (q:=(j:Int)+1) (n:=t+2) h5 (t:=t) (yyl _);exact if_neg (by omega)
 ·have e:(((s-1).toNat:Nat):Int)+1=s:=by omega
  rw[e,atS_eq (yyl _) (by omega)];exact if_pos (Int.le_refl _)
def twI_len:∀ n<7,(twI (2 ^ n-1)).length=n:=by decide
end Go.Proofs.YtjecebccchhmhaaGreatDoor.Cb
namespace Go.Proofs.YtjecebccchhmhaaGreatDoor.Dp
open Go Go.RowKit Ox Ox.Gl
attribute [local irreducible] JC JL JK JW
abbrev pairV(a b:Int):AV:=.val rgT (a,b,())
def fn5(a b:Int):Ox.Fn Tryz.prog 5 (.acons (vI a) (.acons (vI b) .anil)) (·=pairV a b):=by refine zI Tryz.func5 rfl Tryz.call5 rfl fun E M0 up=>?_;refine zK0 ?_;refine zR rfl trivial ?_;rfl
def fn6(a b:Int):Ox.Fn Tryz.prog 6 (.acons (vI a) (.acons (vI b) .anil)) (·=pairV a b):=by refine zI Tryz.func6 rfl Tryz.call6 rfl fun E M0 up=>?_;refine zK0 ?_;refine zR rfl trivial ?_;rfl
def fn9(a b:Int):Ox.Fn Tryz.prog 9 (.acons (vI a) (.acons (vI b) .anil)) (·=pairV a b):=by refine zI Tryz.func9 rfl Tryz.call9 rfl fun E M0 up=>?_;refine zK0 ?_;refine zR rfl trivial ?_;rfl
def fn23(a b:Int):Ox.Fn Tryz.prog 23 (.acons (vI a) (.acons (vI b) .anil)) (·=pairV a b):=by refine zI Tryz.func23 rfl Tryz.call23 rfl fun E M0 up=>?_;refine zK0 ?_;refine zR rfl trivial ?_;rfl
def fn7(k a b:Int):Ox.Fn Tryz.prog 7 (.acons (vI k) (.acons (vI a) (.acons (vI b) .anil))) (·=.val drT (k,(a,b,()),())):=by
 refine zI Tryz.func7 rfl Tryz.call7 rfl fun E M0 up=>?_
 (repeat (first|refine zs rfl ?_|refine n4 ?_|refine ze rfl (fn23 a b) rfl ?_))
 refine zR rfl trivial ?_;rfl
end Go.Proofs.YtjecebccchhmhaaGreatDoor.Dp
namespace Ox
open Go Go.RowKit Go.ChangeShapes Go.WideShapes Go.ChangeAt
section
variable {H:Type}{enc:TypeId×Value→H}{P:Program}{w:World}{base:Nat}{spare:Nat→Bool}{held:Bool}
def Ty.argB:Ty→Bool
 |.int _|.bool|.nil=>true
 |.slice e=>e.argB&&decide (0<e.size)
 |.arr _ e=>e.argB
 |.cons a b=>a.argB&&b.argB
 |.ptr _=>false
def q8r{b off n:Nat}{spot:Option Nat}{cs:List Value}(h:w.cells? base ⟨b,off,spot⟩ n=some cs)(hn:0<n) :
  spot=none∧∃ c ty fz,w.heap[b]?=some (.cells c ty fz)∧cs=(c.toList.drop off).take n:=by
 unfold World.cells? at h;split at h
 ·have hl:=mapM_some_length h;have hg:=fun i (hi:i<n)=>mapM_some_get h i i (by simp[hi]);have h0:=hg 0 hn;rw[List.length_range] at hl;rw[yyt (by omega)] at h0;simp only[Addr.add,if_true,World.cell?] at h0;split at h0
  ·rename_i c ty fz hb;split at h0
   ·cases h0
   ·rename_i hs;have hs:spot=none:=by simpa using hs
    subst hs;refine⟨rfl,c,ty,fz,hb,?_⟩;apply List.ext_getElem?;intro i;rw[yxm];by_cases hi:i<n
    ·rw[if_pos hi,← hg i hi,j4,u6 hb,List.getElem?_drop];simp
    ·rw[if_neg hi,yxe (by omega)]
  ·cases h0
 ·cases h
def Ty.fit:(t:Ty)→t.den→Prop
 |.int k,n=>inK k n
 |.bool,_=>True
 |.slice e,l=>∀ y∈l,e.fit y
 |.ptr _,_=>True
 |.arr _ e,l=>∀ y∈l,e.fit y
 |.nil,_=>True
 |.cons a b,y=>a.fit y.1∧b.fit y.2
def inK_wf{k:IntKind}{n:Int}(h:(Lit.int k n).wf=true):inK k n:=by simp only[Lit.wf,yyc,yyu] at h;cases k<;>exact h
def RepA(P:Program)(t:Ty):Prop:=∀ {H:Type} {enc:TypeId×Value→H} {w:World} {base:Nat} {spare:Nat→Bool} {held:Bool} (id:TypeId) (fuel:Nat) (cs:List Value) (x:DataW H×List MemPlace),
 TyOf P t id→t.argB=true→DataW.trod enc P w base spare held fuel id cs=some x→∃ y,Rep (fun b=>w.heap[b]?) t y cs∧t.fit y
def RepF(P:Program)(t:Ty):Prop:=∀ {H:Type} {enc:TypeId×Value→H} {w:World} {base:Nat} {spare:Nat→Bool} {held:Bool} (fs:List Field) (off fuel:Nat) (cs:List Value),
 TyOf.fields P t fs off→t.argB=true→cs.length=off+t.size→(∀ (i:Nat) (f:Field),fs[i]?=some f→∃ x,DataW.trod enc P w base spare held fuel f.type ((cs.drop f.offset).take (P.cellsOf f.type))=some x) →
  ∃ y,Rep (fun b=>w.heap[b]?) t y (cs.drop off)∧t.fit y
def j0g{p:Nat→α→Prop}(h:∀ i,i<n→∃ y,p i y):∃ l:List α,l.length=n∧∀ i (hi:i<l.length),p i (l.get ⟨i,hi⟩):=by
 induction n with
 |zero=>exact⟨[],rfl,fun i hi=>absurd hi (by simp)⟩
 |succ n ih=>
  obtain⟨l,h1,h2⟩:=ih fun i hi=>h i (by omega);obtain⟨y,hy⟩:=h n (by omega);refine⟨l++[y],by simp[h1],fun i hi=>?_⟩;simp only[List.get_eq_getElem];by_cases hl:i<l.length
  ·rw[List.getElem_append_left hl];exact h2 i hl
  ·have:i=l.length:=by simp at hi;omega
   subst this;rw[List.getElem_append_right (yyl _)];simp only[Nat.sub_self,List.getElem_cons_zero];rw[h1];exact hy
def rep_all(P:Program):∀ t:Ty,RepA P t∧RepF P t:=by
 intro t;induction t with
 |int k=>
  refine⟨fun id fuel cs x ht _ h=>?_,fun fs off fuel cs hf _ _ _=>by simp[TyOf.fields] at hf⟩;simp only[TyOf] at ht;have hu:=ht.under;cases fuel with
  |zero=>simp[DataW.trod] at h
  |succ n=>
   unfold DataW.trod at h;rw[hu] at h;split at h<;>try (simp_all;done)
   rename_i k' q n' he;split at h
   ·rename_i hk;injection he with he
    injection he with he
    subst he;exact⟨n',by simp only[Rep];rw[hk.1],inK_wf hk.2⟩
   ·cases h
 |bool=>
  refine⟨fun id fuel cs x ht _ h=>?_,fun fs off fuel cs hf _ _ _=>by simp[TyOf.fields] at hf⟩;simp only[TyOf] at ht;have hu:=ht.under;cases fuel with
  |zero=>simp[DataW.trod] at h
  |succ n=>
   unfold DataW.trod at h;rw[hu] at h;split at h<;>try (simp_all;done)
   rename_i b he;exact⟨b,by simp only[Rep],trivial⟩
 |slice e ih=>
  refine⟨@fun H enc w base spare held id fuel cs x ht hb h=>?_,fun fs off fuel cs hf _ _ _=>by simp[TyOf.fields] at hf⟩;simp only[TyOf] at ht;obtain⟨eid,hi,he⟩:=ht;simp only[Ty.argB,yyc,yyu] at hb;have hj:=q2w he;rcases DataW.trod_slice hi.under h with⟨h0,_⟩|⟨a,len,cap,elems,rest,n,_,rfl,_,_,hC,hA,hQ,hg,_⟩
  ·exact⟨[],by simp only[Rep];exact⟨none,0,h0,yyl _,yyw _,fun _=>rfl,.inl rfl⟩,fun y hy=>by cases hy⟩
  ·have each:∀ i,i<len→∃ y:e.den,∃ spot c ty fz,a=⟨a.block,a.off,spot⟩∧(spot=none∨i≠0)∧∃ _:w.heap[a.block]?=some (.cells c ty fz),Rep (fun b=>w.heap[b]?) e y ((c.toList.drop (a.off+i*e.size)).take e.size)∧e.fit y:=by
    intro i hh;have h1:=hg i hh;rw[yyt (by omega),yyo,hj] at h1;obtain⟨ce,h2,h3⟩:=h1;obtain⟨blk,off,spot⟩:=a;by_cases h0:i*e.size=0
    ·have hv:i=0:=by
      rcases Nat.mul_eq_zero.1 h0 with h0|h0
      ·exact h0
      ·omega
     subst hv;simp only[Nat.zero_mul,Addr.add,if_true] at h2;obtain⟨hs,c,ty,fz,h4,rfl⟩:=q8r h2 hb.2;obtain⟨y,hy,hw⟩:=ih.1 eid n _ _ he hb.1 h3;exact⟨y,spot,c,ty,fz,rfl,.inl hs,h4,by simpa using hy,hw⟩
    ·have e1:(Addr.add ⟨blk,off,spot⟩ (i*e.size))=⟨blk,off+i*e.size,none⟩:=by simp only[Addr.add,if_neg h0]
     rw[e1] at h2;obtain⟨hs,c,ty,fz,h4,rfl⟩:=q8r h2 hb.2;obtain⟨y,hy,hw⟩:=ih.1 eid n _ _ he hb.1 h3;exact⟨y,spot,c,ty,fz,rfl,.inr (fun hv=>h0 (by rw[hv,Nat.zero_mul])),h4,hy,hw⟩
   by_cases hD:len=0
   ·subst hD;exact⟨[],by simp only[Rep];exact⟨some a,cap,rfl,yyw _,hA,(fun h=>by cases h),.inl rfl⟩,fun y hy=>by cases hy⟩
   ·obtain⟨y0,spot,c,ty,fz,ha,hs,hc,_⟩:=each 0 (by omega);have hs:spot=none:=hs.resolve_right (fun h=>h rfl);subst hs;obtain⟨l,hl,hr⟩:=j0g (p:=fun i (y:e.den)=>Rep (fun b=>w.heap[b]?) e y ((c.toList.drop (a.off+i*e.size)).take e.size)∧e.fit y) (n:=len) (fun i hh=>by
     obtain⟨y,_,c',ty',fz',_,_,hd,hy⟩:=each i hh;rw[hc] at hd;injection hd with hd
     injection hd with hd _ _
     subst hd;exact⟨y,hy⟩)
    refine⟨l,?_,fun y hy=>by obtain⟨i,hi,rfl⟩:=List.mem_iff_get.1 hy;exact(hr i.1 i.2).2⟩
    simp only[Rep];refine⟨some a,cap,by rw[hl],by rw[hl];exact hC,hA,(fun h=>by cases h),.inr ⟨a.block,a.off,c,ty,fz,by rw[ha],hc,fun i hi=>(hr i hi).1⟩⟩
 |ptr e ih=>exact⟨fun id fuel cs x _ hb _=>by simp[Ty.argB] at hb,fun fs off fuel cs hf _ _ _=>by simp[TyOf.fields] at hf⟩
 |arr n e ih=>
  refine⟨@fun H enc w base spare held id fuel cs x ht hb h=>?_,fun fs off fuel cs hf _ _ _=>by simp[TyOf.fields] at hf⟩;simp only[TyOf] at ht;obtain⟨eid,hi,he⟩:=ht;simp only[Ty.argB] at hb;have hj:=q2w he;have hE:P.cellsOf id=n*e.size:=q2w (t:=.arr n e) ⟨eid,hi,he⟩;obtain⟨xs,m,_,_,hl,hB,hg⟩:=DataW.trod_array hi.under h;obtain⟨l,h1,h2⟩:=j0g (p:=fun i (y:e.den)=>Rep (fun b=>w.heap[b]?) e y ((cs.drop (i*e.size)).take e.size)∧e.fit y) (n:=n) (fun i hh=>by have h3:=hg i hh;rw[hj,yyt (by omega)] at h3;exact ih.1 eid m _ _ he hb h3)
  exact⟨l,by simp only[Rep];exact⟨h1,by rw[hl,hE],fun i hi=>(h2 i hi).1⟩,fun y hy=>by obtain⟨i,hi,rfl⟩:=List.mem_iff_get.1 hy;exact(h2 i.1 i.2).2⟩
 |nil=>refine⟨fun id fuel cs x ht _ _=>by simp[TyOf] at ht,fun fs off fuel cs hf _ hl _=>⟨(),?_,trivial⟩⟩;simp only[Rep,Ty.size] at hl ⊢;exact List.drop_of_length_le (by omega)
 |cons a b iha ihb=>
  have hF:RepF P (.cons a b):=by
   intro H enc w base spare held fs off fuel cs hf hb hl hg;cases fs with
   |nil=>simp[TyOf.fields] at hf
   |cons f r=>simp only[TyOf.fields] at hf;obtain⟨h1,h2,h3,h4⟩:=hf;simp only[Ty.argB,yyc] at hb;simp only[Ty.size] at hl;obtain⟨x,hx⟩:=hg 0 f rfl;rw[h1,q2w h2] at hx;obtain⟨y1,hG,hH⟩:=iha.1 _ _ _ _ h2 hb.1 hx;obtain⟨y2,hJ,hK⟩:=ihb.2 r (off+a.size) fuel cs h4 hb.2 (by omega) fun i f hf=>hg (i+1) f (by simpa using hf);refine⟨(y1,y2),?_,hH,hK⟩;simp only[Rep];refine⟨_,_,?_,hG,hJ⟩;rw[← List.drop_drop,List.take_append_drop]
  refine⟨@fun H enc w base spare held id fuel cs x ht hb h=>?_,hF⟩;have hL:=q2w ht;simp only[TyOf] at ht;obtain⟨fs,hi,hm⟩:=ht;obtain⟨xs,n,_,_,hl,hB,hg⟩:=DataW.trod_struct hi.under h;have hM:TyOf.fields P (.cons a b) fs.toList 0:=by
   split at hm
   ·rename_i f r hN;rw[hN];simp only[TyOf.fields];simpa using hm
   ·exact hm.elim
  have:=hF fs.toList 0 n cs hM hb (by rw[hl,hL];omega) (held:=held) (enc:=enc) (w:=w) (base:=base) (spare:=spare) fun i f hf=>by
   have h1:=hg i f (by simpa using hf);have hP:i<xs.length:=by rw[hB];have:=(yy6.1 hf).1;simpa using this
   rw[yyt hP] at h1;exact⟨_,h1⟩
  simpa using this
def Dat:List Ty→Type
 |[]=>Unit
 |t::ts=>t.den×Dat ts
def Dat.av:{ts:List Ty}→Dat ts→AV
 |[],_=>.anil
 |t::_,x=>.acons (.val t x.1) (Dat.av x.2)
def Dat.fit:{ts:List Ty}→Dat ts→Prop
 |[],_=>True
 |t::_,x=>t.fit x.1∧Dat.fit x.2
def tysB(P:Program):List Ty→List TypeId→Bool
 |[],[]=>true
 |t::ts,i::is=>(tyB P t i&&t.argB)&&(P.readableRec i&&decide (i<P.types.size))&&tysB P ts is
 |_,_=>false
variable{t:Ty}
def agg_of{id:TypeId}(ht:TyOf P t id)(hb:t.argB=true):(t.agg=true∧((∃ fs,P.underlying id=some (.struct fs))∨∃ n e,P.underlying id=some (.array n e))) ∨
  (t.agg=false∧((∃ k,P.underlying id=some (.int k))∨P.underlying id=some .bool∨∃ e,P.underlying id=some (.slice e))):=by
 cases t with
 |int k=>simp only[TyOf] at ht;exact .inr ⟨rfl,.inl ⟨k,ht.under⟩⟩
 |bool=>simp only[TyOf] at ht;exact .inr ⟨rfl,.inr (.inl ht.under)⟩
 |slice e=>simp only[TyOf] at ht;obtain⟨eid,h,_⟩:=ht;exact .inr ⟨rfl,.inr (.inr ⟨eid,h.under⟩)⟩
 |ptr e=>simp[Ty.argB] at hb
 |arr n e=>simp only[TyOf] at ht;obtain⟨eid,h,_⟩:=ht;exact .inl ⟨rfl,.inr ⟨n,eid,h.under⟩⟩
 |nil=>simp[TyOf] at ht
 |cons a b=>simp only[TyOf] at ht;obtain⟨fs,h,_⟩:=ht;exact .inl ⟨rfl,.inl ⟨fs,h.under⟩⟩
def arg_rv{ρ:Env}{id:TypeId}{v:Value}{d:DataW H}{ps:List MemPlace}(ht:TyOf P t id)(hb:t.argB=true)(hv:Value.okWide P w .any base id v){b0:Nat}
  (h:DataW.Trod enc P w b0 spare held id v d ps):∃ y,(AV.val t y).rv (fun b=>w.heap[b]?) ρ v∧t.fit y:=by
 obtain⟨fuel,h⟩:=h;obtain⟨y,hy,he⟩:=(rep_all P t).1 id fuel _ _ ht hb h;refine⟨y,?_,he⟩;simp only[AV.rv];refine⟨_,hy,?_⟩;unfold Value.okWide at hv;rcases agg_of ht hb with⟨ha,hu⟩|⟨ha,hu⟩
 ·have:∃ cs,v=.agg cs:=by rcases hu with⟨fs,hu⟩|⟨n,e,hu⟩<;>· rw[hu] at hv;obtain⟨cs,h1,_⟩:=hv;exact⟨cs,h1⟩
  obtain⟨cs,rfl⟩:=this;rw[y4 ha];simp[Value.cells]
 ·have hd:v.oneCell'=true:=by rcases hu with⟨k,hu⟩|hu|⟨e,hu⟩<;>rw[hu] at hv<;>simp only[Cell.okWide,hu,Cell.ok] at hv<;>(split at hv<;>first|rfl|(exact hv.elim)|(split at hv<;>first|rfl|exact hv.elim))
  rw[q1r hd];simp[Ty.wrap,ha]
variable{ts:List Ty}
def q75{i:TypeId}{is:List TypeId}(h:tysB P (t::ts) (i::is)=true):TyOf P t i∧t.argB=true∧P.readableRec i=true∧i<P.types.size∧tysB P ts is=true:=by simp only[tysB,yyc,yyu] at h;exact⟨q03 h.1.1.1,h.1.1.2,h.1.2.1,h.1.2.2,h.2⟩
def j2a{ρ:Env}{b0:Nat}:∀ {ts:List Ty} {is:List TypeId} {vs:List Value} {ds:List (DataW H)} {ps:List MemPlace},tysB P ts is=true→(∀ (j:Nat) t v,is[j]?=some t→vs[j]?=some v→Value.okWide P w .any base t v) →
  DataW.TrodAll enc P w b0 spare held is vs ds ps→∃ ys:Dat ts,ys.av.rvs (fun b=>w.heap[b]?) ρ vs∧ys.fit
 |[],[],vs,ds,ps,_,_,h=>by
  cases vs with
  |nil=>exact⟨(),by simp only[Dat.av,AV.rvs],trivial⟩
  |cons v vs=>cases ds<;>simp[DataW.TrodAll] at h
 |t::ts,i::is,vs,ds,ps,hb,hv,h=>by
  obtain⟨h1,h2,_,_,h5⟩:=q75 hb;cases vs with
  |nil=>cases ds<;>simp[DataW.TrodAll] at h
  |cons v vs=>
   cases ds with
   |nil=>simp[DataW.TrodAll] at h
   |cons d ds=>obtain⟨p,q,h6,h7,_⟩:=h;obtain⟨y,hy,hd⟩:=arg_rv (ρ:=ρ) h1 h2 (hv 0 i v rfl rfl) h6;obtain⟨ys,he,ha⟩:=j2a (ρ:=ρ) h5 (fun j t v hj hg=>hv (j+1) t v (by simpa using hj) (by simpa using hg)) h7;exact⟨(y,ys),by simp only[Dat.av,AV.rvs];exact⟨v,vs,hy,he,rfl⟩,hd,ha⟩
 |[],_::_,_,_,_,hb,_,_=>by simp[tysB] at hb
 |_::_,[],_,_,_,hb,_,_=>by simp[tysB] at hb
def Dat.bd:∀ {ts:List Ty} (ys:Dat ts) (n:Nat),ys.av.bd n
 |[],_,_=>trivial
 |_::_,x,n=>⟨trivial,Dat.bd x.2 n⟩
def q9q{W W':World}(hl:laidOutB P=true)(ha:Below W.heap.size W W'){sp:Nat→Bool}:∀ {ts:List Ty} {is:List TypeId} {vs:List Value} {ds:List (DataW H)} {ps:List MemPlace},tysB P ts is=true →
  DataW.TrodAll enc P W 0 (fun _=>true) true is vs ds ps→(∀ p∈ps,p.block<W.heap.size)→(∀ p∈ps,sp p.block=true)→DataW.TrodAll enc P W' 0 sp true is vs ds ps
 |[],[],vs,ds,ps,_,h,_,_=>by cases vs<;>cases ds<;>simp_all[DataW.TrodAll]
 |t::ts,i::is,vs,ds,ps,hb,h,hd,he=>by
  obtain⟨_,_,h3,h4,h5⟩:=q75 hb;cases vs with
  |nil=>cases ds<;>simp[DataW.TrodAll] at h
  |cons v vs=>
   cases ds with
   |nil=>simp[DataW.TrodAll] at h
   |cons d ds=>obtain⟨p,q,h6,h7,rfl⟩:=h;refine⟨p,q,WideElems.Trod_stays hl h3 h4 h6 (fun x hx=>ha.same (hd x (yxy _ hx))) (fun x hx=>he x (yxy _ hx)),?_,rfl⟩;exact q9q hl ha h5 h7 (fun x hx=>hd x (List.mem_append_right _ hx)) (fun x hx=>he x (List.mem_append_right _ hx))
 |[],_::_,_,_,_,hb,_,_,_=>by simp[tysB] at hb
 |_::_,[],_,_,_,hb,_,_,_=>by simp[tysB] at hb
def z7c{Z:Mem→Prop}{s:ChangeSpec}{W:World}{args:Array Value}{ds gs:List (DataW H)}{before:List MemPlace}{fresh ha:Bool}
  (hz:Z (fun b=>W.heap[b]?)) (hfn:∀ ys:Dat ts,ys.fit→FnL Z P f ys.av (·=.val .bool true)) (hh:tysB P ts fn.params.toList=true) (hl:laidOutB P=true) (hd:s.vars=[])
  (he:∀ ds:List (DataW H),ds.length=ts.length→(s.fn H ds).results=[.lit (.bool true)]∧(s.fn H ds).args=ds∧(s.fn H ds).vars=[]) {rt:TypeId} (hk:fn.resultTypes=#[rt]) (hF:P.underlying rt=some .bool)
  (hu:∀ (j:Nat) t v,fn.params[j]?=some t→args[j]?=some v→Value.okWide P W .any base t v) (hW:DataW.Whole enc P fn.params.toList s.vars false W args.toList ds gs before) :
  Calls P f args W fun e W'=>∃ v,e=.returned v∧s.post enc P fn false fresh ha false W args v W':=by
 have hw:=hW;obtain⟨p,q,hA,hV,rfl,hM,_⟩:=hW;rw[hd] at hV;obtain⟨rfl,rfl⟩:=trodVars_none hV;rw[yxj] at hw;obtain⟨ys,hG,hy⟩:=j2a (ρ:=⟨fun _=>0,fun _=>.nil,fun _=>Go.undef⟩) hh (fun j t v hj hv=>hu j t v (by simpa using hj) (by simpa using hv)) hA;have hB:∀ {ts:List Ty} {is:List TypeId} {vs:List Value} {ds:List (DataW H)} {ps:List MemPlace},tysB P ts is=true→DataW.TrodAll enc P W 0 (fun _=>true) true is vs ds ps→ds.length=ts.length:=by
  intro ts;induction ts with
  |nil=>intro is vs ds ps hb h;cases is<;>cases vs<;>cases ds<;>simp_all[DataW.TrodAll,tysB]
  |cons t ts ih=>
   intro is vs ds ps hb h;cases is with
   |nil=>simp[tysB] at hb
   |cons i is=>
    cases vs<;>cases ds<;>try (simp[DataW.TrodAll] at h;done)
    obtain⟨p,q,_,h7,_⟩:=h;simp[ih (q75 hb).2.2.2.2 h7]
 have hH:=hB hh hA;have hg:=(hfn ys hy).run (fun b=>W.heap[b]?) ⟨fun _=>0,fun _=>.nil,fun _=>Go.undef⟩ W args.toList hz (fun _ _ h=>h) hG (Dat.bd ys 0);rw[Array.toArray_toList] at hg;refine hg.mono fun e W'=>?_;rintro⟨v,r,M',rfl,rfl,_,hC,hD,_⟩;rw[n5] at hC;subst hC;obtain⟨hJ,hK,hL⟩:=he ds hH;have hE:=fun x hx=>hw.lt x hx;refine⟨_,rfl,ds,[],p,[],p,[],hw,?_,?_,?_,World.keptBut_mono (fun x hx=>⟨hx,.inr (.inl hx)⟩) (hD.frame (·∈p)),fun h=>by cases h⟩
 ·rw[yxj,hJ,hk];exact trodAll_cons_mk (shut_bool hF _) trodAll_mk0
 ·rw[yxj,hK];exact q9q hl hD hh hA hE fun x hx=>by simpa using hE x hx
 ·rw[yxj,hL,hd];rfl
end
end Ox
namespace Ox
open Go Go.RowKit
noncomputable section
def z0n{P:Program}{w:World}{name:String}{k:IntKind}{xs:List Int}{g:Nat}{t e:TypeId}(hg:P.globalNamed name=some g)(ht:(P.globals[g]?).map (·.type)=some t)(hu:P.underlying t=some (.array xs.length e))(he:P.underlying e=some (.int k))(hc:P.cellsOf e=1) :
  ∀ {laid:List (String×DataW Unit)} {ps:List MemPlace},DataW.LaidVars P w laid ps→(name,DataW.agg (xs.map fun z=>DataW.lit (.int k z)))∈laid →
  ∃ (cs:Array Value) (ty:TypeId) (fz:Nat×Nat),w.heap[g]?=some (.cells cs ty fz)∧xs.length≤cs.size∧∀ i,i<xs.length→cs[i]?=some (.int k (xs.getD i 0))
 |[],_,_,hm=>absurd hm yy9
 |(n,d)::r,ps,h,hm=>by
  obtain⟨g',t',cs,fuel,p,q,h1,h2,h3,h4,h5,_⟩:=h;rcases yyk.1 hm with hm|hm
  ·injection hm with e1 e2
   subst e1;subst e2;obtain rfl:=Option.some.inj (hg.symm.trans h1);obtain rfl:=Option.some.inj (ht.symm.trans h2);obtain⟨ys,m,_,hx,hl,hv,ha⟩:=DataW.trod_array hu h4;have hy:ys.map (·.1)=xs.map fun z=>DataW.lit (.int k z):=by
    injection hx with hx _
    injection hx with hx
    exact hx.symm
   have hb:∃ ty fz,w.heap[g]?=some (.cells cs ty fz):=by
    unfold World.var? at h3;rw[hg] at h3;simp only[Option.bind_some] at h3;split at h3
    ·rename_i cs' ty fz hh;injection h3 with h3
     exact⟨ty,fz,by rw[hh,h3]⟩
    ·cases h3
   obtain⟨ty,fz,hh⟩:=hb;have key:∀ i,i<xs.length→cs[i]?=some (.int k (xs.getD i 0)):=fun i hi=>by
    have h6:=ha i hi;rw[hc,Nat.mul_one] at h6;have hj:i<ys.length:=by rw[hv];exact hi
    rw[yyt hj] at h6;obtain⟨z,h7,h8,_⟩:=DataW.trod_int he h6;have h9:(ys[i]).1=DataW.lit (.int k (xs.getD i 0)):=by have:=congrArg (fun l=>l[i]?) hy;simp only[List.getElem?_map,yyt hj,yyt hi,yxn,yya] at this;rw[this,yyq,yyt hi];rfl
    rw[h8] at h9;injection h9 with h9
    injection h9 with _ h9
    subst h9;have hk:i<cs.toList.length:=by refine Nat.lt_of_not_le fun hd=>?_;rw[List.drop_of_length_le hd] at h7;cases h7
    rw[yxf hk] at h7;injection h7 with h7 _
    rw[← yxw,yyt hk,h7]
   refine⟨cs,ty,fz,hh,?_,key⟩;refine Nat.le_of_not_lt fun hd=>?_;have:=key cs.size hd;simp at this
  ·exact z0n hg ht hu he hc h5 hm
end
end Ox
namespace Ox
open Go Go.RowKit Ox.Rn
variable {X:Ctx}{M:Mem}{ρ:Env}{a:Act}{w w':World}{QA:Exit→S→Prop}{all l:List Oper}{L:List (Nat×AV)}{H:List (Nat×HO)}{nx d:Nat}{ty:TypeId}{ps:String}{af:Array Edge}{s:S}{o:Oper}{md:Bool}
variable{gs:List Gt}
def z4k{M N:Mem}(h:Laid gs M)(k:∀ b o,M b=some o→N b=some o):Laid gs N:=fun q hq=>by obtain⟨cs,ty,fz,e1,e2⟩:=h q hq;exact⟨cs,ty,fz,k _ _ e1,e2⟩
variable{r args:AV}
def z2j(h:callA X.T o.op s=some (cs,f,.anil))(hf:FnZ (Laid gs) X.P f r.toV)(hz:Laid gs X.M0)(hc:allP cs)(h1:SAT X M ρ s w)(h2:REG X M ρ s a)(hw:Below w.heap.size w w1) :
  ∃ az,(execOp a.eval o).run X.P w1=.ok (.enter f az) w1∧Calls X.P f az w1 (fun e w'=>e=.returned r.toV∧Below w.heap.size w w'):=by
 obtain⟨hb,vs,hd,ha⟩:=f7 h1 (q5r h1) h2 h hc;simp only[AV.rvs] at hd;subst hd;refine⟨#[],by rw[ha,hf.call],(hf.run _ w1 (z4k hz fun b o e=>h1.mem b o (h1.msub b o e)) (q5q hw)).mono ?_⟩;rintro e w' ⟨rfl,he⟩;exact⟨rfl,hw.trans (he.mono hw.size)⟩
def JL.callZ(hg:o.guard=none)(h:callA X.T o.op s=some (cs,f,.anil))(hf:FnZ (Laid gs) X.P f r.toV)(hz:Laid gs X.M0)(hr:r.scal=true)(ha:r.bd 0)(hd:dstOk X.n o.dst)(hc:allP cs)
  (k:JL X true all QA l (putS o.dst r s)):JL X true all QA (o::l) s:=by
 intro M ρ a w h1 h2;obtain⟨az,e1,e2⟩:=z2j h hf hz hc h1 h2 (Below.refl w.heap.size w);refine z9 (j6 hg) (x8 (q00 h) e1 e2 ?_);rintro e w' ⟨rfl,hb⟩;exact⟨_,rfl,k M ρ _ w' (z8 (h1.later hb)) (h2.putO hd.spec (j3 (yyw _) ha) ((x5 hr).2 rfl))⟩
def j2w(hg:gOf all s.L o.guard=some g)(ha:g=true)(h:callA X.T o.op s=some (cs,f,.anil))(hf:FnZ (Laid gs) X.P f r.toV)(hz:Laid gs X.M0)(hr:r.scal=true)(hb:r.bd 0)(hd:dstOk X.n o.dst)(hc:allP cs)
  (k:JL X true all QA l (putS o.dst r s)):JL X true all QA (o::l) s:=by
 subst ha;intro M ρ a w h1 h2;have hw:=u7 hg h2;obtain⟨az,e1,e2⟩:=z2j h hf hz hc h1 h2 (Below.refl w.heap.size w);refine z9 hw (x8 (q00 h) e1 e2 ?_);rintro e w' ⟨rfl,he⟩;exact⟨_,rfl,k M ρ _ w' (z8 (h1.later he)) (h2.putO hd.spec (j3 (yyw _) hb) ((x5 hr).2 rfl))⟩
variable {op:Op}
def JK.callZ{fr:List Fr}{gs:List Gt}{cs:List Prop}{f:FuncId}{b:Bool}(h:callA X.T op ⟨L,H,nx⟩=some (cs,f,.anil))(hf:FnZ (Laid gs) X.P f (.bool b))(hz:Laid gs X.M0)(hd:ltB d X.n=true)(hc:allP cs)
  (k:JK X (.ops true all l::fr) QA ⟨(d,(.val .bool b))::L,H,nx⟩):JK X (.ops true all (⟨some d,op,ty,ps,af,none⟩::l)::fr) QA ⟨L,H,nx⟩:=
 JL.callZ (r:=(.val .bool b)) rfl h hf hz rfl trivial (j9 hd) hc k
def z21{fr:List Fr}{b:Bool}(hg:gOf all L (some gg)=some g)(ha:g=true)(h:callA X.T op ⟨L,H,nx⟩=some (cs,f,.anil))(hf:FnZ (Laid gs) X.P f (.bool b))(hz:Laid gs X.M0)(hd:ltB d X.n=true)(hc:allP cs)
  (k:JK X (.ops true all l::fr) QA ⟨(d,(.val .bool b))::L,H,nx⟩):JK X (.ops true all (⟨some d,op,ty,ps,af,some gg⟩::l)::fr) QA ⟨L,H,nx⟩:=
 j2w (r:=(.val .bool b)) (s:=⟨L,H,nx⟩) hg ha h hf hz rfl trivial (j9 hd) hc k
def FnL.toZ{Z:Mem→Prop}(hr:r.scal=true)(h:FnL Z P f .anil (·=r)):FnZ Z P f r.toV where
 call:=h.call
 run:=fun M w hz hM=>by
  let ρ:Env:=⟨fun _=>0,fun _=>.bool,fun _=>Go.undef⟩
  refine(h.run M ρ w [] hz hM (by simp only[AV.rvs]) trivial).mono ?_;rintro e w' ⟨v,r',M',rfl,rfl,_,hv,ha,_⟩;exact⟨by rw[(x5 hr).1 hv],ha⟩
def LaidW(gs:List Gt)(w:World):Prop:=Laid gs fun b=>w.heap[b]?
def LaidW.later{E w:World}(h:LaidW gs E)(hb:Below E.heap.size E w):LaidW gs w:=z4k h fun b o e=>by show w.heap[b]?=some o;rw[hb.block b (yyi.1 e).1];exact e
abbrev FnE(gs:List Gt):=FnX fun _ w=>LaidW gs w
variable{R:AV→Prop}
def FnE.toL(h:FnE gs P f args R):FnL (Laid gs) P f args R:=⟨h.call,fun M ρ w vs hz hM=>h.run M ρ w vs (z4k hz hM) hM⟩
def z2l(hz:LaidW gs X.E)(h:callA X.T o.op s=some (cs,f,args))(hf:FnE gs X.P f args (·=r))(hr:r.scal=true)(hc:allP cs)(h1:SAT X M ρ s w)(h2:REG X M ρ s a)(hw:Below w.heap.size w w1) :
  ∃ az,(execOp a.eval o).run X.P w1=.ok (.enter f az) w1∧Calls X.P f az w1 (fun e w'=>e=.returned r.toV∧Below w.heap.size w w'):=by
 obtain⟨hb,vs,hd,ha⟩:=f7 h1 (q5r h1) h2 h hc;refine⟨vs.toArray,by rw[ha,hf.call],(hf.run _ ρ w1 vs ((hz.later h1.below).later hw) (q5q hw) hd hb).mono ?_⟩;rintro e w' ⟨v,r',M',rfl,rfl,_,hv,he,_⟩;exact⟨by rw[(x5 hr).1 hv],hw.trans (he.mono hw.size)⟩
def j2y(hz:LaidW gs X.E)(hg:o.guard=none)(h:callA X.T o.op s=some (cs,f,args))(hf:FnE gs X.P f args (·=r))(hr:r.scal=true)(ha:r.bd 0)(hd:dstOk X.n o.dst)(hc:allP cs)
  (k:JL X md all QA l (putS o.dst r s)):JL X md all QA (o::l) s:=by
 cases md
 ·intro M ρ a w0 h1 h2;simp only[wpQuiet,Region.wanted,hg,if_true];refine⟨r.toV,fun w hw=>?_,k M ρ _ w0 (z8 h1) (h2.putO hd.spec (j3 (yyw _) ha) ((x5 hr).2 rfl))⟩;obtain⟨az,e1,e2⟩:=z2l hz h hf hr hc h1 h2 hw;unfold Oper.quietAt;rw[e1];exact⟨rfl,e2⟩
 ·intro M ρ a w h1 h2;obtain⟨az,e1,e2⟩:=z2l hz h hf hr hc h1 h2 (Below.refl w.heap.size w);refine z9 (j6 hg) (x8 (q00 h) e1 e2 ?_);rintro e w' ⟨rfl,hb⟩;exact⟨_,rfl,k M ρ _ w' (z8 (h1.later hb)) (h2.putO hd.spec (j3 (yyw _) ha) ((x5 hr).2 rfl))⟩
def z6m(hz:LaidW gs X.E)(hg:o.guard=none)(h:callA X.T o.op ⟨s.L,[],s.nx⟩=some (cs,f,args))(hf:FnE gs X.P f args R)(hd:dstOk X.n o.dst)(hc:allP cs)
  (k:∀ r,R r→JL X true all QA l (putS o.dst r s)):JL X true all QA (o::l) s:=by
 intro M ρ a w h1 h2;have hh:SAT X M ρ ⟨s.L,[],s.nx⟩ w:=⟨h1.below,h1.msub,h1.mnew,h1.mem,fun l o h=>by simp[lk] at h,fun l l' o o' b h=>by simp[lk] at h,fun l o b h=>by simp[lk] at h⟩;have hj:REG X M ρ ⟨s.L,[],s.nx⟩ a:=⟨h2.size,h2.defers,h2.reg⟩;obtain⟨hb,vs,hk,he⟩:=f7 hh (Mx:=M) ⟨Mem.le_refl M,fun l o b h=>by simp[lk] at h⟩ hj h hc;refine z9 (j6 hg) (x8 (q00 h) (by rw[he,hf.call]) (hf.run M ρ w vs (hz.later h1.below) h1.mem hk hb) ?_);rintro e w' ⟨v,r,M',rfl,hR,hu,hv,hw,hm,hy,ha⟩;have h3:=h1.ext hw hm hy ha;have h4:REG X M' ρ s a:=h2.grow hm (Env.upTo.refl ρ s.nx) (yyl _) fun D hD=>by rw[ha D (yyi.1 (h1.mem _ _ hD)).1];exact hD
 exact⟨_,rfl,k r hR M' ρ _ w' (z8 h3) (h4.putO hd.spec (j3 (yyw _) hu) hv)⟩
def z7j(h:callA X.T o.op s=some (cs,f,.anil))(hf:FnZ (Laid gs) X.P f r.toV)(hz:LaidW gs X.E)(hc:allP cs)(h1:SAT X M ρ s w)(h2:REG X M ρ s a)(hw:Below w.heap.size w w1) :
  ∃ az,(execOp a.eval o).run X.P w1=.ok (.enter f az) w1∧Calls X.P f az w1 (fun e w'=>e=.returned r.toV∧Below w.heap.size w w'):=by
 obtain⟨hb,vs,hd,ha⟩:=f7 h1 (q5r h1) h2 h hc;simp only[AV.rvs] at hd;subst hd;refine⟨#[],by rw[ha,hf.call],(hf.run (fun b=>w1.heap[b]?) w1 ((hz.later h1.below).later hw) (fun b o e=>e)).mono ?_⟩;rintro e w' ⟨rfl,he⟩;exact⟨rfl,hw.trans (he.mono hw.size)⟩
def j2x{g:Option Bool}(hg:match g with|none=>o.guard=none|some g=>gOf all s.L o.guard=some g∧g=true)(h:callA X.T o.op s=some (cs,f,.anil))(hf:FnZ (Laid gs) X.P f r.toV)(hz:LaidW gs X.E)(hr:r.scal=true)(ha:r.bd 0)(hd:dstOk X.n o.dst)(hc:allP cs)
  (k:JL X true all QA l (putS o.dst r s)):JL X true all QA (o::l) s:=by
 intro M ρ a w h1 h2;have hw:Region.wanted o (yielded all.toArray a.tmps)=true:=by
  cases g with
  |none=>exact j6 hg
  |some g=>obtain⟨hg,rfl⟩:=hg;exact u7 hg h2
 obtain⟨az,e1,e2⟩:=z7j h hf hz hc h1 h2 (Below.refl w.heap.size w);refine z9 hw (x8 (q00 h) e1 e2 ?_);rintro e w' ⟨rfl,hb⟩;exact⟨_,rfl,k M ρ _ w' (z8 (h1.later hb)) (h2.putO hd.spec (j3 (yyw _) ha) ((x5 hr).2 rfl))⟩
section
variable {op:Op}{L:List (Nat×AV)}{H:List (Nat×HO)}{nx d:Nat}{ty:TypeId}{ps:String}{af:Array Edge}{fr:List Fr}
variable{gs:List Gt}{args:AV}
def JK.scE(hz:LaidW gs X.E)(h:callA X.T op ⟨L,H,nx⟩=some (cs,f,args))(hf:FnE gs X.P f args (·=r))(hr:r.scal=true)(hd:ltB d X.n=true)(hc:allP cs)(k:JK X (.ops md all l::fr) QA ⟨(d,r)::L,H,nx⟩) :
  JK X (.ops md all (⟨some d,op,ty,ps,af,none⟩::l)::fr) QA ⟨L,H,nx⟩:=j2y (s:=⟨L,H,nx⟩) hz rfl h hf hr (q2o hr) (j9 hd) hc k
def JK.ceE(hz:LaidW gs X.E)(h:callA X.T op ⟨L,[],nx⟩=some (cs,f,args))(hf:FnE gs X.P f args (·=r))(hd:ltB d X.n=true)(hc:allP cs)(k:JK X (.ops true all l::fr) QA ⟨(d,r)::L,H,nx⟩) :
  JK X (.ops true all (⟨some d,op,ty,ps,af,none⟩::l)::fr) QA ⟨L,H,nx⟩:=z6m (s:=⟨L,H,nx⟩) hz rfl h hf (j9 hd) hc fun _ e=>e▸k
def z7w{b:Bool}(hg:gOf all L (some gg)=some g)(ha:g=true)(h:callA X.T op ⟨L,H,nx⟩=some (cs,f,.anil))(hf:FnZ (Laid gs) X.P f (.bool b))(hz:LaidW gs X.E)(hd:ltB d X.n=true)(hc:allP cs)
  (k:JK X (.ops true all l::fr) QA ⟨(d,(.val .bool b))::L,H,nx⟩):JK X (.ops true all (⟨some d,op,ty,ps,af,some gg⟩::l)::fr) QA ⟨L,H,nx⟩:=
 j2x (g:=some g) (r:=(.val .bool b)) (s:=⟨L,H,nx⟩) ⟨hg,ha⟩ h hf hz rfl trivial (j9 hd) hc k
end
end Ox
namespace Go.Proofs.YtjecebccchhmhaaGreatDoor.Dp
open Go Go.RowKit Ox Ox.Gl Ox.Rn
attribute [local irreducible] JC JL JK JW
abbrev LS(f lo hi:Int):List (Nat×AV):=[(10,vB false),(11,.lf (.optr 0 [])),(12,vI f),(13,vI lo),(14,vI hi),(15,.lf (.optr 1 [])),(16,.lf (.optr 3 []))]
abbrev HS(s:Int)(n:Nat)(S:List SpD)(D:List DrD)(R:List RgD):List (Nat×HO):=[(6,.sl 38 rgT R),(5,.sl 40 drT D),(4,.sl 35 spT S),(3,.cell Cb.shT (.mix (.val (.slice rgT) [(s,(n:Int),())]) (.mix (.lf (.osl 6)) (.val .nil ())))),(1,.cell baT (.mix (vI 1000) (.mix (.lf (.osl 4)) (.mix (.lf (.osl 5)) (.val .nil ()))))),(0,.cell rgT (.val rgT (s,(n:Int),())))]
set_option maxRecDepth 20000 in
set_option maxHeartbeats 4000000 in
def law_bath{f s lo hi:Int}(h:okB f s lo hi n){E:World}{M0:Mem}{up:Nat→Nat→Value}{r:List Fr}{QA:Exit→S→Prop}
  (kend:JK ⟨Tryz.prog,tys,ets,mts,E,M0,Tryz.f3.ntmps,none,up,0⟩ r QA ⟨LS f lo hi,HS s n (spS f s n) (drS lo hi n) (Cb.msL f s n),7⟩) :
  JK ⟨Tryz.prog,tys,ets,mts,E,M0,Tryz.f3.ntmps,none,up,0⟩ (.code (lpC Tryz.f3.body)::.blk 0::r) QA ⟨LS f lo hi++[(17,vI 0)],HS s n [] [] [],7⟩:=by
 have h6:=h.n6;have ha:=h.s1;have hb:=h.s2;have he:=h.f1;have hg:=h.f2;refine JK.loop (fun i:Nat=>⟨LS f lo hi++[(17,vI (i:Int))],HS s n (spS f s i) (drS lo hi i) (Cb.msL f s i),7⟩) (fun i=>i≤n) (fun i=>n-i) 0 (yyw _) (JW.refl _) fun i hh=>?_;have e1:=spS_succ f s i;have e2:=drS_succ lo hi i;have e3:Cb.msL f s (i+1)=Cb.msL f s i++[(f+i*s,f+i*s,())]:=by unfold Cb.msL;rw[List.range_succ,yxz];rfl
 have l1:=q09 f s i;have l2:=z0x lo hi i;have l3:=Cb.msL_len f s i;have ef:i=n→spS f s i=spS f s n∧drS lo hi i=drS lo hi n∧Cb.msL f s i=Cb.msL f s n:=fun e=>by rw[e];exact⟨rfl,rfl,rfl⟩
 generalize spS f s i=S1 at e1 l1 ef ⊢;generalize drS lo hi i=D1 at e2 l2 ef ⊢;generalize Cb.msL f s i=R1 at e3 l3 ef ⊢;have hd:=Cb.nn_mul ha hb (i:=min i 5) (by omega);refine zK0 ?_;refine q9 rfl (fun hc=>?_) (fun hc=>?_)
 ·replace hc:=zC hc;have hj:i<n:=by omega
  rw[show min i 5=i by omega] at hd;have c6:=fn6 (f+(i:Int)*s) 500;have c7:=fn7 (i:Int) lo hi;refine zK2 ?_;refine g9 xk (Tryz.f3.body.getD .skip) ⟨LS f lo hi++[(17,vI (i:Int)),(18,vI (f+(i:Int)*s))],HS s n (S1++[(f+(i:Int)*s,500,())]) D1 R1,7⟩ rfl 8 rfl ?_ ?_
  ·(refine q7 0 xk rfl rfl (q7 2 xk rfl rfl (z6 1 xk rfl rfl (zU 3 xk rfl rfl ?_)));(first|refine q81 rfl (c6) rfl trivial rfl ?_|(refine z2x rfl (c6) rfl (fun r hr=>?_);subst hr));refine q8 ?_;refine zU 4 xk rfl rfl ?_;(refine q19 xk rfl rfl ?_);refine q8 ?_;refine zU 5 xk rfl rfl ?_;refine zK9 ?_;refine q8 ?_;refine q7 6 xk rfl rfl (zU 7 xk rfl rfl ?_);refine zK3 ?_;refine q8 ?_;refine v7 xk StF.nil ?_;(exact zJ))
  refine zK2 ?_;refine g9 xk (Tryz.f3.body.getD .skip) ⟨LS f lo hi++[(17,vI (i:Int)),(18,vI (f+(i:Int)*s))],HS s n (S1++[(f+(i:Int)*s,500,())]) (D1++[((i:Int),(lo,hi,()),())]) R1,7⟩ rfl 10 rfl ?_ ?_
  ·(refine q7 0 xk rfl rfl (q7 2 xk rfl rfl (q7 3 xk rfl rfl (q7 4 xk rfl rfl (z6 1 xk rfl rfl (zU 5 xk rfl rfl ?_)))));(first|refine q81 rfl (c7) rfl trivial rfl ?_|(refine z2x rfl (c7) rfl (fun r hr=>?_);subst hr));refine q8 ?_;refine zU 6 xk rfl rfl ?_;(refine q19 xk rfl rfl ?_);refine q8 ?_;refine zU 7 xk rfl rfl ?_;refine zK9 ?_;refine q8 ?_;refine q7 8 xk rfl rfl (zU 9 xk rfl rfl ?_);refine zK3 ?_;refine q8 ?_;refine v7 xk StF.nil ?_;(exact zJ))
  refine zK0 ?_;refine⟨i+1,?_,by omega,by omega⟩;rw[e1,e2,e3];exact zJ
 ·replace hc:=zC hc;obtain⟨q1,q2,q3⟩:=ef (by omega);rw[q1,q2,q3];refine u9 (s':=⟨LS f lo hi,HS s n (spS f s n) (drS lo hi n) (Cb.msL f s n),7⟩) (JW.same ⟨rfl,rfl,rfl,rfl,rfl,rfl,rfl,trivial⟩) ?_;refine zK0 ?_;exact kend
end Go.Proofs.YtjecebccchhmhaaGreatDoor.Dp
namespace Go.Proofs.YtjecebccchhmhaaGreatDoor.Dp
open Go Go.RowKit Ox Ox.Gl
attribute [local irreducible] JC JL JK JW
def z6y{d:Int}(h1:-(b:Int)≤d)(h2:d≤b):0≤d*d∧d*d≤(b:Int)*b:=by
 have h3:0≤d*d:=by
  rcases Int.le_total 0 d with h|h
  ·exact Int.mul_nonneg h h
  ·have:=Int.mul_nonneg (show 0≤-d by omega) (show 0≤-d by omega);rwa[Int.neg_mul_neg] at this
 refine⟨h3,?_⟩;rcases Int.le_total 0 d with h|h
 ·exact Int.mul_le_mul h2 h2 h (by omega)
 ·have:=Int.mul_le_mul (show -d≤b by omega) (show -d≤b by omega) (by omega) (by omega);rwa[Int.neg_mul_neg] at this
def both_iff{D a:Int}(hD:0≤D)(ha:1≤a):(D-a-a≤0∨(D-a-a)*(D-a-a)≤4*a*a)↔D≤4*a:=by
 constructor
 ·rintro(h|h)
  ·omega
  ·refine yxh fun hn=>?_;have h1:2*a+1≤D-a-a:=by omega
   have h2:=Int.mul_le_mul h1 h1 (by omega) (by omega);have h3:(2*a+1)*(2*a+1)=4*a*a+4*a+1:=by rw[Int.add_mul,Int.mul_add,Int.one_mul,Int.mul_one,Int.mul_comm 2 a,← Int.mul_assoc,Int.mul_assoc a 2 a,Int.mul_comm 2 a,← Int.mul_assoc a a 2,Int.mul_assoc (a*a) 2 2];rw[Int.mul_assoc 4 a a,Int.mul_comm 4 (a*a)];omega
   omega
 ·intro h;rcases Int.le_total (D-a-a) 0 with h0|h0
  ·exact .inl h0
  ·right;have h1:D-a-a≤2*a:=by omega
   have h2:=Int.mul_le_mul h1 h1 h0 (by omega);have h3:(2*a)*(2*a)=4*a*a:=by rw[Int.mul_comm 2 a,← Int.mul_assoc,Int.mul_assoc a 2 a,Int.mul_comm 2 a,← Int.mul_assoc a a 2,Int.mul_assoc (a*a) 2 2,Int.mul_assoc 4 a a,Int.mul_comm 4 (a*a)];rfl
   omega
def fn227{x y a:Int}(hx:1≤x∧x≤350)(hy:1≤y∧y≤350)(ha:1≤a∧a≤10000):Ox.Fn Tryz.prog 227 (.acons (vI a) (.acons (vI a) (.acons (.val spT (x,500,())) (.acons (.val spT (y,500,())) .anil)))) (·=vB (decide ((x-y)*(x-y)≤4*a))):=by
 refine zI Tryz.func227 rfl Tryz.call227 rfl fun E M0 up=>?_;have hd:=z6y (d:=x-y) (b:=349) (by omega) (by omega);refine zK2 ?_
 (refine z20 [0,1] [0,1,6,7] rfl ?_)
 refine zK2 ?_;refine g9 xk (Tryz.f227.body.getD .skip) ⟨[(0,vI a),(1,vI a),(9,vI (x-y)),(10,vI 0)],[],0⟩ rfl 12 rfl ?_ ?_
 ·(refine q7 0 xk rfl rfl (q7 2 xk rfl rfl (q7 5 xk rfl rfl (q7 7 xk rfl rfl (z6 1 xk rfl rfl (z6 3 xk rfl rfl (z6 4 xk rfl rfl (z6 6 xk rfl rfl (z6 8 xk rfl rfl (z6 9 xk rfl rfl (z6 10 xk rfl rfl (z6 11 xk rfl rfl ?_)))))))))));refine v7 xk ?_ ?_;exact zS;(exact zJ))
 clear hx hy;generalize x-y=d at hd ⊢;generalize hD:d*d=D at hd ⊢;have hq:-20000≤D-a-a∧D-a-a≤122000:=by omega
 refine zs rfl ?_;refine JK.cut (fun _:Unit=>⟨[(0,vI a),(1,vI a),(11,vI (D-a-a))],[],0⟩) (fun _=>True) ?_ (fun _ _=>?_)
 ·refine zK0 ?_;refine⟨(),JW.same ⟨rfl,rfl,?_,trivial⟩,trivial⟩;show some (AV.val (.int .i64) (d*d+0*0-a-a))=some (vI (D-a-a));rw[hD,Int.mul_zero,Int.add_zero]
 have he:=z6y (d:=D-a-a) (b:=122000) (by omega) (by omega);have hb:=both_iff (D:=D) (a:=a) (by omega) (by omega);have hg:=z6y (d:=a) (b:=10000) (by omega) (by omega);have h4:0≤4*a*a∧4*a*a≤400000000:=by rw[Int.mul_assoc];omega
 generalize D-a-a=q at hq he hb;refine zK0 ?_;refine zR rfl trivial ?_;refine congrArg vB ?_;rw[decide_eq_true (show 0<a by omega),cond_true];by_cases hA:D≤4*a
 ·rw[decide_eq_true hA];rcases hb.2 hA with h|h
  ·rw[decide_eq_true h];rfl
  ·rw[decide_eq_true h];cases decide (q≤0)<;>rfl
 ·rw[decide_eq_false hA];have h1:¬ q≤0:=fun h=>hA (hb.1 (.inl h));have h2:¬ q*q≤4*a*a:=fun h=>hA (hb.1 (.inr h));rw[decide_eq_false h1,decide_eq_false h2];rfl
abbrev taT:Ty:=.cons baT (.cons (.slice rgT) (.cons (.arr 12 (.arr 12 (.int .i64))) .nil))
abbrev mkTa(S:List SpD)(D:List DrD)(R:List RgD)(K:List (List Int)):taT.den:=(mkBa S D,R,K,())
def rgS(lo hi:Int)(n:Nat):List RgD:=List.replicate n (lo,hi,())
def z8x(lo hi:Int)(n:Nat):(rgS lo hi n).length=n:=by simp[rgS]
def z8y(lo hi:Int){n k:Nat}(h:k<n):(rgS lo hi n).getD k (0,0,())=(lo,hi,()):=by rw[rgS,yyq,List.getElem?_replicate,if_pos h];rfl
abbrev vTa(f s lo hi:Int)(n:Nat)(K:List (List Int)):taT.den:=mkTa (spS f s n) (drS lo hi n) (rgS lo hi n) K
abbrev pTa(f s lo hi:Int)(n:Nat)(K:List (List Int)):AV:=.val (.ptr taT) (some (vTa f s lo hi n K))
abbrev cTa(g:FuncId)(f s lo hi:Int)(n:Nat)(K:List (List Int)):AV:=.fn g (.acons (pTa f s lo hi n K) .anil) .anil
variable {f s lo hi:Int}{n:Nat}{K:List (List Int)}
def fn191(hk:k<n):Ox.Fn Tryz.prog 191 (.acons (pTa f s lo hi n K) (.acons (vI (k:Int)) .anil)) (·=vI lo):=by
 refine zI Tryz.func191 rfl Tryz.call191 rfl fun E M0 up=>?_;have h1:(0:Int)≤(k:Int)∧(k:Int)<(rgS lo hi n).length:=by rw[z8x];omega
 refine zK0 ?_;refine zR rfl trivial ?_;show vI ((rgS lo hi n).getD k (0,0,())).1=_;rw[z8y lo hi hk]
def fn192(hk:k<n):Ox.Fn Tryz.prog 192 (.acons (pTa f s lo hi n K) (.acons (vI (k:Int)) .anil)) (·=vI hi):=by
 refine zI Tryz.func192 rfl Tryz.call192 rfl fun E M0 up=>?_;have h1:(0:Int)≤(k:Int)∧(k:Int)<(rgS lo hi n).length:=by rw[z8x];omega
 refine zK0 ?_;refine zR rfl trivial ?_;show vI ((rgS lo hi n).getD k (0,0,())).2.1=_;rw[z8y lo hi hk]
def tchW(f s a k w:Int):Bool:=if w=-2 then decide ((1000-(f+k*s))*(1000-(f+k*s))≤a) else decide ((f+k*s)*(f+k*s)≤a)
def tchB(f s a p q:Int):Bool:=if p<0 then(if q<0 then false else tchW f s a q p) else if q<0 then tchW f s a p q else decide (((f+p*s)-(f+q*s))*((f+p*s)-(f+q*s))≤4*a)
def q93(f s a p q:Int):tchB f s a p q=tchB f s a q p:=by
 unfold tchB;by_cases h1:p<0<;>by_cases h2:q<0<;>simp only[h1,h2,if_true,if_false]
 congr 2;rw[← Int.neg_mul_neg,Int.neg_sub]
variable{a:Int}
set_option maxRecDepth 20000 in
def fn190(h:okB f s lo hi n){g:FuncId}(hg:∀ k,k<n→Ox.Fn Tryz.prog g (.acons (pTa f s lo hi n K) (.acons (vI ((k:Nat):Int)) .anil)) (·=vI a))(ha:1≤a∧a≤10000){p q:Int}(hp:-2≤p∧p<n)(hq:-2≤q∧q<n) :
  Ox.Fn Tryz.prog 190 (.acons (pTa f s lo hi n K) (.acons (vI p) (.acons (vI q) (.acons (cTa g f s lo hi n K) .anil)))) (·=vB (tchB f s a p q)):=by
 refine zI Tryz.func190 rfl Tryz.call190 rfl fun E M0 up=>?_;refine zK0 ?_;refine q9 rfl (fun hc=>?_) (fun hc=>?_)
 ·have hc:(bif decide (p<0) then decide (q<0) else false)=true:=hc;have h1:p<0∧q<0:=by
   by_cases h1:p<0
   ·simp[h1] at hc;exact⟨h1,hc⟩
   ·simp[h1] at hc
  refine zK0 ?_;refine zR rfl trivial ?_;unfold tchB;rw[if_pos h1.1,if_pos h1.2]
 have hw:¬ (p<0∧q<0):=fun h1=>by have hc:(bif decide (p<0) then decide (q<0) else false)=false:=hc;simp[h1.1,h1.2] at hc
 clear hc;refine zK10 ?_;refine JK.cut (σ:=Nat×Int) (fun m=>⟨[(0,pTa f s lo hi n K),(1,vI (m.1:Int)),(2,vI m.2),(3,cTa g f s lo hi n K)],[],0⟩) (fun m=>m.1<n∧(-2≤m.2∧m.2<n)∧tchB f s a p q=tchB f s a (m.1:Int) m.2) ?_ (fun⟨k,m⟩ ⟨hk,hm,he⟩=>?_)
 ·refine zK0 ?_;refine q9 rfl (fun hc=>?_) (fun hc=>?_)
  ·have hc:p<0:=of_decide_eq_true hc;refine zK0 ?_;have e:((q.toNat:Nat):Int)=q:=Int.toNat_of_nonneg (by omega);refine⟨(q.toNat,p),JW.same ⟨rfl,by show some (vI q)=some (vI ((q.toNat:Nat):Int));rw[e],rfl,rfl,trivial⟩,by dsimp only;omega,by dsimp only;omega,?_⟩;dsimp only;rw[e,q93]
  ·have hc:¬ p<0:=of_decide_eq_false hc;refine zK0 ?_;have e:((p.toNat:Nat):Int)=p:=Int.toNat_of_nonneg (by omega);refine⟨(p.toNat,q),JW.same ⟨rfl,by show some (vI p)=some (vI ((p.toNat:Nat):Int));rw[e],rfl,rfl,trivial⟩,by dsimp only;omega,by dsimp only;omega,?_⟩;dsimp only;rw[e]
 rw[he];dsimp only at hk hm ⊢;clear he hw hp hq;have hz:=z3h f s (n:=n) hk;have hb:=z3g h hk;have hF:=h.f1;have hG:=h.f2;have hh:(0:Int)≤(k:Int)∧(k:Int)<(spS f s n).length:=by rw[q09];omega
 have hj:=hg k hk;have hA:=hg;refine zK2 ?_;refine g9 xk (Tryz.f190.body.getD .skip) ⟨[(0,pTa f s lo hi n K),(1,vI (k:Int)),(2,vI m),(3,cTa g f s lo hi n K),(9,.lf (.optr 0 [])),(10,vI a)],[(0,.cell spT (.val spT ((spS f s n).getD k (0,0,()))))],1⟩ rfl 14 rfl ?_ ?_
 ·(refine q7 0 xk rfl rfl (q7 1 xk rfl rfl (q7 2 xk rfl rfl (q7 3 xk rfl rfl (q7 5 xk rfl rfl (q7 8 xk rfl rfl (q7 9 xk rfl rfl (z6 4 xk rfl rfl (z6 6 xk rfl rfl (z6 7 xk rfl rfl ?_)))))))));refine j0 10 [11] xk ?_ ?_;exact zS;refine(BrF.one rfl rfl ?_ (BrF.one rfl rfl ?_ BrF.nil));(· (first|refine q81 rfl (hj) rfl trivial rfl ?_|(refine z2x rfl (hj) rfl (fun r hr=>?_);subst hr));refine q8 ?_;refine zU 11 xk rfl rfl ?_;(refine q19 xk rfl rfl ?_);refine q8 ?_;refine zU 12 xk rfl rfl ?_;refine zK3 ?_;refine q8 ?_;refine q7 13 xk rfl rfl ?_;refine v7 xk StF.nil ?_;(exact zJ));(· (refine q19 xk rfl rfl ?_);refine q8 ?_;refine zU 10 xk rfl rfl ?_;(first|refine q81 rfl (hj) rfl trivial rfl ?_|(refine z2x rfl (hj) rfl (fun r hr=>?_);subst hr));refine q8 ?_;refine zU 12 xk rfl rfl ?_;refine zK3 ?_;refine q8 ?_;refine q7 13 xk rfl rfl ?_;refine v7 xk StF.nil ?_;(exact zJ)))
 rw[hz];have hu:tchB f s a (k:Int) m=if m<0 then tchW f s a (k:Int) m else decide (((f+(k:Int)*s)-(f+m*s))*((f+(k:Int)*s)-(f+m*s))≤4*a):=by unfold tchB;rw[if_neg (by omega)]
 rw[hu];clear hu;unfold tchW;have hy:0≤m→∃ y,y=f+m*s∧(1≤y∧y≤350)∧(spS f s n).getD (Int.toNat m) (0,0,())=(y,500,()):=fun h0=>by
  have e:((m.toNat:Nat):Int)=m:=Int.toNat_of_nonneg h0;have hv:m.toNat<n:=by omega
  have h1:=z3g h hv;have h2:=z3h f s (n:=n) hv;rw[e] at h1 h2;exact⟨_,rfl,by omega,h2⟩
 generalize hB:f+(k:Int)*s=x at hb ⊢;have hx:1≤x∧x≤350:=by omega
 have hH:=z6y (d:=x) (b:=350) (by omega) (by omega);have hJ:=z6y (d:=1000-x) (b:=1000) (by omega) (by omega);clear hz hb hB hg hh;refine zK0 ?_;refine q9 rfl (fun hc=>by have:=eq_of_beq hc;omega) (fun _=>?_);refine zK0 ?_;refine q9 rfl (fun hc=>?_) (fun hc=>?_)
 ·have hc:m=-2:=eq_of_beq hc;subst hc;refine zK2 ?_;refine z1b xk (Tryz.f190.body.getD .skip) ⟨[(10,vI a),(11,vI (1000-x))],[],0⟩ rfl 9 rfl ?_ ?_
  ·(refine q7 0 xk rfl rfl (q7 1 xk rfl rfl (q7 2 xk rfl rfl (q7 3 xk rfl rfl (q7 5 xk rfl rfl (z6 4 xk rfl rfl (z6 6 xk rfl rfl (z6 7 xk rfl rfl (z6 8 xk rfl rfl ?_))))))));refine v7 xk ?_ ?_;exact zS;(exact zJ))
  refine zK0 ?_;refine zR rfl trivial ?_;rw[if_pos (by omega),if_pos rfl]
 ·have hc:m≠-2:=fun e=>by have hc:(m==-2)=false:=hc;rw[e] at hc;cases hc
  refine zK0 ?_;refine q9 rfl (fun hd=>?_) (fun hd=>?_)
  ·have hd:0≤m:=of_decide_eq_true hd;obtain⟨y,hC,hD,hE⟩:=hy hd;rw[if_neg (by omega),← hC];have c227:=fn227 (x:=x) (y:=y) (a:=a) hx hD ha;have hgm:=hA m.toNat (by omega);rw[Int.toNat_of_nonneg hd] at hgm;have hh:(0:Int)≤m∧m<(spS f s n).length:=by rw[q09];omega
   rw[← hE] at c227;refine zK2 ?_;refine g9 xk (Tryz.f190.body.getD .skip) ⟨[(8,vB (decide ((x-y)*(x-y)≤4*a)))],[],0⟩ rfl 15 rfl ?_ ?_
   ·(refine q7 0 xk rfl rfl (q7 1 xk rfl rfl (q7 2 xk rfl rfl (q7 5 xk rfl rfl (q7 6 xk rfl rfl (q7 7 xk rfl rfl (q7 8 xk rfl rfl (q7 10 xk rfl rfl (z6 4 xk rfl rfl (z6 9 xk rfl rfl (z6 11 xk rfl rfl (z6 12 xk rfl rfl (zU 3 xk rfl rfl ?_))))))))))));refine zK13 ?_;refine q8 ?_;refine zU 13 xk rfl rfl ?_;refine zK13 ?_;refine q8 ?_;refine z6 14 xk rfl rfl ?_;refine v7 xk ?_ ?_;exact zS;(exact zJ))
   refine zK0 ?_;refine zR rfl trivial ?_;rfl
  ·have hd:¬ 0≤m:=of_decide_eq_false hd;refine zK0 ?_;refine zR rfl trivial ?_;rw[if_pos (by omega),if_neg hc]
end Go.Proofs.YtjecebccchhmhaaGreatDoor.Dp
namespace Ox
open Go Go.RowKit
variable {X:Ctx}{L L':List (Nat×AV)}{H H':List (Nat×HO)}{nx nx' d:Nat}
def s8{a d:Nat}{o:α}{r:List (Nat×α)}(h:a≠d):lk ((a,o)::r) d=lk r d:=by rw[lk,if_neg h]
def q8p{α:Type}{n:Nat}:∀ {H:List (Nat×α)},(∀ p∈H,p.1≠n)→del H n=H
 |[],_=>rfl
 |(k,v)::r,h=>by rw[del,if_neg (h _ yyh),q8p fun p hp=>h p (yyj _ hp)]
def z3u{n:Nat}:∀ {H:List (Nat×HO)},(∀ p∈H,∀ i L,p.2≠.fr i L)→noFr n H=true
 |[],_=>rfl
 |(k,o)::r,h=>by
  have hr:=z3u (n:=n) (H:=r) fun p hp=>h p (yyj _ hp);cases o with
  |fr i L=>exact absurd rfl (h (k,.fr i L) yyh i L)
  |_=>exact hr
variable{e:Ty}
def z9u{g:Nat→List e.den}:noFr j (rwH eid e b n g)=true:=z3u fun p hp i L=>by obtain⟨k,_,rfl⟩:=yy7.1 hp;intro h;cases h
def z5c{g:Nat→List e.den}:noFr j (rwD eid e b n m g)=true:=z3u fun p hp i L=>by obtain⟨k,_,rfl⟩:=yy7.1 (yx0.1 hp).1;intro h;cases h
def outB_ne{F:List (Nat×HO)}(h:outB b n j F=true){l:Nat}(hl:b≤l∧l<b+n):lk F l=none:=by
 cases hf:lk F l with
 |none=>rfl
 |some o=>exact absurd hl (q5v h hf).1
def q3d(j:Nat){g:Nat→List e.den}(F:List (Nat×HO))(h:outB b n j F=true)(hm:m<n):lk (F++rwH eid e b n g) (b+m)=some (.sl eid e (g m)):=by rw[q38,outB_ne h ⟨by omega,by omega⟩,z13,if_pos ⟨by omega,by omega⟩,Nat.add_sub_cancel_left]
def j18(j:Nat){g:Nat→List e.den}(F:List (Nat×HO))(h:outB b n j F=true)(hm:m<n)(l:Nat)(o:HO)(hl:lk (F++rwD eid e b n m g) l=some o):l≠b+m∧lk (F++rwH eid e b n g) l=some o:=by
 rw[q38] at hl ⊢;cases hf:lk F l with
 |some o'=>rw[hf] at hl;refine⟨fun e=>(q5v h hf).1 ⟨by omega,by omega⟩,hl⟩
 |none=>
  rw[hf,z99] at hl;rw[z13];by_cases h2:b≤l∧l<b+n∧l≠b+m
  ·rw[if_pos h2] at hl;exact⟨h2.2.2,by rw[if_pos ⟨h2.1,h2.2.1⟩];exact hl⟩
  ·rw[if_neg h2] at hl;cases hl
def q29(hL:subL L L')(h:H=H'):JW X ⟨L',H',nx⟩ ⟨L,H,nx⟩:=by subst h;exact JW.same hL
variable {s:S}{M:Mem}{ρ:Env}{a:Act}{w w':World}{QA:Exit→S→Prop}{all l:List Oper}{o:Oper}
structure FnO(P:Program)(f:FuncId)(args:AV)(N:Nat)(Q:AV→List (Nat×HO)→Nat→Prop):Prop where
 call:∀ az w,(callFunc f az).run P w=.ok (.enter f az) w
 run:∀ M ρ w vs,MemIn M w→args.rvs M ρ vs→args.bd 0→Calls P f vs.toArray w fun en w'=>∃ v r H' nx' M' ρ' X',en=Ending.returned v∧X'.E=w∧X'.M0=M∧SAT X' M' ρ' ⟨[],H',nx'⟩ w'∧r.bd nx'∧r.rv M' ρ' v∧Q r H' nx'
variable{args:AV}{Q:AV→List (Nat×HO)→Nat→Prop}
def FnO.intro{T:List (Nat×Ty)}{ET:List (Nat×Nat)}{MT:List (Nat×(Nat×Nat))}(hf:P.funcs[f]?=some fn)(hb:fn.body=some c)
  (ha:∀ az w,(callFunc f az).run P w=.ok (.enter f az) w) (hn:argN args≤fn.ntmps) (h:∀ E M0 up,JC ⟨P,T,ET,MT,E,M0,fn.ntmps,none,up,0⟩ c (foQ ⟨P,T,ET,MT,E,M0,fn.ntmps,none,up,0⟩ fn.results.toList Q) ⟨argL args 0,[],N⟩):FnO P f args N Q:=by
 refine⟨ha,fun M ρ w vs hM hv hy=>(callsIn_wide (n:=0)).1 (callsIn_of_wp_marks hf hb trivial ?_ rfl)⟩
 let up0:Nat→Nat→Value:=fun _ _=>Go.undef
 let X0:Ctx:=⟨P,T,ET,MT,w,M,fn.ntmps,none,up0,0⟩
 have hg:SAT X0 M ρ ⟨argL args 0,[],N⟩ w:=⟨Below.refl _ _,fun _ _ h=>h,fun _ _=>rfl,hM,fun l o h=>by simp[lk] at h,fun l l' o o' b h=>by simp[lk] at h,fun l o b h=>by simp[lk] at h⟩
 have hh:REG X0 M ρ ⟨argL args 0,[],N⟩ {tmps:=vs.toArray++Array.replicate (fn.ntmps-vs.toArray.size) Go.undef,defers:=[]}:=REG.args hv (j3 (yyw _) hy) rfl hn;refine wpIn_mono (h w M up0 M ρ _ w hg hh) ?_;rintro e a' w' ⟨M',ρ',s',k1,k2,hA,s'',r,hw,e2,e4⟩;obtain⟨ρ'',k1,k2⟩:=hw M' ρ' a' w' k1 k2;obtain⟨Ds,hB,hC,hu,hE⟩:=k2.defers;have h0:∀ D∈Ds,M D=none:=fun D hD=>by
  rcases hE with e|⟨_,e⟩
  ·subst e;cases hD
  ·exact e D hD
 have fin:LeavesInM Fence.wide 0 P fn a'.tmps (fun en w'=>∃ v r H' nx' M' ρ' X',en=Ending.returned v∧X'.E=w∧X'.M0=M∧SAT X' M' ρ' ⟨[],H',nx'⟩ w'∧r.bd nx'∧r.rv M' ρ' v∧Q r H' nx') a'.defers .returning w':=by rw[hB];refine q2p hC (fun D hD=>k1.mem _ _ (hu D hD).2) fun w'' hj he=>?_;obtain⟨hF,g1⟩:=k1.taken h0 hu hj he;have g2:REG X0 (M'.without Ds) ρ'' s'' {a' with defers:=[]}:=⟨k2.size,⟨[],rfl,yxv,by simp,.inl rfl⟩,fun d v hd=>⟨(k2.reg d v hd).1,j5 hF (Env.upTo.refl ρ'' s''.nx) (k2.reg d v hd).1 (k2.reg d v hd).2⟩⟩;obtain⟨hG,v,hH,hk⟩:=q6n (P:=P) (w:=w'') g2 e2;exact⟨v,hk,v,resV r,s''.H,s''.nx,M'.without Ds,ρ'',X0,rfl,rfl,rfl,g1.regs [],hG,hH,e4⟩
 rcases hA with rfl|rfl
 ·exact fin
 ·exact fin
def upN(N nx' k:Nat):Nat:=bif Nat.blt k N then nx'+k else k
def upN_lo(h:k<N):upN N n k=n+k:=by
 unfold upN;have:Nat.blt k N=true:=by rw[Nat.blt_eq];exact h
 rw[this];rfl
def z77(h:N≤k):upN N n k=k:=by
 unfold upN;have:Nat.blt k N=false:=by rw[Bool.eq_false_iff];intro hc;rw[Nat.blt_eq] at hc;omega
 rw[this];rfl
def cloN(N:Nat)(r:AV)(H':List (Nat×HO))(nx':Nat):Prop:=r.ren (upN N nx')=r∧∀ l o,lk H' l=some o→N≤l∧o.ren (upN N nx')=o∧∀ i L,o≠.fr i L
def z7z{X X':Ctx}{l:Nat}{o:HO}(hE:X.E.heap.size≤X'.E.heap.size)(hb:∀ i L,o≠.fr i L)(h:o.ok X' M ρ l w):o.ok X M ρ l w:=by
 cases o with
 |cell t a=>simp only[HO.ok] at h ⊢;exact⟨h.1,h.2.1,Nat.le_trans hE h.2.2.1,h.2.2.2⟩
 |sl eid e xs=>
  simp only[HO.ok] at h ⊢;obtain⟨h1,cs,ha,h2⟩:=h;refine⟨h1,cs,⟨ha.1,?_⟩,h2⟩;rcases ha.2 with e1|⟨g,cap,cur,e1,e2,e3⟩
  ·exact .inl e1
  ·exact .inr ⟨g,cap,cur,e1,Nat.le_trans hE e2,e3⟩
 |map kt vt es clk=>simp only[HO.ok] at h ⊢;exact⟨Nat.le_trans hE h.1,h.2⟩
 |iter m since seen last=>simp only[HO.ok] at h ⊢;exact⟨Nat.le_trans hE h.1,h.2⟩
 |cus Q=>
  simp only[HO.ok] at h ⊢;rcases h with⟨g,cur,ty,e1,e2,e3⟩|h
  ·exact .inl ⟨g,cur,ty,e1,Nat.le_trans hE e2,e3⟩
  ·exact .inr h
 |loop st pe ps az bd n L=>simp only[HO.ok] at h ⊢;exact⟨Nat.le_trans hE h.1,h.2⟩
 |fr i L=>exact absurd rfl (hb i L)
 |raw ty k n c=>simp only[HO.ok] at h ⊢;exact⟨Nat.le_trans hE h.1,h.2⟩
 |rmap es clk=>simp only[HO.ok] at h ⊢;exact⟨Nat.le_trans hE h.1,h.2⟩
 |riter m since seen last bk=>simp only[HO.ok] at h ⊢;exact⟨Nat.le_trans hE h.1,h.2⟩
 |gl g ty n c=>simp only[HO.ok] at h ⊢;exact h
 |mrow f n c=>simp only[HO.ok] at h ⊢;exact⟨Nat.le_trans hE h.1,h.2⟩
 |dlk A y m=>simp only[HO.ok] at h ⊢;exact h
def JL.callF(hg:o.guard=none)(h:callA X.T o.op ⟨s.L,[],s.nx⟩=some (cs,f,args))(hf:FnO X.P f args N Q)(hN:s.nx≤N)(hw:∀ r H' nx',Q r H' nx'→cloN N r H' nx'∧N≤nx')(hd:dstOk X.n o.dst)(hc:allP cs)
  (k:∀ r H' nx',Q r H' nx'→JL X true all QA l (putS o.dst r ⟨s.L,H'++s.H,nx'⟩)):JL X true all QA (o::l) s:=by
 intro M ρ a w h1 h2;have hK:SAT X M ρ ⟨s.L,[],s.nx⟩ w:=⟨h1.below,h1.msub,h1.mnew,h1.mem,fun l o h=>by simp[lk] at h,fun l l' o o' b h=>by simp[lk] at h,fun l o b h=>by simp[lk] at h⟩;have hL:REG X M ρ ⟨s.L,[],s.nx⟩ a:=⟨h2.size,h2.defers,h2.reg⟩;obtain⟨hb,vs,hM,hy⟩:=f7 hK (Mx:=M) ⟨Mem.le_refl M,fun l o b h=>by simp[lk] at h⟩ hL h hc;refine z9 (j6 hg) (x8 (q00 h) (by rw[hy,hf.call]) (hf.run M ρ w vs h1.mem hM hb) ?_);rintro en w' ⟨v,r,H',nx',M',ρ',X',rfl,hv,hG,hs,hH,hP,hQ⟩;obtain⟨⟨cl1,cl2⟩,hR⟩:=hw r H' nx' hQ;have hT:Below w.heap.size w w':=by have:=hs.below;rwa[hv] at this
 have hJ:∀ b o,M b=some o→M' b=some o:=fun b o hm=>hs.msub b o (by rw[hG];exact hm);have hm:M.le M':=fun b c ty fz hm=>hJ b _ hm;have hA:∀ b,b<w.heap.size→M' b=M b:=fun b hb=>by rw[hs.mnew b (by rw[hv];exact hb),hG]
 have h3:=h1.ext hT hm hs.mem hA
 let ρ0:Env:=⟨fun j=>if j<nx' then ρ'.blk j else ρ.blk (j-nx'),fun j=>if j<nx' then ρ'.ty j else ρ.ty (j-nx'),fun j=>if j<nx' then ρ'.sv j else ρ.sv (j-nx')⟩
 have hB:ρ'.upTo ρ0 nx':=fun j hj=>by simp[ρ0,hj]
 have hC:ρ.upTo (ρ0.via (upN N nx')) s.nx:=fun j hj=>by
  have e:upN N nx' j=nx'+j:=upN_lo (yxa hj hN);have h1:¬ nx'+j<nx':=by omega
  simp[Env.via,ρ0,e,h1]
 have hE:X.E.heap.size≤X'.E.heap.size:=by rw[hv];exact h1.below.size
 have he:s.nx≤nx':=Nat.le_trans hN hR;have spl:∀ l o,lk (H'++s.H) l=some o→(lk H' l=some o)∨(l<s.nx∧lk s.H l=some o):=fun l o hl=>by
  rw[q38] at hl;cases hf:lk H' l with
  |some o'=>rw[hf] at hl;exact .inl hl
  |none=>rw[hf] at hl;exact .inr ⟨(h1.own l o hl).1,hl⟩
 have new:∀ l o,lk H' l=some o→o.bd nx'∧l<nx'∧o.ok X M' (ρ0.via (upN N nx')) l w'∧∀ b,o.at (ρ0.via (upN N nx')) l=some b→o.at ρ' l=some b:=fun l o hl=>by
  obtain⟨q1,q2,q3⟩:=cl2 l o hl;obtain⟨g1,g2,g3⟩:=hs.own l o hl;have e1:upN N nx' l=l:=z77 q1;refine⟨g2,g1,?_,fun b hb=>?_⟩
  ·refine q3o ?_;rw[q2,e1];exact z7z hE q3 (t9 (Mem.le_refl M') hB g1 g2 g3)
  ·rw[q0h,q2,e1,q0i hB g1] at hb;exact hb
 have old:∀ l o,l<s.nx→lk s.H l=some o→o.at (ρ0.via (upN N nx')) l=o.at ρ l:=fun l o h hl=>q0i hC h o;have hge:∀ l o b,lk H' l=some o→o.at ρ' l=some b→w.heap.size≤b:=fun l o b hl hb=>by have:=(p4 (hs.own l o hl).2.2 hb).1;rwa[hv] at this
 have h5:SAT X M' (ρ0.via (upN N nx')) ⟨s.L,H'++s.H,nx'⟩ w':=by
  refine⟨h3.below,h3.msub,h3.mnew,h3.mem,fun l o hl=>?_,fun l l' o o' b hl ha hb hh=>?_,fun l o b hl hb=>?_⟩
  ·rcases spl l o hl with hl|⟨hk,hl⟩
   ·obtain⟨g1,g2,g3,_⟩:=new l o hl;exact⟨g2,g1,g3⟩
   ·obtain⟨g1,g2,g3⟩:=h3.own l o hl;exact⟨yxa g1 he,s6 he g2,t9 (Mem.le_refl M') hC g1 g2 g3⟩
  ·rcases spl l o hl with hl|⟨hk,hl⟩<;>rcases spl l' o' ha with ha|⟨hu,ha⟩
   ·exact hs.apart l l' o o' b hl ha ((new l o hl).2.2.2 b hb) ((new l' o' ha).2.2.2 b hh)
   ·rw[old l' o' hu ha] at hh;have g1:=hge l o b hl ((new l o hl).2.2.2 b hb);have g2:=(p4 (h1.own l' o' ha).2.2 hh).2;omega
   ·rw[old l o hk hl] at hb;have g1:=hge l' o' b ha ((new l' o' ha).2.2.2 b hh);have g2:=(p4 (h1.own l o hl).2.2 hb).2;omega
   ·rw[old l o hk hl] at hb;rw[old l' o' hu ha] at hh;exact h3.apart l l' o o' b hl ha hb hh
  ·rcases spl l o hl with hl|⟨hk,hl⟩
   ·exact hs.notM l o b hl ((new l o hl).2.2.2 b hb)
   ·rw[old l o hk hl] at hb;exact h3.notM l o b hl hb
 have h4:REG X M' (ρ0.via (upN N nx')) ⟨s.L,H'++s.H,nx'⟩ a:=h2.grow hm hC he fun D hD=>hJ D _ hD;have hF:r.rv M' (ρ0.via (upN N nx')) v:=by refine q35 M' ρ0 (upN N nx') r v ?_;rw[cl1];exact j5 (Mem.le_refl M') hB hH hP
 exact⟨_,rfl,k r H' nx' hQ M' _ _ w' (z8 h5) (h4.putO hd.spec hH hF)⟩
def q70{r:List Fr}{nx d:Nat}{op:Op}{ps:String}(h:callA X.T op ⟨L,[],nx⟩=some (cs,f,args))(hf:FnO X.P f args N Q)(hN:nx≤N)(ha:∀ r H' nx',Q r H' nx'→cloN N r H' nx'∧N≤nx')(hd:ltB d X.n=true)(hc:allP cs)
  (k:∀ v H' nx',Q v H' nx'→JK X (.ops true all l::r) QA ⟨(d,v)::L,H'++H,nx'⟩):JK X (.ops true all (⟨some d,op,ty,ps,af,none⟩::l)::r) QA ⟨L,H,nx⟩:=JL.callF (s:=⟨L,H,nx⟩) rfl h hf hN ha (j9 hd) hc k
variable {md:Bool}{r:List Fr}
def SAT.partB(h1:SAT X M ρ ⟨L,H,nx⟩ w){m B:Nat}{o0:HO}(hl:lk H m=some o0)(ha:o0.at ρ m=some B)(hH:subH H H')(hm:lk H' m=none)(bH:bdH nx' H') :
  ∃ M',SAT X M' ρ ⟨L',H',nx'⟩ w∧M.le M'∧(∀ b o,M b=some o→M' b=some o)∧M' B=w.heap[B]?∧∀ b,b≠B→M' b=M b:=by
 have hn:=h1.notM m o0 _ hl ha;have hge:=(p4 (h1.own m o0 hl).2.2 ha).1;have hM:∀ b o,M b=some o→(if b=B then w.heap[b]? else M b)=some o:=fun b o hb=>by
  by_cases e:b=B
  ·rw[e,hn] at hb;cases hb
  ·rw[if_neg e];exact hb
 refine⟨fun b=>if b=B then w.heap[b]? else M b,⟨h1.below,fun b o hb=>hM b o (h1.msub b o hb),fun b hb=>?_,fun b o hb=>?_,fun l o k=>?_,fun l l' o o' b k1 k2=>h1.apart l l' o o' b (hH _ _ k1) (hH _ _ k2),fun l o b k1 k2=>?_⟩,fun b c ty fz hb=>hM b _ hb,hM,if_pos rfl,fun b hb=>if_neg hb⟩
 ·show(if b=B then w.heap[b]? else M b)=X.M0 b;rw[if_neg (by omega)];exact h1.mnew b hb
 ·have hb:(if b=B then w.heap[b]? else M b)=some o:=hb;split at hb
  ·exact hb
  ·exact h1.mem b o hb
 ·obtain⟨e1,e2⟩:=g8 bH l o (w5 k);obtain⟨q1,q2,q3⟩:=h1.own l o (hH l o k);exact⟨e1,e2,t9 (fun b c ty fz hb=>hM b _ hb) (Env.upTo.refl ρ nx) q1 q2 q3⟩
 ·show(if b=B then w.heap[b]? else M b)=none;by_cases e:b=B
  ·subst e;have:=h1.apart l m o o0 _ (hH _ _ k1) hl k2 ha;subst this;rw[hm] at k1;cases k1
  ·rw[if_neg e];exact h1.notM l o b (hH _ _ k1) k2
def SAT.rowD(h1:SAT X M ρ ⟨L,H,nx⟩ w){q:Nat}{xs:List e.den}(hl:lk H q=some (.sl eid e xs))(hu:xs≠[])(hH:subH H H')(hm:lk H' q=none)(bH:bdH nx' H') :
  ∃ M',SAT X M' ρ ⟨L',H',nx'⟩ w∧M.le M'∧(∀ b o,M b=some o→M' b=some o)∧(∃ vc,Rep M' (.slice e) xs vc∧ρ.sv q=(Ty.slice e).wrap vc)∧∃ B,(ρ.sv q).ownBlock=some B∧∀ b,b≠B→M' b=M b:=by
 have hj:=x9 h1 hl;simp only[HO.ok] at hj;obtain⟨_,cs,ha,_⟩:=hj;obtain⟨B,hB⟩:∃ B,(ρ.sv q).ownBlock=some B:=by
  rcases ha.2 with⟨_,e1⟩|⟨g,cap,cur,e1,_⟩
  ·exact absurd (List.length_eq_zero_iff.1 e1) hu
  ·exact⟨g,by rw[e1];rfl⟩
 have hk:(HO.sl eid e xs).at ρ q=some B:=hB;obtain⟨M',g1,g2,g3,g4,g5⟩:=h1.partB (L':=L') (H':=H') (nx':=nx') hl hk hH hm bH;refine⟨M',g1,g2,g3,?_,B,hB,g5⟩;have hv:lk [(q,HO.sl eid e xs)] q=some (.sl eid e xs):=by simp[lk]
 have hd:castK (.slice e) (.slice e) xs (fun y=>some (([]:List Prop),y))=some ([],xs):=by unfold castK;rw[dif_pos rfl]
 have ht:toK [(q,HO.sl eid e xs)] 8 (.slice e) (.lf (.osl q)) (fun c y=>some (c,y))=some ([],xs):=by simp only[toK,hv];exact hd
 have hg:subH H [(q,HO.sl eid e xs)]:=fun l o k=>by
  simp only[lk] at k;split at k
  ·rename_i e1;subst e1;injection k with k;subst k;exact hl
  ·cases k
 have hq:=(h1.own q _ hl).1;have h0:SAT X M ρ ⟨[],[(q,HO.sl eid e xs)],nx⟩ w:=h1.low hg ⟨hq,trivial,trivial⟩;have he:Seen ρ ⟨[],[(q,HO.sl eid e xs)],nx⟩ M M' w:=by
  refine⟨g2,fun l o b k hb=>?_⟩;simp only[lk] at k;split at k
  ·rename_i e1;subst e1;injection k with k;subst k
   rw[hk] at hb;injection hb with hb;subst hb;exact g4
  ·cases k
 obtain⟨cs',y,k1,k2⟩:=q1o h0 he 8 ht;simp only[yya,yyn] at k1;obtain⟨rfl,rfl⟩:=k1;have hh:(ρ.sv q).oneCell'=true:=by rcases ha.2 with⟨q1,_⟩|⟨g,cap,cur,q1,_⟩<;>rw[q1]<;>rfl
 exact(k2 trivial).1 (ρ.sv q) (w9.2 ⟨rfl,hh⟩)
def SAT.toMap{f:Nat→Nat}(h1:SAT X M ρ ⟨L,(lm,.mrow f n 1)::H,nx⟩ w){xs:List e.den}(hm:m<n)(hl:lk H (f m)=some (.sl eid e xs))(hy:f m≠lm)(hA:xs≠[])(hH:subH H H')(hB:lk H' (f m)=none)(ha:lk H' lm=none)(bH:bdH nx H') :
  ∃ M' st clk,st<clk∧SAT X M' ρ ⟨L,(lm,.map (.int .u64) (.slice e) [((m:Int),xs,st)] clk)::H',nx⟩ w∧M.le M'∧∀ b o,M b=some o→M' b=some o:=by
 have h0:lk ((lm,HO.mrow f n 1)::H) lm=some (.mrow f n 1):=by rw[lk,if_pos rfl]
 have hq:lk ((lm,HO.mrow f n 1)::H) (f m)=some (.sl eid e xs):=by rw[lk,if_neg (fun h=>hy h.symm)];exact hl
 obtain⟨ms,clk,e1,e2,e3,e4,_,e6⟩:=z0f h1 h0;have hge:X.E.heap.size≤ρ.blk lm:=(x9 h1 h0).1;have hC:=(h1.own lm _ h0).1;have hd:subH ((lm,HO.mrow f n 1)::H) H':=fun l o k=>by rw[lk,if_neg (fun h=>by subst h;rw[ha] at k;cases k)];exact hH l o k
 obtain⟨M',g1,g2,g3,⟨vc,g4,g5⟩,B,g6,g7⟩:=h1.rowD (L':=L) (H':=H') (nx':=nx) hq hA hd hB bH;have hD:∃ en∈ms,en.key=.int .u64 (m:Nat):=by refine yxh fun hc=>?_;have:=e4 m hm fun en hg hk=>hc ⟨en,hg,hk⟩;rw[this] at g6;cases g6
 obtain⟨en,hg,hk⟩:=hD;have hE:ms=#[en]:=by
  obtain⟨l⟩:=ms
  match l,e2,hg with
  |[],_,h=>simp at h
  |[x],_,h=>simp at h;rw[h]
  |x::y::t,h,_=>simp at h
 obtain⟨k,_,hu,hv⟩:=e3 en hg;have hF:k=m:=by rw[hk] at hu;injection hu with _ hu;omega
 rw[hF] at hv;have hG:ρ.blk lm≠B:=fun h=>by have:=h1.apart lm (f m) _ _ B h0 hq (by rw[← h];rfl) g6;exact hy this.symm
 have spl:∀ l o,lk ((lm,HO.map (.int .u64) (.slice e) [((m:Int),xs,en.born)] clk)::H') l=some o→(l=lm∧o=.map (.int .u64) (.slice e) [((m:Int),xs,en.born)] clk)∨lk H' l=some o:=fun l o h=>by
  rw[lk] at h;by_cases e:lm=l
  ·rw[if_pos e] at h;injection h with h;exact .inl ⟨e.symm,h.symm⟩
  ·rw[if_neg e] at h;exact .inr h
 have hh:∀ l o b,lk H' l=some o→o.at ρ l=some b→ρ.blk lm=b→False:=fun l o b hw hb he=>by have:=h1.apart lm l _ o b h0 (hd l o hw) (by rw[← he];rfl) hb;subst this;rw[ha] at hw;cases hw
 refine⟨M',en.born,clk,e6 en hg,⟨g1.below,g1.msub,g1.mnew,g1.mem,fun l o h=>?_,fun l l' o o' b h h' hb hj=>?_,fun l o b h hb=>?_⟩,g2,g3⟩
 ·rcases spl l o h with⟨rfl,rfl⟩|h
  ·refine⟨hC,trivial,hge,ms,e1,?_⟩;rw[hE];refine⟨⟨⟨[.int .u64 (m:Nat)],by simp only[Rep],?_⟩,⟨vc,g4,hv.trans g5⟩,rfl⟩,trivial⟩;exact hk
  ·exact g1.own l o h
 ·rcases spl l o h with⟨k1,k1'⟩|k1<;>rcases spl l' o' h' with⟨k2,k2'⟩|k2
  ·exact k1.trans k2.symm
  ·exact(hh l' o' b k2 hj (by rw[k1,k1'] at hb;simpa[HO.at] using hb)).elim
  ·exact(hh l o b k1 hb (by rw[k2,k2'] at hj;simpa[HO.at] using hj)).elim
  ·exact g1.apart l l' o o' b k1 k2 hb hj
 ·rcases spl l o h with⟨rfl,rfl⟩|h
  ·simp only[HO.at,yya] at hb;rw[← hb,g7 _ hG];exact h1.notM l _ _ h0 rfl
  ·exact g1.notM l o b h hb
def JL.toMap{f:Nat→Nat}{n lm m:Nat}{eid:TypeId}{e:Ty}{xs:List e.den}(hm:m<n)(hl:lk H (f m)=some (.sl eid e xs))(hb:f m≠lm)(hd:xs≠[])(hH:subH H H')(he:lk H' (f m)=none)(ha:lk H' lm=none)(bH:bdH nx H')
  (k:∀ st clk,st<clk→JL X md all QA l ⟨L,(lm,.map (.int .u64) (.slice e) [((m:Int),xs,st)] clk)::H',nx⟩):JL X md all QA l ⟨L,(lm,.mrow f n 1)::H,nx⟩:=by
 cases md
 ·intro M ρ a w h1 h2;obtain⟨M',st,clk,e0,e1,e2,e3⟩:=h1.toMap hm hl hb hd hH he ha bH;exact k st clk e0 _ ρ a w e1 (h2.toM e2 e3)
 ·intro M ρ a w h1 h2;obtain⟨M',st,clk,e0,e1,e2,e3⟩:=h1.toMap hm hl hb hd hH he ha bH;exact k st clk e0 _ ρ a w e1 (h2.toM e2 e3)
def JK.toMap{f:Nat→Nat}{n lm m:Nat}{eid:TypeId}{e:Ty}{xs:List e.den}(hm:m<n)(hl:lk H (f m)=some (.sl eid e xs))(hb:f m≠lm)(hd:xs≠[])(hH:subH H H')(he:lk H' (f m)=none)(ha:lk H' lm=none)(bH:bdH nx H')
  (k:∀ st clk,st<clk→JK X (.ops md all l::r) QA ⟨L,(lm,.map (.int .u64) (.slice e) [((m:Int),xs,st)] clk)::H',nx⟩):JK X (.ops md all l::r) QA ⟨L,(lm,.mrow f n 1)::H,nx⟩:=JL.toMap hm hl hb hd hH he ha bH k
end Ox
