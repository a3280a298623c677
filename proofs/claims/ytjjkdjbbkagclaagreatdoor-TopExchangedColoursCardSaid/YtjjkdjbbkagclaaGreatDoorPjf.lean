/- Texts of the proof of the statement that the last text proves. -/
import Derived.Test.YtjjkdjbbkagclaaGreatDoorPje
import Derived.ProofKit
import Derived.OpenShut
import Derived.Carry
import Derived.JoinedOf
import Derived.FnData
import GoSem.ClaimJoined
set_option linter.all false
set_option maxHeartbeats 2000000
variable{a b c i k m:Nat}{R:Nat→List Int}{bf g:Nat→Nat}{hi lo n s u v:Int}{L U:Nat→Int}{t t' tt ty2:Go.TypeId}{l r rv:List Int}{x y:Go.Operand}{fn:Go.Func}{P:Nat→Nat→Bool}{ps2:String}{p q:Prop}{f:Go.FuncId}{C:List (List Int)}{af2:Array Go.Edge}{c1 c2 cs:List Prop}{o:List Nat}{α:Type}
namespace Ox
open Go Go.RowKit
variable {X:Ctx}{s:S}{M:Mem}{ρ:Env}{a:Act}{w w':World}{QA:Exit→S→Prop}{all l:List Oper}{P:Program}
variable {L:List (Nat×AV)}{H:List (Nat×HO)}{nx d n:Nat}{rr:List Fr}{c1 c2:List Prop}{ty ty2:TypeId}{ps ps2:String}{af af2:Array Edge}{md:Bool}
def mapB(P:Program)(t:TypeId):Bool:=match P.info? t with
 |some i=>(match i.zero with|some (Value.map none)=>true|_=>false)&&(i.size==1)&&(match P.underlying t with|some (.map ..)=>true|_=>false)
 |none=>false
structure MpT(P:Program)(t:TypeId):Prop where
 zero:∀ w,(zeroValue t).run P w=.ok (Value.map none) w
 size:∀ w,(Go.sizeOf t).run P w=.ok 1 w
 agg:∀ w,(isAgg t).run P w=.ok false w
def MpT.of(h:mapB P t=true):MpT P t:=by
 unfold mapB at h;cases hi:P.info? t with
 |none=>rw[hi] at h;cases h
 |some i=>
  rw[hi] at h;simp only[yyd,beq_iff_eq] at h;obtain⟨⟨h1,h2⟩,h3⟩:=h;refine⟨fun w=>?_,fun w=>?_,fun w=>?_⟩
  ·split at h1
   ·rename_i hz;simp[zeroValue,typeInfo,hi,hz]
   ·cases h1
  ·simp[Go.sizeOf,typeInfo,hi,h2]
  ·split at h3
   ·rename_i hu;simp[isAgg,run_underlying hu]
   ·cases h3
def AV.mpB:AV→Bool
 |.lf (.mp _)=>true
 |_=>false
variable{v:AV}
def mpB_rv(h:v.mpB=true){u:Value}(hu:v.rv M ρ u):∃ b,u=.map (some b):=by
 cases v with
 |lf x=>
  cases x with
  |mp l=>simp only[AV.rv,Leaf.at,yya] at hu;exact⟨_,hu.1.symm⟩
  |_=>simp[AV.mpB] at h
 |_=>simp[AV.mpB] at h
def JL.layM(hF:mapB X.P t=true)(hu:opd (del L d) x=some (c1,v))(hv:v.mpB=true)(hc:allP c1)(hd:ltB d X.n=true)(k:JL X true all QA l ⟨(d,.pfn v)::L,H,nx⟩) :
  JL X true all QA (⟨some d,.alloc t,ty,ps,af,none⟩::⟨none,.store t (.tmp d) x,ty2,ps2,af2,none⟩::l) ⟨L,H,nx⟩:=by
 have hf:=MpT.of hF;intro M ρ a w h1 h2
 let p:Value:=.pointer (some ⟨w.heap.size,0,none⟩)
 let w1:World:=w.alloc (.cells #[(Value.map none)] t)
 have hE:=h1.below.size;have hdn:d<X.n:=w9 hd;have hsz:=h2.size;have hr1:(execOp a.eval ⟨some d,.alloc t,ty,ps,af,none⟩).run X.P w=.ok (.value p) w1:=by simp only[execOp,Instr.alloc,yye,hf.zero,yyb,newVar,newRow,run_newObj,yyf];rfl
 have hreg:REG X M ρ ⟨del L d,H,nx⟩ (a.put (some d) p):=⟨by simp[Act.put,hsz],h2.defers,fun e y he=>by
  obtain⟨e1,e2⟩:=q3o he;have:=h2.reg e y e2;refine⟨this.1,?_⟩;have e3:((a.put (some d) p).tmps.getD e Go.undef)=a.tmps.getD e Go.undef:=by simp only[Act.put,yyt];rw[yx6 (Ne.symm e1)]
  rw[e3];exact this.2⟩
 obtain⟨hvb,hvr⟩:=z8 (s:=⟨del L d,H,nx⟩) hu hc hreg;obtain⟨f,hfv⟩:=mpB_rv hv hvr
 let w2:World:=w.alloc (.cells #[(a.put (some d) p).eval x] t)
 have hnew:w1.heap[w.heap.size]?=some (.cells #[(Value.map none)] t (0,0)):=World.alloc_heap_new w _;have hpd:(a.put (some d) p).eval (.tmp d)=p:=by simp only[Act.eval,Act.put,yyt];rw[yxz (by omega)];rfl
 have hone:∀ y∈[(a.put (some d) p).eval x],y.oneCell'=true:=fun y hy=>by rw[yyw.1 hy,hfv];rfl
 have hst:=run_storeCells_at X.P w.heap.size 0 t [(a.put (some d) p).eval x] 0 #[(Value.map none)] w1 hnew (by simp) hone;have hcells:((a.put (some d) p).eval x).cells=#[(a.put (some d) p).eval x]:=by rw[hfv];rfl
 have hset:w1.setRow w.heap.size (([Value.map none].take (0+0)++[(a.put (some d) p).eval x]++[Value.map none].drop (0+0+1)).toArray)=w2:=by show({heap:=(w.heap.push (.cells #[(Value.map none)] t)).modify w.heap.size _,tape:=w.tape,drawn:=w.drawn,os:=w.os,output:=w.output}:World)={heap:=w.heap.push _,tape:=w.tape,drawn:=w.drawn,os:=w.os,output:=w.output};rw[q7z];rfl
 have hr2:(execOp (a.put (some d) p).eval ⟨none,.store t (.tmp d) x,ty2,ps2,af2,none⟩).run X.P w1=.ok .skip w2:=by
  have h3:(storeVar t ⟨w.heap.size,0,none⟩ ((a.put (some d) p).eval x)).run X.P w1=.ok () w2:=by unfold storeVar;simp only[yye,hf.size,yyb,hcells];simp only[List.size_toArray,List.length_cons,List.length_nil,ne_eq,not_true_eq_false,if_false,Array.toList];rw[hst];exact congrArg (Result.ok ()) hset
  simp only[execOp,Instr.storeAt,hpd,p,Instr.sureAddr,yye,yyf,yyb];rw[h3];rfl
 let M':Mem:=fun b=>if b=w.heap.size then some (.cells #[(a.put (some d) p).eval x] t (0,0)) else M b
 have hfull:∀ b o,M b=some o→M' b=some o:=fun b o hb=>by show(if b=w.heap.size then _ else _)=_;rw[if_neg (by have:=(yyk.1 (h1.mem _ _ hb)).1;omega)];exact hb
 have hM:Mem.le M M':=fun b c ty fz hb=>hfull b _ hb;have hat:w2.heap[w.heap.size]?=some (.cells #[(a.put (some d) p).eval x] t (0,0)):=World.alloc_heap_new w _;have hbl:Below w.heap.size w w2:=(Below.refl _ _).alloc (yym _) _;have hs2:SAT X M' ρ ⟨L,H,nx⟩ w2:=h1.ext hbl hM (fun b o hb=>by
  by_cases e:b=w.heap.size
  ·subst e;have:some (Obj.cells #[(a.put (some d) p).eval x] t (0,0))=some o:=by have hb':(if w.heap.size=w.heap.size then some (Obj.cells #[(a.put (some d) p).eval x] t (0,0)) else M w.heap.size)=some o:=hb;rwa[if_pos rfl] at hb'
   rw[← this];exact hat
  ·have hb':(if b=w.heap.size then some (Obj.cells #[(a.put (some d) p).eval x] t (0,0)) else M b)=some o:=hb;rw[if_neg e] at hb';have hlt:=(yyk.1 (h1.mem b o hb')).1;rw[hbl.block b hlt];exact h1.mem b o hb') (fun b hb=>by
  show(if b=w.heap.size then _ else _)=_;rw[if_neg (by omega)])
 have hreg2:REG X M' ρ ⟨(d,.pfn v)::L,H,nx⟩ ((a.put (some d) p).put none Go.undef):=by
  refine⟨by simp[Act.put,hsz],let ⟨Ds,e1,e2,e3,e4⟩:=h2.defers;⟨Ds,e1,e2,fun D hD=>⟨(e3 D hD).1,hfull _ _ (e3 D hD).2⟩,e4⟩,fun e y he=>?_⟩;simp only[lk] at he;by_cases hde:d=e
  ·subst hde;rw[if_pos rfl] at he;injection he with he;subst he
   refine⟨hvb,?_⟩;simp only[AV.rv];refine⟨w.heap.size,_,t,(0,0),?_,?_,w3 hM (Env.upTo.refl ρ nx) hvb hvr⟩
   ·show(a.put (some d) p).tmps.getD d Go.undef=p;simp only[Act.put,yyt];rw[yxz (by omega)];rfl
   ·show(if w.heap.size=w.heap.size then _ else _)=_;rw[if_pos rfl]
  ·rw[if_neg hde] at he;have:=h2.reg e y he;refine⟨this.1,?_⟩;have e3:(((a.put (some d) p).put none Go.undef).tmps.getD e Go.undef)=a.tmps.getD e Go.undef:=by simp only[Act.put,yyt];rw[yx6 hde]
   rw[e3];exact w3 hM (Env.upTo.refl ρ nx) this.1 this.2
 refine j4 (j7 rfl) (v4 rfl hr1 (j4 (j7 rfl) (q1l rfl hr2 ?_)));exact k M' ρ _ w2 (hs2.regs _) hreg2
def j1c(hF:mapB X.P t=true)(hu:opd s.L x=some (c1,.pfn v))(hc:allP c1):∀ {M ρ a w0} {d:Option Nat} {gu:Option (Nat×Bool)},SAT X M ρ s w0→REG X M ρ s a→v.bd s.nx∧∃ z,v.rv M ρ z∧∀ w1,Below w0.heap.size w0 w1→(execOp a.eval ⟨d,.load t x,ty,ps,af,gu⟩).run X.P w1=.ok (.value z) w1:=by
 have hf:=MpT.of hF;intro M ρ a w0 d gu h1 h2;obtain⟨hb,hr⟩:=z8 hu hc h2;simp only[AV.rv] at hr;obtain⟨b,fv,ty',fz,e1,e2,e3⟩:=hr;refine⟨hb,fv,e3,fun w1 hw=>?_⟩;have hm:=h1.mem b _ e2;have hlt:=(yyk.1 hm).1;have hm1:w1.heap[b]?=some (.cells #[fv] ty' fz):=by rw[hw.block b hlt];exact hm
 have h3:(loadVar t ⟨b,0,none⟩).run X.P w1=.ok fv w1:=by unfold loadVar;simp only[yye,hf.agg,yyb];simp[u0 hm1]
 simp only[execOp,e1,Instr.loadAt,Instr.sureAddr,yye,yyf,yyb,h3]
def j3r(hF:mapB X.P t=true)(hu:opd s.L x=some (c1,.pfn v))(hc:allP c1)(hd:ltB d X.n=true)(k:JL X md all QA l ⟨(d,v)::s.L,s.H,s.nx⟩):JL X md all QA (⟨some d,.load t x,ty,ps,af,none⟩::l) s:=by
 cases md
 ·intro M ρ a w0 h1 h2;obtain⟨hb,z,hz,hr⟩:=j1c (d:=some d) (gu:=none) (ty:=ty) (ps:=ps) (af:=af) hF hu hc h1 h2;simp only[wpQuiet,Region.wanted,if_true];refine⟨z,fun w hw=>?_,k M ρ _ w0 (h1.regs _) (h2.putO (d:=some d) (dstOk.spec (w9 hd)) hb hz)⟩;unfold Oper.quietAt;rw[hr w hw];exact⟨rfl,rfl⟩
 ·intro M ρ a w h1 h2;obtain⟨hb,z,hz,hr⟩:=j1c (d:=some d) (gu:=none) (ty:=ty) (ps:=ps) (af:=af) hF hu hc h1 h2;exact j4 (j7 rfl) (v4 rfl (hr w (Below.refl _ _)) (k M ρ _ w (h1.regs _) (h2.putO (d:=some d) (dstOk.spec (w9 hd)) hb hz)))
def JK.layM{t:TypeId}{x:Operand}{v:AV}(hF:mapB X.P t=true)(hu:opd (del L d) x=some (c1,v))(hv:v.mpB=true)(hd:ltB d X.n=true)(hc:allP c1)(k:JK X (.ops true all l::rr) QA ⟨(d,.pfn v)::L,H,nx⟩) :
  JK X (.ops true all (⟨some d,.alloc t,ty,ps,af,none⟩::⟨none,.store t (.tmp d) x,ty2,ps2,af2,none⟩::l)::rr) QA ⟨L,H,nx⟩:=JL.layM hF hu hv hc hd k
def JK.ldM(hF:mapB X.P t=true)(hu:opd L x=some (c1,.pfn v))(hd:ltB d X.n=true)(hc:allP c1)(k:JK X (.ops md all l::rr) QA ⟨(d,v)::L,H,nx⟩):JK X (.ops md all (⟨some d,.load t x,ty,ps,af,none⟩::l)::rr) QA ⟨L,H,nx⟩:=j3r (s:=⟨L,H,nx⟩) hF hu hc hd k
variable {m:Nat}
section
variable {x:Operand}{t:TypeId}{xs:List Int}{eid:TypeId}{e:Ty}
end
section
variable {kt vt:Ty}{t kid vid:TypeId}{es:List (Ent kt vt)}{clk n:Nat}{x:kt.den}{om ok ov:Operand}{c3:List Prop}{o:Oper}
def JL.mUpd(hT:MapT X.P kt vt t kid vid)(hu:opd L om=some (c1,.lf (.mp n)))(hl:lk H n=some (.map kt vt es clk))(hv:opd L ok=some (c2,.val kt x)){y:vt.den}(hy:opd L ov=some (c3,.val vt y))(hc:allP (c1++(c2++c3)))
  (k:JL X true all QA l ⟨L,updH H n (.map kt vt (mPut es clk x y) (mClk es clk x)),nx⟩):JL X true all QA (⟨none,.mapUpdate t om ok ov,ty,ps,af,none⟩::l) ⟨L,H,nx⟩:=by
 rw[z6,z6] at hc;refine q2o rfl rfl trivial (v:=.undef) (s':=⟨L,updH H n (.map kt vt (mPut es clk x y) (mClk es clk x)),nx⟩) (fun M ρ a w h1 h2=>?_) k;obtain⟨ms,hb,hm⟩:=q27 h1 hl;obtain⟨cx,hx,hxe⟩:=q0q hv hc.2.1 h2;obtain⟨cy,hy',hye⟩:=q0q hy hc.2.2 h2;obtain⟨ms',r1,r2⟩:=z9d hT hb hm hx hy';refine⟨ρ,_,_,?_,Env.upTo.refl _ _,yym _,rfl,h1.setMap hl r1,trivial,.inr ⟨rfl,rfl⟩⟩;simp only[execOp,q4n hu hc.1 h2,hxe,hye,yye,r2,yyb,yyf]
end
end Ox
namespace Go.Proofs.YtjjkdjbbkagclaaGreatDoor
open Go Go.RowKit Ox
variable {E:World}{M0:Mem}{n:Nat}{rd:Option Nat}{up:Nat→Nat→Value}{dp:Nat}{QA:Exit→S→Prop}{st st' r:List Fr}{s s':S}{cs:List Prop}{md:Bool}{all l:List Oper}{d:Nat}{op:Op}{ty:TypeId}{ps:String}{af:Array Edge}{g:Bool}{gg:Nat×Bool}{v:AV}{f:FuncId}{args:AV}{L:List (Nat×AV)}{H:List (Nat×HO)}{nx:Nat}{kt vt:Ty}{t kid vid:TypeId}{es:List (Ent kt vt)}{clk m:Nat}{x y:kt.den}{c1 c2 c3:List Prop}{om ok ov:Operand}
def zs(h:stepC tys ets n false st s=some (cs,st',s'))(k:JK ⟨Tryz.prog,tys,ets,mts,E,M0,n,rd,up,dp⟩ st' QA s')(hc:allP cs:=by exact zD):JK ⟨Tryz.prog,tys,ets,mts,E,M0,n,rd,up,dp⟩ st QA s:=JK.step xk h k hc
def zu(h:stepC tys ets n true st s=some (cs,st',s'))(k:JK ⟨Tryz.prog,tys,ets,mts,E,M0,n,rd,up,dp⟩ st' QA s')(hc:allP cs:=by exact zD):JK ⟨Tryz.prog,tys,ets,mts,E,M0,n,rd,up,dp⟩ st QA s:=JK.step xk h k hc
def zg(hg:gOf all L (some gg)=some g)(h:evb tys op ⟨L,H,nx⟩=some (cs,v))(hd:ltB d n=true)(k:JK ⟨Tryz.prog,tys,ets,mts,E,M0,n,rd,up,dp⟩ (.ops md all l::r) QA ⟨(d,.gd g v)::L,H,nx⟩)
  (hc:g=true→allP cs:=by(first|(exact fun _=>trivial)|(exact fun hgd=>hgd)|(exact zE)|(exact fun hgd=>And.intro hgd (fun hpk=>Bool.and_eq_true_iff.2 ⟨hgd,by rw[hpk];rfl⟩))|(exact zF))) :
  JK ⟨Tryz.prog,tys,ets,mts,E,M0,n,rd,up,dp⟩ (.ops md all (⟨some d,op,ty,ps,af,some gg⟩::l)::r) QA ⟨L,H,nx⟩:=JK.gd xk hg h hd k hc
def zc(h:callA tys op ⟨L,H,nx⟩=some (cs,f,args))(hf:Ox.Fn Tryz.prog f args (·=v))(hr:v.scal=true)(hd:ltB d n=true)(k:JK ⟨Tryz.prog,tys,ets,mts,E,M0,n,rd,up,dp⟩ (.ops md all l::r) QA ⟨(d,v)::L,H,nx⟩)(hc:allP cs:=by exact zD) :
  JK ⟨Tryz.prog,tys,ets,mts,E,M0,n,rd,up,dp⟩ (.ops md all (⟨some d,op,ty,ps,af,none⟩::l)::r) QA ⟨L,H,nx⟩:=JK.sc h hf hr hd k hc
def zk(hg:gOf all L (some gg)=some g)(h:callA tys op ⟨L,H,nx⟩=some (cs,f,args))(hf:g=true→Ox.Fn Tryz.prog f args (·=v))(hr:v.scal=true)(hd:ltB d n=true)(k:JK ⟨Tryz.prog,tys,ets,mts,E,M0,n,rd,up,dp⟩ (.ops md all l::r) QA ⟨(d,.gd g v)::L,H,nx⟩)
  (hc:g=true→allP cs:=by(first|(exact fun _=>trivial)|(exact fun hgd=>hgd)|(exact zE)|(exact zF))):JK ⟨Tryz.prog,tys,ets,mts,E,M0,n,rd,up,dp⟩ (.ops md all (⟨some d,op,ty,ps,af,some gg⟩::l)::r) QA ⟨L,H,nx⟩:=JK.scg hg h hf hr hd k hc
def ze(h:callA tys op ⟨L,[],nx⟩=some (cs,f,args))(hf:Ox.Fn Tryz.prog f args (·=v))(hd:ltB d n=true)(k:JK ⟨Tryz.prog,tys,ets,mts,E,M0,n,rd,up,dp⟩ (.ops true all l::r) QA ⟨(d,v)::L,H,nx⟩)(hc:allP cs:=by exact zD) :
  JK ⟨Tryz.prog,tys,ets,mts,E,M0,n,rd,up,dp⟩ (.ops true all (⟨some d,op,ty,ps,af,none⟩::l)::r) QA ⟨L,H,nx⟩:=JK.ce h hf hd k hc
def zt(hg:gOf all L (some gg)=some g)(hgt:g=true){dd:Option Nat}(k:JK ⟨Tryz.prog,tys,ets,mts,E,M0,n,rd,up,dp⟩ (.ops true all (⟨dd,op,ty,ps,af,none⟩::l)::r) QA ⟨L,H,nx⟩):JK ⟨Tryz.prog,tys,ets,mts,E,M0,n,rd,up,dp⟩ (.ops true all (⟨dd,op,ty,ps,af,some gg⟩::l)::r) QA ⟨L,H,nx⟩:=JK.gT hg hgt k
def zfl(hg:gOf all L (some gg)=some g)(hgf:g=false)(hd:ltB d n=true)(k:JK ⟨Tryz.prog,tys,ets,mts,E,M0,n,rd,up,dp⟩ (.ops true all l::r) QA ⟨(d,.undef)::L,H,nx⟩):JK ⟨Tryz.prog,tys,ets,mts,E,M0,n,rd,up,dp⟩ (.ops true all (⟨some d,op,ty,ps,af,some gg⟩::l)::r) QA ⟨L,H,nx⟩:=JK.gF hg hgf hd k
def znf(k:JK ⟨Tryz.prog,tys,ets,mts,E,M0,n,rd,up,dp⟩ (.ops true all l::r) QA ⟨del L d,H,nx⟩):JK ⟨Tryz.prog,tys,ets,mts,E,M0,n,rd,up,dp⟩ (.ops true all (⟨some d,.assign (.const .nilFunc),ty,ps,af,none⟩::l)::r) QA ⟨L,H,nx⟩:=z5b k
def zmi(hT:MapT Tryz.prog kt vt t kid vid)(hu:opd L om=some (c1,.lf (.mp m)))(hl:lk H m=some (.map kt vt es clk))(hv:opd L ok=some (c2,.val kt x)){y:vt.den}(hy:opd L ov=some (c3,.val vt y))
  (k:JK ⟨Tryz.prog,tys,ets,mts,E,M0,n,rd,up,dp⟩ (.ops true all l::r) QA ⟨L,updH H m (.map kt vt (mPut es clk x y) (mClk es clk x)),nx⟩) (hc:allP (c1++(c2++c3)):=by exact zD):JK ⟨Tryz.prog,tys,ets,mts,E,M0,n,rd,up,dp⟩ (.ops true all (⟨none,.insert t om ok ov,ty,ps,af,none⟩::l)::r) QA ⟨L,H,nx⟩:=JL.mIns (X:=⟨Tryz.prog,tys,ets,mts,E,M0,n,rd,up,dp⟩)  hT hu hl hv hy hc k
def zmd(hT:MapT Tryz.prog kt vt t kid vid){ta:TypeId}(hu:opd L om=some (c1,.lf (.mp m)))(hl:lk H m=some (.map kt vt es clk))(hv:opd L ok=some (c2,.val kt x))
  (k:JK ⟨Tryz.prog,tys,ets,mts,E,M0,n,rd,up,dp⟩ (.ops true all l::r) QA ⟨L,updH H m (.map kt vt (Ox.mDel es x) clk),nx⟩) (hc:allP (c1++c2):=by exact zD):JK ⟨Tryz.prog,tys,ets,mts,E,M0,n,rd,up,dp⟩ (.ops true all (⟨none,.call {callee:=.builtin .delete,args:=#[om,ok],argTypes:=#[t,ta]},ty,ps,af,none⟩::l)::r) QA ⟨L,H,nx⟩:=JL.mDel (X:=⟨Tryz.prog,tys,ets,mts,E,M0,n,rd,up,dp⟩)  hT hu hl hv hc k
def zmr(hT:MapT Tryz.prog kt vt t kid vid)(hu:opd L om=some (c1,.lf (.mp m)))(hl:lk H m=some (.map kt vt es clk))(hd:ltB d n=true)
  (k:JK ⟨Tryz.prog,tys,ets,mts,E,M0,n,rd,up,dp⟩ (.ops true all l::r) QA ⟨(d,.lf (.itr nx))::L,(nx,.iter m clk [] clk)::H,nx+1⟩) (hc:allP c1:=by exact zD):JK ⟨Tryz.prog,tys,ets,mts,E,M0,n,rd,up,dp⟩ (.ops true all (⟨some d,.range t om,ty,ps,af,none⟩::l)::r) QA ⟨L,H,nx⟩:=j3p (X:=⟨Tryz.prog,tys,ets,mts,E,M0,n,rd,up,dp⟩)  hT hu hl hd hc k
def zmm(hT:MapT Tryz.prog kt vt t kid vid)(hd:ltB d n=true)
  (k:JK ⟨Tryz.prog,tys,ets,mts,E,M0,n,rd,up,dp⟩ (.ops true all l::r) QA ⟨(d,.lf (.mp nx))::L,(nx,.map kt vt [] 0)::H,nx+1⟩):JK ⟨Tryz.prog,tys,ets,mts,E,M0,n,rd,up,dp⟩ (.ops true all (⟨some d,.makeMap t none,ty,ps,af,none⟩::l)::r) QA ⟨L,H,nx⟩:=q7o (X:=⟨Tryz.prog,tys,ets,mts,E,M0,n,rd,up,dp⟩)  hT hd k
def zeq(hK:EqT Tryz.prog kt t)(hu:opd L om=some (c1,.val kt x))(hv:opd L ok=some (c2,.val kt y))(hd:ltB d n=true)
  (k:JK ⟨Tryz.prog,tys,ets,mts,E,M0,n,rd,up,dp⟩ (.ops md all l::r) QA ⟨(d,.val .bool (kt.eqB x y))::L,H,nx⟩) (hc:allP (c1++c2):=by exact zD):JK ⟨Tryz.prog,tys,ets,mts,E,M0,n,rd,up,dp⟩ (.ops md all (⟨some d,.binOp .eql t om ok tt,ty,ps,af,none⟩::l)::r) QA ⟨L,H,nx⟩:=JL.eqQ (X:=⟨Tryz.prog,tys,ets,mts,E,M0,n,rd,up,dp⟩)  hK.key hK.ag hK.gt hu hv hd hc k
def zlf{x:Operand}(hF:funB Tryz.prog t=true)(hu:opd (del L d) x=some (cs,v))(hv:v.fnB=true)(hd:ltB d n=true)(k:JK ⟨Tryz.prog,tys,ets,mts,E,M0,n,rd,up,dp⟩ (.ops true all l::r) QA ⟨(d,.pfn v)::L,H,nx⟩)(hc:allP cs:=by exact zD) :
  JK ⟨Tryz.prog,tys,ets,mts,E,M0,n,rd,up,dp⟩ (.ops true all (⟨some d,.alloc t,ty,ps,af,none⟩::⟨none,.store t (.tmp d) x,ty2,ps2,af2,none⟩::l)::r) QA ⟨L,H,nx⟩:=JK.layF (X:=⟨Tryz.prog,tys,ets,mts,E,M0,n,rd,up,dp⟩) hF hu hv hd hc k
def zdg{x:Operand}(hF:funB Tryz.prog t=true)(hg:gOf all L (some gg)=some g)(hu:opd L x=some (cs,.pfn v))(hd:ltB d n=true)(k:JK ⟨Tryz.prog,tys,ets,mts,E,M0,n,rd,up,dp⟩ (.ops md all l::r) QA ⟨(d,.gd g v)::L,H,nx⟩)(hc:g=true→allP cs:=by(first|(exact fun _=>trivial)|(exact fun hgd=>hgd)|(exact zE)|(exact zF))) :
  JK ⟨Tryz.prog,tys,ets,mts,E,M0,n,rd,up,dp⟩ (.ops md all (⟨some d,.load t x,ty,ps,af,some gg⟩::l)::r) QA ⟨L,H,nx⟩:=JK.ldFg (X:=⟨Tryz.prog,tys,ets,mts,E,M0,n,rd,up,dp⟩) hF hg hu hd hc k
def zlm{x:Operand}(hF:mapB Tryz.prog t=true)(hu:opd (del L d) x=some (cs,v))(hv:v.mpB=true)(hd:ltB d n=true)(k:JK ⟨Tryz.prog,tys,ets,mts,E,M0,n,rd,up,dp⟩ (.ops true all l::r) QA ⟨(d,.pfn v)::L,H,nx⟩)(hc:allP cs:=by exact zD) :
  JK ⟨Tryz.prog,tys,ets,mts,E,M0,n,rd,up,dp⟩ (.ops true all (⟨some d,.alloc t,ty,ps,af,none⟩::⟨none,.store t (.tmp d) x,ty2,ps2,af2,none⟩::l)::r) QA ⟨L,H,nx⟩:=JK.layM (X:=⟨Tryz.prog,tys,ets,mts,E,M0,n,rd,up,dp⟩) hF hu hv hd hc k
def zdm{x:Operand}(hF:mapB Tryz.prog t=true)(hu:opd L x=some (cs,.pfn v))(hd:ltB d n=true)(k:JK ⟨Tryz.prog,tys,ets,mts,E,M0,n,rd,up,dp⟩ (.ops md all l::r) QA ⟨(d,v)::L,H,nx⟩)(hc:allP cs:=by exact zD) :
  JK ⟨Tryz.prog,tys,ets,mts,E,M0,n,rd,up,dp⟩ (.ops md all (⟨some d,.load t x,ty,ps,af,none⟩::l)::r) QA ⟨L,H,nx⟩:=JK.ldM (X:=⟨Tryz.prog,tys,ets,mts,E,M0,n,rd,up,dp⟩) hF hu hd hc k
structure HB(q:Prop):Prop where
 h:q
def zK0(k:q)(h:HB q→p:=by(intro hzz;(repeat (first|refine zs rfl ?_|refine zg rfl rfl rfl ?_|refine v6 ?_|refine w8 ?_));exact hzz.h)):p:=h ⟨k⟩
def zK1(k:q)(h:HB q→p:=by(intro hzz;(repeat (first|refine zs rfl ?_|refine zg rfl rfl rfl ?_|refine v6 ?_|refine w8 ?_|refine zeq eqPr rfl rfl rfl ?_));exact hzz.h)):p:=h ⟨k⟩
def zK2(k:q)(h:HB q→p:=by(intro hzz;(repeat (first|refine zs rfl ?_|refine zg rfl rfl rfl ?_|refine v6 ?_|refine w8 ?_|refine zmi mpU rfl rfl rfl rfl ?_|refine zmd mpU rfl rfl rfl ?_|refine zmr mpU rfl rfl rfl ?_|refine zmm mpU rfl ?_|refine zlf q87 rfl rfl rfl ?_|refine zdg q87 rfl rfl rfl ?_|refine zlm q3m rfl rfl rfl ?_|refine zdm q3m rfl rfl ?_));exact hzz.h)):p:=h ⟨k⟩
def zK3(k:q)(h:HB q→p:=by(intro hzz;(first|refine z1g xk rfl rfl ?_|refine w6 xk rfl rfl rfl ?_|refine q2p xk rfl rfl ?_|refine JL.M0 xk rfl ?_|refine z1i mpU rfl rfl rfl rfl ?_|refine z49 mpU rfl rfl rfl rfl ?_|refine q7o mpU rfl ?_|refine z1h (by assumption) rfl rfl rfl rfl ?_|(refine j3r q3m rfl trivial rfl ?_)|(refine JL.mUpd mpU rfl rfl rfl rfl trivial ?_));exact hzz.h)):p:=h ⟨k⟩
def zK4(k:q)(h:HB q→p:=by(intro hzz;(repeat (first|refine zs rfl ?_|refine zg rfl rfl rfl ?_|refine v6 ?_|refine w8 ?_|refine zmi mpD rfl rfl rfl rfl ?_|refine zmd mpD rfl rfl rfl ?_|refine zmr mpD rfl rfl rfl ?_|refine zmm mpD rfl ?_|refine zeq eqD rfl rfl rfl ?_));exact hzz.h)):p:=h ⟨k⟩
def zK5(k:q)(h:HB q→p:=by(intro hzz;(first|refine z1g xk rfl rfl ?_|refine w6 xk rfl rfl rfl ?_|refine q2p xk rfl rfl ?_|refine JL.M0 xk rfl ?_|refine z3m eqPr rfl rfl rfl ?_|refine z3l rfl (h1) rfl trivial rfl ?_|refine z3n rfl (h1) rfl (fun r hr=>?_);subst hr|refine q0s rfl rfl (fun hgd=>h1) rfl trivial rfl ?_|refine z3l rfl (h2) rfl trivial rfl ?_|refine z3n rfl (h2) rfl (fun r hr=>?_);subst hr|refine q0s rfl rfl (fun hgd=>h2) rfl trivial rfl ?_);exact hzz.h)):p:=h ⟨k⟩
def zK6(k:q)(h:HB q→p:=by(intro hzz;(first|refine q0s rfl rfl (fun hgd=>c4) rfl trivial rfl ?_|refine q0s rfl rfl (fun hgd=>c5) rfl trivial rfl ?_);exact hzz.h)):p:=h ⟨k⟩
def zK7(k:q)(h:HB q→p:=by(intro hzz;(first|refine JL.M0 xk rfl ?_);exact hzz.h)):p:=h ⟨k⟩
def zK8(k:q)(h:HB q→p:=by(intro hzz;(repeat (first|refine zs rfl ?_|refine zg rfl rfl rfl ?_|refine v6 ?_|refine w8 ?_|refine zeq eqWi rfl rfl rfl ?_));exact hzz.h)):p:=h ⟨k⟩
def zK9(k:q)(h:HB q→p:=by(intro hzz;(repeat (first|refine zs rfl ?_|refine zg rfl rfl rfl ?_|refine v6 ?_|refine w8 ?_|refine zeq eqRw rfl rfl rfl ?_));exact hzz.h)):p:=h ⟨k⟩
def zK10(k:q)(h:HB q→p:=by(intro hzz;(first|refine w6 xk rfl rfl rfl ?_|(refine JL.EqG eqPr rfl rfl rfl rfl ?_));exact hzz.h)):p:=h ⟨k⟩
def z8r(k:q)(h:HB q→p:=by(intro hzz;(repeat (first|refine zs rfl ?_|refine zg rfl rfl rfl ?_|refine v6 ?_|refine w8 ?_|refine zeq eqBf rfl rfl rfl ?_));exact hzz.h)):p:=h ⟨k⟩
def zK12(k:q)(h:HB q→p:=by(intro hzz;(first|refine z1g xk rfl rfl ?_|refine w6 xk rfl rfl rfl ?_|refine q2p xk rfl rfl ?_|refine JL.M0 xk rfl ?_|refine z1i mpD rfl rfl rfl rfl ?_|refine z49 mpD rfl rfl rfl rfl ?_|refine q7o mpD rfl ?_|refine z1h (by assumption) rfl rfl rfl rfl ?_|refine z3m eqD rfl rfl rfl ?_);exact hzz.h)):p:=h ⟨k⟩
def zK13(k:q)(h:HB q→p:=by(intro hzz;(repeat (first|refine zs rfl ?_|refine zg rfl rfl rfl ?_|refine v6 ?_|refine w8 ?_|refine zc rfl (c27) rfl rfl ?_|refine ze rfl (c27) rfl ?_|refine zk rfl rfl (fun _=>c27) rfl rfl ?_));exact hzz.h)):p:=h ⟨k⟩
def zK14(k:q)(h:HB q→p:=by(intro hzz;(first|refine z1g xk rfl rfl ?_|refine w6 xk rfl rfl rfl ?_|refine q2p xk rfl rfl ?_|refine JL.M0 xk rfl ?_|refine z1i mpU rfl rfl rfl rfl ?_|refine z49 mpU rfl rfl rfl rfl ?_|refine q7o mpU rfl ?_|refine z1h (by assumption) rfl rfl rfl rfl ?_|refine z3l rfl (c84) rfl trivial rfl ?_|refine z3n rfl (c84) rfl (fun r hr=>?_);subst hr|refine q0s rfl rfl (fun hgd=>c84) rfl trivial rfl ?_|(refine j3r q3m rfl trivial rfl ?_));exact hzz.h)):p:=h ⟨k⟩
def zK15(k:q)(h:HB q→p:=by(intro hzz;(first|refine z1g xk rfl rfl ?_|refine w6 xk rfl rfl rfl ?_|refine q2p xk rfl rfl ?_|refine JL.M0 xk rfl ?_|refine z3m eqRw rfl rfl rfl ?_|refine z3l rfl (c1) rfl trivial rfl ?_|refine z3n rfl (c1) rfl (fun r hr=>?_);subst hr|refine q0s rfl rfl (fun hgd=>c1) rfl trivial rfl ?_|refine z3l rfl (c2) rfl trivial rfl ?_|refine z3n rfl (c2) rfl (fun r hr=>?_);subst hr|refine q0s rfl rfl (fun hgd=>c2) rfl trivial rfl ?_);exact hzz.h)):p:=h ⟨k⟩
def zK16(k:q)(h:HB q→p:=by(intro hzz;(repeat (first|refine zs rfl ?_|refine zg rfl rfl rfl ?_|refine v6 ?_|refine w8 ?_|refine zc rfl (hx) rfl rfl ?_|refine ze rfl (hx) rfl ?_|refine zk rfl rfl (fun _=>hx) rfl rfl ?_));exact hzz.h)):p:=h ⟨k⟩
def zK17(k:q)(h:HB q→p:=by(intro hzz;(repeat (first|refine zs rfl ?_|refine zg rfl rfl rfl ?_|refine v6 ?_|refine w8 ?_|refine zc rfl (c65) rfl rfl ?_|refine ze rfl (c65) rfl ?_|refine zk rfl rfl (fun _=>c65) rfl rfl ?_));exact hzz.h)):p:=h ⟨k⟩
def zK18(k:q)(h:HB q→p:=by(intro hzz;(first|refine q2p xk rfl rfl ?_|refine JL.M0 xk rfl ?_|refine z1g xk rfl rfl ?_);exact hzz.h)):p:=h ⟨k⟩
def zK19(k:q)(h:HB q→p:=by(intro hzz;(first|refine z1g xk rfl rfl ?_|refine q2p xk rfl rfl ?_);exact hzz.h)):p:=h ⟨k⟩
def zK20(k:q)(h:HB q→p:=by(intro hzz;(repeat (first|refine zs rfl ?_|refine zg rfl rfl rfl ?_|refine v6 ?_|refine w8 ?_|refine zeq eqPr rfl rfl rfl ?_|refine zc rfl (h1) rfl rfl ?_|refine ze rfl (h1) rfl ?_|refine zk rfl rfl (fun _=>h1) rfl rfl ?_));exact hzz.h)):p:=h ⟨k⟩
def zK21(k:q)(h:HB q→p:=by(intro hzz;(repeat (first|refine zs rfl ?_|refine zg rfl rfl rfl ?_|refine v6 ?_|refine w8 ?_|refine zeq eqRw rfl rfl rfl ?_|refine zc rfl (c142) rfl rfl ?_|refine ze rfl (c142) rfl ?_|refine zk rfl rfl (fun _=>c142) rfl rfl ?_));exact hzz.h)):p:=h ⟨k⟩
def zK22(k:q)(h:HB q→p:=by(intro hzz;(repeat (first|refine zs rfl ?_|refine zg rfl rfl rfl ?_|refine v6 ?_|refine w8 ?_|refine zeq eqRw rfl rfl rfl ?_|refine zc rfl (c92) rfl rfl ?_|refine ze rfl (c92) rfl ?_|refine zk rfl rfl (fun _=>c92) rfl rfl ?_));exact hzz.h)):p:=h ⟨k⟩
def zK23(k:q)(h:HB q→p:=by(intro hzz;(repeat (first|refine zs rfl ?_|refine zg rfl rfl rfl ?_|refine v6 ?_|refine w8 ?_|refine zc rfl (c1) rfl rfl ?_|refine ze rfl (c1) rfl ?_|refine zk rfl rfl (fun _=>c1) rfl rfl ?_|refine zc rfl (c2) rfl rfl ?_|refine ze rfl (c2) rfl ?_|refine zk rfl rfl (fun _=>c2) rfl rfl ?_));exact hzz.h)):p:=h ⟨k⟩
def zK24(k:q)(h:HB q→p:=by(intro hzz;(repeat (first|refine zs rfl ?_|refine zg rfl rfl rfl ?_|refine v6 ?_|refine w8 ?_|refine zc rfl (c135) rfl rfl ?_|refine ze rfl (c135) rfl ?_|refine zk rfl rfl (fun _=>c135) rfl rfl ?_));exact hzz.h)):p:=h ⟨k⟩
def zK25(k:q)(h:HB q→p:=by(intro hzz;(repeat (first|refine zs rfl ?_|refine zg rfl rfl rfl ?_|refine v6 ?_|refine w8 ?_|refine zc rfl (c29) rfl rfl ?_|refine ze rfl (c29) rfl ?_|refine zk rfl rfl (fun _=>c29) rfl rfl ?_));exact hzz.h)):p:=h ⟨k⟩
def zK26(k:q)(h:HB q→p:=by(intro hzz;(repeat (first|refine zs rfl ?_|refine zg rfl rfl rfl ?_|refine v6 ?_|refine w8 ?_|refine zmi mpD rfl rfl rfl rfl ?_|refine zmd mpD rfl rfl rfl ?_|refine zmr mpD rfl rfl rfl ?_|refine zmm mpD rfl ?_|refine zeq eqD rfl rfl rfl ?_|refine zc rfl (c89) rfl rfl ?_|refine ze rfl (c89) rfl ?_|refine zk rfl rfl (fun _=>c89) rfl rfl ?_));exact hzz.h)):p:=h ⟨k⟩
def zK27(k:q)(h:HB q→p:=by(intro hzz;(repeat (first|refine zs rfl ?_|refine zg rfl rfl rfl ?_|refine v6 ?_|refine w8 ?_|refine zmi mpD rfl rfl rfl rfl ?_|refine zmd mpD rfl rfl rfl ?_|refine zmr mpD rfl rfl rfl ?_|refine zmm mpD rfl ?_|refine zeq eqD rfl rfl rfl ?_|refine zc rfl (c27) rfl rfl ?_|refine ze rfl (c27) rfl ?_|refine zk rfl rfl (fun _=>c27) rfl rfl ?_));exact hzz.h)):p:=h ⟨k⟩
def zK28(k:q)(h:HB q→p:=by(intro hzz;(first|refine z3l rfl (c1) rfl trivial rfl ?_|(refine z3n rfl (c1) rfl (fun r hr=>?_);subst hr)|refine z3l rfl (c2) rfl trivial rfl ?_|(refine z3n rfl (c2) rfl (fun r hr=>?_);subst hr));exact hzz.h)):p:=h ⟨k⟩
def zK29(k:q)(h:HB q→p:=by(intro hzz;(repeat (first|refine zs rfl ?_|refine zg rfl rfl rfl ?_|refine v6 ?_|refine w8 ?_|refine zc rfl (c1) rfl rfl ?_|refine ze rfl (c1) rfl ?_|refine zk rfl rfl (fun _=>c1) rfl rfl ?_));exact hzz.h)):p:=h ⟨k⟩
def zK30(k:q)(h:HB q→p:=by(intro hzz;(repeat (first|refine zs rfl ?_|refine zg rfl rfl rfl ?_|refine v6 ?_|refine w8 ?_|refine zc rfl (c26) rfl rfl ?_|refine ze rfl (c26) rfl ?_|refine zk rfl rfl (fun _=>c26) rfl rfl ?_));exact hzz.h)):p:=h ⟨k⟩
def zK31(k:q)(h:HB q→p:=by(intro hzz;(first|refine z1g xk rfl rfl ?_|refine w6 xk rfl rfl rfl ?_|refine q2p xk rfl rfl ?_|refine JL.M0 xk rfl ?_|refine z3m eqWi rfl rfl rfl ?_);exact hzz.h)):p:=h ⟨k⟩
def zB0(h:p:=by(· (refine q0s rfl rfl (fun hgd=>c29) rfl trivial rfl ?_);refine q8 ?_;refine q9 21 xk rfl rfl rfl (q7 22 xk rfl rfl ?_);refine w7 xk ?_ ?_;exact zS;(exact zJ))):p:=h
def zB1(h:p:=by(· (refine w6 xk rfl rfl rfl ?_);refine q8 ?_;refine q9 14 xk rfl rfl rfl (q7 15 xk rfl rfl ?_);refine w7 xk ?_ ?_;exact zS;(exact zJ))):p:=h
def zB2(h:p:=by(· refine zK10 ?_;refine q8 ?_;refine q7 9 xk rfl rfl (q7 10 xk rfl rfl ?_);refine w7 xk StF.nil ?_;(exact zJ))):p:=h
def zB3(h:p:=by(· refine zK7 ?_;refine q8 ?_;refine w7 xk StF.nil ?_;((refine zK0 ?_;refine⟨k+1,?_,by omega,by omega⟩;rw[hsucc];exact zJ)))):p:=h
def zB4(h:p:=by(· refine zK7 ?_;refine q8 ?_;refine w7 xk StF.nil ?_;((refine zK0 ?_;refine⟨k1,?_,n1,n2⟩;rw[hup,hki,hY];exact zJ)))):p:=h
def zB5(h:p:=by(· refine zK5 ?_;refine q8 ?_;refine q7 24 xk rfl rfl ?_;refine w7 xk ?_ ?_;exact zS;(exact zJ))):p:=h
def zB6(h:p:=by(· refine zK6 ?_;refine q8 ?_;refine q7 22 xk rfl rfl ?_;refine w7 xk ?_ ?_;exact zS;(exact zJ))):p:=h
def zB7(h:p:=by(· refine zK7 ?_;refine q8 ?_;refine w7 xk StF.nil ?_;(exact zJ))):p:=h
def zB8(h:p:=by(· refine zK3 ?_;refine q8 ?_;refine w7 xk StF.nil ?_;(exact zJ))):p:=h
def zB9(h:p:=by(· (refine w6 xk rfl rfl rfl ?_);refine q8 ?_;refine zU 17 xk rfl rfl ?_;(refine w6 xk rfl rfl rfl ?_);refine q8 ?_;refine q9 19 xk rfl rfl rfl (zU 21 xk rfl rfl ?_);exact zB6)):p:=h
def zB10(h:p:=by(· (refine w6 xk rfl rfl rfl ?_);refine q8 ?_;refine zU 17 xk rfl rfl ?_;(refine w6 xk rfl rfl rfl ?_);refine q8 ?_;refine zU 20 xk rfl rfl ?_;exact zB0)):p:=h
def zB11(h:p:=by(· refine zK6 ?_;refine q8 ?_;refine q9 13 xk rfl rfl rfl (q7 14 xk rfl rfl (q7 15 xk rfl rfl (q9 16 xk rfl rfl rfl (q9 18 xk rfl rfl rfl ?_))));refine j9 17 [20] xk ?_ ?_;exact zS;refine(BrF.one rfl rfl ?_ (BrF.one rfl rfl ?_ BrF.nil));(· (refine w6 xk rfl rfl rfl ?_);refine q8 ?_;refine q9 19 xk rfl rfl rfl (zU 20 xk rfl rfl ?_);(refine w6 xk rfl rfl rfl ?_);refine q8 ?_;refine zU 21 xk rfl rfl ?_;refine zK6 ?_;refine q8 ?_;refine q7 22 xk rfl rfl ?_;refine w7 xk ?_ ?_;exact zS;(exact zJ));exact zB9)):p:=h
def zU{X:Ctx}{K:S→Prop}{ops:List Oper}{ls fl fl2:List Nat}{fuel:Nat}{o:Oper}(i:Nat)(hX:XOK X)(ho:ops[i]?=some o)(hf:(fl.filter fun f=>!waits o f)=fl2)(h:JL X true ops (qN fun t=>JF X ops K fl2 fuel (i::ls) t) [o] s)(hst:StF X ops s fl:=by(focus (repeat (first|exact StF.nil|refine j3c rfl rfl rfl ?_))))(hc:ndB ops ls fl [i]=true:=by decide +kernel):JF X ops K fl (fuel+1) ls s:=j9 i [] hX hst (BrF.one ho hf h BrF.nil) hc
def zS(h:p:=by(focus (repeat (first|exact StF.nil|refine j3c rfl rfl rfl ?_)))):p:=h
def zC(a:p)(h:p→q:=by(intro hzz;simp only[↓cdL] at hzz;(try simp only[Ty.dflt,Int.toNat_natCast] at hzz);exact hzz)):q:=h a
def zJ(h:p:=by(exact JW.Auto (by conv=>lhs;reduce))):p:=h
end Go.Proofs.YtjjkdjbbkagclaaGreatDoor
namespace Ox.Gl
def NB(P:Nat→Nat→Bool)(n:Nat):Prop:=∀ S:Nat→Prop,(∃ c,S c)→(∀ c,S c→c<n)→∃ c,S c∧∀ a,S a→P a c=false
variable{n x:Nat}
def z7f(h:∀ a c,P a c=true→a<c):NB P n:=by
 intro S h1 h2;obtain⟨c,hS⟩:=h1;induction c using Nat.strongRecOn with
 |ind c ih=>
  by_cases hm:∃ a,S a∧P a c=true
  ·obtain⟨a,ha,hp⟩:=hm;exact ih a (h a c hp) ha
  ·refine⟨c,hS,fun a ha=>?_⟩;cases hp:P a c
   ·rfl
   ·exact absurd ⟨a,ha,hp⟩ hm
def freeM(bf:Nat→Nat)(left:Nat):Nat→Nat
 |0=>0
 |m+1=>if left &&& 2 ^ m≠0∧bf m &&& left=0 then freeM bf left m ||| 2 ^ m else freeM bf left m
def q6m:(x &&& 2 ^ m≠0)↔x.testBit m=true:=by
 constructor
 ·intro h;cases hb:x.testBit m
  ·refine absurd (Nat.eq_of_testBit_eq fun i=>?_) h;rw[yxu,Nat.testBit_two_pow,Nat.zero_testBit];by_cases he:m=i
   ·subst he;simp[hb]
   ·simp[he]
  ·rfl
 ·intro h hz;have h2:(x &&& 2 ^ m).testBit m=true:=by rw[yxu,Nat.testBit_two_pow,h];simp
  rw[hz] at h2;simp at h2
def q5e(bf:Nat→Nat)(left:Nat):∀ m c,(freeM bf left m).testBit c=(decide (c<m)&&left.testBit c&&(bf c &&& left==0))
 |0,c=>by simp[freeM]
 |m+1,c=>by
  unfold freeM;by_cases h:left &&& 2 ^ m≠0∧bf m &&& left=0
  ·rw[if_pos h,Nat.testBit_or,q5e bf left m,Nat.testBit_two_pow];by_cases he:m=c
   ·subst he;simp[q6m.1 h.1,h.2]
   ·by_cases hl:c<m
    ·simp[he,hl,Nat.lt_succ_of_lt hl]
    ·simp[he,hl,show ¬ c<m+1 by omega]
  ·rw[if_neg h,q5e bf left m];by_cases he:c=m
   ·subst he;have:¬ (left.testBit c=true∧bf c &&& left=0):=fun k=>h ⟨q6m.2 k.1,k.2⟩;cases h1:left.testBit c
    ·simp
    ·have h2:(bf c &&& left==0)=false:=by simp only[beq_eq_false_iff_ne];exact fun e=>this ⟨h1,e⟩
     simp[h2]
   ·by_cases hl:c<m
    ·simp[hl,Nat.lt_succ_of_lt hl]
    ·simp[hl,show ¬ c<m+1 by omega]
def z79(h:x≠0):∃ c,x.testBit c=true:=Nat.exists_testBit_of_ne_zero h
def bit_lt(h:x<2 ^ n)(hb:x.testBit c=true):c<n:=by refine Nat.lt_of_not_le fun hc=>?_;rw[Nat.testBit_lt_two_pow (yxa h (yxy (by decide) hc))] at hb;cases hb
def free_ne{n left:Nat}(hn:NB P n)(hb:∀ c a,c<n→(bf c).testBit a=P a c)(h0:left≠0)(hl:left<2 ^ n):freeM bf left n≠0:=by
 obtain⟨c,h1,h2⟩:=hn (fun c=>left.testBit c=true) (z79 h0) fun c h=>bit_lt hl h;have hc:=bit_lt hl h1;have h3:bf c &&& left=0:=Nat.eq_of_testBit_eq fun a=>by
  rw[yxu,hb c a hc,Nat.zero_testBit];cases ha:left.testBit a
  ·simp
  ·simp[h2 a ha]
 intro hz;have h4:=q5e bf left n c;rw[hz] at h4;simp[hc,h1,h3] at h4
def free_sub(bf:Nat→Nat)(left n:Nat):left &&& freeM bf left n=freeM bf left n:=Nat.eq_of_testBit_eq fun c=>by rw[yxu,q5e];cases left.testBit c<;>simp
def xor_lt(hs:a &&& b=b)(hb:b≠0):a ^^^ (a &&& b)<a:=by
 have h1:a ^^^ b≤a:=Nat.le_of_testBit fun c h=>by
  rw[Nat.testBit_xor] at h;have:(a &&& b).testBit c=b.testBit c:=by rw[hs]
  rw[yxu] at this;cases ha:a.testBit c<;>simp_all
 rw[hs];refine Nat.lt_of_le_of_ne h1 fun he=>hb ?_;have h2:a ^^^ (a ^^^ b)=a ^^^ a:=by rw[he]
 rw[← Nat.xor_assoc,Nat.xor_self,Nat.zero_xor] at h2;exact h2
def peel_lt{n left:Nat}(hn:NB P n)(hb:∀ c a,c<n→(bf c).testBit a=P a c)(h0:left≠0)(hl:left<2 ^ n) :
  left ^^^ (left &&& freeM bf left n)<left:=xor_lt (free_sub bf left n) (free_ne hn hb h0 hl)
def z81{lo hi least most drag n p:Int}(hd:0<drag)(h0:0≤p)(hn:p<n) :
  (max 0 (-((most-hi) / drag))≤p∧p≤min (n-1) ((lo-least) / drag))↔(least≤lo-p*drag∧hi-p*drag≤most):=by
 have e1:p≤(lo-least) / drag↔p*drag≤lo-least:=Int.le_ediv_iff_mul_le hd;have e2:-p≤(most-hi) / drag↔-p*drag≤most-hi:=Int.le_ediv_iff_mul_le hd;have e3:-p*drag=-(p*drag):=Int.neg_mul ..;constructor
 ·intro⟨h1,h2⟩;have:=e1.1 (by omega);have:=e2.1 (by omega);omega
 ·intro⟨h1,h2⟩;have:=e1.2 (by omega);have:=e2.2 (by omega);omega
def ruleP(bf:Nat→Nat):Nat→List Nat→Bool
 |_,[]=>true
 |lies,c::r=>(bf c ^^^ (bf c &&& lies)==0)&&ruleP bf (lies ||| 2 ^ c) r
def z5n{x y:Nat}:(x ^^^ (x &&& y)==0)=true↔∀ a,x.testBit a=true→y.testBit a=true:=by
 rw[beq_iff_eq];constructor
 ·intro h a ha;have:(x ^^^ (x &&& y)).testBit a=false:=by rw[h];simp
  rw[Nat.testBit_xor,yxu,ha] at this;cases hy:y.testBit a
  ·rw[hy] at this;simp at this
  ·rfl
 ·intro h;refine Nat.eq_of_testBit_eq fun a=>?_;rw[Nat.testBit_xor,yxu,Nat.zero_testBit];cases hx:x.testBit a
  ·simp
  ·simp[h a hx]
def z1z{P:Nat→Nat→Bool}{n:Nat}{bf:Nat→Nat}(hb:∀ c a,c<n→(bf c).testBit a=P a c)(hp:∀ a c,P a c=true→a<n)(hi:∀ a,P a a=false) :
  ∀ (rest pre:List Nat) (lies:Nat),(pre++rest).Nodup→(∀ a,a∈pre++rest↔a<n)→(∀ a,lies.testBit a=decide (a∈pre)) →
  (ruleP bf lies rest=true↔rest.Pairwise fun x y=>P y x=false)
 |[],_,_,_,_,_=>by simp[ruleP]
 |c::r,pre,lies,h1,h2,h3=>by
  have hc:c<n:=(h2 c).1 (by simp);have h1':(pre++[c]++r).Nodup:=by simpa using h1
  have ih:=z1z hb hp hi r (pre++[c]) (lies ||| 2 ^ c) h1' (by simpa using h2) (fun a=>by
   rw[Nat.testBit_or,h3,Nat.testBit_two_pow];by_cases e:a=c
   ·simp[e]
   ·simp[e,show ¬ c=a from fun h=>e h.symm])
  unfold ruleP;rw[yyd,z5n,ih,List.pairwise_cons];refine and_congr ⟨fun h a ha=>?_,fun h a ha=>?_⟩ Iff.rfl
  ·cases hpa:P a c
   ·rfl
   ·have h4:=h a (by rw[hb c a hc];exact hpa);rw[h3] at h4;have h5:a∈pre:=of_decide_eq_true h4;exact absurd rfl ((List.nodup_append.1 h1).2.2 a h5 a (yyi _ ha))
  ·rw[hb c a hc] at ha;rw[h3];refine decide_eq_true ?_;have h4:=(h2 a).2 (hp a c ha);rcases yy4.1 h4 with h5|h5
   ·exact h5
   ·rcases yyo.1 h5 with h6|h6
    ·subst h6;rw[hi] at ha;cases ha
    ·rw[h a h6] at ha;cases ha
def swp[Inhabited α](l:List α)(i k:Nat):List α:=(l.set i (l.getD k default)).set k (l.getD i default)
def z0b{α:Type}{x:α}:∀ {l:List α} {i:Nat} (h:i<l.length),(l[i]::l.set i x).Perm (x::l)
 |a::r,0,_=>by simpa using List.Perm.swap x a r
 |a::r,i+1,h=>by have ih:=z0b (x:=x) (l:=r) (i:=i) (Nat.lt_of_succ_lt_succ h);simp only[List.getElem_cons_succ,List.set_cons_succ];exact(List.Perm.swap _ _ _).trans ((ih.cons a).trans (List.Perm.swap _ _ _))
def swp_perm[Inhabited α]{l:List α}(hi:i<l.length)(hk:k<l.length):(swp l i k).Perm l:=by
 unfold swp;have e1:l.getD k default=l[k]:=by simp[List.getD,hk]
 have e2:l.getD i default=l[i]:=by simp[List.getD,hi]
 rw[e1,e2];have p1:=z0b (x:=l[k]) hi;have hk':k<(l.set i l[k]).length:=by simpa using hk
 have p2:=z0b (l:=l.set i l[k]) (x:=l[i]) hk';have e3:(l.set i l[k])[k]=l[k]:=by rw[List.getElem_set];split<;>rfl
 rw[e3] at p2;exact(List.perm_cons _).1 (p2.trans p1)
def q97[Inhabited α](l:List α)(i k:Nat):(swp l i k).length=l.length:=by simp[swp]
def sumI:List Int→Int:=fun l=>l.foldr (·+·) 0
def q2b(x:Int)(l:List Int):sumI (x::l)=x+sumI l:=rfl
def q99:∀ (a b:List Int),sumI (a++b)=sumI a+sumI b
 |[],b=>by simp[sumI]
 |x::a,b=>by rw[List.cons_append,q2b,q2b,q99 a b];omega
def j2x:∀ {n:Nat} {l:List Int},l.Perm ((List.range n).map Int.ofNat)→l.Pairwise (·≤·)→l=(List.range n).map Int.ofNat:=by
 intro n l hp hs;have hr:((List.range n).map Int.ofNat).Pairwise (·≤·):=by rw[List.pairwise_map];exact List.pairwise_lt_range.imp fun h=>by show Int.ofNat _≤Int.ofNat _;simp only[Int.ofNat_eq_natCast];omega
 exact hp.eq_of_pairwise (fun a b _ _ h1 h2=>Int.le_antisymm h1 h2) hs hr
def okc(P:Nat→Nat→Bool)(n:Nat)(q:List Nat)(c:Nat):Bool:=!(q.contains c)&&(List.range n).all fun a=>!(P a c)||q.contains a
def lvl(P:Nat→Nat→Bool)(n:Nat):Nat→List (List Nat)
 |0=>[[]]
 |m+1=>(lvl P n m).flatMap fun q=>((List.range n).filter (okc P n q)).map fun c=>q++[c]
variable{q:List Nat}
def f9:okc P n q c=true↔c∉q∧∀ a,a<n→P a c=true→a∈q:=by
 unfold okc;rw[yyd,yyx,yy1];refine and_congr (by rw[← Bool.not_eq_true,List.contains_iff_mem]) ⟨fun h a ha hp=>?_,fun h a ha=>?_⟩
 ·have:=h a (yyr.2 ha);rw[hp] at this;simpa using this
 ·cases hp:P a c
  ·rfl
  ·simpa using h a (yyr.1 ha) hp
def m9{P:Nat→Nat→Bool}{n:Nat}:∀ {m:Nat} {q:List Nat},q∈lvl P n m→q.length=m∧q.Nodup∧∀ c∈q,c<n
 |0,q,h=>by simp[lvl] at h;subst h;simp
 |m+1,q,h=>by
  simp only[lvl,List.mem_flatMap,yy0,yy5,yyr] at h;obtain⟨p,hp,c,⟨hc,ho⟩,rfl⟩:=h;obtain⟨h1,h2,h3⟩:=m9 hp;have h4:=(f9.1 ho).1;refine⟨by simp[h1],?_,fun x hx=>?_⟩
  ·rw[List.nodup_append];exact⟨h2,by simp,fun a ha b hb e=>h4 (by simp at hb;subst hb;subst e;exact ha)⟩
  ·rcases yy4.1 hx with k|k
   ·exact h3 x k
   ·simp at k;subst k;exact hc
def z2w{α β:Type}{f:α→List β}{l l':List α}(h:l.Perm l'):(l.flatMap f).Perm (l'.flatMap f):=by
 induction h with
 |nil=>exact List.Perm.refl _
 |cons x _ ih=>simp only[List.flatMap_cons];exact List.Perm.append_left _ ih
 |swap x y l=>simp only[List.flatMap_cons,← yxm];exact List.Perm.append_right _ List.perm_append_comm
 |trans _ _ i1 i2=>exact i1.trans i2
def q9p{α β:Type}{f g:α→List β}:∀ {l:List α},(∀ x∈l,(f x).Perm (g x))→(l.flatMap f).Perm (l.flatMap g)
 |[],_=>List.Perm.refl _
 |x::l,h=>by simp only[List.flatMap_cons];exact List.Perm.append (h x yyj) (q9p fun y hy=>h y (yyi _ hy))
section
variable {P P':Nat→Nat→Bool}{n:Nat}{f:Nat→Nat}
def z4t(hf:((List.range n).map f).Perm (List.range n))(hi:i<n)(hk:k<n)(e:f i=f k):i=k:=by have h1:((List.range n).map f).Nodup:=hf.nodup_iff.2 List.nodup_range;have h2:=(List.getElem_inj (i:=i) (j:=k) (h₀:=by simpa using hi) (h₁:=by simpa using hk) h1).1 (by simpa using e);exact h2
def f_lt(hf:((List.range n).map f).Perm (List.range n))(hi:i<n):f i<n:=yyr.1 ((hf.mem_iff).1 (yy0.2 ⟨i,yyr.2 hi,rfl⟩))
def f_sur(hf:((List.range n).map f).Perm (List.range n))(ha:a<n):∃ i,i<n∧f i=a:=by obtain⟨i,h1,h2⟩:=yy0.1 ((hf.mem_iff).2 (yyr.2 ha));exact⟨i,yyr.1 h1,h2⟩
variable{q:List Nat}
def f_mem(hf:((List.range n).map f).Perm (List.range n))(hq:∀ c∈q,c<n)(hi:i<n):f i∈q.map f↔i∈q:=by
 rw[yy0];constructor
 ·rintro⟨k,h1,h2⟩;rw[← z4t hf (hq k h1) hi h2];exact h1
 ·intro h;exact⟨i,h,rfl⟩
def okc_map(hf:((List.range n).map f).Perm (List.range n))(hp:∀ i k,i<n→k<n→P' i k=P (f i) (f k))(hq:∀ c∈q,c<n)(hi:i<n) :
  okc P n (q.map f) (f i)=okc P' n q i:=by
 rw[yyz,f9,f9,f_mem hf hq hi];refine and_congr Iff.rfl ⟨fun h a ha h1=>?_,fun h a ha h1=>?_⟩
 ·exact(f_mem hf hq ha).1 (h (f a) (f_lt hf ha) (by rw[← hp a i ha hi];exact h1))
 ·obtain⟨k,hk,rfl⟩:=f_sur hf ha;exact(f_mem hf hq hk).2 (h k hk (by rw[hp k i hk hi];exact h1))
def j0w(hf:((List.range n).map f).Perm (List.range n))(hp:∀ i k,i<n→k<n→P' i k=P (f i) (f k)):∀ m,((lvl P' n m).map (·.map f)).Perm (lvl P n m)
 |0=>by simp[lvl]
 |m+1=>by
  have ih:=j0w hf hp m;simp only[lvl];refine List.Perm.trans ?_ (z2w ih);rw[List.map_flatMap,List.flatMap_map];refine q9p fun q hq=>?_;have hq':=(m9 hq).2.2;have h1:(((List.range n).filter (okc P' n q)).map f).Perm ((List.range n).filter (okc P n (q.map f))):=by refine List.Perm.trans ?_ (hf.filter _);rw[List.filter_map];refine(List.Perm.of_eq ?_);congr 1;refine List.filter_congr fun i hi=>?_;exact(okc_map hf hp hq' (yyr.1 hi)).symm
  have h2:=h1.map fun c=>q.map f++[c];refine List.Perm.trans (List.Perm.of_eq ?_) h2;simp[List.map_map,Function.comp_def]
def j0x(hf:((List.range n).map f).Perm (List.range n))(hp:∀ i k,i<n→k<n→P' i k=P (f i) (f k))(m:Nat):(lvl P' n m).length=(lvl P n m).length:=by have:=(j0w hf hp m).length_eq;simpa using this
end
def j3i(h:NB P n)(hn:∃ c,c<n∧c∉q):∃ c,c<n∧okc P n q c=true:=by obtain⟨c,h1,h2⟩:=h (fun c=>c<n∧c∉q) hn fun c hc=>hc.1;refine⟨c,h1.1,f9.2 ⟨h1.2,fun a ha hp=>yx3 fun hc=>?_⟩⟩;rw[h2 a ⟨ha,hc⟩] at hp;cases hp
end Ox.Gl
namespace Ox
open Go Go.RowKit
variable {X:Ctx}{s:S}{M:Mem}{ρ:Env}{a:Act}{w w':World}{QA:Exit→S→Prop}{all l:List Oper}{o:Oper}
structure FnRow(P:Program)(f:FuncId)(args:AV)(eid:TypeId)(e:Ty)(xs:List e.den):Prop where
 call:∀ az w,(callFunc f az).run P w=.ok (.enter f az) w
 run:∀ M ρ w vs,MemIn M w→args.rvs M ρ vs→args.bd 0→Calls P f vs.toArray w fun en w'=>∃ v cs M',en=Ending.returned v∧w'.ownsRow w.heap.size eid e.size v xs.length cs∧RL M' e xs cs∧Below w.heap.size w w'∧M.le M'∧MemIn M' w'∧(∀ b,b<w.heap.size→M' b=M b)∧∀ b,v.ownBlock=some b→M' b=none
def rowQ(fn:Func)(eid:TypeId)(e:Ty)(xs:List e.den)(ex:Exit)(s:S):Prop:=(ex=.ret∨ex=.normal)∧∃ d m,fn.results.toList=[.tmp d]∧lk s.L d=some (.lf (.osl m))∧lk s.H m=some (.sl eid e xs)
variable{c:Code}{args v v':AV}
def FnRow.intro{P:Program}{T:List (Nat×Ty)}{ET:List (Nat×Nat)}{MT:List (Nat×(Nat×Nat))}{f:FuncId}{eid:TypeId}{e:Ty}{xs:List e.den}(hf:P.funcs[f]?=some fn)(hb:fn.body=some c)
  (hcall:∀ az w,(callFunc f az).run P w=.ok (.enter f az) w) (hn:argN args≤fn.ntmps) (h:∀ E M0 up,JC ⟨P,T,ET,MT,E,M0,fn.ntmps,none,up,0⟩ c (rowQ fn eid e xs) ⟨argL args 0,[],0⟩):FnRow P f args eid e xs:=by
 refine⟨hcall,fun M ρ w vs hM hvs hbd=>(callsIn_wide (n:=0)).1 (callsIn_of_wp_marks hf hb trivial ?_ rfl)⟩
 let up0:Nat→Nat→Value:=fun _ _=>Go.undef
 have hsat:SAT ⟨P,T,ET,MT,w,M,fn.ntmps,none,up0,0⟩ M ρ ⟨argL args 0,[],0⟩ w:=⟨Below.refl _ _,fun _ _ h=>h,fun _ _=>rfl,hM,fun l o h=>by simp[lk] at h,fun l l' o o' b h=>by simp[lk] at h,fun l o b h=>by simp[lk] at h⟩
 have hreg:REG ⟨P,T,ET,MT,w,M,fn.ntmps,none,up0,0⟩ M ρ ⟨argL args 0,[],0⟩ {tmps:=vs.toArray++Array.replicate (fn.ntmps-vs.toArray.size) Go.undef,defers:=[]}:=REG.args hvs hbd rfl hn;refine wpIn_mono (h w M up0 M ρ _ w hsat hreg) ?_;rintro ex a1 w1 ⟨M2,ρ1,s1,k1',k2',hex,d,m,hr1,hr2,hr3⟩;obtain⟨Ds,hds,hnd,hDs,_⟩:=k2'.defers;have fin:LeavesInM Fence.wide 0 P fn a1.tmps (fun en w'=>∃ v cs M',en=Ending.returned v∧w'.ownsRow w.heap.size eid e.size v xs.length cs∧RL M' e xs cs∧Below w.heap.size w w'∧M.le M'∧MemIn M' w'∧(∀ b,b<w.heap.size→M' b=M b)∧∀ b,v.ownBlock=some b→M' b=none) a1.defers .returning w1:=by
  rw[hds];refine q3p hnd (fun D hD=>k1'.mem _ _ (hDs D hD).2) fun w' hbel hkeep=>?_;obtain⟨hle,k1⟩:=k1'.taken (fun D hD=>by
   show M D=none;cases hMD:M D with
   |none=>rfl
   |some o=>have h1:=(yyk.1 (hM D o hMD)).1;have h2:w.heap.size≤D:=(hDs D hD).1;omega) hDs hbel hkeep
  have hown:=(k1.own m _ hr3).2.2;simp only[HO.ok] at hown;obtain⟨_,cs,hrow,hrl⟩:=hown;have hv:=(k2'.reg d _ hr2).2;rw[y7] at hv;simp only[Leaf.at,yya] at hv;refine⟨ρ1.sv m,?_,ρ1.sv m,cs,M2.without Ds,rfl,hrow,hrl,k1.below,fun b c ty fz hm=>k1.msub b _ hm,k1.mem,fun b hlt=>k1.mnew b hlt,fun b hb=>k1.notM m _ b hr3 hb⟩;have hrs:(fn.results.toList.mapM (resOne a1.tmps)).run P w'=.ok [ρ1.sv m] w':=by rw[hr1];simp only[List.mapM_cons,List.mapM_nil,resOne,yye,yyf,yyb,hv.1]
  have:=q25 hrs;simpa using this
 rcases hex with rfl|rfl
 ·exact fin
 ·exact fin
def z8h{f:FuncId}{eid:TypeId}{e:Ty}{xs:List e.den}(hg:o.guard=none)(h:callA X.T o.op ⟨s.L,[],s.nx⟩=some (cs,f,args))(hf:FnRow X.P f args eid e xs)(hd:dstOk X.n o.dst)(hc:allP cs)
  (k:JL X true all QA l (putS o.dst (.lf (.osl s.nx)) ⟨s.L,(s.nx,.sl eid e xs)::s.H,s.nx+1⟩)):JL X true all QA (o::l) s:=by
 intro M ρ a w h1 h2;have h1':SAT X M ρ ⟨s.L,[],s.nx⟩ w:=⟨h1.below,h1.msub,h1.mnew,h1.mem,fun l o h=>by simp[lk] at h,fun l l' o o' b h=>by simp[lk] at h,fun l o b h=>by simp[lk] at h⟩;have h2':REG X M ρ ⟨s.L,[],s.nx⟩ a:=⟨h2.size,h2.defers,h2.reg⟩;obtain⟨hb,vs,hvs,hrun⟩:=s7 h1' (Mx:=M) ⟨Mem.le_refl M,fun l o b h=>by simp[lk] at h⟩ h2' h hc;refine j4 (j7 hg) (x3 (q0y h) (by rw[hrun,hf.call]) (hf.run M ρ w vs h1.mem hvs hb) ?_);rintro en w' ⟨v,cs',M',rfl,hrow,hrl,hbl,hm,hin,hnew,hno⟩;have h3:=h1.ext hbl hm hin hnew;have hv1:v.oneCell'=true:=by rcases hrow.2 with⟨e1,_⟩|⟨g,cap,cur,e1,_⟩<;>rw[e1]<;>rfl
 have hge:∀ b,v.ownBlock=some b→w.heap.size≤b:=fun b hb=>by
  rcases hrow.2 with⟨e1,_⟩|⟨g,cap,cur,e1,e2,_⟩
  ·rw[e1] at hb;cases hb
  ·rw[e1] at hb;simp only[Value.ownBlock,yya] at hb;subst hb;exact e2
 have h5:SAT X M' (ρ.with s.nx 0 e v) ⟨s.L,(s.nx,.sl eid e xs)::s.H,s.nx+1⟩ w':=by
  refine h3.add (row:=none) ⟨rfl,rfl,rfl,yym _,fun _ _ _=>rfl⟩ (fun b hb=>by cases hb) (fun l o hl=>⟨hl,fun b _ e=>by cases e⟩) (j8 _ _ _ _ _) trivial ?_ ?_
  ·simp only[HO.ok,Env.with,if_true];refine⟨trivial,cs',⟨hrow.1,?_⟩,hrl⟩;rcases hrow.2 with e1|⟨g,cap,cur,e1,e2,e3⟩
   ·exact .inl e1
   ·exact .inr ⟨g,cap,cur,e1,Nat.le_trans h1.below.size e2,e3⟩
  ·intro b hbb;simp only[HO.at,Env.with,if_true] at hbb;refine⟨hno b hbb,fun l o1 hl hat=>?_⟩;have:=(p5 (h1.own l o1 hl).2.2 hat).2;have:=hge b hbb;omega
 have h4:REG X M' (ρ.with s.nx 0 e v) ⟨s.L,(s.nx,.sl eid e xs)::s.H,s.nx+1⟩ a:=h2.grow hm (j8 _ _ _ _ _) (yxc _) fun D hD=>by rw[hnew D (yyk.1 (h1.mem _ _ hD)).1];exact hD
 refine⟨_,rfl,k M' _ _ w' (j0 h5) (h4.putO hd.spec (yy9 _) ?_)⟩;rw[y7];exact⟨by simp[Leaf.at,Env.with],hv1⟩
variable{r:List Fr}
def z8j{L:List (Nat×AV)}{H:List (Nat×HO)}{nx d:Nat}{op:Op}{ty:TypeId}{ps:String}{af:Array Edge}{f:FuncId}{eid:TypeId}{e:Ty}{xs:List e.den}(h:callA X.T op ⟨L,[],nx⟩=some (cs,f,args))(hf:FnRow X.P f args eid e xs)(hd:ltB d X.n=true)(hc:allP cs)
  (k:JK X (.ops true all l::r) QA ⟨(d,.lf (.osl nx))::L,(nx,.sl eid e xs)::H,nx+1⟩):JK X (.ops true all (⟨some d,op,ty,ps,af,none⟩::l)::r) QA ⟨L,H,nx⟩:=z8h (s:=⟨L,H,nx⟩) rfl h hf (w9 hd) hc k
variable {md:Bool}
variable {L:List (Nat×AV)}{H:List (Nat×HO)}{nx m lo hi:Nat}{t:TypeId}{e:Ty}{eid:TypeId}{xs:List e.den}{c1:List Prop}{x:Operand}{ty:TypeId}{ps:String}{af:Array Edge}{f:Bool}
def j3l{d:Nat}{L':List (Nat×AV)}{H':List (Nat×HO)}(hd:lk L d=some (.lf (.ovw m 0 hi false)))(hl:lk H m=some (.sl eid e xs))(hhi:hi≤xs.length)(hL:∀ d v,lk L' d=some v→lk L d=some v)(hH:subH H H')(hm:lk H' m=none) :
  JW X ⟨(d,.lf (.osl nx))::L',(nx,.sl eid e (xs.take hi))::H',nx+1⟩ ⟨L,H,nx⟩:=by
 intro M ρ a w h1 h2;have hok:=m8 h1 hl;simp only[HO.ok] at hok;obtain⟨hty,cs0,hrow,hrl⟩:=hok;have hdv:=(h2.reg d _ hd).2;rw[y7] at hdv;simp only[Leaf.at,yya] at hdv;obtain⟨hdv,_⟩:=hdv;have hlen:(xs.take hi).length=hi:=by simp;omega
 have key:∃ v,sview (ρ.sv m) (ρ.ty m).size 0 hi false=v∧w.ownsRow X.E.heap.size eid e.size v (xs.take hi).length (cs0.take (hi*e.size))∧(∀ b,v.ownBlock=some b→(ρ.sv m).ownBlock=some b):=by
  rcases hrow.2 with⟨e1,hn⟩|⟨g,cap,cur,hsv,hg1,hg2,hg3,hg4,hg5,hg6⟩
  ·have h0:hi=0:=by omega
   subst h0;refine⟨.slice none 0 0,by rw[e1];rfl,⟨by simp,.inl ⟨rfl,by simp⟩⟩,fun b hb=>by simp[Value.ownBlock] at hb⟩
  ·refine⟨.slice (some ⟨g,0,none⟩) hi cap,?_,⟨?_,.inr ⟨g,cap,cur,by rw[hlen],hg1,hg2,by rw[hlen];omega,hg4,hg5,?_⟩⟩,fun b hb=>by rw[hsv];exact hb⟩
   ·rw[hsv];simp[sview,Addr.add]
   ·rw[hlen,yxe,hrl.1];exact yxw (yy8 _ hhi)
   ·rw[hlen,← hg6,List.take_take,yxw (yy8 _ hhi)]
 obtain⟨v,hv1,hv2,hv3⟩:=key;have hrow1:∀ b,(ρ.sv m).ownBlock=some b→X.E.heap.size≤b∧M b=none:=h1.row hl;have hs:SAT X M (ρ.with nx 0 e v) ⟨L,(nx,.sl eid e (xs.take hi))::H',nx+1⟩ w:=by refine SAT.newRow (s:=⟨L,H,nx⟩) h1 (row:=(ρ.sv m).ownBlock) (q0n w _) (fun b hb=>hrow1 b hb) (fun k o hk=>⟨hH k o hk,fun b hb heq=>?_⟩) hv2 (hrl.take hi) (fun b hb=>.inl (hv3 b hb));have:=h1.apart k m o _ b (hH k o hk) hl hb heq;subst this;rw[hm] at hk;cases hk
 refine⟨ρ.with nx 0 e v,hs.regs _,h2.size,h2.defers,fun d' v' hd'=>?_⟩;simp only[lk] at hd';by_cases he:d=d'
 ·subst he;rw[if_pos rfl] at hd';injection hd' with hd';subst hd'
  refine⟨yy9 _,?_⟩;rw[y7];refine⟨?_,?_⟩
  ·simp only[Leaf.at,Env.with,if_true];rw[← hdv,hv1]
  ·rw[← hdv,hv1];rcases hv2.2 with⟨e1,_⟩|⟨g,cap,cur,e1,_⟩<;>rw[e1]<;>rfl
 ·rw[if_neg he] at hd';obtain⟨f1,f2⟩:=h2.reg d' v' (hL d' v' hd');exact⟨j6 (yxc _) f1,w3 (Mem.le_refl M) (j8 _ _ _ _ _) f1 f2⟩
variable {d:Nat}
def ghP(n:Nat):AV→List Bool→Option AV
 |.lf .nils,[]=>some (.lf (.osl n))
 |.mix a b,false::p=>(ghP n a p).map fun x=>.mix x b
 |.mix a b,true::p=>(ghP n b p).map fun x=>.mix a x
 |_,_=>none
def j1n{n:Nat}:∀ {v:AV} {p:List Bool} {v':AV},ghP n v p=some v'→v.bd n→v'.bd (n+1)∧(∀ t,confB t v=true→confB t v'=true)∧∀ cs,v.rc M ρ cs→v'.rc M (ρ.nilAt n e) cs:=by
 intro v p v' h hb
 fun_induction ghP n v p generalizing v' with
 |case1=>
  injection h with h;subst h
  refine⟨yy9 _,fun t ht=>?_,fun cs hc=>?_⟩
  ·cases t<;>first|rfl|(simp[confB] at ht;done)
  ·simp only[AV.rc,Leaf.at] at hc ⊢;obtain⟨v,h1,h2,h3⟩:=hc;exact⟨v,by rw[← h1];simp[Env.nilAt],h2,h3⟩
 |case2 a b p ih=>
  simp only[yyn] at h;obtain⟨a',ha,rfl⟩:=h;obtain⟨e1,e2,e3⟩:=ih ha hb.1;refine⟨⟨e1,j6 (yxc _) hb.2⟩,fun t ht=>?_,fun cs hc=>?_⟩
  ·cases t with
   |cons ta tb=>simp only[confB,yyd] at ht ⊢;exact⟨e2 _ ht.1,ht.2⟩
   |arr m e=>
    cases m with
    |zero=>simp[confB] at ht
    |succ m=>simp only[confB,yyd] at ht ⊢;exact⟨e2 _ ht.1,ht.2⟩
   |_=>simp[confB] at ht
  ·simp only[AV.rc] at hc ⊢;obtain⟨c1,c2,k1,k2,k3⟩:=hc;exact⟨c1,c2,e3 _ k1,x6 (Mem.le_refl M) (q02 ρ n e) hb.2 k2,k3⟩
 |case3 a b p ih=>
  simp only[yyn] at h;obtain⟨b',hb',rfl⟩:=h;obtain⟨e1,e2,e3⟩:=ih hb' hb.2;refine⟨⟨j6 (yxc _) hb.1,e1⟩,fun t ht=>?_,fun cs hc=>?_⟩
  ·cases t with
   |cons ta tb=>simp only[confB,yyd] at ht ⊢;exact⟨ht.1,e2 _ ht.2⟩
   |arr m e=>
    cases m with
    |zero=>simp[confB] at ht
    |succ m=>simp only[confB,yyd] at ht ⊢;exact⟨ht.1,e2 _ ht.2⟩
   |_=>simp[confB] at ht
  ·simp only[AV.rc] at hc ⊢;obtain⟨c1,c2,k1,k2,k3⟩:=hc;exact⟨c1,c2,x6 (Mem.le_refl M) (q02 ρ n e) hb.1 k1,e3 _ k2,k3⟩
 |case4=>cases h
def j4c(m:Nat)(p:List Bool)(eid:TypeId)(e:Ty){t:Ty}(hm:lk s.H m=some (.cell t v))(hv:ghP s.nx v p=some v')
  (k:JC X c QA ⟨s.L,updH ((s.nx,.sl eid e [])::s.H) m (.cell t v'),s.nx+1⟩):JC X c QA s:=fun M ρ a w h1 h2=>by
 have g1:=h1.ghost eid e;have hr:=q02 ρ s.nx e;have g2:REG X M (ρ.nilAt s.nx e) ⟨s.L,updH ((s.nx,.sl eid e [])::s.H) m (.cell t v'),s.nx+1⟩ a:=by have:=h2.grow (H':=updH ((s.nx,.sl eid e [])::s.H) m (.cell t v')) (nx':=s.nx+1) (Mem.le_refl M) hr (yxc _) (u9 M);exact this
 obtain⟨o1,o2,o3⟩:=h1.own m _ hm;have hm':lk ((s.nx,HO.sl eid e [])::s.H) m=some (.cell t v):=by simp only[lk];rw[if_neg (by omega)];exact hm
 obtain⟨q1,q2,q3⟩:=g1.own m _ hm';obtain⟨b1,b2,b3⟩:=j1n (M:=M) (ρ:=ρ) (e:=e) hv o2;refine k M _ a w (g1.upd hm' (q0n w _) rfl b1 ?_) g2;simp only[HO.ok] at q3 o3 ⊢;obtain⟨r1,r2,r3,c,ty,r4,r5⟩:=q3;obtain⟨u1,u2,u3,c',ty',u4,u5⟩:=o3;refine⟨r1,b2 t r2,r3,c,ty,r4,?_⟩;have:w.heap[ρ.blk m]?=some (.cells c ty (0,0)):=by simpa[Env.nilAt] using r4
 rw[this] at u4;injection u4 with u4;injection u4 with u4 u4';subst u4
 exact b3 _ u5
def n5(m:Nat)(p:List Bool)(eid:TypeId)(e:Ty){t:Ty}(hm:lk s.H m=some (.cell t v))(hv:ghP s.nx v p=some v')
  (k:JK X (.code c::r) QA ⟨s.L,updH ((s.nx,.sl eid e [])::s.H) m (.cell t v'),s.nx+1⟩):JK X (.code c::r) QA s:=j4c m p eid e hm hv k
def toV:(t:Ty)→AV→Option t.den
 |t,.val t' x=>if h:t'=t then some (h▸x) else none
 |.cons a b,.mix x y=>(toV a x).bind fun u=>(toV b y).map fun v=>(u,v)
 |.arr (n+1) e,.mix x y=>(toV e x).bind fun u=>(toV (.arr n e) y).map fun v=>(u::v:List e.den)
 |.slice _,.lf .nils=>some []
 |_,_=>none
def toV_rc:∀ {v:AV} {t:Ty} {x:t.den} {cs:List Value},toV t v=some x→v.rc M ρ cs→Rep M t x cs:=by
 intro v;induction v with
 |val t' y=>
  intro t x cs h hr;simp only[toV] at h;split at h
  ·rename_i e;subst e;injection h with h;subst h;simpa only[AV.rc] using hr
  ·cases h
 |mix a b iha ihb=>
  intro t x cs h hr;simp only[AV.rc] at hr;obtain⟨c1,c2,r1,r2,rfl⟩:=hr;cases t with
  |cons ta tb=>simp only[toV,yyq,yyn] at h;obtain⟨u,hu,v,hv,rfl⟩:=h;simp only[Rep];exact⟨c1,c2,rfl,iha hu r1,ihb hv r2⟩
  |arr n e=>
   cases n with
   |zero=>simp[toV] at h
   |succ n=>simp only[toV,yyq,yyn] at h;obtain⟨u,hu,v,hv,rfl⟩:=h;have e1:=iha hu r1;have e2:=ihb hv r2;rw[q26] at e2 ⊢;obtain⟨f1,f2⟩:=e2;exact⟨by simp[f1],RL.append (l:=[u]) (m:=v) (q5t e1) f2⟩
  |_=>simp[toV] at h
 |lf y=>
  intro t x cs h hr;cases t<;>cases y<;>simp only[toV,reduceCtorEq,yya] at h
  subst h;simp only[AV.rc,Leaf.at] at hr;obtain⟨v,h1,_,rfl⟩:=hr;injection h1 with h1;subst h1
  exact v7 M (.slice _)
 |fn f a c _ _=>intro t x cs h hr;cases t<;>simp[toV] at h
 |_=>intro t x cs h hr;simp only[AV.rc] at hr
def JC.cellV(m:Nat){t:Ty}{x:t.den}(hm:lk s.H m=some (.cell t v))(hv:toV t v=some x)(k:JC X c QA ⟨s.L,updH s.H m (.cell t (.val t x)),s.nx⟩):JC X c QA s:=fun M ρ a w h1 h2=>by obtain⟨o1,o2,o3⟩:=h1.own m _ hm;refine k M ρ a w (h1.upd hm (q0n w _) rfl trivial ?_) ⟨h2.size,h2.defers,h2.reg⟩;simp only[HO.ok] at o3 ⊢;obtain⟨r1,r2,r3,c,ty,r4,r5⟩:=o3;exact⟨r1,by simp[confB],r3,c,ty,r4,by simp only[AV.rc];exact toV_rc hv r5⟩
def z7k(m:Nat){t:Ty}{x:t.den}(hm:lk s.H m=some (.cell t v))(hv:toV t v=some x)(k:JK X (.code c::r) QA ⟨s.L,updH s.H m (.cell t (.val t x)),s.nx⟩):JK X (.code c::r) QA s:=JC.cellV m hm hv k
def subH_del:∀ {H:List (Nat×HO)} {m:Nat},subH H (del H m):=fun l o h=>by
 rw[q48] at h;split at h
 ·cases h
 ·exact h
def JL.cutS{xs:List e.den}(hd:lk L d=some (.lf (.ovw m 0 hi false)))(hl:lk H m=some (.sl eid e xs))(k:JL X true all QA l ⟨(d,.lf (.osl nx))::L,(nx,.sl eid e (xs.take hi))::del H m,nx+1⟩)(hhi:hi≤xs.length):JL X true all QA l ⟨L,H,nx⟩:=q4c (j3l hd hl hhi (fun _ _ h=>h) subH_del (by rw[q48,if_pos rfl])) k
end Ox
namespace Ox.St
def lnS(s:Int):Nat:=s.natAbs-1
variable (X:Nat→Nat→Bool)
def ext(s:Int)(k:Nat):List Int:=if k=lnS s then [s] else if X (lnS s) k then [0] else []
def layR(R:Nat→List Int)(s:Int):Nat→List Int:=fun k=>
 if k≠lnS s∧X (lnS s) k=false then R k
 else if (R (lnS s)).getLast?=some (-s) then(R k).dropLast
 else if k=lnS s then R k++[s] else R k++[0]
def bld:List Int→Nat→List Int
 |[],_=>[]
 |t::r,k=>bld r k++ext X t k
variable {X:Nat→Nat→Bool}(hs:∀ i j,X i j=X j i)
def z4z(s:Int):ext X s (lnS s)=[s]:=by simp[ext]
def q59(s:Int):lnS (-s)=lnS s:=by simp[lnS]
def lay_no(h:(R (lnS s)).getLast?≠some (-s)):layR X R s=fun k=>R k++ext X s k:=by
 funext k;unfold layR ext;by_cases h1:k=lnS s
 ·rw[if_neg (by simp[h1]),if_neg h,if_pos h1,if_pos h1]
 ·cases h2:X (lnS s) k
  ·simp[h1]
  ·simp[h1,h]
def lay_of{R R':Nat→List Int}(h:∀ k,R k=R' k++ext X (-s) k):layR X R s=R':=by
 funext k;have hl:(R (lnS s)).getLast?=some (-s):=by rw[h,← q59 s,z4z];simp
 unfold layR;by_cases h1:k=lnS s
 ·rw[if_neg (by simp[h1]),if_pos hl,h,h1,← q59 s,z4z];simp
 ·cases h2:X (lnS s) k
  ·simp[h1,h,ext,q59,h2]
  ·simp only[h1,ne_eq,not_false_eq_true,true_and,Bool.true_eq_false,if_false,hl,if_true];rw[h];simp[ext,q59,h1,h2]
def Adj:List Int→Prop
 |x::y::r=>¬ (x≠0∧y=-x)∧Adj (y::r)
 |_=>True
def Adj.app:∀ {r:List Int} {y:Int},Adj r→(∀ x,r.getLast?=some x→¬ (x≠0∧y=-x))→Adj (r++[y])
 |[],_,_,_=>trivial
 |[x],y,_,h=>⟨h x rfl,trivial⟩
 |x::z::r,y,h,k=>⟨h.1,Adj.app (r:=z::r) h.2 fun w hw=>k w (by rw[List.getLast?_cons_cons];exact hw)⟩
def Adj.left:∀ {r q:List Int},Adj (r++q)→Adj r
 |[],_,_=>trivial
 |[x],_,_=>trivial
 |x::z::r,q,h=>⟨h.1,Adj.left (r:=z::r) (q:=q) h.2⟩
def Adj.last:∀ {r:List Int} {x y:Int},Adj (r++[y])→r.getLast?=some x→¬ (x≠0∧y=-x)
 |[],_,_,_,h=>by cases h
 |[z],x,y,h,hx=>by simp at hx;subst hx;exact h.1
 |z::w::r,x,y,h,hx=>Adj.last (r:=w::r) h.2 (by rw[List.getLast?_cons_cons] at hx;exact hx)
structure Pile(X:Nat→Nat→Bool)(rv:List Int)(R:Nat→List Int):Prop where
 eq:R=bld X rv
 nz:∀ t∈rv,t≠0
 adj:∀ k,Adj (R k)
def Pile.nil:Pile X [] (fun _=>[]):=⟨by funext k;rfl,fun _ h=>absurd h yxg,fun _=>trivial⟩
def z64(hs:∀ i j,X i j=X j i){s:Int}(hs0:s≠0):∀ {rv:List Int},(∀ t∈rv,t≠0)→(bld X rv (lnS s)).getLast?=some (-s) →
  ∃ r1 r2,rv=r1++-s::r2∧(∀ t∈r1,lnS t≠lnS s∧X (lnS t) (lnS s)=false)∧∀ k,bld X rv k=bld X (r1++r2) k++ext X (-s) k
 |[],_,h=>by simp[bld] at h
 |t::r,hn,h=>by
  simp only[bld] at h;by_cases h1:lnS s=lnS t
  ·have:ext X t (lnS s)=[t]:=by simp[ext,h1]
   rw[this] at h;simp at h;subst h;exact⟨[],r,rfl,fun _ h=>absurd h yxg,fun k=>rfl⟩
  ·cases h2:X (lnS t) (lnS s)
   ·have:ext X t (lnS s)=[]:=by simp[ext,h1,h2]
    rw[this,yxv] at h;obtain⟨r1,r2,e1,e2,e3⟩:=z64 hs hs0 (fun x hx=>hn x (yyi _ hx)) h;refine⟨t::r1,r2,by rw[e1];rfl,fun x hx=>?_,fun k=>?_⟩
    ·rcases yyo.1 hx with rfl|hx
     ·exact⟨fun e=>h1 e.symm,h2⟩
     ·exact e2 x hx
    ·show bld X r k++ext X t k=(bld X (r1++r2) k++ext X t k)++ext X (-s) k;rw[e3 k,yxm,yxm];congr 1;unfold ext;rw[q59];by_cases k1:k=lnS s
     ·rw[if_pos k1,k1,if_neg h1,h2];simp
     ·rw[if_neg k1];by_cases k2:k=lnS t
      ·rw[if_pos k2,k2,hs (lnS s) (lnS t),h2];simp
      ·rw[if_neg k2];cases X (lnS s) k<;>cases X (lnS t) k<;>rfl
   ·have:ext X t (lnS s)=[0]:=by simp[ext,h1,h2]
    rw[this] at h;simp at h;omega
def Pile.undo(hs:∀ i j,X i j=X j i)(h:Pile X rv R)(hs0:s≠0)(hu:(R (lnS s)).getLast?=some (-s)) :
  ∃ r1 r2,rv=r1++-s::r2∧(∀ t∈r1,lnS t≠lnS s∧X (lnS t) (lnS s)=false)∧Pile X (r1++r2) (layR X R s)∧∀ k,R k=layR X R s k++ext X (-s) k:=by
 obtain⟨r1,r2,e1,e2,e3⟩:=z64 hs hs0 h.nz (by rw[← h.eq];exact hu);have e4:∀ k,R k=bld X (r1++r2) k++ext X (-s) k:=fun k=>by rw[h.eq];exact e3 k
 have e5:=lay_of e4;refine⟨r1,r2,e1,e2,⟨e5,fun t ht=>h.nz t ?_,fun k=>?_⟩,fun k=>by rw[e5];exact e4 k⟩
 ·rw[e1];rcases yy4.1 ht with ht|ht
  ·exact yxt _ ht
  ·exact List.mem_append_right _ (yyi _ ht)
 ·rw[e5];have:=h.adj k;rw[e4 k] at this;exact this.left
def Pile.put(h:Pile X rv R)(hs0:s≠0)(hu:(R (lnS s)).getLast?≠some (-s)) :
  Pile X (s::rv) (layR X R s)∧∀ k,layR X R s k=R k++ext X s k:=by
 have e:=lay_no (X:=X) hu;refine⟨⟨?_,fun t ht=>?_,fun k=>?_⟩,fun k=>by rw[e]⟩
 ·rw[e,h.eq];rfl
 ·rcases yyo.1 ht with rfl|ht
  ·exact hs0
  ·exact h.nz t ht
 ·rw[e];show Adj (R k++ext X s k);have hk:=h.adj k;unfold ext;split
  ·rename_i h1;refine hk.app fun x hx ⟨_,hy⟩=>hu ?_;rw[← h1,hx,hy,Int.neg_neg]
  ·split
   ·exact hk.app fun x hx ⟨h1,hy⟩=>by omega
   ·rw[yxv];exact hk
def layL(R:Nat→List Int)(u:List Int):Nat→List Int:=u.foldl (layR X) R
def Pile.lay(hs:∀ i j,X i j=X j i)(h:Pile X rv R)(hs0:s≠0):∃ rv',Pile X rv' (layR X R s)∧rv'.length≤rv.length+1∧∀ t∈rv',t=s∨t∈rv:=by
 by_cases hu:(R (lnS s)).getLast?=some (-s)
 ·obtain⟨r1,r2,e1,_,e2,_⟩:=h.undo hs hs0 hu;refine⟨_,e2,by rw[e1];simp;omega,fun t ht=>.inr ?_⟩;rw[e1];rcases yy4.1 ht with ht|ht
  ·exact yxt _ ht
  ·exact List.mem_append_right _ (yyi _ ht)
 ·exact⟨_,(h.put hs0 hu).1,by simp,fun t ht=>yyo.1 ht⟩
def Pile.layL(hs:∀ i j,X i j=X j i):∀ {u rv:List Int} {R:Nat→List Int},Pile X rv R→(∀ s∈u,s≠0)→∃ rv',Pile X rv' (Ox.St.layL (X:=X) R u)∧rv'.length≤rv.length+u.length∧∀ t∈rv',t∈u∨t∈rv
 |[],rv,R,h,_=>⟨rv,h,by simp,fun t ht=>.inr ht⟩
 |s::u,rv,R,h,hn=>by
  obtain⟨rv1,h1,h2,h4⟩:=h.lay hs (hn s yyj);obtain⟨rv2,h3,h5,h6⟩:=Pile.layL hs (u:=u) h1 fun x hx=>hn x (yyi _ hx);refine⟨rv2,h3,by rw[List.length_cons];omega,fun t ht=>?_⟩;rcases h6 t ht with h|h
  ·exact .inl (yyi _ h)
  ·rcases h4 t h with h|h
   ·exact .inl (h▸yyj)
   ·exact .inr h
def Eqv(X:Nat→Nat→Bool)(u v:List Int):Prop:=∀ rv R,Pile X rv R→layL (X:=X) R u=layL (X:=X) R v
def Nz(u:List Int):Prop:=∀ s∈u,s≠0
def q5a(R:Nat→List Int)(u v:List Int):layL (X:=X) R (u++v)=layL (X:=X) (layL (X:=X) R u) v:=List.foldl_append ..
def Eqv.trans{u v w:List Int}(h:Eqv X u v)(k:Eqv X v w):Eqv X u w:=fun rv R p=>(h rv R p).trans (k rv R p)
def Eqv.symm{u v:List Int}(h:Eqv X u v):Eqv X v u:=fun rv R p=>(h rv R p).symm
def Eqv.app(hs:∀ i j,X i j=X j i){u v:List Int}(h:Eqv X u v){x:List Int}(hx:Nz x)(y:List Int):Eqv X (x++u++y) (x++v++y):=fun rv R p=>by obtain⟨rv',p',_⟩:=p.layL hs hx;rw[q5a,q5a,q5a,q5a,h _ _ p']
def j2s(a b:List Int)(k:Nat):bld X (a++b) k=bld X b k++bld X a k:=by
 induction a with
 |nil=>simp[bld]
 |cons t a ih=>rw[List.cons_append];simp only[bld];rw[ih,yxm]
def q7j{y:Int}(h:y∈bld X rv k)(hy:y≠0):lnS y=k∧y∈rv:=by
 induction rv with
 |nil=>simp[bld] at h
 |cons t r ih=>
  simp only[bld,yy4] at h;rcases h with h|h
  ·exact⟨(ih h).1,yyi _ (ih h).2⟩
  ·unfold ext at h;split at h
   ·rename_i e;rw[yyw.1 h];exact⟨e.symm,yyj⟩
   ·split at h
    ·exact absurd (yyw.1 h) hy
    ·simp at h
def bld_off(h:bld X rv k=[]):∀ t∈rv,lnS t≠k∧X (lnS t) k=false:=by
 induction rv with
 |nil=>exact fun _ h=>absurd h yxg
 |cons t r ih=>
  simp only[bld,List.append_eq_nil_iff] at h;intro x hx;rcases yyo.1 hx with rfl|hx
  ·have h2:=h.2;unfold ext at h2;by_cases e:k=lnS x
   ·rw[if_pos e] at h2;simp at h2
   ·rw[if_neg e] at h2;refine⟨fun q=>e q.symm,?_⟩;cases hX:X (lnS x) k
    ·rfl
    ·rw[hX] at h2;simp at h2
  ·exact ih h.1 x hx
def q88:∀ {l:List Int},(∀ y∈l,y=0)→l++[0]=0::l
 |[],_=>rfl
 |x::r,h=>by rw[h x yyj,List.cons_append,q88 fun y hy=>h y (yyi _ hy)]
def z27(hs:∀ i j,X i j=X j i){s:Int}(hs0:s≠0):∀ {rv:List Int},(∀ t∈rv,t≠0)→(bld X rv (lnS s)).head?=some s →
  ∃ r1 r2,rv=r1++s::r2∧(∀ t∈r2,lnS t≠lnS s∧X (lnS t) (lnS s)=false)∧∀ k,bld X rv k=ext X s k++bld X (r1++r2) k
 |[],_,h=>by simp[bld] at h
 |t::r,hn,h=>by
  by_cases hr:bld X r (lnS s)=[]
  ·simp only[bld,hr,List.nil_append] at h;unfold ext at h;split at h
   ·simp at h;subst h;have ho:=bld_off hr;refine⟨[],r,rfl,ho,fun k=>?_⟩;simp only[bld,List.nil_append];unfold ext;by_cases h1:k=lnS t
    ·rw[if_pos h1,h1,hr];rfl
    ·rw[if_neg h1];cases h2:X (lnS t) k
     ·simp
     ·simp only[if_true];exact q88 fun y hy=>yx3 fun hy0=>by obtain⟨q1,q2⟩:=q7j hy hy0;have q3:=(ho y q2).2;rw[q1,hs,h2] at q3;cases q3
   ·split at h
    ·simp at h;omega
    ·simp at h
  ·have h':(bld X r (lnS s)).head?=some s:=by
    simp only[bld] at h;cases hb:bld X r (lnS s) with
    |nil=>exact absurd hb hr
    |cons x y=>rw[hb] at h;simpa using h
   obtain⟨r1,r2,e1,e2,e3⟩:=z27 hs hs0 (fun x hx=>hn x (yyi _ hx)) h';refine⟨t::r1,r2,by rw[e1];rfl,e2,fun k=>?_⟩;simp only[bld,List.cons_append];rw[e3 k,yxm]
def takeR(X:Nat→Nat→Bool)(R:Nat→List Int)(s:Int):Nat→List Int:=fun k=>if k=lnS s∨X (lnS s) k=true then(R k).drop 1 else R k
def Adj.tail{x:Int}(h:Adj (x::r)):Adj r:=by
 cases r with
 |nil=>trivial
 |cons y r=>exact h.2
def Pile.take(hs:∀ i j,X i j=X j i)(h:Pile X rv R)(hs0:s≠0)(hf:(R (lnS s)).head?=some s) :
  ∃ r1 r2,rv=r1++s::r2∧(∀ t∈r2,lnS t≠lnS s∧X (lnS t) (lnS s)=false)∧Pile X (r1++r2) (takeR X R s)∧∀ k,R k=ext X s k++takeR X R s k:=by
 obtain⟨r1,r2,e1,e2,e3⟩:=z27 hs hs0 h.nz (by rw[← h.eq];exact hf);have e4:∀ k,R k=ext X s k++bld X (r1++r2) k:=fun k=>by rw[h.eq];exact e3 k
 have e5:takeR X R s=bld X (r1++r2):=by
  funext k;unfold takeR;by_cases h1:k=lnS s
  ·rw[if_pos (.inl h1),e4 k];simp[ext,h1]
  ·cases h2:X (lnS s) k
   ·rw[if_neg (by simp[h1]),e4 k];simp[ext,h1,h2]
   ·rw[if_pos (.inr rfl),e4 k];simp[ext,h1,h2]
 refine⟨r1,r2,e1,e2,⟨e5,fun t ht=>h.nz t ?_,fun k=>?_⟩,fun k=>by rw[e5];exact e4 k⟩
 ·rw[e1];rcases yy4.1 ht with ht|ht
  ·exact yxt _ ht
  ·exact List.mem_append_right _ (yyi _ ht)
 ·rw[e5];have:=h.adj k;rw[e4 k] at this;unfold ext at this;split at this
  ·exact this.tail
  ·split at this
   ·exact this.tail
   ·exact this
def frontK(r:List Int):List Int:=match r with
 |s::_=>if s=0 then [] else [s]
 |[]=>[]
def frontsN(R:Nat→List Int):Nat→List Int
 |0=>[]
 |n+1=>frontsN R n++frontK (R n)
def frontsR(R:Nat→List Int):List Int:=frontsN R 8
def q4q{R:Nat→List Int}{s:Int}:∀ {n:Nat},s∈frontsN R n↔∃ k,k<n∧s≠0∧(R k).head?=some s
 |0=>by simp[frontsN]
 |n+1=>by
  simp only[frontsN,yy4,q4q (n:=n)];constructor
  ·rintro(⟨k,h1,h2⟩|h)
   ·exact⟨k,by omega,h2⟩
   ·refine⟨n,yy9 n,?_⟩;unfold frontK at h;split at h
    ·rename_i x y e;split at h
     ·simp at h
     ·rename_i h0;rw[yyw.1 h];exact⟨h0,by rw[e];rfl⟩
    ·simp at h
  ·rintro⟨k,h1,h2,h3⟩;rcases Nat.lt_or_ge k n with h|h
   ·exact .inl ⟨k,h,h2,h3⟩
   ·obtain rfl:k=n:=by omega
    right;cases hR:R k with
    |nil=>rw[hR] at h3;simp at h3
    |cons x y=>rw[hR] at h3;simp at h3;subst h3;simp[frontK,h2]
def Pile.front(h:Pile X rv R)(hm:s∈frontsR R):s≠0∧(R (lnS s)).head?=some s∧s∈rv:=by obtain⟨k,h1,h2,h3⟩:=q4q.1 hm;have hk:s∈R k:=List.mem_of_head? h3;rw[h.eq] at hk;obtain⟨e1,e2⟩:=q7j hk h2;rw[e1];exact⟨h2,h3,e2⟩
def Pile.none(h:Pile X rv R)(hb:∀ t∈rv,lnS t<8)(hf:frontsR R=[]):rv=[]:=by
 rcases List.eq_nil_or_concat rv with h0|⟨r,t,h0⟩
 ·exact h0
 ·exfalso;have h0:rv=r++[t]:=by simpa using h0
  have ht:t∈rv:=by rw[h0];simp
  have h1:R (lnS t)=t::bld X r (lnS t):=by rw[h.eq,h0,j2s];simp[bld,ext]
  have:t∈frontsR R:=q4q.2 ⟨lnS t,hb t ht,h.nz t ht,by rw[h1];rfl⟩;rw[hf] at this;simp at this
def formR(X:Nat→Nat→Bool):Nat→(Nat→List Int)→List Int
 |0,_=>[]
 |n+1,R=>match frontsR R with
  |[]=>[]
  |s::_=>s::formR X n (takeR X R s)
variable{n:Nat}
def z2t(h:frontsR R=[]):formR X n R=[]:=by
 cases n with
 |zero=>rfl
 |succ n=>simp only[formR];rw[h]
def q9n(h:frontsR R=s::r):formR X (n+1) R=s::formR X n (takeR X R s):=by simp only[formR];rw[h]
def keyS(s:Int):Int:=if s<0 then -2*s-1 else 2*s-2
def key_line{a b:Int}(ha:a≠0)(hb:b≠0)(h:lnS a<lnS b):keyS a<keyS b:=by unfold lnS at h;unfold keyS;split<;>split<;>omega
def q5d{rv:List Int}{R:Nat→List Int}(h:Pile X rv R):∀ n,(frontsN R n).Pairwise (fun a b=>keyS a<keyS b)∧∀ a∈frontsN R n,a≠0∧lnS a<n
 |0=>⟨List.Pairwise.nil,fun _ h=>absurd h yxg⟩
 |n+1=>by
  obtain⟨h1,h2⟩:=q5d h n;have hk:∀ b∈frontK (R n),b≠0∧lnS b=n:=fun b hb=>by
   have:b∈R n∧b≠0:=by
    unfold frontK at hb;split at hb
    ·rename_i x y e;split at hb
     ·simp at hb
     ·rename_i h0;rw[yyw.1 hb];exact⟨by rw[e];exact yyj,h0⟩
    ·simp at hb
   have hb2:=this.1;rw[h.eq] at hb2;exact⟨this.2,(q7j hb2 this.2).1⟩
  refine⟨?_,fun a ha=>?_⟩
  ·simp only[frontsN];refine List.pairwise_append.2 ⟨h1,?_,fun a ha b hb=>?_⟩
   ·unfold frontK;split
    ·split
     ·exact List.Pairwise.nil
     ·exact List.pairwise_singleton _ _
    ·exact List.Pairwise.nil
   ·obtain⟨a1,a2⟩:=h2 a ha;obtain⟨b1,b2⟩:=hk b hb;exact key_line a1 b1 (by omega)
  ·rcases yy4.1 ha with ha|ha
   ·exact⟨(h2 a ha).1,by have:=(h2 a ha).2;omega⟩
   ·exact⟨(hk a ha).1,by have:=(hk a ha).2;omega⟩
def leastG(key:Int→Int):Int→List Int→Int
 |b,[]=>b
 |b,x::r=>leastG key (if key x<key b then x else b) r
def q78{key:Int→Int}{s:Int}:∀ {r:List Int},(∀ x∈r,key s<key x)→leastG key s r=s
 |[],_=>rfl
 |x::r,h=>by have:=h x yyj;rw[leastG,if_neg (by omega)];exact q78 fun y hy=>h y (yyi _ hy)
def rowsD(R:Nat→List Int):List (List Int):=(List.range 8).map R
def z10(R:Nat→List Int):(rowsD R).length=8:=by simp[rowsD]
def q7y(R:Nat→List Int)(h:k<8)(d:List Int):(rowsD R).getD k d=R k:=by simp[rowsD,yyg,List.getElem?_map,List.getElem?_range h]
def z9h(R:Nat→List Int)(h:k<8)(y:List Int):(rowsD R).set k y=rowsD (fun j=>if j=k then y else R j):=by
 apply List.ext_getElem
 ·simp[rowsD]
 ·intro i h1 h2;simp only[rowsD,List.getElem_set,List.getElem_map,List.getElem_range];by_cases e:k=i
  ·rw[if_pos e,if_pos e.symm]
  ·rw[if_neg e,if_neg fun q=>e q.symm]
end Ox.St
namespace Ox.Gl
open Ox.St
def greT(P:Nat→Nat→Bool)(n:Nat):Nat→List Nat→List Nat
 |0,_=>[]
 |m+1,q=>match (List.range n).find? (okc P n q) with
  |none=>[]
  |some c=>c::greT P n m (q++[c])
def stk(c:Nat):Int:=(c:Int)+1
def p8(c:Nat):lnS (stk c)=c:=by unfold lnS stk;omega
def stk_of{t:Int}(h:0<t):t=stk (lnS t):=by unfold lnS stk;omega
variable {P:Nat→Nat→Bool}{n:Nat}
def crsP(P:Nat→Nat→Bool):Nat→Nat→Bool:=fun i j=>P i j||P j i
def z09(i j:Nat):crsP P i j=crsP P j i:=by unfold crsP;rw[Bool.or_comm]
structure PQ(P:Nat→Nat→Bool)(n:Nat)(q:List Nat)(rv:List Int)(R:Nat→List Int):Prop where
 pile:Pile (crsP P) rv R
 pos:∀ t∈rv,0<t∧lnS t<n
 ne:rv.Pairwise fun x y=>lnS x≠lnS y
 lin:rv.Pairwise fun x y=>P (lnS x) (lnS y)=false
 mem:∀ c,c<n→(stk c∈rv↔c∉q)
def z65{X:Nat→Nat→Bool}{k:Nat}:∀ {r:List Int},(∀ t∈r,lnS t≠k∧X (lnS t) k=false)→bld X r k=[]
 |[],_=>rfl
 |t::r,h=>by have h1:=h t yyj;simp only[bld,z65 fun y hy=>h y (yyi _ hy),List.nil_append,ext];rw[if_neg (fun e=>h1.1 e.symm),h1.2];rfl
def head_of{X:Nat→Nat→Bool}{r1 r2:List Int}(h:Pile X (r1++s::r2) R)(h2:∀ t∈r2,lnS t≠lnS s∧X (lnS t) (lnS s)=false):(R (lnS s)).head?=some s:=by rw[h.eq,j2s];simp only[bld,z65 h2,List.nil_append,z4z];rfl
variable{q:List Nat}
def PQ.front_iff(hi:∀ a,P a a=false)(h:PQ P n q rv R)(hc:c<n) :
  (R c).head?=some (stk c)↔okc P n q c=true:=by
 rw[f9];constructor
 ·intro hf;have hf':(R (lnS (stk c))).head?=some (stk c):=by rw[p8];exact hf
  obtain⟨r1,r2,e1,e2,-,-⟩:=h.pile.take z09 (by unfold stk;omega) hf';have hm:stk c∈rv:=by rw[e1];simp
  refine⟨(h.mem c hc).1 hm,fun a ha hp=>yx3 fun hq=>?_⟩;have ha':=(h.mem a ha).2 hq;rw[e1] at ha';rcases yy4.1 ha' with h1|h1
  ·have hl:=h.lin;rw[e1,List.pairwise_append] at hl;have:=hl.2.2 _ h1 _ yyj;rw[p8,p8,hp] at this;cases this
  ·rcases yyo.1 h1 with h1|h1
   ·have:a=c:=by unfold stk at h1;omega
    subst this;rw[hi] at hp;cases hp
   ·have:=(e2 _ h1).2;rw[p8,p8] at this;unfold crsP at this;rw[hp] at this;simp at this
 ·intro⟨h1,h2⟩;have hm:=(h.mem c hc).2 h1;obtain⟨r1,r2,e⟩:=List.append_of_mem hm;have hp:=h.pile;have hne:=h.ne;have hl:=h.lin;rw[e] at hp hne hl;rw[List.pairwise_append] at hne hl;have:=head_of hp (fun t ht=>by
   have k1:=(List.pairwise_cons.1 hne.2.1).1 t ht;have k2:=(List.pairwise_cons.1 hl.2.1).1 t ht;have ht':t∈rv:=by rw[e];simp[ht]
   obtain⟨p1,p2⟩:=h.pos t ht';refine⟨fun e=>k1 e.symm,?_⟩;unfold crsP;rw[k2,Bool.or_false];cases hpt:P (lnS t) (lnS (stk c))
   ·rfl
   ·rw[p8] at hpt;have:=h2 _ p2 hpt;exact absurd this ((h.mem _ p2).1 (by rw[← stk_of p1];exact ht')))
  rw[p8] at this;exact this
def PQ.row(hi:∀ a,P a a=false)(h:PQ P n q rv R)(c:Nat) :
  frontK (R c)=if c<n∧okc P n q c=true then [stk c] else []:=by
 split
 ·rename_i k;have:=(h.front_iff hi k.1).2 k.2;cases hR:R c with
  |nil=>rw[hR] at this;cases this
  |cons x r=>rw[hR] at this;simp at this;subst this;simp[frontK,show stk c≠0 by unfold stk;omega]
 ·rename_i k;cases hR:R c with
  |nil=>rfl
  |cons x r=>
   by_cases h0:x=0
   ·simp[frontK,h0]
   ·exfalso;have hk:x∈bld (crsP P) rv c:=by rw[← h.pile.eq,hR];simp
    obtain⟨e1,e2⟩:=q7j hk h0;obtain⟨p1,p2⟩:=h.pos x e2;have e3:=stk_of p1;rw[e1] at e3 p2;exact k ⟨p2,(h.front_iff hi p2).1 (by rw[hR,e3];rfl)⟩
def PQ.frontsN(hi:∀ a,P a a=false){q:List Nat}{rv:List Int}{R:Nat→List Int}(h:PQ P n q rv R):∀ m,frontsN R m=((List.range m).filter fun c=>decide (c<n∧okc P n q c=true)).map stk
 |0=>rfl
 |m+1=>by
  rw[St.frontsN,PQ.frontsN hi h m,h.row hi,List.range_succ,List.filter_append,yx2];congr 1;by_cases k:m<n∧okc P n q m=true
  ·simp[k]
  ·rw[if_neg k,yx8 (by simpa using k)];rfl
def z9o{p:Nat→Bool}:∀ {m:Nat},n≤m→(List.range m).filter (fun c=>decide (c<n∧p c=true))=(List.range n).filter p:=by
 intro m hm;obtain⟨d,rfl⟩:=Nat.exists_eq_add_of_le hm;rw[List.range_add,List.filter_append];have h1:(List.range n).filter (fun c=>decide (c<n∧p c=true))=(List.range n).filter p:=List.filter_congr fun c hc=>by have:=yyr.1 hc;simp[this]
 have h2:((List.range d).map (n+·)).filter (fun c=>decide (c<n∧p c=true))=[]:=by rw[List.filter_eq_nil_iff];intro c hc;obtain⟨i,-,rfl⟩:=yy0.1 hc;simp;omega
 rw[h1,h2,yxv]
def PQ.fronts(hi:∀ a,P a a=false)(hn:n≤8)(h:PQ P n q rv R):frontsR R=((List.range n).filter (okc P n q)).map stk:=by unfold frontsR;rw[h.frontsN hi,z9o hn]
def PQ.take(hi:∀ a,P a a=false){q:List Nat}{rv:List Int}{R:Nat→List Int}(h:PQ P n q rv R){c:Nat}(hc:c<n)(ho:okc P n q c=true) :
  ∃ rv',PQ P n (q++[c]) rv' (takeR (crsP P) R (stk c)):=by
 have hf:=(h.front_iff hi hc).2 ho;have hf':(R (lnS (stk c))).head?=some (stk c):=by rw[p8];exact hf
 obtain⟨r1,r2,e1,e2,e3,-⟩:=h.pile.take z09 (by unfold stk;omega) hf';have hsub:(r1++r2).Sublist rv:=by rw[e1];exact List.Sublist.append_left (List.sublist_cons_self _ _) _
 refine⟨r1++r2,e3,fun t ht=>h.pos t (hsub.subset ht),h.ne.sublist hsub,h.lin.sublist hsub,fun a ha=>?_⟩;have hne:=h.ne;rw[e1,List.pairwise_append] at hne;have hx:∀ t,t∈r1++r2↔t∈rv∧lnS t≠c:=by
  intro t;rw[e1];constructor
  ·intro ht;refine⟨?_,?_⟩
   ·rcases yy4.1 ht with k|k<;>simp[k]
   ·rcases yy4.1 ht with k|k
    ·have:=hne.2.2 t k _ yyj;rw[p8] at this;exact this
    ·have:=(List.pairwise_cons.1 hne.2.1).1 t k;rw[p8] at this;exact fun e=>this e.symm
  ·intro⟨ht,k⟩;rcases yy4.1 ht with j|j
   ·simp[j]
   ·rcases yyo.1 j with j|j
    ·subst j;rw[p8] at k;exact absurd rfl k
    ·simp[j]
 rw[hx,h.mem a ha,p8];simp
def PQ.form(hi:∀ a,P a a=false)(hn:n≤8):∀ (m:Nat) {q:List Nat} {rv:List Int} {R:Nat→List Int},PQ P n q rv R→formR (crsP P) m R=(greT P n m q).map stk
 |0,_,_,_,_=>rfl
 |m+1,q,rv,R,h=>by
  have e:=h.fronts hi hn;have e2:(List.range n).find? (okc P n q)=((List.range n).filter (okc P n q)).head?:=(List.head?_filter ..).symm;unfold greT;cases hl:(List.range n).filter (okc P n q) with
  |nil=>rw[hl] at e e2;rw[e2,z2t (by rw[e];rfl)];rfl
  |cons c r=>
   have hm:c∈(List.range n).filter (okc P n q):=by rw[hl];simp
   rw[yy5,yyr] at hm;rw[hl] at e e2;obtain⟨rv',h'⟩:=h.take hi hm.1 hm.2;rw[e2,q9n (s:=stk c) (r:=r.map stk) (by rw[e];rfl),PQ.form hi hn m h'];rfl
def z6n{X:Nat→Nat→Bool}{k:Nat}:∀ {r:List Int},(∀ t∈r,0<t)→∀ y∈bld X r k,0≤y
 |[],_,y,hy=>by simp[bld] at hy
 |t::r,h,y,hy=>by
  simp only[bld] at hy;rcases yy4.1 hy with hy|hy
  ·exact z6n (fun z hz=>h z (yyi _ hz)) y hy
  ·have:=h t yyj;unfold ext at hy;split at hy
   ·simp at hy;omega
   ·split at hy
    ·simp at hy;omega
    ·simp at hy
def z6m{X:Nat→Nat→Bool}:∀ (u:List Int) {rv:List Int} {R:Nat→List Int},Pile X rv R→(∀ t∈rv,0<t)→(∀ t∈u,0<t)→Pile X (u.reverse++rv) (layL (X:=X) R u)
 |[],_,_,h,_,_=>h
 |s::u,rv,R,h,h1,h2=>by
  have hs:=h2 s yyj;have hu:(R (lnS s)).getLast?≠some (-s):=by intro e;have:=List.mem_of_getLast? e;rw[h.eq] at this;have:=z6n h1 _ this;omega
  have h3:=(h.put (by omega) hu).1;have:=z6m u h3 (fun t ht=>by
   rcases yyo.1 ht with e|ht
   ·rw[e];exact hs
   ·exact h1 t ht) fun t ht=>h2 t (yyi _ ht)
  simpa[layL] using this
def z1e(hp:o.Perm (List.range n))(hl:o.Pairwise fun x y=>P y x=false):PQ P n [] (o.map stk).reverse (layL (X:=crsP P) (fun _=>[]) (o.map stk)):=by
 have h0:∀ t∈o.map stk,0<t∧lnS t<n:=fun t ht=>by obtain⟨c,hc,rfl⟩:=yy0.1 ht;rw[p8];exact⟨by unfold stk;omega,yyr.1 (hp.mem_iff.1 hc)⟩
 have h1:=z6m (o.map stk) (Pile.nil (X:=crsP P)) (by simp) fun t ht=>(h0 t ht).1;rw[yxv] at h1;refine⟨h1,fun t ht=>h0 t (List.mem_reverse.1 ht),?_,?_,fun c hc=>?_⟩
 ·rw[List.pairwise_reverse,List.pairwise_map];exact(hp.nodup_iff.2 List.nodup_range).imp fun h=>by rw[p8,p8];exact fun e=>h e.symm
 ·rw[List.pairwise_reverse,List.pairwise_map];exact hl.imp fun h=>by rw[p8,p8];exact h
 ·rw[List.mem_reverse,yy0];simp only[yxg,not_false_eq_true,iff_true];exact⟨c,hp.mem_iff.2 (yyr.2 hc),rfl⟩
def q6z{x:Nat}:∀ {a:List Nat},a.Nodup→x∈a→List.Perm a (x::a.filter fun k=>decide (k≠x))
 |b::r,hn,h=>by
  obtain⟨h1,h2⟩:=yx7.1 hn;by_cases e:b=x
  ·subst e;have e:(r.filter fun k=>decide (k≠b))=r:=List.filter_eq_self.2 fun k hk=>decide_eq_true fun e:k=b=>h1 (by rw[← e];exact hk);rw[yx8 (by simp),e]
  ·rw[List.filter_cons_of_pos (by simpa using e)];have:=q6z h2 ((yyo.1 h).resolve_left fun e'=>e e'.symm);exact(this.cons b).trans (List.Perm.swap x b _)
def q70:∀ {z a:List Nat},z.Nodup→a.Nodup→(∀ x∈z,x∈a)→a.length≤z.length→List.Perm z a
 |[],a,_,_,_,h=>by rw[List.length_eq_zero_iff.1 (Nat.le_zero.1 h)]
 |x::z,a,hz,ha,hs,h=>by obtain⟨h1,h2⟩:=yx7.1 hz;have hp:=q6z ha (hs x yyj);have hl:=hp.length_eq;refine List.Perm.trans ?_ hp.symm;refine List.Perm.cons x (q70 h2 (ha.filter _) (fun y hy=>?_) (by simp only[List.length_cons] at hl h;omega));rw[yy5];exact⟨hs y (yyi _ hy),decide_eq_true fun e=>h1 (e▸hy)⟩
def z7x(h1:q.Nodup)(h2:∀ c∈q,c<n)(h3:q.length=n):q.Perm (List.range n):=q70 h1 List.nodup_range (fun x hx=>yyr.2 (h2 x hx)) (by simp[h3])
def q7c(hq:q∈lvl P n m)(hc:c<n)(ho:okc P n q c=true):q++[c]∈lvl P n (m+1):=by simp only[lvl,List.mem_flatMap,yy0,yy5,yyr];exact⟨q,hq,c,⟨hc,ho⟩,rfl⟩
def q57(hp:∀ a c,P a c=true→a<n):∀ {m:Nat} {q:List Nat},q∈lvl P n m→(∀ c∈q,∀ a,P a c=true→a∈q)∧q.Pairwise fun x y=>P y x=false
 |0,q,h=>by simp[lvl] at h;subst h;simp
 |m+1,q,h=>by
  simp only[lvl,List.mem_flatMap,yy0,yy5,yyr] at h;obtain⟨p,hp',c,⟨hc,ho⟩,rfl⟩:=h;obtain⟨h1,h2⟩:=q57 hp hp';obtain⟨h3,h4⟩:=f9.1 ho;refine⟨fun x hx a ha=>?_,?_⟩
  ·rcases yy4.1 hx with k|k
   ·exact yxt _ (h1 x k a ha)
   ·rw[yyw.1 k] at ha;exact yxt _ (h4 a (hp a c ha) ha)
  ·rw[List.pairwise_append];refine⟨h2,by simp,fun x hx y hy=>?_⟩;rw[yyw.1 hy];cases hpx:P c x
   ·rfl
   ·exact absurd (h1 x hx c hpx) h3
def q0v(h:q∈lvl P n n):q.Perm (List.range n):=by obtain⟨h1,h2,h3⟩:=m9 h;exact z7x h2 h3 h1
def z4i(hN:NB P n)(hq:q∈lvl P n m)(hm:m<n):(List.range n).filter (okc P n q)≠[]:=by
 obtain⟨h1,h2,h3⟩:=m9 hq;have:∃ c,c<n∧c∉q:=yx3 fun hc=>by
  have:∀ c,c∈List.range n→c∈q:=fun c hc'=>yx3 fun k=>hc ⟨c,yyr.1 hc',k⟩;have:=(q70 List.nodup_range h2 this (by rw[h1];simp;omega)).length_eq
  simp at this;omega
 obtain⟨c,hc,ho⟩:=j3i hN this;intro e;have:c∈(List.range n).filter (okc P n q):=yy5.2 ⟨yyr.2 hc,ho⟩;rw[e] at this;cases this
def z0v(hN:NB P n):∀ (m:Nat) {k:Nat} {q:List Nat},q∈lvl P n k→k+m≤n→q++greT P n m q∈lvl P n (k+m)
 |0,k,q,h,_=>by simpa[greT] using h
 |m+1,k,q,h,hk=>by
  unfold greT;have hne:=z4i hN h (by omega);cases hf:(List.range n).find? (okc P n q) with
  |none=>refine absurd (List.filter_eq_nil_iff.2 fun c hc=>?_) hne;have:=List.find?_eq_none.1 hf c hc;exact this
  |some c=>have h1:=List.find?_some hf;have h2:=yyr.1 (List.mem_of_find?_eq_some hf);have:=z0v hN m (q7c h h2 h1) (by omega);rw[yxm] at this;rw[show k+(m+1)=k+1+m by omega];exact this
def roundsR(X:Nat→Nat→Bool):Nat→(Nat→List Int)→List (List Int)
 |0,_=>[]
 |m+1,R=>match frontsR R with
  |[]=>[]
  |s::r=>(s::r)::roundsR X m ((s::r).foldl (takeR X) R)
def PQ.takes(hi:∀ a,P a a=false):∀ (cs:List Nat) {q:List Nat} {rv:List Int} {R:Nat→List Int},PQ P n q rv R→(∀ c∈cs,c<n∧okc P n q c=true)→cs.Nodup →
  ∃ rv',PQ P n (q++cs) rv' ((cs.map stk).foldl (takeR (crsP P)) R)
 |[],q,rv,R,h,_,_=>⟨rv,by simpa using h⟩
 |c::cs,q,rv,R,h,hc,hn=>by
  obtain⟨h1,h2⟩:=hc c yyj;obtain⟨rv',h'⟩:=h.take hi h1 h2;obtain⟨k1,k2⟩:=yx7.1 hn;obtain⟨rv'',h''⟩:=PQ.takes hi cs h' (fun d hd=>by
   obtain⟨j1,j2⟩:=hc d (yyi _ hd);obtain⟨i1,i2⟩:=f9.1 j2;refine⟨j1,f9.2 ⟨fun e=>?_,fun a ha hp=>yxt _ (i2 a ha hp)⟩⟩;rcases yy4.1 e with e|e
   ·exact i1 e
   ·rw[yyw.1 e] at hd;exact k1 hd) k2
  exact⟨rv'',by simpa using h''⟩
structure Lng(P:Nat→Nat→Bool)(n:Nat)(g:Nat→Nat):Prop where
 one:∀ c,c<n→1≤g c
 lt:∀ a c,c<n→P a c=true→g a<g c
 ex:∀ c,c<n→g c=1∨∃ a,P a c=true∧g c=g a+1
def okc_lng(hg:Lng P n g)(hp:∀ a c,P a c=true→a<n){r:Nat}(hq:∀ c,c<n→(c∈q↔g c≤r))(hc:c<n):okc P n q c=true↔g c=r+1:=by
 rw[f9,hq c hc];constructor
 ·intro⟨h1,h2⟩;rcases hg.ex c hc with k|⟨a,k1,k2⟩
  ·omega
  ·have:=(hq a (hp a c k1)).1 (h2 a (hp a c k1) k1);omega
 ·intro h;refine⟨by omega,fun a ha h1=>(hq a ha).2 ?_⟩;have:=hg.lt a c hc h1;omega
def q9f{g:Nat→Nat}{most:Nat}(hi:∀ a,P a a=false)(hn:n≤8)(hN:NB P n)(hp:∀ a c,P a c=true→a<n)(hg:Lng P n g)(h1:∀ c,c<n→g c≤most)(h2:∃ c,c<n∧g c=most) :
  ∀ (m r:Nat) {q:List Nat} {rv:List Int} {R:Nat→List Int},PQ P n q rv R→(∀ c,c<n→(c∈q↔g c≤r))→r≤most→most-r≤m→(roundsR (crsP P) m R).length=most-r
 |0,r,q,rv,R,_,_,h5,h6=>by simp[roundsR];omega
 |m+1,r,q,rv,R,h3,h4,h5,h6=>by
  have e:=h3.fronts hi hn;have ho:=fun c (hc:c<n)=>okc_lng hg hp h4 hc;unfold roundsR;cases hl:(List.range n).filter (okc P n q) with
  |nil=>rw[hl] at e;rw[e];show 0=most-r;refine yx3 fun hc=>?_;obtain⟨c,k1,k2⟩:=h2;obtain⟨d,d1,d2⟩:=j3i hN ⟨c,k1,fun hc'=>by have:=(h4 c k1).1 hc';omega⟩;have:d∈(List.range n).filter (okc P n q):=yy5.2 ⟨yyr.2 d1,d2⟩;rw[hl] at this;cases this
  |cons c cs=>
   have hm:∀ d,d∈c::cs↔d<n∧g d=r+1:=fun d=>by rw[← hl,yy5,yyr];exact and_congr_right fun hd=>ho d hd
   rw[hl] at e;rw[e];have hnd:(c::cs).Nodup:=by rw[← hl];exact List.nodup_range.filter _
   obtain⟨rv',h'⟩:=h3.takes hi (c::cs) (fun d hd=>by have:=(hm d).1 hd;exact⟨this.1,(ho d this.1).2 this.2⟩) hnd
   have hc:=(hm c).1 yyj;have hmc:=h1 c hc.1;show(roundsR (crsP P) m ((stk c::cs.map stk).foldl (takeR (crsP P)) R)).length+1=most-r;have:=q9f hi hn hN hp hg h1 h2 m (r+1) h' (fun d hd=>by
    rw[yy4,h4 d hd,hm d];constructor
    ·rintro(k|k)<;>omega
    ·intro k;by_cases j:g d≤r
     ·exact .inl j
     ·exact .inr ⟨hd,by omega⟩) (by omega) (by omega)
   rw[yy6] at this;rw[this];omega
end Ox.Gl
namespace Ox.Gl
variable {P:Nat→Nat→Bool}{n:Nat}
def q7a:∀ {z a:List Nat},z.Nodup→(∀ x∈z,x∈a)→z.length≤a.length
 |[],_,_,_=>yyu _
 |x::z,a,hz,hs=>by obtain⟨h1,h2⟩:=yx7.1 hz;have hx:=hs x yyj;have:=q7a (z:=z) (a:=a.erase x) h2 fun y hy=>(List.mem_erase_of_ne (fun e:y=x=>h1 (by rw[← e];exact hy))).2 (hs y (yyi _ hy));rw[List.length_erase_of_mem hx] at this;have:=List.length_pos_of_mem hx;simp only[List.length_cons];omega
structure Sch(P:Nat→Nat→Bool)(n:Nat)(p:Nat→Int):Prop where
 inj:∀ a c,a<n→c<n→p a=p c→a=c
 lt:∀ a c,a<n→c<n→P a c=true→p a+1≤p c
def Bnd(n:Nat)(p L U:Nat→Int):Prop:=∀ c,c<n→L c≤p c∧p c≤U c
variable{p:Nat→Int}
def no_block(h:Sch P n p)(hb:Bnd n p L U){F T:Int}{cs:List Nat}(hn:cs.Nodup)(hc:∀ c∈cs,c<n∧F≤L c∧U c≤T)(hne:cs≠[]):(cs.length:Int)≤T-F+1:=by
 have h1:∀ c∈cs,F≤p c∧p c≤T:=fun c k=>by obtain⟨k1,k2,k3⟩:=hc c k;obtain⟨k4,k5⟩:=hb c k1;omega
 have h2:(cs.map fun c=>(p c-F).toNat).Nodup:=by rw[List.nodup_iff_pairwise_ne,List.pairwise_map];refine(List.nodup_iff_pairwise_ne.1 hn).imp_of_mem fun {a b} ha hb' hab e=>hab ?_;have:=h1 a ha;have:=h1 b hb';exact h.inj a b (hc a ha).1 (hc b hb').1 (by omega)
 have h3:=q7a (a:=List.range (T-F+1).toNat) h2 fun x hx=>by obtain⟨c,k1,rfl⟩:=yy0.1 hx;have:=h1 c k1;rw[yyr];omega
 rw[yxd,List.length_range] at h3;cases cs with
 |nil=>exact absurd rfl hne
 |cons c r=>have:=h1 c yyj;omega
def Bnd.step(h:Sch P n p)(hb:Bnd n p L U)(ha:a<n)(hc:c<n)(hp:P a c=true) :
  Bnd n p (fun x=>if x=c then max (L c) (L a+1) else L x) (fun x=>if x=a then min (U a) (U c-1) else U x):=fun x hx=>by
 have h1:=h.lt a c ha hc hp;have h2:=hb a ha;have h3:=hb c hc;have h4:=hb x hx;constructor
 ·show(if x=c then _ else _)≤_;split
  ·rename_i e;subst e;omega
  ·exact h4.1
 ·show _≤(if x=a then _ else _);split
  ·rename_i e;subst e;omega
  ·exact h4.2
def plc(o:List Nat)(c:Nat):Int:=(o.idxOf c:Nat)
def plc_sch(hp:∀ a c,P a c=true→a<n)(h:o∈lvl P n n):Sch P n (plc o):=by
 have hpm:=q0v h;have hnd:o.Nodup:=hpm.nodup_iff.2 List.nodup_range;have hm:∀ c,c<n→c∈o:=fun c hc=>hpm.mem_iff.2 (yyr.2 hc);have hl:=(q57 hp h).2;have hg:∀ c (hc:c<n),∃ k:o.idxOf c<o.length,o[o.idxOf c]=c:=fun c hc=>⟨List.idxOf_lt_length_of_mem (hm c hc),List.getElem_idxOf _⟩;refine⟨fun a c ha hc e=>?_,fun a c ha hc hpa=>?_⟩
 ·obtain⟨k1,e1⟩:=hg a ha;obtain⟨k2,e2⟩:=hg c hc;unfold plc at e;have:o.idxOf a=o.idxOf c:=by omega
  rw[← e1,← e2];exact getElem_congr_idx this
 ·obtain⟨k1,e1⟩:=hg a ha;obtain⟨k2,e2⟩:=hg c hc;unfold plc;have hle:¬ o.idxOf c≤o.idxOf a:=fun hle=>by
   rcases Nat.lt_or_eq_of_le hle with hlt|he
   ·have:=ywa.1 hl _ _ k2 k1 hlt;rw[e1,e2,hpa] at this;cases this
   ·have:a=c:=by rw[← e1,← e2];exact getElem_congr_idx he.symm
    subst this;have:∀ {m:Nat} {q:List Nat},q∈lvl P n m→∀ x∈q,P x x=false:=by
     intro m;induction m with
     |zero=>intro q hq x hx;simp[lvl] at hq;subst hq;cases hx
     |succ m ih=>
      intro q hq x hx;simp only[lvl,List.mem_flatMap,yy0,yy5,yyr] at hq;obtain⟨q',hq',d,⟨hd,ho⟩,rfl⟩:=hq;rcases yy4.1 hx with k|k
      ·exact ih hq' x k
      ·rw[yyw.1 k];obtain⟨i1,i2⟩:=f9.1 ho;cases hpd:P d d
       ·rfl
       ·exact absurd (i2 d hd hpd) i1
    rw[this h a (hm a ha)] at hpa;cases hpa
  omega
variable{q:List Nat}
def sch_of(hp:∀ a c,P a c=true→a<n)(hN:NB P n)(hq:q∈lvl P n k)(hk:k≤n) :
  ∃ p:Nat→Int,Sch P n p∧(∀ c,c<n→0≤p c∧p c≤(n:Int)-1)∧∀ i (hi:i<q.length),p q[i]=i:=by
 have h:=z0v hN (n-k) hq (by omega);rw[show k+(n-k)=n by omega] at h;have hpm:=q0v h;have hnd:(q++greT P n (n-k) q).Nodup:=hpm.nodup_iff.2 List.nodup_range;refine⟨plc (q++greT P n (n-k) q),plc_sch hp h,fun c hc=>?_,fun i hi=>?_⟩
 ·have h1:=List.idxOf_lt_length_of_mem (hpm.mem_iff.2 (yyr.2 hc));have h2:=hpm.length_eq;rw[List.length_range] at h2;unfold plc;omega
 ·have h3:i<(q++greT P n (n-k) q).length:=by simp;omega
  have h4:q[i]=(q++greT P n (n-k) q)[i]:=by rw[List.getElem_append_left hi]
  unfold plc;rw[h4,hnd.idxOf_getElem]
variable {β:Type}(a0 a1:β→Nat)
def prB(B:List β)(a c:Nat):Bool:=B.any fun p=>decide (a0 p=a∧a1 p=c)
def lngP(c:Nat)(t:List Int)(p:β):List Int:=if a1 p=c then t.set c (max (t.getD c 0) (t.getD (a0 p) 0+1)) else t
def lngS(B:List β)(n:Nat):Nat→List Int
 |0=>List.replicate n 0
 |c+1=>B.foldl (lngP a0 a1 c) ((lngS B n c).set c 1)
variable {a0 a1}
def q55{B:List β}:prB a0 a1 B a c=true↔∃ p∈B,a0 p=a∧a1 p=c:=by unfold prB;rw[List.any_eq_true];simp
def q8d{x:Int}(hi:i<l.length):(l.set i x).getD a 0=if a=i then x else l.getD a 0:=by
 simp only[yyg,List.getElem?_set];by_cases h:i=a
 ·subst h;simp[hi]
 ·rw[if_neg h,if_neg fun e=>h e.symm]
def z0q(c:Nat)(t:List Int)(p:β):(lngP a0 a1 c t p).length=t.length:=by unfold lngP;split<;>simp
def z6k{c:Nat}:∀ (B:List β) (t:List Int),(∀ p∈B,a0 p<a1 p)→c<t.length→1≤t.getD c 0 →
  (B.foldl (lngP a0 a1 c) t).length=t.length∧(∀ x,x≠c→(B.foldl (lngP a0 a1 c) t).getD x 0=t.getD x 0)∧t.getD c 0≤(B.foldl (lngP a0 a1 c) t).getD c 0 ∧
  (∀ a,prB a0 a1 B a c=true→t.getD a 0+1≤(B.foldl (lngP a0 a1 c) t).getD c 0) ∧
  ((B.foldl (lngP a0 a1 c) t).getD c 0=t.getD c 0∨∃ a,prB a0 a1 B a c=true∧(B.foldl (lngP a0 a1 c) t).getD c 0=t.getD a 0+1)
 |[],t,_,_,_=>⟨rfl,fun _ _=>rfl,Int.le_refl _,fun a h=>by simp[prB] at h,.inl rfl⟩
 |p::B,t,hB,hc,h1=>by
  have hlen:=z0q (a0:=a0) (a1:=a1) c t p;have hp:=hB p yyj;have hg:∀ x,x≠c→(lngP a0 a1 c t p).getD x 0=t.getD x 0:=fun x hx=>by
   unfold lngP;split
   ·rw[q8d hc,if_neg hx]
   ·rfl
  have hgc:(lngP a0 a1 c t p).getD c 0=if a1 p=c then max (t.getD c 0) (t.getD (a0 p) 0+1) else t.getD c 0:=by
   unfold lngP;split
   ·rw[q8d hc,if_pos rfl]
   ·rfl
  have hle:t.getD c 0≤(lngP a0 a1 c t p).getD c 0:=by rw[hgc];split<;>omega
  obtain⟨i1,i2,i3,i4,i5⟩:=z6k (c:=c) B (lngP a0 a1 c t p) (fun q hq=>hB q (yyi _ hq)) (by omega) (by omega);have hpr:∀ a,prB a0 a1 (p::B) a c=true↔(a0 p=a∧a1 p=c)∨prB a0 a1 B a c=true:=fun a=>by rw[q55,q55];simp
  have hne:∀ a,prB a0 a1 (p::B) a c=true→a≠c:=fun a h=>by obtain⟨q,hq,e1,e2⟩:=q55.1 h;have:=hB q hq;omega
  simp only[List.foldl_cons];refine⟨by rw[i1,hlen],fun x hx=>by rw[i2 x hx,hg x hx],by omega,fun a ha=>?_,?_⟩
  ·rcases(hpr a).1 ha with⟨e1,e2⟩|h
   ·rw[if_pos e2,e1] at hgc;omega
   ·have:=i4 a h;rw[hg a (hne a ha)] at this;exact this
  ·rcases i5 with h|⟨a,h,e⟩
   ·rw[h,hgc];split
    ·rename_i e2;by_cases hm:t.getD c 0≤t.getD (a0 p) 0+1
     ·exact .inr ⟨a0 p,(hpr _).2 (.inl ⟨rfl,e2⟩),by omega⟩
     ·exact .inl (by omega)
    ·exact .inl rfl
   ·refine .inr ⟨a,(hpr a).2 (.inr h),?_⟩;rw[e,hg a (hne a ((hpr a).2 (.inr h)))]
def z0p(B:List β)(n:Nat):∀ m,(lngS a0 a1 B n m).length=n
 |0=>by simp[lngS]
 |m+1=>by
  have:∀ (B:List β) (t:List Int),(B.foldl (lngP a0 a1 m) t).length=t.length:=fun B=>by
   induction B with
   |nil=>intro t;rfl
   |cons p B ih=>intro t;rw[List.foldl_cons,ih,z0q]
  rw[lngS,this,List.length_set,z0p B n m]
def q76{B:List β}{n:Nat}(hB:∀ p∈B,a0 p<a1 p):∀ m,m≤n→(∀ c,c<m→1≤(lngS a0 a1 B n m).getD c 0∧(∀ a,prB a0 a1 B a c=true→(lngS a0 a1 B n m).getD a 0+1≤(lngS a0 a1 B n m).getD c 0) ∧
  ((lngS a0 a1 B n m).getD c 0=1∨∃ a,prB a0 a1 B a c=true∧(lngS a0 a1 B n m).getD c 0=(lngS a0 a1 B n m).getD a 0+1))
 |0,_,c,h=>absurd h (Nat.not_lt_zero c)
 |m+1,hm,c,h=>by
  have ih:=q76 (n:=n) hB m (by omega);have hl:m<(lngS a0 a1 B n m).length:=by rw[z0p];omega
  have h1:((lngS a0 a1 B n m).set m 1).getD m 0=1:=by rw[q8d hl,if_pos rfl]
  have h2:∀ x,x≠m→((lngS a0 a1 B n m).set m 1).getD x 0=(lngS a0 a1 B n m).getD x 0:=fun x hx=>by rw[q8d hl,if_neg hx]
  obtain⟨i1,i2,i3,i4,i5⟩:=z6k (c:=m) B ((lngS a0 a1 B n m).set m 1) hB (by rw[List.length_set];exact hl) (by omega);have hlt:∀ a c,prB a0 a1 B a c=true→a<c:=fun a c h=>by obtain⟨p,hp,e1,e2⟩:=q55.1 h;have:=hB p hp;omega
  have h3:∀ x,x≠m→(lngS a0 a1 B n (m+1)).getD x 0=(lngS a0 a1 B n m).getD x 0:=fun x hx=>by rw[lngS,i2 x hx,h2 x hx]
  by_cases e:c=m
  ·subst e;rw[h1] at i3 i5;refine⟨i3,fun a ha=>?_,?_⟩
   ·have hac:=hlt a c ha;rw[h3 a (show a≠c by omega),← h2 a (show a≠c by omega)];exact i4 a ha
   ·rcases i5 with k|⟨a,k1,k2⟩
    ·exact .inl k
    ·have hac:=hlt a c k1;exact .inr ⟨a,k1,by rw[h3 a (show a≠c by omega),← h2 a (show a≠c by omega)];exact k2⟩
  ·have hc:c<m:=by omega
   obtain⟨j1,j2,j3⟩:=ih c hc;rw[h3 c e];refine⟨j1,fun a ha=>?_,?_⟩
   ·have hac:=hlt a c ha;rw[h3 a (show a≠m by omega)];exact j2 a ha
   ·rcases j3 with k|⟨a,k1,k2⟩
    ·exact .inl k
    ·have hac:=hlt a c k1;exact .inr ⟨a,k1,by rw[h3 a (show a≠m by omega)];exact k2⟩
def lngS_lng{B:List β}(hB:∀ p∈B,a0 p<a1 p):Lng (prB a0 a1 B) n fun c=>((lngS a0 a1 B n n).getD c 0).toNat:=by
 have h:=q76 (a0:=a0) (a1:=a1) (n:=n) hB n (yym _);refine⟨fun c hc=>?_,fun a c hc hp=>?_,fun c hc=>?_⟩
 ·have:=(h c hc).1;show 1≤Int.toNat _;omega
 ·have:=(h c hc).2.1 a hp;have:=(h c hc).1;show Int.toNat _<Int.toNat _;omega
 ·rcases(h c hc).2.2 with k|⟨a,k1,k2⟩
  ·left;show Int.toNat _=1;omega
  ·right;have hac:a<c:=by obtain⟨p,hp,e1,e2⟩:=q55.1 k1;have:=hB p hp;omega
   have:=(h a (by omega)).1;exact⟨a,k1,by show Int.toNat _=Int.toNat _+1;omega⟩
def mostS(t:List Int):Nat→Int
 |0=>0
 |c+1=>max (mostS t c) (t.getD c 0)
def z57(t:List Int):∀ {n c:Nat},c<n→t.getD c 0≤mostS t n
 |n+1,c,h=>by
  unfold mostS;by_cases e:c=n
  ·subst e;omega
  ·have:=z57 t (n:=n) (c:=c) (by omega);omega
def z58(t:List Int):∀ {n:Nat},(∀ c,c<n→1≤t.getD c 0)→1≤n→∃ c,c<n∧t.getD c 0=mostS t n
 |n+1,h,_=>by
  unfold mostS;have h0:=h n (yy9 n);by_cases e:mostS t n≤t.getD n 0
  ·exact⟨n,yy9 n,by omega⟩
  ·by_cases hn:n=0
   ·subst hn;exact absurd (show mostS t 0≤t.getD 0 0 from by show(0:Int)≤_;omega) e
   ·obtain⟨c,h1,h2⟩:=z58 t (n:=n) (fun c hc=>h c (by omega)) (by omega);exact⟨c,by omega,by omega⟩
def bitsQ(q:List Nat):Nat:=q.foldl (fun x c=>x ||| 2 ^ c) 0
def q2l(q:List Nat)(c:Nat):bitsQ (q++[c])=bitsQ q ||| 2 ^ c:=by simp[bitsQ]
def z28:∀ (q:List Nat) (x a:Nat),(q.foldl (fun x c=>x ||| 2 ^ c) x).testBit a=(x.testBit a||decide (a∈q))
 |[],x,a=>by simp
 |c::q,x,a=>by
  rw[List.foldl_cons,z28 q,Nat.testBit_or,Nat.testBit_two_pow,Bool.or_assoc];congr 1;by_cases h:c=a
  ·subst h;simp
  ·by_cases h2:a∈q
   ·simp[h2]
   ·simp[h,h2,show ¬ a=c from fun e=>h e.symm]
def q08(q:List Nat)(a:Nat):(bitsQ q).testBit a=decide (a∈q):=by unfold bitsQ;rw[z28];simp
def q7k(h:∀ c∈q,c<n):bitsQ q<2 ^ n:=by refine Nat.lt_pow_two_of_testBit _ fun i hi=>?_;rw[q08];refine decide_eq_false fun hm=>?_;have:=h i hm;omega
def j2u(h:q.Perm (List.range n)):bitsQ q=2 ^ n-1:=Nat.eq_of_testBit_eq fun i=>by rw[q08,Nat.testBit_two_pow_sub_one];rw[decide_eq_decide,h.mem_iff,yyr]
def okx(P:Nat→Nat→Bool)(n x c:Nat):Bool:=!(x.testBit c)&&(List.range n).all fun a=>!(P a c)||x.testBit a
def z51(q:List Nat)(c:Nat):okx P n (bitsQ q) c=okc P n q c:=by
 unfold okx okc;simp only[q08];have h:∀ a,decide (a∈q)=q.contains a:=fun a=>by rw[yyz,yys,List.contains_iff_mem]
 simp only[h]
variable{x:Nat}
def j0a(hb:∀ c a,c<n→(bf c).testBit a=P a c)(hp:∀ a c,P a c=true→a<n)(hc:c<n):okx P n x c=(!(x.testBit c)&&(bf c ^^^ (bf c &&& x)==0)):=by
 unfold okx;congr 1;rw[yyz,z5n,yy1];constructor
 ·intro h a ha;rw[hb c a hc] at ha;have:=h a (yyr.2 (hp a c ha));rw[ha] at this;simpa using this
 ·intro h a _;cases hpa:P a c
  ·rfl
  ·simpa using h a (by rw[hb c a hc];exact hpa)
def kb(P:Nat→Nat→Bool)(n:Nat):Nat→List Nat
 |0=>[0]
 |m+1=>(kb P n m).flatMap fun x=>((List.range n).filter (okx P n x)).map fun c=>x ||| 2 ^ c
def z2h:∀ m,kb P n m=(lvl P n m).map bitsQ
 |0=>rfl
 |m+1=>by rw[kb,lvl,z2h m,List.flatMap_map,List.map_flatMap];congr 1;funext q;rw[List.map_map];have:okx P n (bitsQ q)=okc P n q:=funext fun c=>z51 q c;rw[this];refine List.map_congr_left fun c _=>?_;exact(q2l q c).symm
def kb_all:(kb P n n).count (2 ^ n-1)=(lvl P n n).length:=by
 rw[z2h];have:(lvl P n n).map bitsQ=List.replicate (lvl P n n).length (2 ^ n-1):=by rw[List.eq_replicate_iff];refine⟨by simp,fun x hx=>?_⟩;obtain⟨q,hq,rfl⟩:=yy0.1 hx;exact j2u (q0v hq)
 rw[this,List.count_replicate_self]
def z4s(h:x∈kb P n m):x<2 ^ n∧∃ q∈lvl P n m,x=bitsQ q:=by rw[z2h] at h;obtain⟨q,hq,rfl⟩:=yy0.1 h;exact⟨q7k (m9 hq).2.2,q,hq,rfl⟩
def kb_level(h1:x∈kb P n m)(h2:x∈kb P n k):m=k:=by
 obtain⟨-,q,hq,e1⟩:=z4s h1;obtain⟨-,r,hr,e2⟩:=z4s h2;obtain⟨a1,a2,a3⟩:=m9 hq;obtain⟨b1,b2,b3⟩:=m9 hr;have hm:∀ c,c∈q↔c∈r:=fun c=>by
  have:(bitsQ q).testBit c=(bitsQ r).testBit c:=by rw[← e1,e2]
  rw[q08,q08,decide_eq_decide] at this;exact this
 have l1:=q7a a2 fun x hx=>(hm x).1 hx;have l2:=q7a b2 fun x hx=>(hm x).2 hx;omega
def q75:∀ m,(lvl P n m).length≤n ^ m
 |0=>by simp[lvl]
 |m+1=>by
  rw[lvl,Nat.pow_succ];have:∀ L:List (List Nat),(L.flatMap fun q=>((List.range n).filter (okc P n q)).map fun c=>q++[c]).length≤L.length*n:=fun L=>by
   induction L with
   |nil=>simp
   |cons q L ih=>rw[List.flatMap_cons,yy7,yxd,List.length_cons,Nat.succ_mul];have:=yx1 (okc P n q) (List.range n);rw[List.length_range] at this;omega
  exact Nat.le_trans (this _) (yy8 n (q75 m))
def posP(P:Nat→Nat→Bool)(o:List Nat)(i k:Nat):Bool:=decide (i<k)&&crsP P (o.getD i 0) (o.getD k 0)
def pos_rel(hp:∀ a c,P a c=true→a<n)(hi:∀ a,P a a=false)(h:o∈lvl P n n)(h1:i<n)(h2:k<n):posP P o i k=P (o.getD i 0) (o.getD k 0):=by
 have hl:=(q57 hp h).2;have hlen:=(m9 h).1;have e1:o.getD i 0=o[i]'(by omega):=by simp[List.getD,hlen,h1]
 have e2:o.getD k 0=o[k]'(by omega):=by simp[List.getD,hlen,h2]
 unfold posP crsP;rw[e1,e2];rcases Nat.lt_trichotomy i k with hlt|he|hgt
 ·rw[ywa.1 hl i k (by omega) (by omega) hlt];simp[hlt]
 ·subst he;simp[hi]
 ·rw[ywa.1 hl k i (by omega) (by omega) hgt];simp;omega
def pos_len(hp:∀ a c,P a c=true→a<n)(hi:∀ a,P a a=false)(h:o∈lvl P n n)(m:Nat):(lvl (posP P o) n m).length=(lvl P n m).length:=by
 have hlen:=(m9 h).1;have e:(List.range n).map (fun i=>o.getD i 0)=o:=by refine List.ext_getElem (by simp[hlen]) fun i k1 k2=>?_;simp[List.getD,k2]
 exact j0x (f:=fun i=>o.getD i 0) (by rw[e];exact q0v h) (fun i k h1 h2=>pos_rel hp hi h h1 h2) m
end Ox.Gl
namespace Ox.Gl
open Ox.St
variable {P:Nat→Nat→Bool}{n:Nat}
def z2r{q:List Nat}(h:q∈lvl P n n)(m:Nat):greT P n m q=[]:=by
 cases m with
 |zero=>rfl
 |succ m=>
  have:(List.range n).find? (okc P n q)=none:=by rw[List.find?_eq_none];intro c hc ho;exact(f9.1 ho).1 ((q0v h).mem_iff.2 hc)
  rw[greT,this]
def z2s:∀ (m:Nat) {k:Nat} {q:List Nat},q∈lvl P n k→k≤n→n≤k+m→greT P n m q=greT P n (n-k) q
 |0,k,q,h,h1,h2=>by rw[show n-k=0 by omega]
 |m+1,k,q,h,h1,h2=>by
  by_cases e:k=n
  ·subst e;rw[z2r h,z2r h]
  ·obtain⟨d,hd⟩:∃ d,n-k=d+1:=⟨n-k-1,by omega⟩;rw[hd,greT,greT];cases hf:(List.range n).find? (okc P n q) with
   |none=>rfl
   |some c=>have h3:=List.find?_some hf;have h4:=yyr.1 (List.mem_of_find?_eq_some hf);have:=z2s m (q7c h h4 h3) (by omega) (by omega);rw[show n-(k+1)=d by omega] at this;simp only[this]
def fstO(P:Nat→Nat→Bool)(n:Nat):List Nat:=greT P n n []
def z0w(hN:NB P n):fstO P n∈lvl P n n:=by have:=z0v hN n (k:=0) (q:=[]) (by simp[lvl]) (by omega);simpa[fstO] using this
def form_fst(hp:∀ a c,P a c=true→a<n)(hi:∀ a,P a a=false)(hn:n≤8)(h:o∈lvl P n n)(hm:n≤m) :
  formR (crsP P) m (layL (X:=crsP P) (fun _=>[]) (o.map stk))=(fstO P n).map stk:=by
 rw[(z1e (q0v h) (q57 hp h).2).form hi hn m];rw[z2s m (k:=0) (q:=[]) (by simp[lvl]) (by omega) (by omega)];rfl
def z33{most:Nat}(hi:∀ a,P a a=false)(hn:n≤8)(hN:NB P n)(hp:∀ a c,P a c=true→a<n)(hg:Lng P n g)(h1:∀ c,c<n→g c≤most)(h2:∃ c,c<n∧g c=most)
  {o:List Nat} (h:o∈lvl P n n) {m:Nat} (hm:most≤m):(roundsR (crsP P) m (layL (X:=crsP P) (fun _=>[]) (o.map stk))).length=most:=by
 have:=q9f hi hn hN hp hg h1 h2 m 0 (z1e (q0v h) (q57 hp h).2) (fun c hc=>by
  have:=hg.one c hc;constructor
  ·intro h;cases h
  ·omega) (yyu _) (by omega)
 simpa using this
def pick(u:List Int)(m:Nat)(cs:List Nat):Nat:=cs.getD (if 0<u.length then(u.getD (m % u.length) 0).toNat % cs.length else 0) 0
def ordE(P:Nat→Nat→Bool)(n:Nat)(u:List Int):Nat→List Nat
 |0=>[]
 |m+1=>ordE P n u m++[pick u m ((List.range n).filter (okc P n (ordE P n u m)))]
def pick_mem(u:List Int)(m:Nat){cs:List Nat}(h:cs≠[]):pick u m cs∈cs:=by
 have hl:=List.length_pos_iff.2 h;unfold pick;have:(if 0<u.length then(u.getD (m % u.length) 0).toNat % cs.length else 0)<cs.length:=by
  split
  ·exact Nat.mod_lt _ hl
  ·exact hl
 have e:∀ i (hi:i<cs.length),cs.getD i 0∈cs:=fun i hi=>by rw[show cs.getD i 0=cs[i] by simp[List.getD,hi]];exact yyy hi
 exact e _ this
def z50(hN:NB P n)(u:List Int):∀ {m:Nat},m≤n→ordE P n u m∈lvl P n m
 |0,_=>by simp[ordE,lvl]
 |m+1,h=>by have ih:=z50 hN u (m:=m) (by omega);have:=pick_mem u m (z4i hN ih (by omega));rw[yy5,yyr] at this;exact q7c ih this.1 this.2
end Ox.Gl
namespace Ox.Gl
def nodup_sub{α:Type}[DecidableEq α]:∀ {z a:List α},z.Nodup→(∀ x∈z,x∈a)→z.length≤a.length
 |[],_,_,_=>yyu _
 |x::z,a,hz,hs=>by obtain⟨h1,h2⟩:=yx7.1 hz;have hx:=hs x yyj;have:=nodup_sub (z:=z) (a:=a.erase x) h2 fun y hy=>(List.mem_erase_of_ne (fun e:y=x=>h1 (by rw[← e];exact hy))).2 (hs y (yyi _ hy));rw[List.length_erase_of_mem hx] at this;have:=List.length_pos_of_mem hx;simp only[List.length_cons];omega
def allPr:List (List Int):=(List.range 8).flatMap fun k=>(List.range k).map fun i:Nat=>[(i:Int),(k:Int)]
def j25:allPr.length=28:=by decide +kernel
def z0g{ps:List (List Int)}(hn:ps.Nodup)(h:∀ p∈ps,∃ i k:Nat,i<k∧k<8∧p=[(i:Int),(k:Int)]):ps.length≤28:=by rw[← j25];refine nodup_sub hn fun p hp=>?_;obtain⟨i,k,h1,h2,rfl⟩:=h p hp;exact List.mem_flatMap.2 ⟨k,yyr.2 h2,yy0.2 ⟨i,yyr.2 h1,rfl⟩⟩
def addPr(ps:List (List Int))(p:List Int):List (List Int):=if p.getD 0 0=p.getD 1 0∨p∈ps then ps else ps++[p]
def z45{ps:List (List Int)}(h:ps.Nodup)(p:List Int):(addPr ps p).Nodup:=by
 unfold addPr;split
 ·exact h
 ·rename_i k;rw[List.nodup_append];exact⟨h,by simp,fun a ha b hb e=>k (.inr (by simp at hb;subst hb;subst e;exact ha))⟩
def j29{Q:List Int→Prop}{ps:List (List Int)}(h:∀ p∈ps,Q p){p:List Int}(hp:p.getD 0 0≠p.getD 1 0→Q p):∀ q∈addPr ps p,Q q:=by
 unfold addPr;split
 ·exact h
 ·rename_i k;intro q hq;rcases yy4.1 hq with j|j
  ·exact h q j
  ·rw[yyw.1 j];exact hp fun e=>k (.inl e)
variable (P:Nat→Nat→Bool)(n:Nat)
variable {P n}
abbrev RgD:=Int×Int×Unit
def loR(R:List RgD)(i:Nat):Int:=(R.getD i (0,0,())).1
def hiR(R:List RgD)(i:Nat):Int:=(R.getD i (0,0,())).2.1
def loS(R:List RgD)(c:Nat)(v:Int):List RgD:=R.set c (v,hiR R c,())
def hiS(R:List RgD)(c:Nat)(v:Int):List RgD:=R.set c (loR R c,v,())
def pairR(c:Nat)(R:List RgD)(a:Nat):List RgD:=
 let Q:=loS R c (max (loR R c) (loR R a+1))
 hiS Q a (min (hiR Q a) (hiR Q c-1))
def tenB(b:Nat):List Nat:=(List.range 10).filter fun i=>b.testBit i
def lowB(b:Nat):Nat:=(tenB b).headD 0
def ten_all:((List.range 1024).all fun b=>b==0||(tenB b==lowB b::tenB (b &&& (b-1))&&decide (lowB b<10)&&decide (b &&& (b-1)<b)&&decide (b &&& (b-1)<1024)))=true:=by decide +kernel
def z5l(h0:b≠0)(h:b<1024):tenB b=lowB b::tenB (b &&& (b-1))∧lowB b<10∧b &&& (b-1)<b∧b &&& (b-1)<1024:=by
 have:=yy1.1 ten_all b (yyr.2 h);simp only[yy3,yyd,beq_iff_eq,yys] at this;rcases this with k|⟨⟨⟨k1,k2⟩,k3⟩,k4⟩
 ·exact absurd k h0
 ·exact⟨k1,k2,k3,k4⟩
def z8x:i∈tenB b↔i<10∧b.testBit i=true:=by unfold tenB;rw[yy5,yyr]
def roundB(bf:Nat→Nat)(R:List RgD):List RgD:=(List.range 10).foldl (fun R c=>(tenB (bf c)).foldl (pairR c) R) R
def bndF(bf:Nat→Nat):Nat→List RgD→List RgD
 |0,R=>R
 |k+1,R=>if roundB bf R=R then roundB bf R else bndF bf k (roundB bf R)
variable{R:List RgD}
def q3l{c x:Nat}{v:RgD}(hc:c<R.length):(R.set c v).getD x (0,0,())=if x=c then v else R.getD x (0,0,()):=by
 simp only[yyg,List.getElem?_set];by_cases h:c=x
 ·subst h;simp[hc]
 ·rw[if_neg h,if_neg fun e=>h e.symm]
def z17(c:Nat)(R:List RgD)(a:Nat):(pairR c R a).length=R.length:=by simp[pairR,loS,hiS]
variable {P:Nat→Nat→Bool}{n:Nat}
variable{p:Nat→Int}
def z7y(h:Sch P n p)(hn:n≤R.length)(hb:Bnd n p (loR R) (hiR R))(ha:a<n)(hc:c<n)(hp:P a c=true):Bnd n p (loR (pairR c R a)) (hiR (pairR c R a)):=by
 have hac:=h.lt a c ha hc hp;have hne:a≠c:=fun e=>by subst e;omega
 have e:=hb.step h ha hc hp;have h1:c<R.length:=by omega
 have h2:a<(loS R c (max (loR R c) (loR R a+1))).length:=by unfold loS;rw[List.length_set];omega
 have g1:∀ y,loR (loS R c (max (loR R c) (loR R a+1))) y=if y=c then max (loR R c) (loR R a+1) else loR R y:=fun y=>by generalize max (loR R c) (loR R a+1)=v;unfold loS loR;rw[q3l h1];split<;>rfl
 have g2:∀ y,hiR (loS R c (max (loR R c) (loR R a+1))) y=hiR R y:=fun y=>by
  generalize max (loR R c) (loR R a+1)=v;unfold loS;show hiR (R.set c (v,hiR R c,())) y=hiR R y;generalize hw:hiR R c=w;unfold hiR;rw[q3l h1];split
  ·rename_i e1;subst e1;exact hw.symm
  ·rfl
 unfold pairR;generalize loS R c (max (loR R c) (loR R a+1))=Q at g1 g2 h2;have g3:∀ v y,loR (hiS Q a v) y=loR Q y:=fun v y=>by
  unfold hiS;generalize hw:loR Q a=w;unfold loR;rw[q3l h2];split
  ·rename_i e1;subst e1;exact hw.symm
  ·rfl
 have g4:∀ v y,hiR (hiS Q a v) y=if y=a then v else hiR Q y:=fun v y=>by unfold hiS;generalize loR Q a=w;unfold hiR;rw[q3l h2];split<;>rfl
 intro x hx;have k:=e x hx;show loR (hiS Q a _) x≤p x∧p x≤hiR (hiS Q a _) x;rw[g3,g1,g4,g2,g2,g2];exact k
def z35(h:Sch P n p)(hn:n≤10)(hb:∀ c a,(bf c).testBit a=true→c<n∧a<n∧P a c=true)(hl:R.length=10)(hk:Bnd n p (loR R) (hiR R)) :
  (roundB bf R).length=10∧Bnd n p (loR (roundB bf R)) (hiR (roundB bf R)):=by
 have inner:∀ (c:Nat) (az:List Nat),(∀ a∈az,(bf c).testBit a=true)→∀ R:List RgD,R.length=10→Bnd n p (loR R) (hiR R)→(az.foldl (pairR c) R).length=10∧Bnd n p (loR (az.foldl (pairR c) R)) (hiR (az.foldl (pairR c) R)):=by
  intro c az;induction az with
  |nil=>intro _ R h1 h2;exact⟨h1,h2⟩
  |cons a az ih=>intro ha R h1 h2;obtain⟨k1,k2,k3⟩:=hb c a (ha a yyj);exact ih (fun b hb'=>ha b (yyi _ hb')) _ (by rw[z17,h1]) (z7y h (by omega) h2 k2 k1 k3)
 have outer:∀ (cs:List Nat) (R:List RgD),R.length=10→Bnd n p (loR R) (hiR R)→(cs.foldl (fun R c=>(tenB (bf c)).foldl (pairR c) R) R).length=10 ∧
   Bnd n p (loR (cs.foldl (fun R c=>(tenB (bf c)).foldl (pairR c) R) R)) (hiR (cs.foldl (fun R c=>(tenB (bf c)).foldl (pairR c) R) R)):=by
  intro cs;induction cs with
  |nil=>intro R h1 h2;exact⟨h1,h2⟩
  |cons c cs ih=>intro R h1 h2;obtain⟨k1,k2⟩:=inner c (tenB (bf c)) (fun a ha=>(z8x.1 ha).2) R h1 h2;exact ih _ k1 k2
 exact outer _ R hl hk
def z26{p:Nat→Int}(h:Sch P n p)(hn:n≤10){bf:Nat→Nat}(hb:∀ c a,(bf c).testBit a=true→c<n∧a<n∧P a c=true):∀ (k:Nat) {R:List RgD},R.length=10→Bnd n p (loR R) (hiR R) →
  (bndF bf k R).length=10∧Bnd n p (loR (bndF bf k R)) (hiR (bndF bf k R))
 |0,R,h1,h2=>⟨h1,h2⟩
 |k+1,R,h1,h2=>by
  obtain⟨k1,k2⟩:=z35 h hn hb h1 h2;unfold bndF;split
  ·exact⟨k1,k2⟩
  ·exact z26 h hn hb k k1 k2
abbrev CoD:=RgD×Int×Int×Unit
def sLo(c:CoD):Int:=c.1.1
def sHi(c:CoD):Int:=c.1.2.1
def cLs(c:CoD):Int:=c.2.1
def cMs(c:CoD):Int:=c.2.2.1
def z0(p:List Int):Int:=p.getD 0 0
def z1(p:List Int):Int:=p.getD 1 0
def q0(p:List Int):Nat:=(z0 p).toNat
def q1(p:List Int):Nat:=(z1 p).toNat
def coZ:CoD:=((0,0,()),0,0,())
def pG(ps:List (List Int)):Nat→Nat→Bool:=prB q0 q1 ps
def okCo(c:CoD):Prop:=(0≤sLo c∧sLo c≤sHi c∧sHi c≤1000)∧0≤cLs c∧cLs c≤cMs c∧cMs c≤1000
def okPr(n:Nat)(p:List Int):Prop:=(0≤z0 p∧z0 p<n)∧(0≤z1 p∧z1 p<n)∧z0 p≠z1 p
structure VG(d:Int)(cs:List CoD)(ps:List (List Int)):Prop where
 n1:1≤cs.length
 n10:cs.length≤10
 p40:ps.length≤40
 d1:1≤d
 d100:d≤100
 co:∀ c∈cs,okCo c
 pr:∀ p∈ps,okPr cs.length p
 nd:ps.Nodup
 nb:NB (pG ps) cs.length
variable {d:Int}{cs:List CoD}{ps:List (List Int)}
def q6v:pG ps a c=true↔∃ p∈ps,q0 p=a∧q1 p=c:=q55
def VG.lt(h:VG d cs ps)(hp:pG ps a c=true):a<cs.length∧c<cs.length∧a≠c:=by obtain⟨p,h1,h2,h3⟩:=q6v.1 hp;obtain⟨⟨k1,k2⟩,⟨k3,k4⟩,k5⟩:=h.pr p h1;unfold q0 at h2;unfold q1 at h3;omega
def VG.irr(h:VG d cs ps)(a:Nat):pG ps a a=false:=by
 cases hp:pG ps a a
 ·rfl
 ·exact absurd rfl (h.lt hp).2.2
def befS(L:List Int)(p:List Int):List Int:=L.set (q1 p) (((L.getD (q1 p) 0).toNat ||| (1*2 ^ (z0 p).toNat:Int).toNat:Nat):Int)
def befL(ps:List (List Int)):List Int:=ps.foldl befS (List.replicate 10 0)
def bfN(ps:List (List Int))(c:Nat):Nat:=ps.foldl (fun x p=>if q1 p=c then x ||| 2 ^ q0 p else x) 0
def q3q(m:Nat):(1*2 ^ m:Int).toNat=2 ^ m:=by
 rw[Int.one_mul];have:((2:Int) ^ m)=((2 ^ m:Nat):Int):=by rw[Int.natCast_pow];rfl
 rw[this,Int.toNat_natCast]
def z68(L:List Int)(p:List Int):(befS L p).length=L.length:=by simp[befS]
def q5l(c:Nat):∀ (ps:List (List Int)) (L:List Int) (x:Nat),(∀ p∈ps,q1 p<L.length)→L.getD c 0=(x:Int)→(ps.foldl befS L).length=L.length ∧
  (ps.foldl befS L).getD c 0=((ps.foldl (fun x p=>if q1 p=c then x ||| 2 ^ q0 p else x) x:Nat):Int)
 |[],L,x,_,h=>⟨rfl,h⟩
 |p::ps,L,x,hp,h=>by
  have h1:=hp p yyj;have hv:(befS L p).getD c 0=((if q1 p=c then x ||| 2 ^ q0 p else x:Nat):Int):=by
   unfold befS;rw[q8d h1];by_cases e:q1 p=c
   ·subst e;rw[if_pos rfl,if_pos rfl,q3q,h,Int.toNat_natCast];rfl
   ·rw[if_neg fun k=>e k.symm,if_neg e,h]
  obtain⟨k1,k2⟩:=q5l c ps (befS L p) _ (fun q hq=>by rw[z68];exact hp q (yyi _ hq)) hv;exact⟨by rw[List.foldl_cons,k1,z68],by rw[List.foldl_cons,List.foldl_cons,k2]⟩
def bf_bit(c a:Nat):∀ (ps:List (List Int)) (x:Nat),(ps.foldl (fun x p=>if q1 p=c then x ||| 2 ^ q0 p else x) x).testBit a=(x.testBit a||pG ps a c)
 |[],x=>by simp[pG,prB]
 |p::ps,x=>by
  rw[List.foldl_cons,bf_bit c a ps];have e:pG (p::ps) a c=(decide (q0 p=a∧q1 p=c)||pG ps a c):=rfl;rw[e];by_cases h:q1 p=c
  ·rw[if_pos h,Nat.testBit_or,Nat.testBit_two_pow,Bool.or_assoc];simp[h]
  ·rw[if_neg h];simp[h]
def q4u(ps:List (List Int))(c a:Nat):(bfN ps c).testBit a=pG ps a c:=by unfold bfN;rw[bf_bit];simp
def z4a(h:n≤10):2 ^ n≤1024:=yxy (by decide) h
def z9l(n c:Nat):(List.replicate n (0:Int)).getD c 0=((0:Nat):Int):=by rw[yyg,List.getElem?_replicate];split<;>rfl
def VG.bef_len(h:VG d cs ps):(befL ps).length=10:=(q5l 0 ps (List.replicate 10 0) 0 (fun p hp=>by have:=(h.pr p hp).2.1;have:=h.n10;unfold q1;simp;omega) (by simp)).1
def VG.bef(h:VG d cs ps)(c:Nat):(befL ps).getD c 0=(bfN ps c:Int):=(q5l c ps (List.replicate 10 0) 0 (fun p hp=>by have:=(h.pr p hp).2.1;have:=h.n10;unfold q1;simp;omega) (z9l 10 c)).2
def VG.bf_lt(h:VG d cs ps)(c:Nat):bfN ps c<2 ^ cs.length:=Nat.lt_pow_two_of_testBit _ fun i hi=>by
 rw[q4u];cases hp:pG ps i c
 ·rfl
 ·have:=(h.lt hp).1;omega
def VG.bf_1024(h:VG d cs ps)(c:Nat):bfN ps c<1024:=yxa (h.bf_lt c) (z4a h.n10)
def bef_snoc(ps:List (List Int))(h:i<ps.length){z:List Int}(hz:ps.getD i z=ps[i]):befL (ps.take (i+1))=befS (befL (ps.take i)) (ps.getD i z):=by unfold befL;rw[yy2 h,List.foldl_append,hz];rfl
def z29(h:VG d cs ps)(i:Nat):(befL (ps.take i)).length=10:=(q5l 0 (ps.take i) (List.replicate 10 0) 0 (fun p hp=>by have:=(h.pr p (List.mem_of_mem_take hp)).2.1;have:=h.n10;unfold q1;simp;omega) (by simp)).1
def z44(h:VG d cs ps)(i c:Nat):0≤(befL (ps.take i)).getD c 0∧(befL (ps.take i)).getD c 0<1024:=by
 have e:=(q5l c (ps.take i) (List.replicate 10 0) 0 (fun p hp=>by have:=(h.pr p (List.mem_of_mem_take hp)).2.1;have:=h.n10;unfold q1;simp;omega) (z9l 10 c)).2
 have e2:(befL (ps.take i)).getD c 0=(bfN (ps.take i) c:Int):=e;have h3:bfN (ps.take i) c<1024:=yxa (Nat.lt_pow_two_of_testBit (n:=cs.length) _ fun j hj=>by
  rw[q4u];cases hp:pG (ps.take i) j c
  ·rfl
  ·obtain⟨p,k1,k2,_⟩:=q6v.1 hp;have:=(h.lt (q6v.2 ⟨p,List.mem_of_mem_take k1,k2,rfl⟩)).1;omega) (z4a h.n10)
 omega
def winD(d:Int)(n:Nat)(c:CoD):RgD:=(max 0 (-((cMs c-sHi c) / d)),min ((n:Int)-1) ((sLo c-cLs c) / d),())
def winS(d:Int)(n:Nat)(cs:List CoD):Nat→List RgD
 |0=>List.replicate 10 (0,0,())
 |i+1=>(winS d n cs i).set i (winD d n (cs.getD i coZ))
def winL(d:Int)(cs:List CoD):List RgD:=winS d cs.length cs cs.length
def q2s(n:Nat):∀ i,(winS d n cs i).length=10
 |0=>rfl
 |i+1=>by rw[winS,List.length_set,q2s n i]
def q93(n:Nat):∀ {i c:Nat},c<i→i≤10→(winS d n cs i).getD c (0,0,())=winD d n (cs.getD c coZ)
 |i+1,c,h1,h2=>by
  rw[winS,q3l (by rw[q2s];omega)];by_cases e:c=i
  ·subst e;rw[if_pos rfl]
  ·rw[if_neg e,q93 n (by omega) (by omega)]
def VG.win(h:VG d cs ps)(hc:c<cs.length):(winL d cs).getD c (0,0,())=winD d cs.length (cs.getD c coZ):=q93 _ hc h.n10
def suB(d:Int)(c:CoD)(k:Int):Bool:=decide (cLs c≤sLo c-k*d∧sHi c-k*d≤cMs c)
def VG.suit(h:VG d cs ps)(hc:c<cs.length){k:Int}(h0:0≤k)(hk:k<cs.length) :
  (loR (winL d cs) c≤k∧k≤hiR (winL d cs) c)↔suB d (cs.getD c coZ) k=true:=by
 unfold loR hiR suB;rw[h.win hc,yys];have:=h.d1;exact z81 (lo:=sLo (cs.getD c coZ)) (hi:=sHi (cs.getD c coZ)) (by omega) h0 hk
def z56(h:VG d cs ps)(hi:i<cs.length):okCo (cs.getD i coZ):=by rw[yyg,yyl hi,Option.getD_some];exact h.co _ (yyy hi)
end Ox.Gl
namespace Go.Proofs.YtjjkdjbbkagclaaGreatDoor
open Go Go.RowKit Ox
attribute [local irreducible] JC JL JK JW
abbrev vI(n:Int):AV:=.val (.int .i64) n
abbrev vB(b:Bool):AV:=.val .bool b
abbrev vL(xs:List Int):AV:=.val (.slice (.int .i64)) xs
abbrev vLL(xs:List (List Int)):AV:=.val (.slice (.slice (.int .i64))) xs
abbrev pI(n:Int):AV:=.val (.ptr (.int .i64)) (some n)
abbrev vU(xs:List Int):AV:=.val (.slice (.int .u8)) xs
def k8(xs:List α)(h:i<xs.length)(d:α):xs.getD i d=xs[i]:=by simp[yyg,yyl h]
variable{X:Ctx}{c:Code}{Q:Exit→S→Prop}
def cdf{s:S}(hb:fn.body=some c)(k:JK X [.code c] Q s):JK X [.code (fn.body.getD .skip)] Q s:=by rw[hb];exact k
def cdt{s:S}(hb:fn.body=some c)(k:JK X [.code (fn.body.getD .skip)] Q s):JK X [.code c] Q s:=by rw[hb] at k;exact k
def idxB{α:Type}(p:α→Bool):List α→Nat→Int
 |[],_=>-1
 |x::r,i=>if p x then(i:Int) else idxB p r (i+1)
def s5{α:Type}{p:α→Bool}:∀ {xs:List α} {i:Nat},(0≤idxB p xs i)↔xs.any p=true
 |[],i=>by simp[idxB]
 |x::r,i=>by
  simp only[idxB,List.any_cons,yy3];by_cases h:p x=true
  ·simp[h]
  ·rw[if_neg h,s5];simp[h]
def fn197(xs:List Int)(b:Int):Ox.Fn Tryz.prog 197 (.acons (vL xs) (.acons (vI b) .anil)) (·=vI (idxB (fun x=>decide (b=x)) xs 0)):=by
 refine Ox.Fn.intro xok Tryz.func197 rfl Tryz.call197 (yyc rfl) (fun E M0 up=>?_);refine z9 ?_;refine JK.lenOf 0 rfl fun hlen=>?_;replace hlen:xs.length≤9223372036854775807:=hlen.1;refine zK0 ?_;refine JK.loop (fun i:Nat=>⟨[(0,vL xs),(1,vI b),(7,vI xs.length),(8,vI (i:Int))],[],0⟩) (fun i=>i≤xs.length∧idxB (fun x=>decide (b=x)) xs 0=idxB (fun x=>decide (b=x)) (xs.drop i) i) (fun i=>xs.length-i) 0 (by simp) (by exact zJ) fun i ⟨hi,hn⟩=>?_;refine zK0 ?_;refine z5 rfl (fun hc=>?_) (fun hc=>?_)
 ·replace hc:=zC hc;have hi':i<xs.length:=by omega
  refine zK0 ?_;refine z5 rfl (fun hd=>?_) (fun hd=>?_)
  ·replace hd:=zC hd;refine zK0 ?_;refine⟨.inl rfl,_,_,rfl,trivial,?_⟩;rw[k8 xs hi'] at hd;rw[hn,yxh hi',idxB,if_pos (by simpa using hd)]
  ·replace hd:=zC hd;refine zK0 ?_;rw[k8 xs hi'] at hd;refine⟨i+1,by exact zJ,⟨by omega,?_⟩,by omega⟩;rw[hn,yxh hi',idxB,if_neg (by simpa using hd)]
 ·replace hc:=zC hc;refine zK0 ?_;refine⟨.inl rfl,_,_,rfl,trivial,?_⟩;obtain rfl:i=xs.length:=by omega
  rw[hn,List.drop_length];rfl
def fn141(xs:List Int)(b:Int):Ox.Fn Tryz.prog 141 (.acons (vL xs) (.acons (vI b) .anil)) (·=vB (decide (b∈xs))):=by
 refine Ox.Fn.intro xok Tryz.func141 rfl Tryz.call141 (yyc rfl) (fun E M0 up=>?_);refine z9 ?_
 (repeat (first|refine zs rfl ?_|refine zg rfl rfl rfl ?_|refine v6 ?_|refine w8 ?_|refine zc rfl (fn197 xs b) rfl rfl ?_|refine ze rfl (fn197 xs b) rfl ?_|refine zk rfl rfl (fun _=>fn197 xs b) rfl rfl ?_))
 refine⟨.inl rfl,_,_,rfl,trivial,?_⟩;refine congrArg vB ?_;rw[yyz];simp only[yys];refine(s5 (p:=fun x=>decide (b=x)) (i:=0)).trans ?_;simp
variable{t1 t2:Ty}
def fn137{x1:t1.den}{x2:t2.den}(xs:List Int)(p:Int→Bool)(h:∀ x∈xs,Ox.Fn Tryz.prog f (.acons (vI x) (.acons (.val t1 x1) (.acons (.val t2 x2) .anil))) (·=vB (p x))) :
  Ox.Fn Tryz.prog 137 (.acons (vL xs) (.acons (.fn f .anil (.acons (.val t1 x1) (.acons (.val t2 x2) .anil))) .anil)) (·=vI (idxB p xs 0)):=by
 refine Ox.Fn.intro xok Tryz.func137 rfl Tryz.call137 (yyc rfl) (fun E M0 up=>?_);refine z9 ?_;refine JK.lenOf 0 rfl fun hlen=>?_;replace hlen:xs.length≤9223372036854775807:=hlen.1;refine zK0 ?_;refine JK.loop (fun i:Nat=>⟨[(0,vL xs),(1,.fn f .anil (.acons (.val t1 x1) (.acons (.val t2 x2) .anil))),(7,vI xs.length),(8,vI (i:Int))],[],0⟩) (fun i=>i≤xs.length∧idxB p xs 0=idxB p (xs.drop i) i) (fun i=>xs.length-i) 0 (by simp) (by exact zJ) fun i ⟨hi,hn⟩=>?_;refine zK0 ?_;refine z5 rfl (fun hc=>?_) (fun hc=>?_)
 ·replace hc:=zC hc;have hi':i<xs.length:=by omega
  have hx:=h (xs.getD i 0) (by rw[k8 xs hi'];exact yyy hi');refine zK16 ?_;refine z5 rfl (fun hd=>?_) (fun hd=>?_)
  ·refine zK0 ?_;refine⟨.inl rfl,_,_,rfl,trivial,?_⟩;rw[k8 xs hi'] at hd;rw[hn,yxh hi',idxB,if_pos hd]
  ·refine zK0 ?_;rw[k8 xs hi'] at hd;refine⟨i+1,by exact zJ,⟨by omega,?_⟩,by omega⟩;rw[hn,yxh hi',idxB,if_neg (by rw[hd];simp)]
 ·replace hc:=zC hc;refine zK0 ?_;refine⟨.inl rfl,_,_,rfl,trivial,?_⟩;obtain rfl:i=xs.length:=by omega
  rw[hn,List.drop_length];rfl
def fn77{x1:t1.den}{x2:t2.den}(xs:List Int)(p:Int→Bool)(h:∀ x∈xs,Ox.Fn Tryz.prog f (.acons (vI x) (.acons (.val t1 x1) (.acons (.val t2 x2) .anil))) (·=vB (p x))) :
  Ox.Fn Tryz.prog 77 (.acons (vL xs) (.acons (.fn f .anil (.acons (.val t1 x1) (.acons (.val t2 x2) .anil))) .anil)) (·=vB (xs.any p)):=by
 refine Ox.Fn.intro xok Tryz.func77 rfl Tryz.call77 (yyc rfl) (fun E M0 up=>?_);refine z9 ?_
 (repeat (first|refine zs rfl ?_|refine zg rfl rfl rfl ?_|refine v6 ?_|refine w8 ?_|refine zc rfl (fn137 xs p h) rfl rfl ?_|refine ze rfl (fn137 xs p h) rfl ?_|refine zk rfl rfl (fun _=>fn137 xs p h) rfl rfl ?_))
 refine⟨.inl rfl,_,_,rfl,trivial,?_⟩;refine congrArg vB ?_;rw[yyz,← s5 (p:=p) (i:=0)];simp
abbrev prT:Ty:=.arr 2 (.int .i64)
abbrev vPr(p:List Int):AV:=.val prT p
abbrev beT:Ty:=.cons (.int .i64) (.cons (.slice prT) .nil)
abbrev mkB(n:Int)(ps:List (List Int)):beT.den:=(n,ps,())
abbrev vBe(n:Int)(ps:List (List Int)):AV:=.val beT (mkB n ps)
def eqPr:EqT Tryz.prog prT 60:=.of (by decide +kernel)
def fn223(x lo hi:Int):Ox.Fn Tryz.prog 223 (.acons (vI x) (.acons (pI lo) (.acons (pI hi) .anil))) (·=vB (decide (x<lo∨x>hi))):=by refine Ox.Fn.intro xok Tryz.func223 rfl Tryz.call223 (yyc rfl) (fun E M0 up=>?_);refine z9 ?_;refine zK1 ?_;refine⟨.inl rfl,_,_,rfl,trivial,?_⟩;by_cases h:x<lo<;>simp[h]
def j1w{x1:t1.den}{x2:t2.den}(xs:List Int)(p:Int→Bool)(h:∀ x∈xs,Ox.Fn Tryz.prog f (.acons (vI x) (.acons (.val t1 x1) (.acons (.val t2 x2) .anil))) (·=vB (p x))) :
  Ox.Fn Tryz.prog 124 (.acons (vL xs) (.acons (.fn f .anil (.acons (.val t1 x1) (.acons (.val t2 x2) .anil))) .anil)) (·=vI (idxB p xs 0)):=by
 refine Ox.Fn.intro xok Tryz.func124 rfl Tryz.call124 (yyc rfl) (fun E M0 up=>?_);refine z9 ?_;refine JK.lenOf 0 rfl fun hlen=>?_;replace hlen:xs.length≤9223372036854775807:=hlen.1;refine zK1 ?_;refine JK.loop (fun i:Nat=>⟨[(0,vL xs),(1,.fn f .anil (.acons (.val t1 x1) (.acons (.val t2 x2) .anil))),(7,vI xs.length),(8,vI (i:Int))],[],0⟩) (fun i=>i≤xs.length∧idxB p xs 0=idxB p (xs.drop i) i) (fun i=>xs.length-i) 0 (by simp) (by exact zJ) fun i ⟨hi,hn⟩=>?_;refine zK1 ?_;refine z5 rfl (fun hc=>?_) (fun hc=>?_)
 ·replace hc:=zC hc;have hi':i<xs.length:=by omega
  have hx:=h (xs.getD i 0) (by rw[k8 xs hi'];exact yyy hi')
  (repeat (first|refine zs rfl ?_|refine zg rfl rfl rfl ?_|refine v6 ?_|refine w8 ?_|refine zeq eqPr rfl rfl rfl ?_|refine zc rfl (hx) rfl rfl ?_|refine ze rfl (hx) rfl ?_|refine zk rfl rfl (fun _=>hx) rfl rfl ?_))
  refine z5 rfl (fun hd=>?_) (fun hd=>?_)
  ·refine zK1 ?_;refine⟨.inl rfl,_,_,rfl,trivial,?_⟩;rw[k8 xs hi'] at hd;rw[hn,yxh hi',idxB,if_pos hd]
  ·refine zK1 ?_;rw[k8 xs hi'] at hd;refine⟨i+1,by exact zJ,⟨by omega,?_⟩,by omega⟩;rw[hn,yxh hi',idxB,if_neg (by rw[hd];simp)]
 ·replace hc:=zC hc;refine zK1 ?_;refine⟨.inl rfl,_,_,rfl,trivial,?_⟩;obtain rfl:i=xs.length:=by omega
  rw[hn,List.drop_length];rfl
def fn69b{x1:t1.den}{x2:t2.den}(xs:List Int)(p:Int→Bool)(h:∀ x∈xs,Ox.Fn Tryz.prog f (.acons (vI x) (.acons (.val t1 x1) (.acons (.val t2 x2) .anil))) (·=vB (p x))) :
  Ox.Fn Tryz.prog 69 (.acons (vL xs) (.acons (.fn f .anil (.acons (.val t1 x1) (.acons (.val t2 x2) .anil))) .anil)) (·=vB (xs.any p)):=by
 refine Ox.Fn.intro xok Tryz.func69 rfl Tryz.call69 (yyc rfl) (fun E M0 up=>?_);refine z9 ?_
 (repeat (first|refine zs rfl ?_|refine zg rfl rfl rfl ?_|refine v6 ?_|refine w8 ?_|refine zeq eqPr rfl rfl rfl ?_|refine zc rfl (j1w xs p h) rfl rfl ?_|refine ze rfl (j1w xs p h) rfl ?_|refine zk rfl rfl (fun _=>j1w xs p h) rfl rfl ?_))
 refine⟨.inl rfl,_,_,rfl,trivial,?_⟩;refine congrArg vB ?_;rw[yyz,← s5 (p:=p) (i:=0)];simp
def fn140(lo hi:Int)(xs:List Int):Ox.Fn Tryz.prog 140 (.acons (vI lo) (.acons (vI hi) (.acons (vL xs) .anil))) (·=vB (decide (∀ x∈xs,lo≤x∧x≤hi))):=by
 refine Ox.Fn.intro xok Tryz.func140 rfl Tryz.call140 (yyc rfl) (fun E M0 up=>?_);refine z9 ?_
 (repeat (first|refine zs rfl ?_|refine zg rfl rfl rfl ?_|refine v6 ?_|refine w8 ?_|refine zeq eqPr rfl rfl rfl ?_|refine zc rfl (fn69b xs (fun x=>decide (x<lo∨x>hi)) (fun x _=>fn223 x lo hi)) rfl rfl ?_|refine ze rfl (fn69b xs (fun x=>decide (x<lo∨x>hi)) (fun x _=>fn223 x lo hi)) rfl ?_|refine zk rfl rfl (fun _=>fn69b xs (fun x=>decide (x<lo∨x>hi)) (fun x _=>fn223 x lo hi)) rfl rfl ?_))
 refine⟨.inl rfl,_,_,rfl,trivial,?_⟩;refine congrArg vB ?_;rw[yyz];simp only[yyx,List.any_eq_false,yys];refine⟨fun h x hx=>?_,fun h x hx=>?_⟩
 ·have:=h x hx;omega
 ·have:=h x hx;omega
def fn207(ps:List (List Int))(p:List Int):Ox.Fn Tryz.prog 207 (.acons (.val (.slice prT) ps) (.acons (vPr p) .anil)) (·=vI (idxB (fun q=>prT.eqB p q) ps 0)):=by
 refine Ox.Fn.intro xok Tryz.func207 rfl Tryz.call207 (yyc rfl) (fun E M0 up=>?_);refine z9 ?_;refine JK.lenOf 0 rfl fun hlen=>?_;replace hlen:ps.length≤9223372036854775807:=hlen.1;refine zK1 ?_;refine JK.loop (fun i:Nat=>⟨[(0,.val (.slice prT) ps),(3,.lf (.optr 0 [])),(7,vI ps.length),(8,vI (i:Int))],[(0,.cell prT (vPr p))],1⟩) (fun i=>i≤ps.length∧idxB (fun q=>prT.eqB p q) ps 0=idxB (fun q=>prT.eqB p q) (ps.drop i) i) (fun i=>ps.length-i) 0 (by simp) (by exact zJ) fun i ⟨hi,hn⟩=>?_;refine zK1 ?_;refine z5 rfl (fun hc=>?_) (fun hc=>?_)
 ·replace hc:=zC hc;have hi':i<ps.length:=by omega
  refine zK1 ?_;refine p4 xk (Tryz.f207.body.getD .skip) ⟨[(0,.val (.slice prT) ps),(3,.lf (.optr 0 [])),(5,vI (i:Int)),(7,vI ps.length),(8,vI (i:Int)),(16,vB (prT.eqB p (ps.getD i prT.dflt)))],[(0,.cell prT (vPr p))],1⟩ rfl 6 rfl ?_ ?_
  ·(refine q7 1 xk rfl rfl (q7 2 xk rfl rfl (q7 3 xk rfl rfl (z7 0 xk rfl rfl (z7 4 xk rfl rfl (zU 5 xk rfl rfl ?_)))));(first|refine z1g xk rfl rfl ?_|refine w6 xk rfl rfl rfl ?_|refine q2p xk rfl rfl ?_|refine JL.M0 xk rfl ?_|refine z3m eqPr rfl rfl rfl ?_);refine q8 ?_;refine w7 xk StF.nil ?_;(exact zJ))
  rw[k8 ps hi'];refine zK1 ?_;refine z5 rfl (fun hd=>?_) (fun hd=>?_)
  ·refine zK1 ?_;refine⟨.inl rfl,_,_,rfl,trivial,?_⟩;rw[hn,yxh hi',idxB,if_pos hd]
  ·refine zK1 ?_;refine⟨i+1,by exact zJ,⟨by omega,?_⟩,by omega⟩;rw[hn,yxh hi',idxB,if_neg (by rw[hd];simp)]
 ·replace hc:=zC hc;refine zK1 ?_;refine⟨.inl rfl,_,_,rfl,trivial,?_⟩;obtain rfl:i=ps.length:=by omega
  rw[hn,List.drop_length];rfl
def fn123(ps:List (List Int))(p:List Int):Ox.Fn Tryz.prog 123 (.acons (.val (.slice prT) ps) (.acons (vPr p) .anil)) (·=vB (decide (p∈ps))):=by
 refine Ox.Fn.intro xok Tryz.func123 rfl Tryz.call123 (yyc rfl) (fun E M0 up=>?_);refine z9 ?_
 (repeat (first|refine zs rfl ?_|refine zg rfl rfl rfl ?_|refine v6 ?_|refine w8 ?_|refine zeq eqPr rfl rfl rfl ?_|refine zc rfl (fn207 ps p) rfl rfl ?_|refine ze rfl (fn207 ps p) rfl ?_|refine zk rfl rfl (fun _=>fn207 ps p) rfl rfl ?_))
 refine⟨.inl rfl,_,_,rfl,trivial,?_⟩;refine congrArg vB ?_;rw[yyz];simp only[yys];refine(s5 (p:=fun q=>prT.eqB p q) (i:=0)).trans ?_;rw[List.any_eq_true];refine⟨fun⟨x,h1,h2⟩=>?_,fun h=>⟨p,h,y5.2 rfl⟩⟩;rw[y5.1 h2];exact h1
abbrev p0(p:List Int):Int:=p.getD 0 0
abbrev p1(p:List Int):Int:=p.getD 1 0
def badP(n:Int)(ps:List (List Int))(i:Nat):Bool:=let p:=ps.getD i prT.dflt;decide (p0 p<0∨p1 p ≥ n∨p0 p ≥ p1 p∨p∈ps.take i)
def benE(n:Int)(ps:List (List Int)):Int:=if ¬ (1≤n∧n≤8)∨ps.length>28 then 6 else if (List.range ps.length).any (badP n ps)=true then 2 else 0
def fn139(n:Int)(ps:List (List Int)):Ox.Fn Tryz.prog 139 (.acons (vBe n ps) .anil) (·=vI (benE n ps)):=by
 refine Ox.Fn.intro xok Tryz.func139 rfl Tryz.call139 (yyc rfl) (fun E M0 up=>?_);refine z9 ?_;have h1:=fn140 1 8 (n::List.nil);have e1:(∀ x∈[n],1≤x∧x≤8)↔(1≤n∧n≤8):=by simp
 rw[decide_eq_decide.2 e1] at h1;refine zK20 ?_;refine z5 rfl (fun hc=>?_) (fun hc=>?_)
 ·refine zK1 ?_;refine⟨.inl rfl,_,_,rfl,trivial,?_⟩;refine congrArg vI ?_;unfold benE;rw[if_pos ?_];by_cases c1:1≤n∧n≤8
  ·rw[decide_eq_true c1] at hc;have h2:(28:Int)<ps.length:=by simpa using hc
   right;omega
  ·exact .inl c1
 have hb:(1≤n∧n≤8)∧ps.length≤28:=by
  by_cases c1:1≤n∧n≤8
  ·rw[decide_eq_true c1] at hc;have h2:(ps.length:Int)≤28:=by simpa using hc
   exact⟨c1,by omega⟩
  ·rw[decide_eq_false c1] at hc;simp at hc
 clear hc h1 e1;obtain⟨⟨b1,b2⟩,b3⟩:=hb;have hE:benE n ps=if (List.range ps.length).any (badP n ps)=true then 2 else 0:=by unfold benE;rw[if_neg (by omega)]
 refine zK1 ?_;refine JK.loop (fun i:Nat=>⟨[(1,.lf (.optr 0 [])),(17,.val (.slice prT) ps),(18,vI ps.length),(19,vI (i:Int))],[(0,.cell beT (vBe n ps))],1⟩) (fun i=>i≤ps.length∧∀ j,j<i→badP n ps j=false) (fun i=>ps.length-i) 0 ⟨yyu _,fun j h=>absurd h (Nat.not_lt_zero j)⟩ (by exact zJ) fun i ⟨hi,hn⟩=>?_;refine zK1 ?_;refine z5 rfl (fun hc=>?_) (fun hc=>?_)
 ·replace hc:=zC hc;have hi':i<ps.length:=by omega
  have hz:ps.getD (Int.toNat (i:Int)) prT.dflt=ps.getD i prT.dflt:=rfl;refine zK1 ?_;rw[hz];have hbad:badP n ps i=decide (p0 (ps.getD i prT.dflt)<0∨p1 (ps.getD i prT.dflt) ≥ n∨p0 (ps.getD i prT.dflt) ≥ p1 (ps.getD i prT.dflt)∨ps.getD i prT.dflt∈ps.take i):=rfl;have h1:=fn140 0 (n-1) (p0 (ps.getD i prT.dflt)::p1 (ps.getD i prT.dflt)::List.nil);have h2:=fn123 (ps.take i) (ps.getD i prT.dflt);generalize ps.getD i prT.dflt=p at hbad h1 h2 ⊢;have hil:(0:Int)≤i∧(i:Int)≤ps.length:=by omega
  refine p4 xk (Tryz.f139.body.getD .skip) ⟨[(1,.lf (.optr 0 [])),(17,.val (.slice prT) ps),(18,vI ps.length),(19,vI (i:Int)),(48,vB (bif bif !decide (∀ x∈[p0 p,p1 p],0≤x∧x≤n-1) then true else decide (p1 p≤p0 p) then true else decide (p∈ps.take i)))],[(0,.cell beT (vBe n ps))],1⟩ rfl 25 rfl ?_ ?_
  ·(refine q7 0 xk rfl rfl (q7 3 xk rfl rfl (q7 5 xk rfl rfl (z7 1 xk rfl rfl (z7 2 xk rfl rfl (z7 4 xk rfl rfl (z7 6 xk rfl rfl (zU 7 xk rfl rfl ?_)))))));refine zK5 ?_;refine q8 ?_;refine zU 8 xk rfl rfl ?_;refine zK5 ?_;refine q8 ?_;refine q7 9 xk rfl rfl (q7 10 xk rfl rfl (q9 11 xk rfl rfl rfl (q9 13 xk rfl rfl rfl ?_)));refine j9 12 [14] xk ?_ ?_;exact zS;refine(BrF.one rfl rfl ?_ (BrF.one rfl rfl ?_ BrF.nil));(· refine zK5 ?_;refine q8 ?_;refine zU 14 xk rfl rfl ?_;refine zK5 ?_;refine q8 ?_;refine q9 15 xk rfl rfl rfl (q7 16 xk rfl rfl (q7 17 xk rfl rfl (q9 18 xk rfl rfl rfl (q9 20 xk rfl rfl rfl ?_))));refine j9 19 [22] xk ?_ ?_;exact zS;refine(BrF.one rfl rfl ?_ (BrF.one rfl rfl ?_ BrF.nil));(· refine zK5 ?_;refine q8 ?_;refine q9 21 xk rfl rfl rfl (zU 22 xk rfl rfl ?_);refine zK5 ?_;refine q8 ?_;refine zU 23 xk rfl rfl ?_;exact zB5);(· refine zK5 ?_;refine q8 ?_;refine zU 19 xk rfl rfl ?_;refine zK5 ?_;refine q8 ?_;refine q9 21 xk rfl rfl rfl (zU 23 xk rfl rfl ?_);refine zK5 ?_;refine q8 ?_;refine q7 24 xk rfl rfl ?_;refine w7 xk ?_ ?_;exact zS;(exact zJ)));(· refine zK5 ?_;refine q8 ?_;refine zU 12 xk rfl rfl ?_;refine zK5 ?_;refine q8 ?_;refine q9 15 xk rfl rfl rfl (q7 16 xk rfl rfl (q7 17 xk rfl rfl (q9 18 xk rfl rfl rfl (q9 20 xk rfl rfl rfl ?_))));refine j9 19 [22] xk ?_ ?_;exact zS;refine(BrF.one rfl rfl ?_ (BrF.one rfl rfl ?_ BrF.nil));(· refine zK5 ?_;refine q8 ?_;refine q9 21 xk rfl rfl rfl (zU 22 xk rfl rfl ?_);refine zK5 ?_;refine q8 ?_;refine zU 23 xk rfl rfl ?_;exact zB5);(· refine zK5 ?_;refine q8 ?_;refine zU 19 xk rfl rfl ?_;refine zK5 ?_;refine q8 ?_;refine q9 21 xk rfl rfl rfl (zU 23 xk rfl rfl ?_);exact zB5)))
  have hv:(bif bif !decide (∀ x∈[p0 p,p1 p],0≤x∧x≤n-1) then true else decide (p1 p≤p0 p) then true else decide (p∈ps.take i))=badP n ps i:=by
   rw[hbad,yyz];by_cases hm:p∈ps.take i
   ·simp[hm]
   ·simp only[hm,bif_or,yy3,yyx,yys,decide_eq_false_iff_not,yyo,yxg,or_false,forall_eq_or_imp,forall_eq];omega
  rw[hv];refine z5 rfl (fun hd=>?_) (fun hd=>?_)
  ·refine zK1 ?_;refine⟨.inl rfl,_,_,rfl,trivial,?_⟩;refine congrArg vI ?_;rw[hE,if_pos (List.any_eq_true.2 ⟨i,yyr.2 hi',hd⟩)]
  ·refine zK1 ?_;refine⟨i+1,by exact zJ,⟨by omega,fun j hj=>?_⟩,by omega⟩;rcases Nat.lt_succ_iff_lt_or_eq.1 hj with h|rfl
   ·exact hn j h
   ·exact hd
 ·replace hc:=zC hc;refine zK1 ?_;refine⟨.inl rfl,_,_,rfl,trivial,?_⟩;refine congrArg vI ?_;rw[hE,if_neg];intro h;rw[List.any_eq_true] at h;obtain⟨j,h1,h2⟩:=h;rw[hn j (by have:=yyr.1 h1;omega)] at h2;cases h2
def lstE(n:Int)(ps:List (List Int))(l:List Int):Int:=if benE n ps≠0 then benE n ps else if l.length>60 then 6 else if (∀ x∈l,0-n≤x∧x≤n)∧0∉l then 0 else 3
def fn85(n:Int)(ps:List (List Int))(l:List Int)(hnb:-1000≤n∧n≤1000):Ox.Fn Tryz.prog 85 (.acons (vBe n ps) (.acons (vL l) .anil)) (·=vI (lstE n ps l)):=by
 refine Ox.Fn.intro xok Tryz.func85 rfl Tryz.call85 (yyc rfl) (fun E M0 up=>?_);refine z9 ?_;have hL:lstE n ps l=if benE n ps≠0 then benE n ps else if l.length>60 then 6 else if (∀ x∈l,0-n≤x∧x≤n)∧0∉l then 0 else 3:=rfl;have h1:=fn139 n ps;have h2:=fn140 (0-n) n l;have h3:=fn141 l 0;generalize benE n ps=e at hL h1;refine zK20 ?_;refine z5 rfl (fun hc=>?_) (fun hc=>?_)
 ·replace hc:=zC hc;refine zK1 ?_;refine⟨.inl rfl,_,_,rfl,trivial,?_⟩;rw[hL,if_pos hc]
 ·replace hc:=zC hc;rw[if_neg (by omega)] at hL;refine zK1 ?_;refine z5 rfl (fun hc=>?_) (fun hc=>?_)
  ·replace hc:=zC hc;refine zK1 ?_;refine⟨.inl rfl,_,_,rfl,trivial,?_⟩;rw[hL,if_pos (by omega)]
  ·replace hc:=zC hc;rw[if_neg (by omega)] at hL
   (repeat (first|refine zs rfl ?_|refine zg rfl rfl rfl ?_|refine v6 ?_|refine w8 ?_|refine zeq eqPr rfl rfl rfl ?_|refine zc rfl (h2) rfl rfl ?_|refine ze rfl (h2) rfl ?_|refine zk rfl rfl (fun _=>h2) rfl rfl ?_|refine zc rfl (h3) rfl rfl ?_|refine ze rfl (h3) rfl ?_|refine zk rfl rfl (fun _=>h3) rfl rfl ?_))
   refine z5 rfl (fun hc=>?_) (fun hc=>?_)
   ·refine zK1 ?_;refine⟨.inl rfl,_,_,rfl,trivial,?_⟩;refine congrArg vI ?_;rw[hL,if_neg];intro⟨q1,q2⟩;simp[q1,q2] at hc;exact absurd q1 (by simpa using hc)
   ·refine zK1 ?_;refine⟨.inl rfl,_,_,rfl,trivial,?_⟩;refine congrArg vI ?_;rw[hL,if_pos];simpa using hc
end Go.Proofs.YtjjkdjbbkagclaaGreatDoor
namespace Ox
open Go Go.RowKit Go.ChangeShapes Go.WideShapes Go.ChangeAt
section
variable {H:Type}{enc:TypeId×Value→H}{P:Program}{w:World}{base:Nat}{spare:Nat→Bool}{held:Bool}
def Ty.argB:Ty→Bool
 |.int _|.bool|.nil=>true
 |.slice e=>e.argB&&decide (0<e.size)
 |.arr _ e=>e.argB
 |.cons a b=>a.argB&&b.argB
 |.ptr _=>false
def q8q{b off n:Nat}{spot:Option Nat}{cs:List Value}(h:w.cells? base ⟨b,off,spot⟩ n=some cs)(hn:0<n) :
  spot=none∧∃ c ty fz,w.heap[b]?=some (.cells c ty fz)∧cs=(c.toList.drop off).take n:=by
 unfold World.cells? at h;split at h
 ·have hl:=mapM_some_length h;have hg:=fun i (hi:i<n)=>mapM_some_get h i i (by simp[hi]);have h0:=hg 0 hn;rw[List.length_range] at hl;rw[yyl (by omega)] at h0;simp only[Addr.add,if_true,World.cell?] at h0;split at h0
  ·rename_i c ty fz hb;split at h0
   ·cases h0
   ·rename_i hs;have hs:spot=none:=by simpa using hs
    subst hs;refine⟨rfl,c,ty,fz,hb,?_⟩;apply List.ext_getElem?;intro i;rw[yxl];by_cases hi:i<n
    ·rw[if_pos hi,← hg i hi,j5,u0 hb,List.getElem?_drop];simp
    ·rw[if_neg hi,yxp (by omega)]
  ·cases h0
 ·cases h
def Ty.fit:(t:Ty)→t.den→Prop
 |.int k,n=>inK k n
 |.bool,_=>True
 |.slice e,l=>∀ y∈l,e.fit y
 |.ptr _,_=>True
 |.arr _ e,l=>∀ y∈l,e.fit y
 |.nil,_=>True
 |.cons a b,y=>a.fit y.1∧b.fit y.2
def inK_wf{k:IntKind}(h:(Lit.int k n).wf=true):inK k n:=by simp only[Lit.wf,yyd,yys] at h;cases k<;>exact h
def RepA(P:Program)(t:Ty):Prop:=∀ {H:Type} {enc:TypeId×Value→H} {w:World} {base:Nat} {spare:Nat→Bool} {held:Bool} (id:TypeId) (fuel:Nat) (cs:List Value) (x:DataW H×List MemPlace),
 TyOf P t id→t.argB=true→DataW.trod enc P w base spare held fuel id cs=some x→∃ y,Rep (fun b=>w.heap[b]?) t y cs∧t.fit y
def RepF(P:Program)(t:Ty):Prop:=∀ {H:Type} {enc:TypeId×Value→H} {w:World} {base:Nat} {spare:Nat→Bool} {held:Bool} (fs:List Field) (off fuel:Nat) (cs:List Value),
 TyOf.fields P t fs off→t.argB=true→cs.length=off+t.size→(∀ (i:Nat) (f:Field),fs[i]?=some f→∃ x,DataW.trod enc P w base spare held fuel f.type ((cs.drop f.offset).take (P.cellsOf f.type))=some x) →
  ∃ y,Rep (fun b=>w.heap[b]?) t y (cs.drop off)∧t.fit y
def j06{n:Nat}{p:Nat→α→Prop}(h:∀ i,i<n→∃ y,p i y):∃ l:List α,l.length=n∧∀ i (hi:i<l.length),p i (l.get ⟨i,hi⟩):=by
 induction n with
 |zero=>exact⟨[],rfl,fun i hi=>absurd hi (by simp)⟩
 |succ n ih=>
  obtain⟨l,h1,h2⟩:=ih fun i hi=>h i (by omega);obtain⟨y,hy⟩:=h n (by omega);refine⟨l++[y],by simp[h1],fun i hi=>?_⟩;simp only[List.get_eq_getElem];by_cases hl:i<l.length
  ·rw[List.getElem_append_left hl];exact h2 i hl
  ·have:i=l.length:=by simp at hi;omega
   subst this;rw[List.getElem_append_right (yym _)];simp only[Nat.sub_self,List.getElem_cons_zero];rw[h1];exact hy
def rep_all(P:Program):∀ t:Ty,RepA P t∧RepF P t:=by
 intro t;induction t with
 |int k=>
  refine⟨fun id fuel cs x ht _ h=>?_,fun fs off fuel cs hf _ _ _=>by simp[TyOf.fields] at hf⟩;simp only[TyOf] at ht;have hu:=ht.under;cases fuel with
  |zero=>simp[DataW.trod] at h
  |succ n=>
   unfold DataW.trod at h;rw[hu] at h;split at h<;>try (simp_all;done)
   rename_i k' q n' he;split at h
   ·rename_i hk;injection he with he
    injection he with he
    subst he;exact⟨n',by simp only[Rep];rw[hk.1],inK_wf hk.2⟩
   ·cases h
 |bool=>
  refine⟨fun id fuel cs x ht _ h=>?_,fun fs off fuel cs hf _ _ _=>by simp[TyOf.fields] at hf⟩;simp only[TyOf] at ht;have hu:=ht.under;cases fuel with
  |zero=>simp[DataW.trod] at h
  |succ n=>
   unfold DataW.trod at h;rw[hu] at h;split at h<;>try (simp_all;done)
   rename_i b he;exact⟨b,by simp only[Rep],trivial⟩
 |slice e ih=>
  refine⟨@fun H enc w base spare held id fuel cs x ht hb h=>?_,fun fs off fuel cs hf _ _ _=>by simp[TyOf.fields] at hf⟩;simp only[TyOf] at ht;obtain⟨eid,hi,he⟩:=ht;simp only[Ty.argB,yyd,yys] at hb;have hsz:=q3c he;rcases DataW.trod_slice hi.under h with⟨h0,_⟩|⟨a,len,cap,elems,rest,n,_,rfl,_,_,hlc,hcm,hel,hg,_⟩
  ·exact⟨[],by simp only[Rep];exact⟨none,0,h0,yym _,yyu _,fun _=>rfl,.inl rfl⟩,fun y hy=>by cases hy⟩
  ·have each:∀ i,i<len→∃ y:e.den,∃ spot c ty fz,a=⟨a.block,a.off,spot⟩∧(spot=none∨i≠0)∧∃ _:w.heap[a.block]?=some (.cells c ty fz),Rep (fun b=>w.heap[b]?) e y ((c.toList.drop (a.off+i*e.size)).take e.size)∧e.fit y:=by
    intro i hi';have h1:=hg i hi';rw[yyl (by omega),yyq,hsz] at h1;obtain⟨ce,h2,h3⟩:=h1;obtain⟨blk,off,spot⟩:=a;by_cases h0:i*e.size=0
    ·have hi0:i=0:=by
      rcases Nat.mul_eq_zero.1 h0 with h0|h0
      ·exact h0
      ·omega
     subst hi0;simp only[Nat.zero_mul,Addr.add,if_true] at h2;obtain⟨hs,c,ty,fz,h4,rfl⟩:=q8q h2 hb.2;obtain⟨y,hy,hyf⟩:=ih.1 eid n _ _ he hb.1 h3;exact⟨y,spot,c,ty,fz,rfl,.inl hs,h4,by simpa using hy,hyf⟩
    ·have e1:(Addr.add ⟨blk,off,spot⟩ (i*e.size))=⟨blk,off+i*e.size,none⟩:=by simp only[Addr.add,if_neg h0]
     rw[e1] at h2;obtain⟨hs,c,ty,fz,h4,rfl⟩:=q8q h2 hb.2;obtain⟨y,hy,hyf⟩:=ih.1 eid n _ _ he hb.1 h3;exact⟨y,spot,c,ty,fz,rfl,.inr (fun hi0=>h0 (by rw[hi0,Nat.zero_mul])),h4,hy,hyf⟩
   by_cases hl0:len=0
   ·subst hl0;exact⟨[],by simp only[Rep];exact⟨some a,cap,rfl,yyu _,hcm,(fun h=>by cases h),.inl rfl⟩,fun y hy=>by cases hy⟩
   ·obtain⟨y0,spot,c,ty,fz,ha,hs,hc,_⟩:=each 0 (by omega);have hs:spot=none:=hs.resolve_right (fun h=>h rfl);subst hs;obtain⟨l,hl,hr⟩:=j06 (p:=fun i (y:e.den)=>Rep (fun b=>w.heap[b]?) e y ((c.toList.drop (a.off+i*e.size)).take e.size)∧e.fit y) (n:=len) (fun i hi'=>by
     obtain⟨y,_,c',ty',fz',_,_,hc',hy⟩:=each i hi';rw[hc] at hc';injection hc' with hc'
     injection hc' with hc' _ _
     subst hc';exact⟨y,hy⟩)
    refine⟨l,?_,fun y hy=>by obtain⟨i,hi,rfl⟩:=List.mem_iff_get.1 hy;exact(hr i.1 i.2).2⟩
    simp only[Rep];refine⟨some a,cap,by rw[hl],by rw[hl];exact hlc,hcm,(fun h=>by cases h),.inr ⟨a.block,a.off,c,ty,fz,by rw[ha],hc,fun i hi=>(hr i hi).1⟩⟩
 |ptr e ih=>exact⟨fun id fuel cs x _ hb _=>by simp[Ty.argB] at hb,fun fs off fuel cs hf _ _ _=>by simp[TyOf.fields] at hf⟩
 |arr n e ih=>
  refine⟨@fun H enc w base spare held id fuel cs x ht hb h=>?_,fun fs off fuel cs hf _ _ _=>by simp[TyOf.fields] at hf⟩;simp only[TyOf] at ht;obtain⟨eid,hi,he⟩:=ht;simp only[Ty.argB] at hb;have hsz:=q3c he;have hsa:P.cellsOf id=n*e.size:=q3c (t:=.arr n e) ⟨eid,hi,he⟩;obtain⟨xs,m,_,_,hl,hxl,hg⟩:=DataW.trod_array hi.under h;obtain⟨l,h1,h2⟩:=j06 (p:=fun i (y:e.den)=>Rep (fun b=>w.heap[b]?) e y ((cs.drop (i*e.size)).take e.size)∧e.fit y) (n:=n) (fun i hi'=>by have h3:=hg i hi';rw[hsz,yyl (by omega)] at h3;exact ih.1 eid m _ _ he hb h3)
  exact⟨l,by simp only[Rep];exact⟨h1,by rw[hl,hsa],fun i hi=>(h2 i hi).1⟩,fun y hy=>by obtain⟨i,hi,rfl⟩:=List.mem_iff_get.1 hy;exact(h2 i.1 i.2).2⟩
 |nil=>refine⟨fun id fuel cs x ht _ _=>by simp[TyOf] at ht,fun fs off fuel cs hf _ hl _=>⟨(),?_,trivial⟩⟩;simp only[Rep,Ty.size] at hl ⊢;exact List.drop_of_length_le (by omega)
 |cons a b iha ihb=>
  have hF:RepF P (.cons a b):=by
   intro H enc w base spare held fs off fuel cs hf hb hl hg;cases fs with
   |nil=>simp[TyOf.fields] at hf
   |cons f r=>simp only[TyOf.fields] at hf;obtain⟨h1,h2,h3,h4⟩:=hf;simp only[Ty.argB,yyd] at hb;simp only[Ty.size] at hl;obtain⟨x,hx⟩:=hg 0 f rfl;rw[h1,q3c h2] at hx;obtain⟨y1,hy1,hf1⟩:=iha.1 _ _ _ _ h2 hb.1 hx;obtain⟨y2,hy2,hf2⟩:=ihb.2 r (off+a.size) fuel cs h4 hb.2 (by omega) fun i f hf=>hg (i+1) f (by simpa using hf);refine⟨(y1,y2),?_,hf1,hf2⟩;simp only[Rep];refine⟨_,_,?_,hy1,hy2⟩;rw[← List.drop_drop,List.take_append_drop]
  refine⟨@fun H enc w base spare held id fuel cs x ht hb h=>?_,hF⟩;have hct:=q3c ht;simp only[TyOf] at ht;obtain⟨fs,hi,hm⟩:=ht;obtain⟨xs,n,_,_,hl,hxl,hg⟩:=DataW.trod_struct hi.under h;have hff:TyOf.fields P (.cons a b) fs.toList 0:=by
   split at hm
   ·rename_i f r hfr;rw[hfr];simp only[TyOf.fields];simpa using hm
   ·exact hm.elim
  have:=hF fs.toList 0 n cs hff hb (by rw[hl,hct];omega) (held:=held) (enc:=enc) (w:=w) (base:=base) (spare:=spare) fun i f hf=>by
   have h1:=hg i f (by simpa using hf);have hlt:i<xs.length:=by rw[hxl];have:=(yxi.1 hf).1;simpa using this
   rw[yyl hlt] at h1;exact⟨_,h1⟩
  simpa using this
def Dat:List Ty→Type
 |[]=>Unit
 |t::ts=>t.den×Dat ts
def Dat.av:{ts:List Ty}→Dat ts→AV
 |[],_=>.anil
 |t::_,x=>.acons (.val t x.1) (Dat.av x.2)
def Dat.fit:{ts:List Ty}→Dat ts→Prop
 |[],_=>True
 |t::_,x=>t.fit x.1∧Dat.fit x.2
def tysB(P:Program):List Ty→List TypeId→Bool
 |[],[]=>true
 |t::ts,i::is=>(tyB P t i&&t.argB)&&(P.readableRec i&&decide (i<P.types.size))&&tysB P ts is
 |_,_=>false
variable{t:Ty}
def agg_of{id:TypeId}(ht:TyOf P t id)(hb:t.argB=true):(t.agg=true∧((∃ fs,P.underlying id=some (.struct fs))∨∃ n e,P.underlying id=some (.array n e))) ∨
  (t.agg=false∧((∃ k,P.underlying id=some (.int k))∨P.underlying id=some .bool∨∃ e,P.underlying id=some (.slice e))):=by
 cases t with
 |int k=>simp only[TyOf] at ht;exact .inr ⟨rfl,.inl ⟨k,ht.under⟩⟩
 |bool=>simp only[TyOf] at ht;exact .inr ⟨rfl,.inr (.inl ht.under)⟩
 |slice e=>simp only[TyOf] at ht;obtain⟨eid,h,_⟩:=ht;exact .inr ⟨rfl,.inr (.inr ⟨eid,h.under⟩)⟩
 |ptr e=>simp[Ty.argB] at hb
 |arr n e=>simp only[TyOf] at ht;obtain⟨eid,h,_⟩:=ht;exact .inl ⟨rfl,.inr ⟨n,eid,h.under⟩⟩
 |nil=>simp[TyOf] at ht
 |cons a b=>simp only[TyOf] at ht;obtain⟨fs,h,_⟩:=ht;exact .inl ⟨rfl,.inl ⟨fs,h.under⟩⟩
def arg_rv{ρ:Env}{id:TypeId}{v:Value}{d:DataW H}{ps:List MemPlace}(ht:TyOf P t id)(hb:t.argB=true)(hv:Value.okWide P w .any base id v){b0:Nat}
  (h:DataW.Trod enc P w b0 spare held id v d ps):∃ y,(AV.val t y).rv (fun b=>w.heap[b]?) ρ v∧t.fit y:=by
 obtain⟨fuel,h⟩:=h;obtain⟨y,hy,hyf⟩:=(rep_all P t).1 id fuel _ _ ht hb h;refine⟨y,?_,hyf⟩;simp only[AV.rv];refine⟨_,hy,?_⟩;unfold Value.okWide at hv;rcases agg_of ht hb with⟨hag,hu⟩|⟨hag,hu⟩
 ·have:∃ cs,v=.agg cs:=by rcases hu with⟨fs,hu⟩|⟨n,e,hu⟩<;>· rw[hu] at hv;obtain⟨cs,h1,_⟩:=hv;exact⟨cs,h1⟩
  obtain⟨cs,rfl⟩:=this;rw[x5 hag];simp[Value.cells]
 ·have hone:v.oneCell'=true:=by rcases hu with⟨k,hu⟩|hu|⟨e,hu⟩<;>rw[hu] at hv<;>simp only[Cell.okWide,hu,Cell.ok] at hv<;>(split at hv<;>first|rfl|(exact hv.elim)|(split at hv<;>first|rfl|exact hv.elim))
  rw[q09 hone];simp[Ty.wrap,hag]
variable{ts:List Ty}
def q7u{i:TypeId}{is:List TypeId}(h:tysB P (t::ts) (i::is)=true):TyOf P t i∧t.argB=true∧P.readableRec i=true∧i<P.types.size∧tysB P ts is=true:=by simp only[tysB,yyd,yys] at h;exact⟨s9 h.1.1.1,h.1.1.2,h.1.2.1,h.1.2.2,h.2⟩
def j24{ρ:Env}{b0:Nat}:∀ {ts:List Ty} {is:List TypeId} {vs:List Value} {ds:List (DataW H)} {ps:List MemPlace},tysB P ts is=true→(∀ (j:Nat) t v,is[j]?=some t→vs[j]?=some v→Value.okWide P w .any base t v) →
  DataW.TrodAll enc P w b0 spare held is vs ds ps→∃ ys:Dat ts,ys.av.rvs (fun b=>w.heap[b]?) ρ vs∧ys.fit
 |[],[],vs,ds,ps,_,_,h=>by
  cases vs with
  |nil=>exact⟨(),by simp only[Dat.av,AV.rvs],trivial⟩
  |cons v vs=>cases ds<;>simp[DataW.TrodAll] at h
 |t::ts,i::is,vs,ds,ps,hb,hv,h=>by
  obtain⟨h1,h2,_,_,h5⟩:=q7u hb;cases vs with
  |nil=>cases ds<;>simp[DataW.TrodAll] at h
  |cons v vs=>
   cases ds with
   |nil=>simp[DataW.TrodAll] at h
   |cons d ds=>obtain⟨p,q,h6,h7,_⟩:=h;obtain⟨y,hy,hyf⟩:=arg_rv (ρ:=ρ) h1 h2 (hv 0 i v rfl rfl) h6;obtain⟨ys,hys,hysf⟩:=j24 (ρ:=ρ) h5 (fun j t v hj hjv=>hv (j+1) t v (by simpa using hj) (by simpa using hjv)) h7;exact⟨(y,ys),by simp only[Dat.av,AV.rvs];exact⟨v,vs,hy,hys,rfl⟩,hyf,hysf⟩
 |[],_::_,_,_,_,hb,_,_=>by simp[tysB] at hb
 |_::_,[],_,_,_,hb,_,_=>by simp[tysB] at hb
def Dat.bd:∀ {ts:List Ty} (ys:Dat ts) (n:Nat),ys.av.bd n
 |[],_,_=>trivial
 |_::_,x,n=>⟨trivial,Dat.bd x.2 n⟩
def q9v{W W':World}(hl:laidOutB P=true)(hbl:Below W.heap.size W W'){sp:Nat→Bool}:∀ {ts:List Ty} {is:List TypeId} {vs:List Value} {ds:List (DataW H)} {ps:List MemPlace},tysB P ts is=true →
  DataW.TrodAll enc P W 0 (fun _=>true) true is vs ds ps→(∀ p∈ps,p.block<W.heap.size)→(∀ p∈ps,sp p.block=true)→DataW.TrodAll enc P W' 0 sp true is vs ds ps
 |[],[],vs,ds,ps,_,h,_,_=>by cases vs<;>cases ds<;>simp_all[DataW.TrodAll]
 |t::ts,i::is,vs,ds,ps,hb,h,hlt,hsp=>by
  obtain⟨_,_,h3,h4,h5⟩:=q7u hb;cases vs with
  |nil=>cases ds<;>simp[DataW.TrodAll] at h
  |cons v vs=>
   cases ds with
   |nil=>simp[DataW.TrodAll] at h
   |cons d ds=>obtain⟨p,q,h6,h7,rfl⟩:=h;refine⟨p,q,WideElems.Trod_stays hl h3 h4 h6 (fun x hx=>hbl.same (hlt x (yxt _ hx))) (fun x hx=>hsp x (yxt _ hx)),?_,rfl⟩;exact q9v hl hbl h5 h7 (fun x hx=>hlt x (List.mem_append_right _ hx)) (fun x hx=>hsp x (List.mem_append_right _ hx))
 |[],_::_,_,_,_,hb,_,_,_=>by simp[tysB] at hb
 |_::_,[],_,_,_,hb,_,_,_=>by simp[tysB] at hb
def z74{Z:Mem→Prop}{s:ChangeSpec}{W:World}{args:Array Value}{ds gs:List (DataW H)}{before:List MemPlace}{fresh handsOn:Bool}
  (hz:Z (fun b=>W.heap[b]?)) (hfn:∀ ys:Dat ts,ys.fit→FnL Z P f ys.av (·=.val .bool true)) (hts:tysB P ts fn.params.toList=true) (hl:laidOutB P=true) (hvars:s.vars=[])
  (hspec:∀ ds:List (DataW H),ds.length=ts.length→(s.fn H ds).results=[.lit (.bool true)]∧(s.fn H ds).args=ds∧(s.fn H ds).vars=[]) {rt:TypeId} (hres:fn.resultTypes=#[rt]) (hrt:P.underlying rt=some .bool)
  (hval:∀ (j:Nat) t v,fn.params[j]?=some t→args[j]?=some v→Value.okWide P W .any base t v) (hW:DataW.Whole enc P fn.params.toList s.vars false W args.toList ds gs before) :
  Calls P f args W fun e W'=>∃ v,e=.returned v∧s.post enc P fn false fresh handsOn false W args v W':=by
 have hW':=hW;obtain⟨p,q,hA,hV,rfl,hfz,_⟩:=hW;rw[hvars] at hV;obtain⟨rfl,rfl⟩:=trodVars_none hV;rw[yxv] at hW';obtain⟨ys,hys,hysf⟩:=j24 (ρ:=⟨fun _=>0,fun _=>.nil,fun _=>Go.undef⟩) hts (fun j t v hj hv=>hval j t v (by simpa using hj) (by simpa using hv)) hA;have hlen:∀ {ts:List Ty} {is:List TypeId} {vs:List Value} {ds:List (DataW H)} {ps:List MemPlace},tysB P ts is=true→DataW.TrodAll enc P W 0 (fun _=>true) true is vs ds ps→ds.length=ts.length:=by
  intro ts;induction ts with
  |nil=>intro is vs ds ps hb h;cases is<;>cases vs<;>cases ds<;>simp_all[DataW.TrodAll,tysB]
  |cons t ts ih=>
   intro is vs ds ps hb h;cases is with
   |nil=>simp[tysB] at hb
   |cons i is=>
    cases vs<;>cases ds<;>try (simp[DataW.TrodAll] at h;done)
    obtain⟨p,q,_,h7,_⟩:=h;simp[ih (q7u hb).2.2.2.2 h7]
 have hdl:=hlen hts hA;have hrun:=(hfn ys hysf).run (fun b=>W.heap[b]?) ⟨fun _=>0,fun _=>.nil,fun _=>Go.undef⟩ W args.toList hz (fun _ _ h=>h) hys (Dat.bd ys 0);rw[Array.toArray_toList] at hrun;refine hrun.mono fun e W'=>?_;rintro⟨v,r,M',rfl,rfl,_,hrv,hbl,_⟩;rw[m5] at hrv;subst hrv;obtain⟨hs1,hs2,hs3⟩:=hspec ds hdl;have hlt:=fun x hx=>hW'.lt x hx;refine⟨_,rfl,ds,[],p,[],p,[],hW',?_,?_,?_,World.keptBut_mono (fun x hx=>⟨hx,.inr (.inl hx)⟩) (hbl.frame (·∈p)),fun h=>by cases h⟩
 ·rw[yxv,hs1,hres];exact trodAll_cons_mk (shut_bool hrt _) trodAll_mk0
 ·rw[yxv,hs2];exact q9v hl hbl hts hA hlt fun x hx=>by simpa using hlt x hx
 ·rw[yxv,hs3,hvars];rfl
end
end Ox
namespace Ox
open Go Go.RowKit
noncomputable section
def z0r{P:Program}{w:World}{name:String}{k:IntKind}{xs:List Int}{g:Nat}{t e:TypeId}(hg:P.globalNamed name=some g)(ht:(P.globals[g]?).map (·.type)=some t)(hu:P.underlying t=some (.array xs.length e))(he:P.underlying e=some (.int k))(hc:P.cellsOf e=1) :
  ∀ {laid:List (String×DataW Unit)} {ps:List MemPlace},DataW.LaidVars P w laid ps→(name,DataW.agg (xs.map fun z=>DataW.lit (.int k z)))∈laid →
  ∃ (cs:Array Value) (ty:TypeId) (fz:Nat×Nat),w.heap[g]?=some (.cells cs ty fz)∧xs.length≤cs.size∧∀ i,i<xs.length→cs[i]?=some (.int k (xs.getD i 0))
 |[],_,_,hm=>absurd hm yxg
 |(n,d)::r,ps,h,hm=>by
  obtain⟨g',t',cs,fuel,p,q,h1,h2,h3,h4,h5,_⟩:=h;rcases yyo.1 hm with hm|hm
  ·injection hm with e1 e2
   subst e1;subst e2;obtain rfl:=Option.some.inj (hg.symm.trans h1);obtain rfl:=Option.some.inj (ht.symm.trans h2);obtain⟨ys,m,_,hx,hl,hyl,hcell⟩:=DataW.trod_array hu h4;have hy:ys.map (·.1)=xs.map fun z=>DataW.lit (.int k z):=by
    injection hx with hx _
    injection hx with hx
    exact hx.symm
   have hblk:∃ ty fz,w.heap[g]?=some (.cells cs ty fz):=by
    unfold World.var? at h3;rw[hg] at h3;simp only[Option.bind_some] at h3;split at h3
    ·rename_i cs' ty fz hh;injection h3 with h3
     exact⟨ty,fz,by rw[hh,h3]⟩
    ·cases h3
   obtain⟨ty,fz,hh⟩:=hblk;have key:∀ i,i<xs.length→cs[i]?=some (.int k (xs.getD i 0)):=fun i hi=>by
    have h6:=hcell i hi;rw[hc,Nat.mul_one] at h6;have hi':i<ys.length:=by rw[hyl];exact hi
    rw[yyl hi'] at h6;obtain⟨z,h7,h8,_⟩:=DataW.trod_int he h6;have h9:(ys[i]).1=DataW.lit (.int k (xs.getD i 0)):=by have:=congrArg (fun l=>l[i]?) hy;simp only[List.getElem?_map,yyl hi',yyl hi,yxk,yya] at this;rw[this,yyg,yyl hi];rfl
    rw[h8] at h9;injection h9 with h9
    injection h9 with _ h9
    subst h9;have hlt:i<cs.toList.length:=by refine Nat.lt_of_not_le fun hc'=>?_;rw[List.drop_of_length_le hc'] at h7;cases h7
    rw[yxh hlt] at h7;injection h7 with h7 _
    rw[← yx0,yyl hlt,h7]
   refine⟨cs,ty,fz,hh,?_,key⟩;refine Nat.le_of_not_lt fun hc'=>?_;have:=key cs.size hc';simp at this
  ·exact z0r hg ht hu he hc h5 hm
end
end Ox
namespace Ox
open Go Go.RowKit Ox.Rn
variable {X:Ctx}{M:Mem}{ρ:Env}{a:Act}{w w':World}{QA:Exit→S→Prop}{all l:List Oper}{L:List (Nat×AV)}{H:List (Nat×HO)}{nx d:Nat}{ty:TypeId}{ps:String}{af:Array Edge}{s:S}{o:Oper}{md:Bool}
variable{P:Program}{k:IntKind}
def run_remT{a b:Int}(hb:b≠0):(Op.intDiv .rem k a b).run P w=.ok (.int k (Int.tmod a b)) w:=by simp only[Op.intDiv,if_neg hb,yyf]
def JL.remT(hu:opd L x=some (c1,.val (.int k) u))(hv:opd L y=some (c2,.val (.int k) v))(h1:allP c1)(h2:allP c2)(hb:v≠0)(hd:ltB d X.n=true)
  (kk:JL X true all QA l ⟨(d,.val (.int k) (Int.tmod u v))::L,H,nx⟩):JL X true all QA (⟨some d,.binOp .rem t x y t',ty,ps,af,none⟩::l) ⟨L,H,nx⟩:=by
 refine q2o rfl rfl (w9 hd) (v:=.val (.int k) (Int.tmod u v)) (s':=⟨L,H,nx⟩) (fun M ρ a w k1 k2=>?_) kk;have e1:=(z8 (s:=⟨L,H,nx⟩) hu h1 k2).2;have e2:=(z8 (s:=⟨L,H,nx⟩) hv h2 k2).2;rw[v5] at e1 e2;refine⟨ρ,w,.value (.int k (Int.tmod u v)),?_,Env.upTo.refl _ _,yym _,rfl,k1,trivial,.inl ⟨_,rfl,v5.2 rfl⟩⟩;simp only[execOp,e1,e2,yye,x7,yyb,binOp,if_neg (fun h:k≠k=>h rfl)];rw[run_remT hb];rfl
def JK.remT{r:List Fr}{t t':TypeId}{x y:Operand}{c1 c2:List Prop}{k:IntKind}{u v:Int}(hu:opd L x=some (c1,.val (.int k) u))(hv:opd L y=some (c2,.val (.int k) v))(h1:allP c1)(h2:allP c2)(hb:v≠0)(hd:ltB d X.n=true)
  (kk:JK X (.ops true all l::r) QA ⟨(d,.val (.int k) (Int.tmod u v))::L,H,nx⟩):JK X (.ops true all (⟨some d,.binOp .rem t x y t',ty,ps,af,none⟩::l)::r) QA ⟨L,H,nx⟩:=JL.remT hu hv h1 h2 hb hd kk
variable{gs:List Gt}
def z46{M N:Mem}(h:Laid gs M)(k:∀ b o,M b=some o→N b=some o):Laid gs N:=fun q hq=>by obtain⟨cs,ty,fz,e1,e2⟩:=h q hq;exact⟨cs,ty,fz,k _ _ e1,e2⟩
variable{r:AV}
def z24(h:callA X.T o.op s=some (cs,f,.anil))(hf:FnZ (Laid gs) X.P f r.toV)(hz:Laid gs X.M0)(hc:allP cs)(h1:SAT X M ρ s w)(h2:REG X M ρ s a){w1:World}(hw:Below w.heap.size w w1) :
  ∃ az,(execOp a.eval o).run X.P w1=.ok (.enter f az) w1∧Calls X.P f az w1 (fun e w'=>e=.returned r.toV∧Below w.heap.size w w'):=by
 obtain⟨hb,vs,hvs,hrun⟩:=s7 h1 (q43 h1) h2 h hc;simp only[AV.rvs] at hvs;subst hvs;refine⟨#[],by rw[hrun,hf.call],(hf.run _ w1 (z46 hz fun b o e=>h1.mem b o (h1.msub b o e)) (q68 hw)).mono ?_⟩;rintro e w' ⟨rfl,hbl⟩;exact⟨rfl,hw.trans (hbl.mono hw.size)⟩
def JL.callZ(hg:o.guard=none)(h:callA X.T o.op s=some (cs,f,.anil))(hf:FnZ (Laid gs) X.P f r.toV)(hz:Laid gs X.M0)(hr:r.scal=true)(hrb:r.bd 0)(hd:dstOk X.n o.dst)(hc:allP cs)
  (k:JL X true all QA l (putS o.dst r s)):JL X true all QA (o::l) s:=by
 intro M ρ a w h1 h2;obtain⟨az,e1,e2⟩:=z24 h hf hz hc h1 h2 (Below.refl w.heap.size w);refine j4 (j7 hg) (x3 (q0y h) e1 e2 ?_);rintro e w' ⟨rfl,hbl⟩;exact⟨_,rfl,k M ρ _ w' (j0 (h1.later hbl)) (h2.putO hd.spec (j6 (yyu _) hrb) ((x4 hr).2 rfl))⟩
variable{b g:Bool}
def j3t(hg:gOf all s.L o.guard=some g)(hgt:g=true)(h:callA X.T o.op s=some (cs,f,.anil))(hf:FnZ (Laid gs) X.P f r.toV)(hz:Laid gs X.M0)(hr:r.scal=true)(hrb:r.bd 0)(hd:dstOk X.n o.dst)(hc:allP cs)
  (k:JL X true all QA l (putS o.dst r s)):JL X true all QA (o::l) s:=by
 subst hgt;intro M ρ a w h1 h2;have hw:=u7 hg h2;obtain⟨az,e1,e2⟩:=z24 h hf hz hc h1 h2 (Below.refl w.heap.size w);refine j4 hw (x3 (q0y h) e1 e2 ?_);rintro e w' ⟨rfl,hbl⟩;exact⟨_,rfl,k M ρ _ w' (j0 (h1.later hbl)) (h2.putO hd.spec (j6 (yyu _) hrb) ((x4 hr).2 rfl))⟩
variable {op:Op}
variable{fr:List Fr}
def z1k(h:callA X.T op ⟨L,H,nx⟩=some (cs,f,.anil))(hf:FnZ (Laid gs) X.P f (.bool b))(hz:Laid gs X.M0)(hd:ltB d X.n=true)(hc:allP cs)
  (k:JK X (.ops true all l::fr) QA ⟨(d,(.val .bool b))::L,H,nx⟩):JK X (.ops true all (⟨some d,op,ty,ps,af,none⟩::l)::fr) QA ⟨L,H,nx⟩:=
 JL.callZ (r:=(.val .bool b)) rfl h hf hz rfl trivial (w9 hd) hc k
def q5v{gg:Nat×Bool}(hg:gOf all L (some gg)=some g)(hgt:g=true)(h:callA X.T op ⟨L,H,nx⟩=some (cs,f,.anil))(hf:FnZ (Laid gs) X.P f (.bool b))(hz:Laid gs X.M0)(hd:ltB d X.n=true)(hc:allP cs)
  (k:JK X (.ops true all l::fr) QA ⟨(d,(.val .bool b))::L,H,nx⟩):JK X (.ops true all (⟨some d,op,ty,ps,af,some gg⟩::l)::fr) QA ⟨L,H,nx⟩:=
 j3t (r:=(.val .bool b)) (s:=⟨L,H,nx⟩) hg hgt h hf hz rfl trivial (w9 hd) hc k
def run_quoT{a b:Int}(hb:b≠0)(h1:inK k (Int.tdiv a b)):(Op.intDiv .quo k a b).run P w=.ok (.int k (Int.tdiv a b)) w:=by simp only[Op.intDiv,if_neg hb,yyf];rw[d9 h1]
def JL.quoT(hu:opd L x=some (c1,.val (.int k) u))(hv:opd L y=some (c2,.val (.int k) v))(h1:allP c1)(h2:allP c2)(hb:v≠0)(hk:inK k (Int.tdiv u v))(hd:ltB d X.n=true)
  (kk:JL X true all QA l ⟨(d,.val (.int k) (Int.tdiv u v))::L,H,nx⟩):JL X true all QA (⟨some d,.binOp .quo t x y t',ty,ps,af,none⟩::l) ⟨L,H,nx⟩:=by
 refine q2o rfl rfl (w9 hd) (v:=.val (.int k) (Int.tdiv u v)) (s':=⟨L,H,nx⟩) (fun M ρ a w k1 k2=>?_) kk;have e1:=(z8 (s:=⟨L,H,nx⟩) hu h1 k2).2;have e2:=(z8 (s:=⟨L,H,nx⟩) hv h2 k2).2;rw[v5] at e1 e2;refine⟨ρ,w,.value (.int k (Int.tdiv u v)),?_,Env.upTo.refl _ _,yym _,rfl,k1,trivial,.inl ⟨_,rfl,v5.2 rfl⟩⟩;simp only[execOp,e1,e2,yye,x7,yyb,binOp,if_neg (fun h:k≠k=>h rfl)];rw[run_quoT hb hk];rfl
def JK.quoT{r:List Fr}{t t':TypeId}{x y:Operand}{c1 c2:List Prop}{k:IntKind}{u v:Int}(hu:opd L x=some (c1,.val (.int k) u))(hv:opd L y=some (c2,.val (.int k) v))(h1:allP c1)(h2:allP c2)(hb:v≠0)(hk:inK k (Int.tdiv u v))(hd:ltB d X.n=true)
  (kk:JK X (.ops true all l::r) QA ⟨(d,.val (.int k) (Int.tdiv u v))::L,H,nx⟩):JK X (.ops true all (⟨some d,.binOp .quo t x y t',ty,ps,af,none⟩::l)::r) QA ⟨L,H,nx⟩:=JL.quoT hu hv h1 h2 hb hk hd kk
def down_eq(a b:Int)(hb:0<b):Int.tdiv (a-Int.tmod (Int.tmod a b+b) b) b=a / b:=by
 have e:Int.tmod (Int.tmod a b+b) b=a % b:=by
  have h1:=Int.tmod_lt_of_pos a hb;have h2:-b<Int.tmod a b:=by have:=Int.lt_tmod_of_pos a hb;omega
  rw[Int.tmod_eq_emod_of_nonneg (by omega),Int.add_emod_right];have h3:=Int.mul_tdiv_add_tmod a b;have h4:(Int.tmod a b)=a+b*(-(Int.tdiv a b)):=by rw[Int.mul_neg];omega
  rw[h4,Int.add_mul_emod_self_left]
 rw[e];have h:=Int.mul_ediv_add_emod a b;have h5:a-a % b=b*(a / b):=by omega
 rw[h5,Int.mul_tdiv_cancel_left _ (by omega)]
end Ox
namespace Go.Proofs.YtjjkdjbbkagclaaGreatDoor
open Go Go.RowKit Ox Ox.Gl
attribute [local irreducible] JC JL JK JW
abbrev rgT:Ty:=.cons (.int .i64) (.cons (.int .i64) .nil)
abbrev coT:Ty:=.cons rgT (.cons (.int .i64) (.cons (.int .i64) .nil))
abbrev glT:Ty:=.cons (.int .i64) (.cons (.slice coT) (.cons (.slice prT) .nil))
abbrev vRg(r:RgD):AV:=.val rgT r
abbrev vCo(c:CoD):AV:=.val coT c
abbrev mkG(d:Int)(cs:List CoD)(ps:List (List Int)):glT.den:=(d,cs,ps,())
abbrev vG(d:Int)(cs:List CoD)(ps:List (List Int)):AV:=.val glT (mkG d cs ps)
def fn205(x lo hi:Int):Ox.Fn Tryz.prog 205 (.acons (vI x) (.acons (pI lo) (.acons (pI hi) .anil))) (·=vB (decide (x<lo∨x>hi))):=by refine Ox.Fn.intro xok Tryz.func205 rfl Tryz.call205 (yyc rfl) (fun E M0 up=>?_);refine z9 ?_;refine zK0 ?_;refine⟨.inl rfl,_,_,rfl,trivial,?_⟩;by_cases h:x<lo<;>simp[h]
def fn117(lo hi:Int)(xs:List Int):Ox.Fn Tryz.prog 117 (.acons (vI lo) (.acons (vI hi) (.acons (vL xs) .anil))) (·=vB (decide (∀ x∈xs,lo≤x∧x≤hi))):=by
 refine Ox.Fn.intro xok Tryz.func117 rfl Tryz.call117 (yyc rfl) (fun E M0 up=>?_);refine z9 ?_
 (repeat (first|refine zs rfl ?_|refine zg rfl rfl rfl ?_|refine v6 ?_|refine w8 ?_|refine zc rfl (fn77 xs (fun x=>decide (x<lo∨x>hi)) (fun x _=>fn205 x lo hi)) rfl rfl ?_|refine ze rfl (fn77 xs (fun x=>decide (x<lo∨x>hi)) (fun x _=>fn205 x lo hi)) rfl ?_|refine zk rfl rfl (fun _=>fn77 xs (fun x=>decide (x<lo∨x>hi)) (fun x _=>fn205 x lo hi)) rfl rfl ?_))
 refine⟨.inl rfl,_,_,rfl,trivial,?_⟩;refine congrArg vB ?_;rw[yyz];simp only[yyx,List.any_eq_false,yys];refine⟨fun h x hx=>?_,fun h x hx=>?_⟩
 ·have:=h x hx;omega
 ·have:=h x hx;omega
def z6y{xs:List Int}{b:Bool}(hb:b=true)(h:∀ x∈xs,lo≤x∧x≤hi):Ox.Fn Tryz.prog 117 (.acons (vI lo) (.acons (vI hi) (.acons (vL xs) .anil))) (·=vB b):=by have:=fn117 lo hi xs;rw[decide_eq_true h,← hb] at this;exact this
def div_bd(a b:Int)(h0:1≤b∧b≤1000)(h1:-100000≤a∧a≤100000):-102000≤a / b∧a / b≤102000:=by
 have h5:=Int.mul_ediv_add_emod a b;have h6:=Int.emod_nonneg a (show b≠0 by omega);have h7:=Int.emod_lt_of_pos a (show 0<b by omega);constructor
 ·refine Int.not_lt.1 fun hc=>?_;have:b*(a / b)≤1*(a / b):=Int.mul_le_mul_of_nonpos_right (by omega) (by omega);omega
 ·refine Int.not_lt.1 fun hc=>?_;have:1*(a / b)≤b*(a / b):=Int.mul_le_mul_of_nonneg_right (by omega) (by omega);omega
def fn125(a b:Int)(h0:1≤b∧b≤1000)(h1:-100000≤a∧a≤100000):Ox.Fn Tryz.prog 125 (.acons (vI a) (.acons (vI b) .anil)) (·=vI (a / b)):=by
 refine Ox.Fn.intro xok Tryz.func125 rfl Tryz.call125 (yyc rfl) (fun E M0 up=>?_);refine z9 ?_;have e:=down_eq a b (by omega);have t1:=Int.tmod_lt_of_pos a (show 0<b by omega);have t2:-b<Int.tmod a b:=by have:=Int.lt_tmod_of_pos a (show 0<b by omega);omega
 have t3:=Int.tmod_lt_of_pos (Int.tmod a b+b) (show 0<b by omega);have t4:0≤Int.tmod (Int.tmod a b+b) b:=Int.tmod_nonneg _ (by omega);have q1:=div_bd a b h0 h1;have hb:b≠0:=by omega
 have e2:Int.tmod (Int.tmod a b+b) b=(Int.tmod a b+b) % b:=Int.tmod_eq_emod_of_nonneg (by omega);rw[e2] at e t3 t4;have hq:inK .i64 (Int.tdiv (a-(Int.tmod a b+b) % b) b):=by rw[e];show -9223372036854775808≤_∧_≤9223372036854775807;omega
 rw[← e];refine zK0 ?_;refine JK.remT (t':=_) rfl rfl trivial trivial hb rfl ?_;generalize Int.tmod a b=u at *;refine zK0 ?_;generalize (u+b) % b=m at *;refine JK.quoT (t':=_) rfl rfl trivial trivial hb hq rfl ?_;refine zK0 ?_;refine⟨.inl rfl,_,_,rfl,trivial,?_⟩;rfl
abbrev wiT:Ty:=.arr 10 rgT
abbrev bfT:Ty:=.arr 10 (.int .u64)
abbrev sfT:Ty:=.cons glT (.cons wiT (.cons bfT .nil))
abbrev mkF(d:Int)(cs:List CoD)(ps:List (List Int))(W:List RgD)(B:List Int):sfT.den:=(mkG d cs ps,W,B,())
abbrev vF(d:Int)(cs:List CoD)(ps:List (List Int))(W:List RgD)(B:List Int):AV:=.val (.ptr sfT) (some (mkF d cs ps W B))
abbrev vS64(n:Nat):AV:=.val (.int .u64) (n:Int)
def q07{n:Nat}(h:n≤10):1≤(2:Int) ^ n∧(2:Int) ^ n≤1024∧((2 ^ n:Nat):Int)=(2:Int) ^ n:=by
 have h1:=z4a h;have h2:0<2 ^ n:=Nat.two_pow_pos n;have h3:((2 ^ n:Nat):Int)=(2:Int) ^ n:=by rw[Int.natCast_pow];rfl
 omega
def vS_or(f c:Nat):vS64 (f ||| 2 ^ c)=AV.val (.int .u64) (((((f:Nat):Int).toNat ||| ((1:Int)*2 ^ (Int.toNat (c:Int))).toNat:Nat)):Int):=by rw[Int.toNat_natCast,Int.toNat_natCast,q3q]
def vS_not(x y:Nat):vS64 (x ^^^ (x &&& y))=AV.val (.int .u64) (((((x:Nat):Int).toNat ^^^ (((x:Nat):Int).toNat &&& ((y:Nat):Int).toNat):Nat)):Int):=by rw[Int.toNat_natCast,Int.toNat_natCast]
def fn84(d:Int)(cs:List CoD)(ps:List (List Int))(W:List RgD)(B:List Int)(hn:cs.length≤10):Ox.Fn Tryz.prog 84 (.acons (vF d cs ps W B) .anil) (·=vS64 (2 ^ cs.length-1)):=by refine Ox.Fn.intro xok Tryz.func84 rfl Tryz.call84 (yyc rfl) (fun E M0 up=>?_);refine z9 ?_;obtain⟨h1,h2,h3⟩:=q07 hn;have h4:0<2 ^ cs.length:=Nat.two_pow_pos _;refine zK0 ?_;refine⟨.inl rfl,_,_,rfl,trivial,?_⟩;refine congrArg (AV.val (.int .u64)) ?_;show(1:Int)*2 ^ (Int.toNat (cs.length:Int))-1=_;rw[Int.toNat_natCast];omega
end Go.Proofs.YtjjkdjbbkagclaaGreatDoor
namespace Ox
open Go Go.RowKit
variable {X:Ctx}{s:S}{M:Mem}{ρ:Env}{a:Act}{w w':World}{QA:Exit→S→Prop}{all l:List Oper}{o:Oper}
def JL.inlN(Kp:List Nat)(d0:Nat){c:Code}{fst cap az:AV}{cs1 cs2:List Prop}{fo:Operand}{args:Array Operand}{tys:Array TypeId}(hg:o.guard=none)(hop:o.op=.call {callee:=.value fo,args:=args,argTypes:=tys})
  (h0:lk s.L d0=some (.lf .nils)) (hu:opd s.L fo=some (cs1,.fn f fst cap)) (ha:opds s.L args.toList=some (cs2,az)) (hc:allP (cs1++cs2)) (hf:X.P.funcs[f]?=some fn) (hb:fn.body=some c) (hcall:∀ az w,(callFunc f az).run X.P w=.ok (.enter f az) w)
  (hn:argN (apA fst (apA az cap))≤fn.ntmps) (hd:dstOk X.n o.dst)
  (h:∀ M0 up,JC (X.sub M0 fn.ntmps none up) c (inlQ X fn.results.toList fun r L H nx=>JL X true all QA l (putS o.dst r ⟨(d0,.lf .nils)::L,H,nx⟩)) ⟨argL (apA fst (apA az cap)) 0,(s.nx,.fr X.dp (svL s.L Kp))::s.H,s.nx+1⟩):JL X true all QA (o::l) s:=by
 intro M ρ a w h1 h2;rw[z6] at hc;obtain⟨hub,eu⟩:=z8 hu hc.1 h2;simp only[AV.rv] at eu;obtain⟨fs,ks,k1,k2,k3⟩:=eu;obtain⟨hab,ea⟩:=n9 h2 ha hc.2;have hvs:=q6l k1 (q6l ea k2);have hbd:(apA fst (apA az cap)).bd s.nx:=q9w hub.1 (q9w hab hub.2);have hrun:(execOp a.eval o).run X.P w=.ok (.enter f (fs++(args.toList.map a.eval++ks)).toArray) w:=by
  have hmap:Array.map a.eval args=(List.map a.eval args.toList).toArray:=by rw[← yxf]
  obtain⟨dst,op,ty,pos,after,guard⟩:=o;simp only at hop;subst hop;simp only[execOp,resolve,k3,Deferred.ofValue,yye,yyf,yyb,invoke,hmap];rw[← hcall];simp
 obtain⟨sv1,sv2⟩:=q41 h2 Kp;refine j4 (j7 hg) (x3 (by rw[hop];rfl) hrun (z2l (R:=fun e w''=>∃ v,e=.returned v∧wpListIn X.fn 0 X.P all.toArray (conc X QA) l (a.put o.dst v) w'') hf hb hn h1 hbd hvs sv1 sv2 h ?_) fun e w'' hr=>hr);intro M' ρ' s' l' L' r v w' q1 q2 q3 q4 q5 q6;have b1:=h1.leave q1 (H':=del s'.H l') q04 q3 ((d0,.lf .nils)::L');have b2:REG X M' ρ' ⟨L',del s'.H l',s'.nx⟩ a:=q3g h1 h2 q1 (s6 q1 q2);have b3:REG X M' ρ' ⟨(d0,.lf .nils)::L',del s'.H l',s'.nx⟩ a:=⟨b2.size,b2.defers,fun d v hdv=>by
  simp only[lk] at hdv;split at hdv
  ·rename_i e;injection hdv with hdv
   subst hdv;have e0:=j0j (h2.reg d0 _ h0).2;subst e;refine⟨(h2.reg d0 _ h0).1,?_⟩;rw[e0,y7];exact⟨rfl,rfl⟩
  ·exact b2.reg d v hdv⟩
 exact⟨v,rfl,q4 M' ρ' _ w' (j0 b1) (b3.putO hd.spec q5 q6)⟩
def JK.inlN{L:List (Nat×AV)}{H:List (Nat×HO)}{nx:Nat}{r:List Fr}{d:Nat}{ty:TypeId}{ps:String}{af:Array Edge}(Kp:List Nat)(d0:Nat){f:FuncId}{fn:Func}{c:Code}{fst cap az:AV}{cs1 cs2:List Prop}{fo:Operand}{args:Array Operand}{tys:Array TypeId}
  (h0:lk L d0=some (.lf .nils)) (hu:opd L fo=some (cs1,.fn f fst cap)) (ha:opds L args.toList=some (cs2,az)) (hc:allP (cs1++cs2)) (hf:X.P.funcs[f]?=some fn) (hb:fn.body=some c) (hcall:∀ az w,(callFunc f az).run X.P w=.ok (.enter f az) w)
  (hn:argN (apA fst (apA az cap))≤fn.ntmps) (hd:ltB d X.n=true)
  (h:∀ M0 up,JK (X.sub M0 fn.ntmps none up) [.code c] (inlQ X fn.results.toList fun v L H nx=>JK X (.ops true all l::r) QA ⟨(d,v)::(d0,.lf .nils)::L,H,nx⟩) ⟨argL (apA fst (apA az cap)) 0,(nx,.fr X.dp (svL L Kp))::H,nx+1⟩) :
  JK X (.ops true all (⟨some d,.call {callee:=.value fo,args:=args,argTypes:=tys},ty,ps,af,none⟩::l)::r) QA ⟨L,H,nx⟩:=
 JL.inlN (s:=⟨L,H,nx⟩) Kp d0 rfl rfl h0 hu ha hc hf hb hcall hn (w9 hd) h
section
variable {L:List (Nat×AV)}{H:List (Nat×HO)}{nx:Nat}{ty:TypeId}{ps:String}{af:Array Edge}{md:Bool}{c1:List Prop}
variable {kt:Ty}{t:TypeId}{om ok:Operand}{c2:List Prop}{x y:kt.den}{dd:Nat}{g:Bool}{gg:Nat×Bool}
def JL.EqG(hK:EqT X.P kt t)(hg:gOf all L (some gg)=some g)(hu:opd L om=some (c1,.val kt x))(hv:opd L ok=some (c2,.val kt y))(hd:ltB dd X.n=true)
  (k:JL X md all QA l ⟨(dd,.gd g (.val .bool (kt.eqB x y)))::L,H,nx⟩) (hc:g=true→allP (c1++c2):=by(first|(exact fun _=>trivial)|(exact fun hgd=>hgd)|(exact zE)|(exact zF))):JL X md all QA (⟨some dd,.binOp .eql t om ok tt,ty,ps,af,some gg⟩::l) ⟨L,H,nx⟩:=by
 refine JL.vqg (o:=⟨some dd,.binOp .eql t om ok tt,ty,ps,af,some gg⟩) (s:=⟨L,H,nx⟩) (v:=.val .bool (kt.eqB x y)) hg rfl (w9 hd) trivial (fun hgt M ρ a w h1 h2=>⟨.bool (kt.eqB x y),m5.2 rfl,fun w1=>?_⟩) k;have hc':=hc hgt;rw[z6] at hc';obtain⟨cx,hx,hxe⟩:=q0q (vt:=kt) hu hc'.1 h2;obtain⟨cy,hy,hye⟩:=q0q (vt:=kt) hv hc'.2 h2;obtain⟨r,hr,hq⟩:=q8l hK.key.ty hK.key.ok hK.key.dep hK.key.flat hx hy w1;have hrb:r=kt.eqB x y:=by rw[yyz,y5];exact hq
 rw[x5 hK.ag,x5 hK.ag] at hr;simp only[execOp,hxe,hye,x5 hK.ag,yye,run_eqGuard_agg w1 _ _ _ _ _ _ hK.gt,yyb,binOp,hr,yyf,hrb]
end
end Ox
namespace Go.Proofs.YtjjkdjbbkagclaaGreatDoor
open Go Go.RowKit Ox Ox.Gl
attribute [local irreducible] JC JL JK JW
def fn65(lo hi:Int):Ox.Fn Tryz.prog 65 (.acons (vI lo) (.acons (vI hi) .anil)) (·=vRg (lo,hi,())):=by refine Ox.Fn.intro xok Tryz.func65 rfl Tryz.call65 (yyc rfl) (fun E M0 up=>?_);refine z9 ?_;refine zK0 ?_;refine⟨.inl rfl,_,_,rfl,trivial,?_⟩;rfl
def fn42(lo hi le mo:Int):Ox.Fn Tryz.prog 42 (.acons (vI lo) (.acons (vI hi) (.acons (vI le) (.acons (vI mo) .anil)))) (·=vCo ((lo,hi,()),le,mo,())):=by refine Ox.Fn.intro xok Tryz.func42 rfl Tryz.call42 (yyc rfl) (fun E M0 up=>?_);refine z9 ?_;have c65:=fn65 lo hi;refine zK17 ?_;refine⟨.inl rfl,_,_,rfl,trivial,?_⟩;rfl
abbrev frC:CoD:=((500,500,()),0,1000,())
def prU(n:Nat)(u:List Int):List Int:=[min (u.getD 0 0 % (n:Int)) (u.getD 1 0 % (n:Int)),max (u.getD 0 0 % (n:Int)) (u.getD 1 0 % (n:Int))]
def frP(n:Nat)(us:List (List Int)):List (List Int):=us.foldl (fun ps u=>addPr ps (prU n u)) []
def j27(ps:List (List Int))(p:List Int):(addPr ps p).length≤ps.length+1:=by
 unfold addPr;split
 ·omega
 ·simp
def j1t(n:Nat)(us:List (List Int)):∀ j,j≤us.length→(frP n (us.take j)).length≤j
 |0,_=>by simp[frP]
 |j+1,h=>by have ih:=j1t n us j (by omega);unfold frP at ih ⊢;rw[yy2 (by omega),List.foldl_append];have:=j27 ((us.take j).foldl (fun ps u=>addPr ps (prU n u)) []) (prU n us[j]);simp only[List.foldl_cons,List.foldl_nil];omega
def q8e(k:Nat)(h:k<l.length){z:Int}:l.getD k z∈l:=by rw[yyg,yyl h];exact yyy h
abbrev upT:Ty:=.arr 2 (.int .u8)
def okU(us:List (List Int)):Prop:=∀ u∈us,u.length=2∧∀ x∈u,0≤x∧x≤255
def con_step{ps:List (List Int)}{b0:Bool}{Q:List Int}(h:k<ps.length):(bif (b0||(ps.take k).contains Q) then true else prT.eqB (ps.getD (Int.toNat (k:Int)) prT.dflt) Q)=(b0||(ps.take (k+1)).contains Q):=by
 have h1:prT.eqB (ps.getD (Int.toNat (k:Int)) prT.dflt) Q=decide (ps[k]=Q):=by
  have h0:ps.getD (Int.toNat (k:Int)) prT.dflt=ps[k]:=by rw[Int.toNat_natCast,yyg,yyl h];rfl
  rw[h0,yyz,y5,decide_eq_true_iff]
 rw[h1,yy2 h,List.contains_eq_mem,List.contains_eq_mem];cases b0
 ·rw[Bool.false_or,Bool.false_or,yyz,decide_eq_true_iff,yy4,yyw];by_cases m:Q∈ps.take k
  ·rw[decide_eq_true m,cond_true];simp[m]
  ·rw[decide_eq_false m,cond_false,decide_eq_true_iff];exact⟨fun e=>.inr e.symm,fun e=>(e.resolve_left m).symm⟩
 ·simp
def j28(ps:List (List Int))(A B:Int):addPr ps [min A B,max A B]=if (decide (A=B)||ps.contains [min A B,max A B])=true then ps else ps++[[min A B,max A B]]:=by
 unfold addPr;have h:([min A B,max A B]:List Int).getD 0 0=([min A B,max A B]:List Int).getD 1 0↔A=B:=by show min A B=max A B↔_;omega
 by_cases e:A=B∨[min A B,max A B]∈ps
 ·rw[if_pos (by rw[h];exact e),if_pos (by simpa using e)]
 ·rw[if_neg (by rw[h];exact e),if_neg (by simpa using e)]
abbrev LG(n:Nat)(us:List (List Int)):List (Nat×AV):=[(0,vI (n:Int)),(1,.val (.slice upT) us),(4,.lf (.optr 0 [])),(5,.lf (.optr 1 []))]
abbrev HG(cs:List CoD)(ps:List (List Int)):List (Nat×HO):=[(0,.cell glT (zav glT)),(1,.cell glT (.mix (vI 1) (.mix (.lf (.osl 2)) (.mix (.lf (.osl 3)) (.val .nil ()))))),(2,.sl 45 coT cs),(3,.sl 60 prT ps)]
set_option maxHeartbeats 4000000 in
def fn16(n:Nat)(hn:2≤n)(hn8:n≤8)(us:List (List Int))(hu:okU us)(hu60:us.length≤60):Ox.Fn Tryz.prog 16 (.acons (vI (n:Int)) (.acons (.val (.slice upT) us) .anil)) (·=vG 1 (List.replicate n frC) (frP n us)):=by
 refine Ox.Fn.intro xok Tryz.func16 rfl Tryz.call16 (yyc rfl) (fun E M0 up=>?_);refine z9 ?_;have c42:=fn42 500 500 0 1000;refine zK0 ?_;refine n5 1 [true,false] 45 coT rfl rfl ?_;refine n5 1 [true,true,false] 60 prT rfl rfl ?_;refine JK.loop (fun i:Nat=>⟨LG n us++[(6,vI (i:Int))],HG (List.replicate i frC) [],4⟩) (fun i=>i≤n) (fun i=>n-i) 0 (yyu _) (by exact zJ) fun i hi=>?_;have hrs:List.replicate (i+1) frC=List.replicate i frC++[frC]:=List.replicate_succ';have hrl:(List.replicate i frC).length=i:=List.length_replicate;have hin:i=n→List.replicate i frC=List.replicate n frC:=fun e=>by rw[e]
 generalize List.replicate i frC=C at hrs hrl hin ⊢;refine zK0 ?_;refine z5 rfl (fun hc=>?_) (fun hc=>?_)
 ·replace hc:=zC hc;refine zK0 ?_;refine q0z xk (Tryz.f16.body.getD .skip) ⟨LG n us++[(6,vI (i:Int))],HG (C++[frC]) [],4⟩ rfl 7 rfl ?_ ?_
  ·(refine q7 0 xk rfl rfl (z7 1 xk rfl rfl (zU 2 xk rfl rfl ?_));(first|refine z3l rfl (c42) rfl trivial rfl ?_|(refine z3n rfl (c42) rfl (fun r hr=>?_);subst hr));refine q8 ?_;refine zU 3 xk rfl rfl ?_;(refine q2p xk rfl rfl ?_);refine q8 ?_;refine zU 4 xk rfl rfl ?_;refine zK18 ?_;refine q8 ?_;refine q7 5 xk rfl rfl (zU 6 xk rfl rfl ?_);refine zK7 ?_;refine q8 ?_;refine w7 xk StF.nil ?_;(exact zJ))
  rw[← hrs];refine zK0 ?_;exact⟨i+1,by exact zJ,by omega,by omega⟩
 ·replace hc:=zC hc;rw[hin (by omega)];clear hrs hrl hin;have hCl:(List.replicate n frC).length≤8:=by rw[List.length_replicate];exact hn8
  generalize List.replicate n frC=C at hCl ⊢;clear c42;refine zK0 ?_;refine JK.loop (fun j:Nat=>⟨LG n us++[(7,vI (j:Int))],HG C (frP n (us.take j)),4⟩) (fun j=>j≤us.length) (fun j=>us.length-j) 0 (yyu _) (by exact zJ) fun j hj=>?_;have hsucc:j<us.length→frP n (us.take (j+1))=addPr (frP n (us.take j)) (prU n (us.getD j [])):=fun h=>by unfold frP;rw[yy2 h,List.foldl_append,yyg,yyl h];rfl
  have hall:j=us.length→frP n (us.take j)=frP n us:=fun e=>by rw[e,yxq]
  have hl60:(frP n (us.take j)).length≤j:=j1t n us j hj;generalize frP n (us.take j)=ps at hsucc hall hl60 ⊢;refine zK0 ?_;refine z5 rfl (fun hc=>?_) (fun hc=>?_)
  ·replace hc:=zC hc;have hj':j<us.length:=by omega
   have hsucc:=hsucc hj';obtain⟨u2,uB⟩:=hu (us.getD j []) (by rw[yyg,yyl hj'];exact yyy hj');have hz:us.getD (Int.toNat (j:Int)) upT.dflt=us.getD j []:=by rw[Int.toNat_natCast,yyg,yyg,yyl hj'];rfl
   refine zK0 ?_;have hb0:0≤(us.getD (Int.toNat (j:Int)) upT.dflt).getD (Int.toNat 0) (Ty.int .u8).dflt∧(us.getD (Int.toNat (j:Int)) upT.dflt).getD (Int.toNat 0) (Ty.int .u8).dflt≤255:=by rw[hz];exact uB _ (q8e (Int.toNat 0) (by rw[u2];decide))
   have hb1:0≤(us.getD (Int.toNat (j:Int)) upT.dflt).getD (Int.toNat 1) (Ty.int .u8).dflt∧(us.getD (Int.toNat (j:Int)) upT.dflt).getD (Int.toNat 1) (Ty.int .u8).dflt≤255:=by rw[hz];exact uB _ (q8e (Int.toNat 1) (by rw[u2];decide))
   have hn0:(n:Int)≠0:=by omega
   have m1:=Int.emod_nonneg ((us.getD (Int.toNat (j:Int)) upT.dflt).getD (Int.toNat 0) (Ty.int .u8).dflt) hn0;have m2:=Int.emod_lt_of_pos ((us.getD (Int.toNat (j:Int)) upT.dflt).getD (Int.toNat 0) (Ty.int .u8).dflt) (show 0<(n:Int) by omega);have m3:=Int.emod_nonneg ((us.getD (Int.toNat (j:Int)) upT.dflt).getD (Int.toNat 1) (Ty.int .u8).dflt) hn0;have m4:=Int.emod_lt_of_pos ((us.getD (Int.toNat (j:Int)) upT.dflt).getD (Int.toNat 1) (Ty.int .u8).dflt) (show 0<(n:Int) by omega);have hpr:prU n (us.getD j [])=[min ((us.getD (Int.toNat (j:Int)) upT.dflt).getD (Int.toNat 0) (Ty.int .u8).dflt % (n:Int)) ((us.getD (Int.toNat (j:Int)) upT.dflt).getD (Int.toNat 1) (Ty.int .u8).dflt % (n:Int)),max ((us.getD (Int.toNat (j:Int)) upT.dflt).getD (Int.toNat 0) (Ty.int .u8).dflt % (n:Int)) ((us.getD (Int.toNat (j:Int)) upT.dflt).getD (Int.toNat 1) (Ty.int .u8).dflt % (n:Int))]:=by rw[hz];rfl
   rw[hpr] at hsucc;refine p4 xk (Tryz.f16.body.getD .skip) ⟨LG n us++[(7,vI (j:Int)),(8,vI ((us.getD (Int.toNat (j:Int)) upT.dflt).getD (Int.toNat 0) (Ty.int .u8).dflt % (n:Int))),(9,vI ((us.getD (Int.toNat (j:Int)) upT.dflt).getD (Int.toNat 1) (Ty.int .u8).dflt % (n:Int)))],HG C ps,4⟩ rfl 18 rfl ?_ ?_
   ·(refine q7 0 xk rfl rfl (q7 1 xk rfl rfl (q7 2 xk rfl rfl (q7 3 xk rfl rfl (q7 6 xk rfl rfl (q7 8 xk rfl rfl (q7 9 xk rfl rfl (q7 10 xk rfl rfl (q7 11 xk rfl rfl (q7 14 xk rfl rfl (z7 4 xk rfl rfl (z7 5 xk rfl rfl (z7 7 xk rfl rfl (z7 12 xk rfl rfl (z7 13 xk rfl rfl (z7 15 xk rfl rfl (z7 16 xk rfl rfl (z7 17 xk rfl rfl ?_)))))))))))))))));refine w7 xk ?_ ?_;exact zS;(exact zJ))
   generalize (us.getD (Int.toNat (j:Int)) upT.dflt).getD (Int.toNat 0) (Ty.int .u8).dflt % (n:Int)=A at m1 m2 hsucc ⊢;generalize (us.getD (Int.toNat (j:Int)) upT.dflt).getD (Int.toNat 1) (Ty.int .u8).dflt % (n:Int)=B at m3 m4 hsucc ⊢;clear hb0 hb1 hpr hz;refine zK0 ?_;refine JK.loop (fun k:Nat=>⟨LG n us++[(7,vI (j:Int)),(10,.lf (.optr 4 [])),(11,vB (decide (A=B)||(ps.take k).contains [min A B,max A B])),(12,vI (k:Int))],HG C ps++[(4,.cell prT (.val prT [min A B,max A B]))],5⟩) (fun k=>k≤ps.length) (fun k=>ps.length-k) 0 (yyu _) (by rw[show(decide (A=B)||(ps.take 0).contains [min A B,max A B])=(A==B) by simp[BEq.beq]];exact zJ) fun k hk=>?_
   have hfs:k<ps.length→(bif (decide (A=B)||(ps.take k).contains [min A B,max A B]) then true else prT.eqB (ps.getD (Int.toNat (k:Int)) prT.dflt) [min A B,max A B])=(decide (A=B)||(ps.take (k+1)).contains [min A B,max A B]):=fun h=>con_step h;have hall2:k=ps.length→(decide (A=B)||(ps.take k).contains [min A B,max A B])=(decide (A=B)||ps.contains [min A B,max A B]):=fun e=>by rw[e,yxq]
   generalize (decide (A=B)||(ps.take k).contains [min A B,max A B])=b at hfs hall2 ⊢;refine zK0 ?_;refine z5 rfl (fun hd=>?_) (fun hd=>?_)
   ·replace hd:=zC hd;have hfs:=hfs (by omega);refine zK0 ?_;refine q0z xk (Tryz.f16.body.getD .skip) ⟨LG n us++[(7,vI (j:Int)),(10,.lf (.optr 4 [])),(11,vB (bif b then true else prT.eqB (ps.getD (Int.toNat (k:Int)) prT.dflt) [min A B,max A B])),(12,vI (k:Int))],HG C ps++[(4,.cell prT (.val prT [min A B,max A B]))],5⟩ rfl 11 rfl ?_ ?_
    ·(refine q7 0 xk rfl rfl (q7 1 xk rfl rfl (q9 2 xk rfl rfl rfl (q9 4 xk rfl rfl rfl ?_)));refine j9 3 [7] xk StF.nil (BrF.one rfl rfl ?_ (BrF.one rfl rfl ?_ BrF.nil));(· refine zK10 ?_;refine q8 ?_;refine q9 5 xk rfl rfl rfl ?_;refine j9 6 [7] xk StF.nil (BrF.one rfl rfl ?_ (BrF.one rfl rfl ?_ BrF.nil));(· refine zK10 ?_;refine q8 ?_;refine zU 7 xk rfl rfl ?_;refine zK10 ?_;refine q8 ?_;refine zU 8 xk rfl rfl ?_;refine zK10 ?_;refine q8 ?_;refine q7 9 xk rfl rfl (q7 10 xk rfl rfl ?_);refine w7 xk StF.nil ?_;(exact zJ));(· refine zK10 ?_;refine q8 ?_;refine zU 6 xk rfl rfl ?_;refine zK10 ?_;refine q8 ?_;refine zU 8 xk rfl rfl ?_;exact zB2));(· refine zK10 ?_;refine q8 ?_;refine zU 3 xk rfl rfl ?_;refine zK10 ?_;refine q8 ?_;refine q9 5 xk rfl rfl rfl (zU 6 xk rfl rfl ?_);refine zK10 ?_;refine q8 ?_;refine zU 8 xk rfl rfl ?_;exact zB2))
    rw[hfs];refine zK0 ?_;exact⟨k+1,by exact zJ,by omega,by omega⟩
   ·replace hd:=zC hd;rw[hall2 (by omega)];have hadd:addPr ps [min A B,max A B]=if (decide (A=B)||ps.contains [min A B,max A B])=true then ps else ps++[[min A B,max A B]]:=j28 ps A B;rw[hadd] at hsucc;generalize (decide (A=B)||ps.contains [min A B,max A B])=q at hsucc ⊢;refine zK0 ?_;refine z5 rfl (fun he=>?_) (fun he=>?_)
    ·rw[if_neg (by simpa using he)] at hsucc;refine zK0 ?_;refine⟨j+1,?_,by omega,by omega⟩;rw[hsucc];exact zJ
    ·rw[if_pos (by simpa using he)] at hsucc;refine zK0 ?_;refine⟨j+1,?_,by omega,by omega⟩;rw[hsucc];exact zJ
  ·replace hc:=zC hc;rw[hall (by omega)]
   (refine z1j [2,3] [4,5] rfl ?_)
   refine z7k 1 rfl rfl ?_;refine zK0 ?_;refine⟨.inl rfl,_,_,rfl,trivial,?_⟩;rfl
end Go.Proofs.YtjjkdjbbkagclaaGreatDoor
namespace Go.Proofs.YtjjkdjbbkagclaaGreatDoor
open Go Go.RowKit Ox
attribute [local irreducible] JC JL JK JW
end Go.Proofs.YtjjkdjbbkagclaaGreatDoor
namespace Go.Proofs.YtjjkdjbbkagclaaGreatDoor
open Go Go.RowKit Ox Ox.St
attribute [local irreducible] JC JL JK JW
abbrev rwT:Ty:=.arr 8 (.int .i64)
abbrev mxT:Ty:=.arr 8 rwT
abbrev tbT:Ty:=.cons beT (.cons mxT .nil)
def put2(C:List (List Int))(i j:Nat):List (List Int):=C.set i ((C.getD i rwT.dflt).set j 1)
def crM(ps:List (List Int)):List (List Int):=ps.foldl (fun C p=>put2 (put2 C (p0 p).toNat (p1 p).toNat) (p1 p).toNat (p0 p).toNat) mxT.dflt
def crAt(C:List (List Int))(i j:Nat):Int:=(C.getD i rwT.dflt).getD j 0
def mx8(C:List (List Int)):Prop:=C.length=8∧∀ i,i<8→(C.getD i rwT.dflt).length=8
def z37(h:mx8 C)(i j:Nat)(hi:i<8):mx8 (put2 C i j):=by
 refine⟨by simp[put2,h.1],fun k hk=>?_⟩;unfold put2;rw[yyg,List.getElem?_set];by_cases e:i=k
 ·subst e;rw[if_pos rfl,if_pos (by rw[h.1];omega),Option.getD_some,List.length_set];exact h.2 i hi
 ·rw[if_neg e,← yyg];exact h.2 k hk
def z9r(h:mx8 C){i j:Nat}(hi:i<8)(hj:j<8)(a b:Nat):crAt (put2 C i j) a b=if i=a∧j=b then 1 else crAt C a b:=by
 unfold crAt put2;rw[yyg (l:=C.set _ _),List.getElem?_set];by_cases e:i=a
 ·subst e;rw[if_pos rfl,if_pos (by rw[h.1];exact hi),Option.getD_some,yyg,List.getElem?_set];by_cases e2:j=b
  ·subst e2;rw[if_pos rfl,if_pos (by rw[h.2 i hi];exact hj),if_pos ⟨rfl,rfl⟩];rfl
  ·rw[if_neg e2,if_neg (fun q=>e2 q.2),← yyg]
 ·rw[if_neg e,if_neg (fun q=>e q.1),← yyg]
def crs(ps:List (List Int))(a b:Nat):Bool:=ps.any fun p=>decide (((p0 p).toNat=a∧(p1 p).toNat=b)∨((p0 p).toNat=b∧(p1 p).toNat=a))
def z08(ps:List (List Int))(a b:Nat):crs ps a b=crs ps b a:=by unfold crs;congr 1;funext p;rw[decide_eq_decide];exact Or.comm
def q7i:∀ (ps:List (List Int)),(∀ p∈ps,(p0 p).toNat<8∧(p1 p).toNat<8)→mx8 (crM ps)∧∀ a b,a<8→b<8→crAt (crM ps) a b=if crs ps a b=true then 1 else 0:=by
 have key:∀ (ps:List (List Int)) (C:List (List Int)),(∀ p∈ps,(p0 p).toNat<8∧(p1 p).toNat<8)→mx8 C→mx8 (ps.foldl (fun C p=>put2 (put2 C (p0 p).toNat (p1 p).toNat) (p1 p).toNat (p0 p).toNat) C) ∧
   ∀ a b,a<8→b<8→crAt (ps.foldl (fun C p=>put2 (put2 C (p0 p).toNat (p1 p).toNat) (p1 p).toNat (p0 p).toNat) C) a b=if crs ps a b=true then 1 else crAt C a b:=by
  intro ps;induction ps with
  |nil=>exact fun C _ hC=>⟨hC,fun a b _ _=>by simp[crs]⟩
  |cons p ps ih=>
   intro C hp hC;obtain⟨h1,h2⟩:=hp p yyj;have hm:=z37 (z37 hC _ (p1 p).toNat h1) _ (p0 p).toNat h2;obtain⟨i1,i2⟩:=ih _ (fun q hq=>hp q (yyi _ hq)) hm;refine⟨i1,fun a b ha hb=>?_⟩;rw[List.foldl_cons,i2 a b ha hb,z9r (z37 hC _ _ h1) h2 h1,z9r hC h1 h2];have hcons:crs (p::ps) a b=(decide (((p0 p).toNat=a∧(p1 p).toNat=b)∨((p0 p).toNat=b∧(p1 p).toNat=a))||crs ps a b):=rfl;rw[hcons];cases crs ps a b with
   |true=>simp
   |false=>have hcomm:((p1 p).toNat=a∧(p0 p).toNat=b)↔((p0 p).toNat=b∧(p1 p).toNat=a):=And.comm;generalize (p0 p).toNat=u at *;generalize (p1 p).toNat=v at *;by_cases c2:u=b∧v=a<;>by_cases c3:u=a∧v=b<;>simp[c2,c3,hcomm]
 intro ps hp;have hz:mx8 mxT.dflt:=⟨rfl,fun i hi=>(by decide:∀ i<8,(List.getD mxT.dflt i rwT.dflt).length=8) i hi⟩;obtain⟨h1,h2⟩:=key ps _ hp hz;refine⟨h1,fun a b ha hb=>?_⟩;rw[show crM ps=ps.foldl _ mxT.dflt from rfl,h2 a b ha hb];rw[(by decide:∀ a<8,∀ b<8,crAt mxT.dflt a b=0) a ha b hb]
def crM_snoc(ps:List (List Int))(h:i<ps.length):crM (ps.take (i+1))=put2 (put2 (crM (ps.take i)) (p0 (ps.getD i prT.dflt)).toNat (p1 (ps.getD i prT.dflt)).toNat) (p1 (ps.getD i prT.dflt)).toNat (p0 (ps.getD i prT.dflt)).toNat:=by unfold crM;rw[yy2 h,List.foldl_append,k8 ps h];rfl
def z66{ps:List (List Int)}(h:benE n ps=0):(1≤n∧n≤8)∧ps.length≤28∧∀ i,i<ps.length→0≤p0 (ps.getD i prT.dflt)∧p0 (ps.getD i prT.dflt)<p1 (ps.getD i prT.dflt)∧p1 (ps.getD i prT.dflt)<n:=by
 unfold benE at h;split at h
 ·cases h
 ·rename_i h1;split at h
  ·cases h
  ·rename_i h2;refine⟨by omega,by omega,fun i hi=>?_⟩;have hb:badP n ps i=false:=by
    cases hb:badP n ps i with
    |false=>rfl
    |true=>exact absurd (List.any_eq_true.2 ⟨i,yyr.2 hi,hb⟩) h2
   unfold badP at hb;rw[decide_eq_false_iff_not] at hb;generalize p0 (ps.getD i prT.dflt)=u at *;generalize p1 (ps.getD i prT.dflt)=v at *;omega
def z67{ps:List (List Int)}(h:benE n ps=0):∀ p∈ps,(p0 p).toNat<8∧(p1 p).toNat<8:=fun p hp=>by obtain⟨h1,_,h2⟩:=z66 h;obtain⟨i,hi,rfl⟩:=yx5.1 hp;have:=h2 i hi;rw[k8 ps hi] at this;omega
abbrev tbV(n:Int)(ps:List (List Int)):tbT.den:=(mkB n ps,crM ps,())
abbrev vTb(n:Int)(ps:List (List Int)):AV:=.val (.ptr tbT) (some (tbV n ps))
def fn86(n:Int)(ps:List (List Int))(hb:benE n ps=0):Ox.Fn Tryz.prog 86 (.acons (vBe n ps) .anil) (·=vTb n ps):=by
 refine Ox.Fn.intro xok Tryz.func86 rfl Tryz.call86 (yyc rfl) (fun E M0 up=>?_);refine z9 ?_;obtain⟨_,hb3,hb4⟩:=z66 hb;refine zK0 ?_;refine JK.loop (fun i:Nat=>⟨[(1,.lf (.optr 0 [])),(3,.lf (.optr 1 [])),(10,.val (.slice prT) ps),(11,vI ps.length),(12,vI (i:Int))],[(0,.cell beT (vBe n ps)),(1,.cell tbT (.val tbT (mkB n ps,crM (ps.take i),())))],2⟩) (fun i=>i≤ps.length) (fun i=>ps.length-i) 0 (yyu _) (by exact zJ) fun i hi=>?_;have hsn:=crM_snoc ps (i:=i);have hb5:=hb4 i;refine zK0 ?_;refine z5 rfl (fun hc=>?_) (fun hc=>?_)
 ·replace hc:=zC hc;have hi':i<ps.length:=by omega
  have hz:ps.getD (Int.toNat (i:Int)) prT.dflt=ps.getD i prT.dflt:=rfl;have hsn:=hsn hi';obtain⟨q1,q2,q3⟩:=hb5 hi';refine zK0 ?_;rw[hz];generalize crM (ps.take i)=C at hsn ⊢;generalize ps.getD i prT.dflt=p at hsn q1 q2 q3 ⊢;have q4:0≤p.getD (Int.toNat 0) (Ty.int IntKind.i64).dflt∧p.getD (Int.toNat 0) (Ty.int IntKind.i64).dflt<8:=by show 0≤p0 p∧p0 p<8;omega
  have q5:0≤p.getD (Int.toNat 1) (Ty.int IntKind.i64).dflt∧p.getD (Int.toNat 1) (Ty.int IntKind.i64).dflt<8:=by show 0≤p1 p∧p1 p<8;omega
  refine q0z xk (Tryz.f86.body.getD .skip) ⟨[(1,.lf (.optr 0 [])),(3,.lf (.optr 1 [])),(10,.val (.slice prT) ps),(11,vI ps.length),(12,vI (i:Int))],[(0,.cell beT (vBe n ps)),(1,.cell tbT (.val tbT (mkB n ps,put2 (put2 C (p0 p).toNat (p1 p).toNat) (p1 p).toNat (p0 p).toNat,())))],2⟩ rfl 20 rfl ?_ ?_
  ·(refine q7 0 xk rfl rfl (q7 1 xk rfl rfl (q7 3 xk rfl rfl (q7 5 xk rfl rfl (q7 6 xk rfl rfl (q7 8 xk rfl rfl (q7 10 xk rfl rfl (q7 11 xk rfl rfl (q7 15 xk rfl rfl (q7 16 xk rfl rfl (z7 2 xk rfl rfl (z7 4 xk rfl rfl (z7 7 xk rfl rfl (z7 9 xk rfl rfl (z7 12 xk rfl rfl (z7 13 xk rfl rfl (z7 17 xk rfl rfl (zU 14 xk rfl rfl ?_)))))))))))))))));refine zK7 ?_;refine q8 ?_;refine z7 18 xk rfl rfl (zU 19 xk rfl rfl ?_);refine zK7 ?_;refine q8 ?_;refine w7 xk ?_ ?_;exact zS;(exact zJ))
  rw[← hsn];refine zK0 ?_;exact⟨i+1,by exact zJ,by omega,by omega⟩
 ·replace hc:=zC hc;have:i=ps.length:=by omega
  rw[this,yxq]
  (refine z1j [1] [3] rfl ?_)
  refine zK0 ?_;refine⟨.inl rfl,_,_,rfl,trivial,?_⟩;rfl
abbrev vT2p(n:Int)(ps:List (List Int))(e:Int):AV:=.tup (.acons (vTb n ps) (.acons (vI e) .anil))
def q58{ps:List (List Int)}(h:lstE n ps l=0):benE n ps=0∧l.length≤60∧∀ x∈l,(0-n≤x∧x≤n)∧x≠0:=by
 unfold lstE at h;split at h
 ·rename_i h1;exact absurd h h1
 ·rename_i h1;split at h
  ·cases h
  ·split at h
   ·rename_i h3;exact⟨Classical.not_not.1 h1,by omega,fun x hx=>⟨h3.1 x hx,fun e=>h3.2 (e▸hx)⟩⟩
   ·cases h
def fn45(n:Int)(ps:List (List Int))(LL:List (List Int))(hb:benE n ps=0)(hl:∀ l∈LL,lstE n ps l=0):Ox.Fn Tryz.prog 45 (.acons (vBe n ps) (.acons (vLL LL) .anil)) (·=vT2p n ps 0):=by
 refine Ox.Fn.intro xok Tryz.func45 rfl Tryz.call45 (yyc rfl) (fun E M0 up=>?_);refine z9 ?_;refine JK.lenOf 1 rfl fun hlen=>?_;replace hlen:LL.length≤9223372036854775807:=hlen.1;have hn:=(z66 hb).1;refine zK0 ?_;refine JK.loop (fun i:Nat=>⟨[(2,.lf (.optr 0 [])),(9,vLL LL),(10,vI LL.length),(11,vI (i:Int))],[(0,.cell beT (vBe n ps))],1⟩) (fun i=>i≤LL.length) (fun i=>LL.length-i) 0 (yyu _) (by exact zJ) fun i hi=>?_;have h62:=fn86 n ps hb;refine zK0 ?_;refine z5 rfl (fun hc=>?_) (fun hc=>?_)
 ·replace hc:=zC hc;have hi':i<LL.length:=by omega
  have h61:=fn85 n ps (LL.getD i []) (by omega);rw[hl _ (by rw[k8 LL hi'];exact yyy hi')] at h61
  (repeat (first|refine zs rfl ?_|refine zg rfl rfl rfl ?_|refine v6 ?_|refine w8 ?_|refine zc rfl (h61) rfl rfl ?_|refine ze rfl (h61) rfl ?_|refine zk rfl rfl (fun _=>h61) rfl rfl ?_))
  refine z5 rfl (fun h=>absurd h (by decide)) (fun _=>?_);refine zK0 ?_;exact⟨i+1,by exact zJ,by omega,by omega⟩
 ·(repeat (first|refine zs rfl ?_|refine zg rfl rfl rfl ?_|refine v6 ?_|refine w8 ?_|refine zc rfl (h62) rfl rfl ?_|refine ze rfl (h62) rfl ?_|refine zk rfl rfl (fun _=>h62) rfl rfl ?_))
  refine⟨.inl rfl,_,_,rfl,trivial,?_⟩;rfl
def fn92'(s:Int)(h0:s≠0)(h:lnS s<8):Ox.Fn Tryz.prog 92 (.acons (vI s) .anil) (·=vI (lnS s:Nat)):=by refine Ox.Fn.intro xok Tryz.func92 rfl Tryz.call92 (yyc rfl) (fun E M0 up=>?_);refine z9 ?_;unfold lnS at h;refine zK9 ?_;refine⟨.inl rfl,_,_,rfl,trivial,?_⟩;refine congrArg vI ?_;unfold lnS;omega
def canB(ps:List (List Int))(a b:Int):Bool:=decide (lnS a≠lnS b)&&!crs ps (lnS a) (lnS b)
def fn142{ps:List (List Int)}(hb:benE n ps=0){a b:Int}(ha0:a≠0)(ha:lnS a<8)(hb0:b≠0)(hbl:lnS b<8):Ox.Fn Tryz.prog 142 (.acons (vTb n ps) (.acons (vI a) (.acons (vI b) .anil))) (·=vB (canB ps a b)):=by
 refine Ox.Fn.intro xok Tryz.func142 rfl Tryz.call142 (yyc rfl) (fun E M0 up=>?_);refine z9 ?_;have c1:=fn92' a ha0 ha;have c2:=fn92' b hb0 hbl;obtain⟨hm8,hcr⟩:=q7i ps (z67 hb);have hx:=hcr (lnS a) (lnS b) ha hbl;unfold canB;generalize lnS a=u at ha c1 hx ⊢;generalize lnS b=v at hbl c2 hx ⊢;have hV:(bif ((u:Int) != (v:Int)) then(((crM ps).getD (Int.toNat (u:Int)) rwT.dflt).getD (Int.toNat (v:Int)) (Ty.int .i64).dflt==0) else false)=(decide (u≠v)&&!crs ps u v):=by
  have h1:((crM ps).getD (Int.toNat (u:Int)) rwT.dflt).getD (Int.toNat (v:Int)) (Ty.int .i64).dflt=crAt (crM ps) u v:=rfl;rw[h1,hx];by_cases e:u=v
  ·subst e;simp
  ·have:((u:Int) != (v:Int))=true:=by simp;omega
   rw[this];cases crs ps u v<;>simp[e]
 rw[← hV];clear hV;refine zK9 ?_;refine p4 xk (Tryz.f142.body.getD .skip) ⟨[(6,vB (bif ((u:Int) != (v:Int)) then(((crM ps).getD (Int.toNat (u:Int)) rwT.dflt).getD (Int.toNat (v:Int)) (Ty.int .i64).dflt==0) else false))],[],0⟩ rfl 19 rfl ?_ ?_
 ·(refine q7 0 xk rfl rfl (q7 2 xk rfl rfl (zU 1 xk rfl rfl ?_));refine zK15 ?_;refine q8 ?_;refine zU 3 xk rfl rfl ?_;refine zK15 ?_;refine q8 ?_;refine q7 4 xk rfl rfl (q7 5 xk rfl rfl (q9 6 xk rfl rfl rfl (q9 7 xk rfl rfl rfl (q9 9 xk rfl rfl rfl (q9 11 xk rfl rfl rfl (q9 12 xk rfl rfl rfl (zU 8 xk rfl rfl ?_)))))));refine zK15 ?_;refine q8 ?_;refine q9 13 xk rfl rfl rfl (zU 10 xk rfl rfl ?_);refine zK15 ?_;refine q8 ?_;refine q9 14 xk rfl rfl rfl (zU 15 xk rfl rfl ?_);refine zK15 ?_;refine q8 ?_;refine q9 16 xk rfl rfl rfl (q7 17 xk rfl rfl (q7 18 xk rfl rfl ?_));refine w7 xk StF.nil ?_;(exact zJ))
 refine zK9 ?_;refine⟨.inl rfl,_,_,rfl,trivial,?_⟩;rfl
abbrev drT:Ty:=.cons (.int .i64) .nil
abbrev vDr(x:Nat):AV:=.val drT ((x:Int),())
def eqRw:EqT Tryz.prog rwT 160:=.of (by decide +kernel)
def z1b(x k:Nat):(((((x:Nat):Int) / 2 ^ (Int.toNat (k:Int))).toNat &&& ((1:Int)).toNat:Nat):Int)=if x.testBit k=true then 1 else 0:=by
 have e:((x:Nat):Int) / 2 ^ (Int.toNat (k:Int))=((x / 2 ^ k:Nat):Int):=by rw[Int.toNat_natCast];push_cast;rfl
 rw[e,Int.toNat_natCast,show((1:Int)).toNat=1 from rfl,Nat.and_one_is_mod,Nat.testBit_eq_decide_div_mod_eq];have:=Nat.mod_two_eq_zero_or_one (x / 2 ^ k);rcases this with h|h<;>simp[h]
def wB(ps:List (List Int))(l:List Int)(x:Nat)(s:Int)(k:Nat):Bool:=!x.testBit k&&!canB ps (l.getD k 0) s
def wN(ps:List (List Int))(l:List Int)(x:Nat)(s:Int)(i:Nat):Nat:=((List.range i).filter (wB ps l x s)).length
def wN_succ(ps:List (List Int))(l:List Int)(x:Nat)(s:Int)(i:Nat):wN ps l x s (i+1)=if wB ps l x s i=true then wN ps l x s i+1 else wN ps l x s i:=by
 unfold wN;rw[List.range_succ,List.filter_append,yy7];by_cases h:wB ps l x s i=true
 ·rw[if_pos h,List.filter_cons_of_pos h];rfl
 ·rw[if_neg h,yx8 h];rfl
open Ox.Gl in
def z5m:∀ {A:List Int} {u:Nat} {v:Int},u<A.length→sumI (A.set u v)=sumI A-A.getD u 0+v
 |a::A,0,v,_=>by simp[q2b];omega
 |a::A,u+1,v,h=>by have:=z5m (A:=A) (u:=u) (v:=v) (by simpa using h);rw[List.set_cons_succ,q2b,q2b,this];simp;omega
open Ox.Gl in
def z80{A:List Int}(h:k<A.length):sumI (A.take (k+1))=sumI (A.take k)+A.getD k 0:=by rw[yy2 h,q99,k8 A h];simp[sumI]
open Ox.Gl in
def q98:∀ {A:List Int},(∀ x∈A,0≤x)→0≤sumI A∧∀ x∈A,x≤sumI A
 |[],_=>⟨Int.le_refl _,fun x h=>by cases h⟩
 |a::A,h=>by
  obtain⟨h1,h2⟩:=q98 (A:=A) fun x hx=>h x (yyi _ hx);have h3:=h a yyj;rw[q2b];refine⟨by omega,fun x hx=>?_⟩;rcases yyo.1 hx with rfl|hx
  ·omega
  ·have:=h2 x hx;omega
open Ox.Gl in
set_option maxHeartbeats 1000000 in
def fn89{ps:List (List Int)}(hb:benE n ps=0)(hl:∀ s∈l,s≠0∧lnS s<8)(hl16:l.length≤16){x i:Nat}(hx:x<2 ^ 16)(hs0:s≠0)(hs:lnS s<8)(hi:i≤l.length) :
  Ox.Fn Tryz.prog 89 (.acons (vTb n ps) (.acons (vL l) (.acons (vDr x) (.acons (vI (i:Int)) (.acons (vI s) .anil))))) (·=vI (wN ps l x s i:Nat)):=by
 refine Ox.Fn.intro xok Tryz.func89 rfl Tryz.call89 (yyc rfl) (fun E M0 up=>?_);refine z9 ?_;refine zK9 ?_;refine JK.loop (σ:=Nat×List Int) (fun q=>⟨[(0,vTb n ps),(1,vL l),(4,vI s),(7,.lf (.optr 0 [])),(11,.lf (.optr 1 [])),(12,.lf (.optr 2 [])),(18,vI (i:Int)),(19,vI (q.1:Int))],[(0,.cell drT (vDr x)),(1,.cell rwT (.val rwT (List.replicate 8 0))),(2,.cell rwT (.val rwT q.2))],3⟩)
  (fun q=>q.1≤i∧q.2.length=8∧(∀ y∈q.2,0≤y)∧sumI q.2=(wN ps l x s q.1:Nat)) (fun q=>i-q.1) (0,List.replicate 8 0) ⟨yyu _,rfl,by simp,rfl⟩ (by exact zJ) fun⟨k,A⟩ ⟨hk,hA,hAn,hAs⟩=>?_
 dsimp only at hk hA hAn hAs ⊢;have hsn:=wN_succ ps l x s k;have hle:wN ps l x s k≤k:=by unfold wN;have:=yx1 (wB ps l x s) (List.range k);simpa using this
 obtain⟨hS0,hSb⟩:=q98 hAn;refine zK9 ?_;refine z5 rfl (fun hc=>?_) (fun hc=>?_)
 ·replace hc:=zC hc;have hk':k<i:=by omega
  have hkl:k<l.length:=by omega
  obtain⟨l0,l8⟩:=hl (l.getD k 0) (by rw[k8 l hkl];exact yyy hkl);have c142:=fn142 hb l0 l8 hs0 hs;have c92:=fn92' (l.getD k 0) l0 l8;have hwb:wB ps l x s k=(!x.testBit k&&!canB ps (l.getD k 0) s):=rfl;have hbt:=z1b x k;have hz:l.getD (Int.toNat (k:Int)) (Ty.int .i64).dflt=l.getD k 0:=rfl;rw[← hz] at c142 c92;have hu:=hSb (A.getD (lnS (l.getD k 0)) 0) (by rw[k8 A (by omega)];exact yyy _);have hu2:=hAn (A.getD (lnS (l.getD k 0)) 0) (by rw[k8 A (by omega)];exact yyy _);have hss:=z5m (A:=A) (u:=lnS (l.getD k 0)) (v:=A.getD (lnS (l.getD k 0)) 0+1) (by omega);rw[hz] at c142 c92;generalize hlk:l.getD k 0=y at c142 c92 hwb hz l0 l8 hu hu2 hss;generalize canB ps y s=cb at c142 hwb;generalize lnS y=u at c92 l8 hu hu2 hss;have hV:(bif (((((((x:Nat):Int) / 2 ^ (Int.toNat (k:Int))).toNat &&& ((1:Int)).toNat:Nat):Int))==0) then !cb else false)=wB ps l x s k:=by rw[hbt,hwb];cases x.testBit k<;>simp
  have hxp:(0:Int)≤((x:Nat):Int) / 2 ^ (Int.toNat (k:Int))∧((x:Nat):Int) / 2 ^ (Int.toNat (k:Int))≤65536:=by rw[Int.toNat_natCast,show((x:Nat):Int) / 2 ^ k=((x / 2 ^ k:Nat):Int) by push_cast;rfl];have:=Nat.div_le_self x (2 ^ k);generalize x / 2 ^ k=z at this ⊢;omega
  refine zK21 ?_;rw[hz];refine zK21 ?_;refine z5 rfl (fun hd=>?_) (fun hd=>?_)
  ·rw[if_pos (hV.symm.trans hd)] at hsn;clear hV hd;refine zK22 ?_;rw[hz];refine zK22 ?_;refine⟨(k+1,A.set u (A.getD u 0+1)),by exact zJ,⟨by dsimp only;omega,by simpa using hA,fun y hy=>?_,?_⟩,by dsimp only;omega⟩
   ·rcases List.mem_or_eq_of_mem_set hy with h|h
    ·exact hAn y h
    ·omega
   ·dsimp only;rw[hss,hsn];omega
  ·rw[if_neg (fun h=>by have:=hV.trans h;rw[hd] at this;cases this)] at hsn;refine zK9 ?_;exact⟨(k+1,A),by exact zJ,⟨by dsimp only;omega,hA,hAn,by dsimp only;rw[hsn];exact hAs⟩,by dsimp only;omega⟩
 ·replace hc:=zC hc;have hki:k=i:=by omega
  subst hki;refine zK9 ?_;refine z5 rfl (fun hd=>?_) (fun hd=>?_)
  ·have e:A=List.replicate 8 0:=y5.1 hd;refine zK9 ?_;refine⟨.inl rfl,_,_,rfl,trivial,?_⟩;refine congrArg vI ?_;rw[← hAs,e];rfl
  ·refine zK9 ?_;refine JK.loop (fun j:Nat=>⟨[(14,vI (sumI (A.take j))),(51,.val rwT A),(52,vI (j:Int))],[],3⟩) (fun j=>j≤8) (fun j=>8-j) 0 (yyu _) (by exact zJ) fun j hj=>?_;have hst:=fun q=>z80 (A:=A) (k:=j) q;have hb1:0≤sumI (A.take j)∧sumI (A.take j)≤100:=by
    have e1:sumI A=sumI (A.take j)+sumI (A.drop j):=by rw[← q99,List.take_append_drop]
    have e2:=(q98 (A:=A.take j) fun x hx=>hAn x (List.mem_of_mem_take hx)).1;have e3:=(q98 (A:=A.drop j) fun x hx=>hAn x (List.mem_of_mem_drop hx)).1;omega
   have hfin:j=8→sumI (A.take j)=sumI A:=fun e=>by rw[yxr (by omega)]
   generalize sumI (A.take j)=z at hst hb1 hfin ⊢;refine zK9 ?_;refine z5 rfl (fun hc=>?_) (fun hc=>?_)
   ·replace hc:=zC hc;have hj8:j<8:=by omega
    have hzA:A.getD (Int.toNat (j:Int)) (Ty.int .i64).dflt=A.getD j 0:=rfl;have ha1:=hSb (A.getD j 0) (by rw[k8 A (by omega)];exact yyy _);have ha2:=hAn (A.getD j 0) (by rw[k8 A (by omega)];exact yyy _);have hst:=hst (by omega);rw[← hzA] at ha1 ha2;refine zK9 ?_;refine⟨j+1,?_,by omega,by omega⟩;rw[hst];exact zJ
   ·replace hc:=zC hc;rw[hfin (by omega),hAs];refine zK9 ?_;refine⟨.inl rfl,_,_,rfl,trivial,?_⟩;rfl
abbrev rsT:Ty:=.arr 8 (.slice (.int .i64))
abbrev piT:Ty:=.cons (.ptr tbT) (.cons rsT .nil)
def fn92(s:Int)(h0:s≠0)(h:lnS s<8):Ox.Fn Tryz.prog 92 (.acons (vI s) .anil) (·=vI (lnS s:Nat)):=by refine Ox.Fn.intro xok Tryz.func92 rfl Tryz.call92 (yyc rfl) (fun E M0 up=>?_);refine z9 ?_;unfold lnS at h;refine zK0 ?_;refine⟨.inl rfl,_,_,rfl,trivial,?_⟩;refine congrArg vI ?_;unfold lnS;omega
abbrev piV(n:Int)(ps:List (List Int)):AV:=.mix (vTb n ps) (.mix (.mix (.lf (.osl 1)) (.mix (.lf (.osl 2)) (.mix (.lf (.osl 3)) (.mix (.lf (.osl 4)) (.mix (.lf (.osl 5)) (.mix (.lf (.osl 6)) (.mix (.lf (.osl 7)) (.mix (.lf (.osl 8)) (.val (.arr 0 (.slice (.int .i64))) []))))))))) (.val .nil ()))
abbrev piH(n:Int)(ps:List (List Int))(R:Nat→List Int):List (Nat×HO):=[(0,.cell piT (piV n ps)),(1,.sl 3 (.int .i64) (R 0)),(2,.sl 3 (.int .i64) (R 1)),(3,.sl 3 (.int .i64) (R 2)),(4,.sl 3 (.int .i64) (R 3)),(5,.sl 3 (.int .i64) (R 4)),(6,.sl 3 (.int .i64) (R 5)),(7,.sl 3 (.int .i64) (R 6)),(8,.sl 3 (.int .i64) (R 7))]
abbrev fr63(l:List Int)(i:Nat):List (Nat×AV):=[(5,.lf (.optr 0 [])),(11,vL l),(12,vI l.length),(13,vI (i:Int))]
def updK(T:Nat→List Int)(k:Nat)(y:List Int):Nat→List Int:=fun j=>cond (Nat.beq j k) y (T j)
def layK(X:Nat→Nat→Bool)(R:Nat→List Int)(s:Int)(k:Nat):Nat→List Int:=fun j=>cond (Nat.blt j k) (layR X R s j) (R j)
def blt_d(a b:Nat):Nat.blt a b=decide (a<b):=by rw[yyz,yys,Nat.blt_eq]
def beq_d(a b:Nat):Nat.beq a b=decide (a=b):=by rw[yyz,yys,Nat.beq_eq]
def layK_at(X:Nat→Nat→Bool)(R:Nat→List Int)(s:Int)(k:Nat):layK X R s k k=R k:=by unfold layK;rw[blt_d];simp
def j1e(X:Nat→Nat→Bool)(R:Nat→List Int)(s:Int)(k:Nat):layK X R s (k+1)=updK (layK X R s k) k (layR X R s k):=by
 funext j;unfold updK layK;rw[blt_d,blt_d,beq_d];rcases Nat.lt_trichotomy j k with h|h|h
 ·have h1:¬ j=k:=by omega
  have h2:j<k+1:=by omega
  simp[h,h1,h2]
 ·subst h;simp
 ·have h1:¬ j=k:=by omega
  have h2:¬ j<k+1:=by omega
  have h3:¬ j<k:=by omega
  simp[h1,h2,h3]
def undB(R:Nat→List Int)(s:Int):Bool:=decide ((R (lnS s)).getLast?=some (-s))
set_option maxHeartbeats 8000000 in
def lay_in{ps:List (List Int)}(hb:benE n ps=0)(l:List Int)(i:Nat)(R:Nat→List Int)(s:Int)(h0:s≠0)(hs:lnS s<8)(hR:∀ k,(R k).length≤100)
  (hu:undB R s=true→∀ k,k<8→k=lnS s∨crs ps (lnS s) k=true→R k≠[])
  {E:World} {M0 M1 M2:Mem} {nn n1:Nat} {up up1 up2:Nat→Nat→Value} {K:AV→List (Nat×AV)→List (Nat×HO)→Nat→Prop} (hK:K (resV .anil) (fr63 l i) ((9,.fr 0 [])::piH n ps (layR (crs ps) R s)) 11) :
  JK (Ctx.sub (Ctx.sub ⟨Tryz.prog,tys,ets,mts,E,M0,nn,none,up,0⟩ M1 n1 none up1) M2 Tryz.f90.ntmps none up2) [.code (Tryz.f90.body.getD .skip)]
   (inlQ (Ctx.sub ⟨Tryz.prog,tys,ets,mts,E,M0,nn,none,up,0⟩ M1 n1 none up1) Tryz.f90.results.toList K) ⟨[(0,.lf (.optr 0 [])),(1,vI s)],(10,.fr 1 (fr63 l i))::(9,.fr 0 [])::piH n ps R,11⟩:=by
 have c135:=fn92 s h0 hs;obtain⟨hm8,hcr⟩:=q7i ps (z67 hb);have hsb:-8≤s∧s≤8:=by unfold lnS at hs;omega
 refine cdf (fn:=Tryz.f90) rfl ?_;refine zs rfl ?_;refine zs rfl ?_;refine zs rfl ?_;refine zc rfl c135 rfl rfl ?_;refine zs rfl ?_;refine zs rfl ?_;refine zs rfl ?_;refine JK.cut (σ:=Unit) (fun _=>⟨[(0,.lf (.optr 0 [])),(1,vI s),(4,vI (lnS s:Nat)),(5,vI (R (lnS s)).length)],(10,.fr 1 (fr63 l i))::(9,.fr 0 [])::piH n ps R,11⟩) (fun _=>True) ?_ fun _ _=>?_
 ·generalize lnS s=o at hs ⊢;rcases(show o=0∨o=1∨o=2∨o=3∨o=4∨o=5∨o=6∨o=7 by omega) with rfl|rfl|rfl|rfl|rfl|rfl|rfl|rfl
  all_goals (refine zK0 ?_;exact⟨(),by exact zJ,trivial⟩)
 refine zs rfl ?_;refine JK.cut (σ:=Unit) (fun _=>⟨[(0,.lf (.optr 0 [])),(1,vI s),(4,vI (lnS s:Nat)),(6,vB (undB R s))],(10,.fr 1 (fr63 l i))::(9,.fr 0 [])::piH n ps R,11⟩) (fun _=>True) ?_ fun _ _=>?_
 ·obtain⟨D,hD⟩:∃ D,R (lnS s)=D:=⟨_,rfl⟩;have hRo:D.length≤100:=hD▸hR (lnS s);have hU:undB R s=bif decide ((0:Int)<(D.length:Int)) then(D.getD (Int.toNat ((D.length:Int)-1)) 0==0-s) else false:=by
   unfold undB;rw[hD,yyz];rcases List.eq_nil_or_concat D with h|⟨r,t,h⟩
   ·subst h;simp
   ·subst h;simp[yyg]
  rw[hU,hD];generalize lnS s=o at hs hD ⊢;rcases(show o=0∨o=1∨o=2∨o=3∨o=4∨o=5∨o=6∨o=7 by omega) with rfl|rfl|rfl|rfl|rfl|rfl|rfl|rfl
  all_goals (subst hD;clear hU;refine zK0 ?_;exact⟨(),by exact zJ,trivial⟩)
 refine zK0 ?_;refine JK.loop (fun k:Nat=>⟨[(0,.lf (.optr 0 [])),(1,vI s),(4,vI (lnS s:Nat)),(6,vB (undB R s)),(34,vI (k:Int))],(10,.fr 1 (fr63 l i))::(9,.fr 0 [])::piH n ps (layK (crs ps) R s k),11⟩) (fun k=>k≤8) (fun k=>8-k) 0 (yyu _) (by exact zJ) fun k hk=>?_;have hup:=j1e (crs ps) R s k;have hTk:=layK_at (crs ps) R s k;have hval:∀ y,y=layR (crs ps) R s k→y=layR (crs ps) R s k:=fun _ h=>h;have hv1:k≠lnS s→crs ps (lnS s) k=false→layR (crs ps) R s k=R k:=fun q1 q2=>by unfold layR;rw[if_pos ⟨q1,q2⟩]
 have hv2:¬ (k≠lnS s∧crs ps (lnS s) k=false)→undB R s=true→layR (crs ps) R s k=(R k).take (Int.toNat (((R k).length:Int)-1)):=fun q1 q2=>by unfold layR;rw[if_neg q1,if_pos (of_decide_eq_true q2),List.dropLast_eq_take];congr 1;omega
 have hv3:k=lnS s→undB R s=false→layR (crs ps) R s k=R k++[s]:=fun q1 q2=>by unfold layR;rw[if_neg (fun h=>h.1 q1),if_neg (of_decide_eq_false q2),if_pos q1]
 have hv4:k≠lnS s→crs ps (lnS s) k=true→undB R s=false→layR (crs ps) R s k=R k++[0]:=fun q1 q2 q3=>by unfold layR;rw[if_neg (fun h=>by rw[q2] at h;cases h.2),if_neg (of_decide_eq_false q3),if_neg q1]
 have hcu:undB R s=true→¬ (k≠lnS s∧crs ps (lnS s) k=false)→k<8→R k≠[]:=fun q1 q2 q3=>hu q1 k q3 (by
  by_cases e:k=lnS s
  ·exact .inl e
  ·right;cases hX:crs ps (lnS s) k
   ·exact absurd ⟨e,hX⟩ q2
   ·rfl)
 have hrk:=hR k;have hcx:=fun q:k<8=>hcr (lnS s) k hs q;have hfin:k=8→piH n ps (layK (crs ps) R s k)=piH n ps (layR (crs ps) R s):=fun e=>by subst e;rfl
 rw[← hTk] at hv1 hv2 hv3 hv4 hcu hrk;generalize layK (crs ps) R s k=T at hup hTk hv1 hv2 hv3 hv4 hcu hrk hfin ⊢;generalize layR (crs ps) R s k=Y at hup hv1 hv2 hv3 hv4;clear hTk hval;obtain⟨k1,hk1⟩:∃ k1,k1=k+1:=⟨_,rfl⟩;rw[← hk1] at hup;have hki:((k1:Nat):Int)=(k:Int)+1:=by omega
 have hlt1:k<8→k1≤8∧8-k1<8-k:=fun h=>by omega
 clear hk1;generalize undB R s=U at hv2 hv3 hv4 hcu ⊢;generalize lnS s=o at hs hv1 hv2 hv3 hv4 hcu hcx ⊢;unfold crAt at hcx;have hB:k<8→(bif ((k:Int) != (o:Int)) then(((crM ps).getD (Int.toNat (o:Int)) rwT.dflt).getD (Int.toNat (k:Int)) (Ty.int .i64).dflt==0) else false)=(!decide (k=o)&&!crs ps o k):=fun h8=>by
  rw[Int.toNat_natCast,Int.toNat_natCast];by_cases e:k=o
  ·subst e;simp
  ·have e2:((k:Int) != (o:Int))=true:=by simp;omega
   rw[e2];have hcx:=hcx h8;have hd0:((crM ps).getD o rwT.dflt).getD k (Ty.int .i64).dflt=((crM ps).getD o rwT.dflt).getD k 0:=rfl;rw[cond_true,hd0,hcx];cases crs ps o k<;>simp[e]
 have hO:((k:Int)==(o:Int))=decide (k=o):=by rw[yyz];simp;omega
 refine zK0 ?_;refine z5 rfl (fun hc=>?_) (fun hc=>?_)
 ·replace hc:=zC hc;have hk8:k<8:=by omega
  obtain⟨n1,n2⟩:=hlt1 hk8;replace hcu:=fun q1 q2=>hcu q1 q2 hk8;replace hB:=hB hk8;generalize crs ps o k=W at hv1 hv2 hv4 hcu hB;clear hcx hc;rcases(show k=0∨k=1∨k=2∨k=3∨k=4∨k=5∨k=6∨k=7 by omega) with rfl|rfl|rfl|rfl|rfl|rfl|rfl|rfl
  all_goals
   refine zK0 ?_;refine z5 rfl (fun hc=>?_) (fun hc=>?_)
   ·have q:=hB.symm.trans hc;rw[yyd,yyx,yyx,decide_eq_false_iff_not] at q;refine zK0 ?_;refine⟨k1,?_,n1,n2⟩;rw[hup,hki,hv1 q.1 q.2];exact zJ
   ·have q:=hB.symm.trans hc;rw[Bool.and_eq_false_iff,Bool.not_eq_false',Bool.not_eq_false',yys] at q;refine zK0 ?_;refine z5 rfl (fun hU=>?_) (fun hU=>?_)
    ·have hne:=List.length_pos_iff.2 (hcu hU (fun h=>q.elim h.1 (fun e=>Bool.false_ne_true (h.2.symm.trans e))));have hY:=hv2 (fun h=>q.elim h.1 (fun e=>Bool.false_ne_true (h.2.symm.trans e))) hU;refine q4d xk (Tryz.f90.body.getD .skip) rfl 21 rfl ?_
     (refine q7 0 xk rfl rfl (q7 1 xk rfl rfl (q7 2 xk rfl rfl (q7 3 xk rfl rfl (q7 4 xk rfl rfl (q7 5 xk rfl rfl (q7 6 xk rfl rfl (q7 8 xk rfl rfl (q7 9 xk rfl rfl (q7 10 xk rfl rfl (q7 11 xk rfl rfl (q7 12 xk rfl rfl (q7 17 xk rfl rfl (q7 18 xk rfl rfl (z7 7 xk rfl rfl (z7 13 xk rfl rfl (z7 14 xk rfl rfl (z7 15 xk rfl rfl (z7 16 xk rfl rfl (z7 19 xk rfl rfl (zU 20 xk rfl rfl ?_))))))))))))))))))));(first|(refine JL.cutS (d:=86) rfl rfl ?_ (by(exact zD));refine JL.M0 xk rfl ?_)|refine JL.M0 xk rfl ?_);refine q8 ?_;refine w7 xk StF.nil ?_;((refine zK0 ?_;refine⟨k1,?_,n1,n2⟩;rw[hup,hki,hY];exact zJ)))
    ·refine zK0 ?_;refine z5 rfl (fun hE=>?_) (fun hE=>?_)
     ·have e:=of_decide_eq_true (hO.symm.trans hE);have hY:=hv3 e hU;refine q4d xk (Tryz.f90.body.getD .skip) rfl 15 rfl ?_
      (refine q7 0 xk rfl rfl (q7 1 xk rfl rfl (q7 2 xk rfl rfl (q7 3 xk rfl rfl (q7 4 xk rfl rfl (q7 5 xk rfl rfl (q7 6 xk rfl rfl (q7 8 xk rfl rfl (q7 11 xk rfl rfl (q7 12 xk rfl rfl (z7 7 xk rfl rfl (zU 9 xk rfl rfl ?_)))))))))));(refine q2p xk rfl rfl ?_);refine q8 ?_;refine zU 10 xk rfl rfl ?_;refine zK18 ?_;refine q8 ?_;refine q7 13 xk rfl rfl (zU 14 xk rfl rfl ?_);exact zB4)
     ·have e:=of_decide_eq_false (hO.symm.trans hE);have hY:=hv4 e (q.resolve_left e) hU;refine q4d xk (Tryz.f90.body.getD .skip) rfl 14 rfl ?_
      (refine q7 0 xk rfl rfl (q7 1 xk rfl rfl (q7 2 xk rfl rfl (q7 3 xk rfl rfl (q7 4 xk rfl rfl (q7 5 xk rfl rfl (q7 6 xk rfl rfl (q7 10 xk rfl rfl (q7 11 xk rfl rfl (z7 7 xk rfl rfl (zU 8 xk rfl rfl ?_))))))))));(refine q2p xk rfl rfl ?_);refine q8 ?_;refine zU 9 xk rfl rfl ?_;refine zK18 ?_;refine q8 ?_;refine q7 12 xk rfl rfl (zU 13 xk rfl rfl ?_);exact zB4)
 ·replace hc:=zC hc;rw[hfin (by omega)];refine zK0 ?_;exact g9 (q5b rfl rfl rfl rfl hK)
def j2r{X:Nat→Nat→Bool}(k:Nat):∀ rv:List Int,(bld X rv k).length≤rv.length
 |[]=>yym _
 |t::r=>by
  have:=j2r (X:=X) k r;simp only[bld,yy7,List.length_cons];have:(ext X t k).length≤1:=by
   unfold ext;split
   ·simp
   ·split<;>simp
  omega
def okS(l:List Int):Prop:=∀ s∈l,s≠0∧lnS s<8
def q9j{ps:List (List Int)}(h:lstE n ps l=0):okS l:=fun s hs=>by obtain⟨h1,_,h2⟩:=q58 h;have:=h2 s hs;have:=(z66 h1).1;unfold lnS;exact⟨by omega,by omega⟩
abbrev plR(ps:List (List Int))(l:List Int):Nat→List Int:=layL (X:=crs ps) (fun _=>[]) l
def z0f(ps:List (List Int))(h:okS l):∃ rv,Pile (crs ps) rv (plR ps l)∧rv.length≤l.length∧okS rv:=by
 obtain⟨rv,p,h1,h2⟩:=Pile.layL (z08 ps) (u:=l) (Pile.nil (X:=crs ps)) (fun s hs=>(h s hs).1);refine⟨rv,p,by simpa using h1,fun t ht=>h t ?_⟩;rcases h2 t ht with h|h
 ·exact h
 ·simp at h
def plR_len(ps:List (List Int))(h:okS l)(k:Nat):(plR ps l k).length≤l.length:=by obtain⟨rv,p,h1,_⟩:=z0f ps h;rw[p.eq];exact Nat.le_trans (j2r k rv) h1
def plR_undo(ps:List (List Int))(h:okS l)(h0:s≠0)(hu:undB (plR ps l) s=true)(k:Nat)(hk:k=lnS s∨crs ps (lnS s) k=true):plR ps l k≠[]:=by
 obtain⟨rv,p,_⟩:=z0f ps h;obtain⟨_,_,_,_,_,e⟩:=p.undo (z08 ps) h0 (of_decide_eq_true hu);rw[e k];intro hc;have:=(List.append_eq_nil_iff.1 hc).2;unfold ext at this;rw[q59] at this;rcases hk with rfl|hk
 ·simp at this
 ·by_cases e:k=lnS s
  ·simp[e] at this
  ·simp[e,hk] at this
def z52(h:okS l)(i:Nat):okS (l.take i):=fun s hs=>h s (List.mem_of_mem_take hs)
abbrev piD(n:Int)(ps:List (List Int))(R:Nat→List Int):piT.den:=(some (tbV n ps),rowsD R,())
set_option maxHeartbeats 8000000 in
def z9v{ps:List (List Int)}(hb:benE n ps=0)(hl:okS l)(h60:l.length≤60)
  {E:World} {M0 M1:Mem} {nn:Nat} {up up1:Nat→Nat→Value} {K:AV→List (Nat×AV)→List (Nat×HO)→Nat→Prop} (hK:K (.lf (.optr 0 [])) [] [(0,.cell piT (.val piT (piD n ps (plR ps l))))] 10) :
  JK (Ctx.sub ⟨Tryz.prog,tys,ets,mts,E,M0,nn,none,up,0⟩ M1 Tryz.f48.ntmps none up1) [.code (Tryz.f48.body.getD .skip)]
   (inlQ ⟨Tryz.prog,tys,ets,mts,E,M0,nn,none,up,0⟩ Tryz.f48.results.toList K) ⟨[(0,vTb n ps),(1,vL l)],[(0,.fr 0 [])],1⟩:=by
 refine cdf (fn:=Tryz.f48) rfl ?_;refine zK0 ?_;refine n5 1 [true,false,false] 3 (.int .i64) rfl rfl ?_;refine n5 1 [true,false,true,false] 3 (.int .i64) rfl rfl ?_;refine n5 1 [true,false,true,true,false] 3 (.int .i64) rfl rfl ?_;refine n5 1 [true,false,true,true,true,false] 3 (.int .i64) rfl rfl ?_;refine n5 1 [true,false,true,true,true,true,false] 3 (.int .i64) rfl rfl ?_;refine n5 1 [true,false,true,true,true,true,true,false] 3 (.int .i64) rfl rfl ?_;refine n5 1 [true,false,true,true,true,true,true,true,false] 3 (.int .i64) rfl rfl ?_;refine n5 1 [true,false,true,true,true,true,true,true,true,false] 3 (.int .i64) rfl rfl ?_;refine JK.loop (fun i:Nat=>⟨[(5,.lf (.optr 0 [])),(11,vL l),(12,vI l.length),(13,vI (i:Int))],(9,.fr 0 [])::piH n ps (plR ps (l.take i)),10⟩) (fun i=>i≤l.length) (fun i=>l.length-i) 0 (yyu _) (by exact zJ) fun i hi=>?_;have hlen:=plR_len ps (z52 hl i);have hund:=fun s h0 hu k hk=>plR_undo ps (z52 hl i) (s:=s) h0 hu k hk;have hnx:i<l.length→plR ps (l.take (i+1))=layR (crs ps) (plR ps (l.take i)) (l.getD i 0):=fun h=>by rw[yy2 h,k8 l h];show layL _ _=_;rw[q5a];rfl
 have hle:(l.take i).length≤60:=by rw[yxe];omega
 have hfin:i=l.length→plR ps (l.take i)=plR ps l:=fun e=>by rw[e,yxq]
 generalize plR ps (l.take i)=R at hlen hund hnx hfin ⊢;refine zK0 ?_;refine z5 rfl (fun hc=>?_) (fun hc=>?_)
 ·replace hc:=zC hc;have hi':i<l.length:=by omega
  have hnx:=hnx hi';have hz:l.getD (Int.toNat (i:Int)) (Ty.int .i64).dflt=l.getD i 0:=rfl;have hs:l.getD i 0∈l:=by rw[k8 l hi'];exact yyy hi'
  obtain⟨q1,q2⟩:=hl _ hs;generalize l.getD i 0=s at hnx hs q1 q2 hz;refine zK0 ?_;refine q32 [5,11,12,13] rfl rfl trivial Tryz.func90 rfl Tryz.call90 (yyc rfl) rfl fun M2 up2=>?_;refine cdt (fn:=Tryz.f90) rfl ?_;rw[hz];show JK _ _ _ ⟨[(0,.lf (.optr 0 [])),(1,vI s)],(10,.fr 1 (fr63 l i))::(9,.fr 0 [])::piH n ps R,11⟩;refine lay_in hb l i R s q1 q2 (fun k=>Nat.le_trans (hlen k) (by omega)) (fun hu k _ hk=>hund s q1 hu k hk) ?_;rw[← hnx];refine zK0 ?_;exact⟨i+1,by exact zJ,by omega,by omega⟩
 ·replace hc:=zC hc;rw[hfin (by omega)]
  (refine z1j [1,2,3,4,5,6,7,8] [5] rfl ?_)
  refine z7k 0 rfl rfl ?_;refine zK0 ?_;exact q28 rfl rfl rfl rfl hK
def fn51(xs ys:List Int):Ox.Fn Tryz.prog 51 (.acons (vL xs) (.acons (vL ys) .anil)) (·=vB (decide (xs=ys))):=by
 refine Ox.Fn.intro xok Tryz.func51 rfl Tryz.call51 (yyc rfl) (fun E M0 up=>?_);refine z9 ?_;refine JK.lenOf 0 rfl fun hlen=>?_;refine JK.lenOf 1 rfl fun hlen2=>?_;replace hlen:xs.length≤9223372036854775807:=hlen.1;replace hlen2:ys.length≤9223372036854775807:=hlen2.1;refine zK0 ?_;refine z5 rfl (fun hc=>?_) (fun hc=>?_)
 ·replace hc:=zC hc;refine zK0 ?_;refine⟨.inl rfl,_,_,rfl,trivial,?_⟩;have:¬ xs=ys:=fun h=>by rw[h] at hc;exact hc rfl
  rw[decide_eq_false this]
 ·replace hc:=zC hc;have hl:xs.length=ys.length:=by omega
  refine zK0 ?_;refine JK.loop (fun i:Nat=>⟨[(0,vL xs),(1,vL ys),(12,vI xs.length),(13,vI (i:Int))],[],0⟩) (fun i=>i≤xs.length∧xs.take i=ys.take i) (fun i=>xs.length-i) 0 ⟨yyu _,rfl⟩ (by exact zJ) fun i ⟨hi,hn⟩=>?_;refine zK0 ?_;refine z5 rfl (fun hd=>?_) (fun hd=>?_)
  ·replace hd:=zC hd;have hi':i<xs.length:=by omega
   have e1:xs.getD (Int.toNat (i:Int)) (Ty.int .i64).dflt=xs[i]:=k8 xs hi' _;have e2:ys.getD (Int.toNat (i:Int)) (Ty.int .i64).dflt=ys[i]'(by omega):=k8 ys (by omega) _;refine zK0 ?_;refine p4 xk (Tryz.f51.body.getD .skip) ⟨[(0,vL xs),(1,vL ys),(12,vI xs.length),(13,vI (i:Int)),(24,vB (xs[i] != ys[i]'(by omega)))],[],0⟩ rfl 9 rfl ?_ ?_
   ·rw[← e1,← e2]
    (refine q7 0 xk rfl rfl (q7 1 xk rfl rfl (q7 2 xk rfl rfl (q7 4 xk rfl rfl (q7 5 xk rfl rfl (q7 6 xk rfl rfl (z7 3 xk rfl rfl (z7 7 xk rfl rfl (z7 8 xk rfl rfl ?_))))))));refine w7 xk ?_ ?_;exact zS;(exact zJ))
   refine z5 rfl (fun he=>?_) (fun he=>?_)
   ·refine zK0 ?_;refine⟨.inl rfl,_,_,rfl,trivial,?_⟩;have:¬ xs=ys:=fun h=>by subst h;simp at he
    rw[decide_eq_false this]
   ·refine zK0 ?_;refine⟨i+1,by exact zJ,⟨by omega,?_⟩,by omega⟩;rw[yy2 hi',yy2 (by omega),hn];congr 2;simpa using he
  ·replace hd:=zC hd;refine zK0 ?_;refine⟨.inl rfl,_,_,rfl,trivial,?_⟩;have:i=xs.length:=by omega
   subst this;rw[yxq,hl,yxq] at hn;simp[hn]
def fn88(s:Int)(h:-1000≤s∧s≤1000):Ox.Fn Tryz.prog 88 (.acons (vI s) .anil) (·=vI (keyS s)):=by
 refine Ox.Fn.intro xok Tryz.func88 rfl Tryz.call88 (yyc rfl) (fun E M0 up=>?_);refine z9 ?_;refine zK0 ?_;refine z5 rfl (fun hc=>?_) (fun hc=>?_)
 ·replace hc:=zC hc;refine zK0 ?_;refine⟨.inl rfl,_,_,rfl,trivial,?_⟩;refine congrArg vI ?_;unfold keyS;rw[if_pos hc]
 ·replace hc:=zC hc;refine zK0 ?_;refine⟨.inl rfl,_,_,rfl,trivial,?_⟩;refine congrArg vI ?_;unfold keyS;rw[if_neg (by omega)]
def q9m{key:Int→Int}:∀ {r:List Int} {b:Int},leastG key b r=b∨leastG key b r∈r
 |[],b=>.inl rfl
 |x::r,b=>by
  rw[leastG];rcases q9m (key:=key) (r:=r) (b:=if key x<key b then x else b) with h|h
  ·rw[h];split
   ·exact .inr yyj
   ·exact .inl rfl
  ·exact .inr (yyi _ h)
def q77{key:Int→Int}{y:Int}:∀ {r:List Int} {b:Int},leastG key b (r++[y])=if key y<key (leastG key b r) then y else leastG key b r
 |[],b=>rfl
 |x::r,b=>by rw[List.cons_append,leastG,leastG,q77]
def fn87(x:Int)(r:List Int)(hx:∀ y∈x::r,-1000≤y∧y≤1000):Ox.Fn Tryz.prog 87 (.acons (vL (x::r)) (.acons (.fn 88 .anil .anil) .anil)) (·=vI (leastG keyS x r)):=by
 refine Ox.Fn.intro xok Tryz.func87 rfl Tryz.call87 (yyc rfl) (fun E M0 up=>?_);refine z9 ?_;refine JK.lenOf 0 rfl fun hlen=>?_;replace hlen:(x::r).length≤9223372036854775807:=hlen.1;rw[List.length_cons] at hlen;have e1:(0:Int)<(x::r).length:=by rw[List.length_cons];omega
 have e2:(1:Int)≤(x::r).length:=by rw[List.length_cons];omega
 refine zK0 ?_;refine JK.loop (fun i:Nat=>⟨[(1,.fn 88 .anil .anil),(5,vI (leastG keyS x (r.take i))),(12,vL r),(13,vI r.length),(14,vI (i:Int))],[],0⟩) (fun i=>i≤r.length) (fun i=>r.length-i) 0 (yyu _) (by exact zJ) fun i hi=>?_;have hnx:i<r.length→leastG keyS x (r.take (i+1))=if keyS (r.getD i 0)<keyS (leastG keyS x (r.take i)) then r.getD i 0 else leastG keyS x (r.take i):=fun h=>by rw[yy2 h,q77,k8 r h]
 have hm:-1000≤leastG keyS x (r.take i)∧leastG keyS x (r.take i)≤1000:=by
  rcases q9m (key:=keyS) (r:=r.take i) (b:=x) with h|h
  ·rw[h];exact hx x yyj
  ·exact hx _ (yyi _ (List.mem_of_mem_take h))
 have hfin:i=r.length→leastG keyS x (r.take i)=leastG keyS x r:=fun e=>by rw[e,yxq]
 generalize leastG keyS x (r.take i)=b at hnx hm hfin ⊢;refine zK0 ?_;refine z5 rfl (fun hc=>?_) (fun hc=>?_)
 ·replace hc:=zC hc;have hi':i<r.length:=by omega
  have hy:-1000≤r.getD i 0∧r.getD i 0≤1000:=hx _ (by rw[k8 r hi'];exact yyi _ (yyy hi'));have c1:=fn88 (r.getD i 0) hy;have c2:=fn88 b hm;replace hnx:=hnx hi';have hz:r.getD (Int.toNat (i:Int)) (Ty.int .i64).dflt=r.getD i 0:=rfl;refine zK23 ?_;refine z5 rfl (fun hd=>?_) (fun hd=>?_)
  ·replace hd:=zC hd;rw[if_pos hd] at hnx;refine zK0 ?_;refine⟨i+1,?_,by omega,by omega⟩;rw[hnx];exact zJ
  ·replace hd:=zC hd;rw[if_neg (by omega)] at hnx;refine zK0 ?_;refine⟨i+1,?_,by omega,by omega⟩;rw[hnx];exact zJ
 ·replace hc:=zC hc;rw[hfin (by omega)];refine zK0 ?_;refine⟨.inl rfl,_,_,rfl,trivial,?_⟩;rfl
def q8h(R:Nat→List Int):∀ {n k:Nat},k≤n→∃ post,frontsN R n=frontsN R k++post
 |0,k,h=>⟨[],by rw[show k=0 by omega];rfl⟩
 |n+1,k,h=>by
  rcases Nat.lt_or_ge n k with h1|h1
  ·exact⟨[],by rw[show k=n+1 by omega,yxv]⟩
  ·obtain⟨p,hp⟩:=q8h R (n:=n) (k:=k) h1;exact⟨p++frontK (R n),by rw[frontsN,hp,yxm]⟩
section
variable {E:World}{Mx M0:Mem}{nX:Nat}{rdX:Option Nat}{up:Nat→Nat→Value}{dp lab:Nat}{r:List Fr}{QA:Exit→S→Prop}
def z6v(R:Nat→List Int)(K:List Int→List (Nat×HO))
  (hY:∀ pre s post,frontsR R=pre++s::post→YO ⟨Tryz.prog,tys,ets,mts,E,Mx,nX,rdX,up,dp⟩ 30 lab (.acons (vI s) .anil) (K pre) 100 true (K (pre++[s])) 100)
  (k:∀ L,JK ⟨Tryz.prog,tys,ets,mts,E,M0,30,none,up,dp⟩ r QA ⟨L,K (frontsR R),100⟩) :
  JK ⟨Tryz.prog,tys,ets,mts,E,M0,30,none,up,dp⟩ (.code (lpC Tryz.f91.body)::.blk 0::r) QA ⟨[(0,.lf (.yld lab)),(8,.val rsT (rowsD R)),(9,vI 0)],K [],100⟩:=by
 refine JK.loop (fun i:Nat=>⟨[(0,.lf (.yld lab)),(8,.val rsT (rowsD R)),(9,vI (i:Int))],K (frontsN R i),100⟩) (fun i=>i≤8) (fun i=>8-i) 0 (yyu _) (JW.refl _) fun i hi=>?_;refine zK0 ?_;refine z5 rfl (fun hc=>?_) (fun hc=>?_)
 ·replace hc:=zC hc;have hi':i<8:=by omega
  have hz:(rowsD R).getD (Int.toNat (i:Int)) (Ty.slice (.int .i64)).dflt=R i:=q7y R hi' _;obtain⟨post,hpost⟩:=q8h R (n:=8) (k:=i+1) (by omega);have hsn:frontsN R (i+1)=frontsN R i++frontK (R i):=rfl;rw[hsn] at hpost
  (repeat (first|refine zu rfl ?_|refine zg rfl rfl rfl ?_|refine v6 ?_|refine w8 ?_))
  rw[hz];generalize frontsN R i=pre at hsn hpost ⊢;generalize R i=D at hsn hpost ⊢;cases D with
  |nil=>
   rw[show frontK []=[] from rfl,yxv] at hsn
   (repeat (first|refine zs rfl ?_|refine zfl rfl rfl rfl ?_|refine z7i rfl rfl rfl rfl trivial trivial ?_))
   refine z5 rfl (fun h=>by cases h) (fun _=>?_);refine zK0 ?_;refine⟨i+1,?_,by omega,by omega⟩;rw[hsn];exact JW.same ⟨rfl,rfl,rfl,trivial⟩
  |cons x y=>
   have h15:decide ((0:Int)<((x::y).length:Int))=true:=by simp
   by_cases hx:x=0
   ·rw[show frontK (x::y)=[] by simp[frontK,hx],yxv] at hsn;have h19:(bif decide ((0:Int)<((x::y).length:Int)) then(x != 0) else false)=false:=by rw[h15,hx];rfl
    (repeat (first|refine zs rfl ?_|refine zt rfl (by show wantB true (decide ((0:Int)<((x::y).length:Int)))=true;rw[h15];rfl) ?_|refine zfl rfl (by show wantB true (bif decide ((0:Int)<((x::y).length:Int)) then(x != 0) else false)=false;rw[h19];rfl) rfl ?_|refine z7i rfl h19 rfl rfl trivial trivial ?_))
    refine z5 rfl (fun h=>by cases h) (fun _=>?_);refine zK0 ?_;refine⟨i+1,?_,by omega,by omega⟩;rw[hsn];exact JW.same ⟨rfl,rfl,rfl,trivial⟩
   ·rw[show frontK (x::y)=[x] by simp[frontK,hx]] at hsn hpost;have y1:=hY pre x post (by rw[show frontsR R=frontsN R 8 from rfl,hpost];simp);rw[← hsn] at y1;have h19:(bif decide ((0:Int)<((x::y).length:Int)) then(x != 0) else false)=true:=by rw[h15,cond_true];simpa using hx
    (repeat (first|refine zs rfl ?_|refine zt rfl (by show wantB true (decide ((0:Int)<((x::y).length:Int)))=true;rw[h15];rfl) ?_|refine zt rfl (by show wantB true (bif decide ((0:Int)<((x::y).length:Int)) then(x != 0) else false)=true;rw[h19];rfl) ?_))
    refine q80 (X:=⟨Tryz.prog,tys,ets,mts,E,Mx,nX,rdX,up,dp⟩) [0,8,9,21] y1 rfl rfl rfl (by simp[stayL,stayB,svL,lk]) trivial ?_
    (repeat (first|refine zs rfl ?_|refine zt rfl (by show wantB true (bif decide ((0:Int)<((x::y).length:Int)) then(x != 0) else false)=true;rw[h19];rfl) ?_))
    refine z5 rfl (fun h=>by revert h;cases (bif decide ((0:Int)<((x::y).length:Int)) then(x != 0) else false)<;>simp) (fun _=>?_);refine zK0 ?_;exact⟨i+1,JW.same ⟨rfl,rfl,rfl,trivial⟩,by omega,by omega⟩
 ·replace hc:=zC hc;obtain rfl:i=8:=by omega
  refine zK0 ?_;exact k _
end
def takK(X:Nat→Nat→Bool)(R:Nat→List Int)(s:Int)(k:Nat):Nat→List Int:=fun j=>if j<k then takeR X R s j else R j
def z8y(X:Nat→Nat→Bool)(R:Nat→List Int)(s:Int)(k:Nat):takK X R s k k=R k:=by simp[takK]
def z1q(X:Nat→Nat→Bool)(R:Nat→List Int)(s:Int)(h:k<8):rowsD (takK X R s (k+1))=(rowsD (takK X R s k)).set k (takeR X R s k):=by
 rw[z9h _ h];congr 1;funext j;unfold takK;rcases Nat.lt_trichotomy j k with h|h|h
 ·rw[if_pos (by omega),if_neg (by omega),if_pos h]
 ·rw[if_pos (by omega),if_pos h,h]
 ·rw[if_neg (by omega),if_neg (by omega),if_neg (by omega)]
def z1r(X:Nat→Nat→Bool)(R:Nat→List Int)(s:Int)(k:Nat)(h:takeR X R s k=R k):takK X R s (k+1)=takK X R s k:=by
 funext j;unfold takK;rcases Nat.lt_trichotomy j k with h2|h2|h2
 ·rw[if_pos (by omega),if_pos h2]
 ·subst h2;rw[if_pos (by omega),if_neg (by omega),h]
 ·rw[if_neg (by omega),if_neg (by omega)]
abbrev piE(n:Int)(ps D:List (List Int)):piT.den:=(some (tbV n ps),D,())
abbrev fr29(s:Int):List (Nat×AV):=[(5,.lf (.optr 0 [])),(6,.lf (.osl 1)),(9,vI s)]
set_option maxHeartbeats 2000000 in
def take_in{ps:List (List Int)}(hb:benE n ps=0)(R:Nat→List Int)(s:Int)(h0:s≠0)(hs:lnS s<8)(out:List Int)
  (hu:∀ k,k<8→k=lnS s∨crs ps (lnS s) k=true→R k≠[])
  {E:World} {M0 M1:Mem} {nn:Nat} {up up1:Nat→Nat→Value} {K:AV→List (Nat×AV)→List (Nat×HO)→Nat→Prop}
  (hK:K (resV .anil) (fr29 s) [(0,.cell piT (.val piT (piE n ps (rowsD (takeR (crs ps) R s))))),(1,.sl 3 (.int .i64) out)] 3) :
  JK (Ctx.sub ⟨Tryz.prog,tys,ets,mts,E,M0,nn,none,up,0⟩ M1 Tryz.f50.ntmps none up1) [.code (Tryz.f50.body.getD .skip)]
   (inlQ ⟨Tryz.prog,tys,ets,mts,E,M0,nn,none,up,0⟩ Tryz.f50.results.toList K) ⟨[(0,.lf (.optr 0 [])),(1,vI s)],[(2,.fr 0 (fr29 s)),(0,.cell piT (.val piT (piE n ps (rowsD R)))),(1,.sl 3 (.int .i64) out)],3⟩:=by
 have c135:=fn92 s h0 hs;obtain⟨hm8,hcr⟩:=q7i ps (z67 hb);refine cdf (fn:=Tryz.f50) rfl ?_;refine zK24 ?_;refine JK.loop (fun k:Nat=>⟨[(0,.lf (.optr 0 [])),(4,vI (lnS s:Nat)),(8,vI (k:Int))],[(2,.fr 0 (fr29 s)),(0,.cell piT (.val piT (piE n ps (rowsD (takK (crs ps) R s k))))),(1,.sl 3 (.int .i64) out)],3⟩) (fun k=>k≤8) (fun k=>8-k) 0 (yyu _) (by exact zJ) fun k hk=>?_;have hfin:k=8→rowsD (takK (crs ps) R s k)=rowsD (takeR (crs ps) R s):=fun e=>by subst e;unfold rowsD;refine List.map_congr_left fun j hj=>?_;unfold takK;rw[if_pos (yyr.1 hj)]
 have hget:k<8→(rowsD (takK (crs ps) R s k)).getD k (Ty.slice (.int .i64)).dflt=R k:=fun h=>by rw[q7y _ h,z8y]
 have hsame:=z1r (crs ps) R s k;have hsucc:k<8→rowsD (takK (crs ps) R s (k+1))=(rowsD (takK (crs ps) R s k)).set k (takeR (crs ps) R s k):=fun h=>z1q (crs ps) R s h;have ht1:(k=lnS s∨crs ps (lnS s) k=true)→takeR (crs ps) R s k=(R k).drop 1:=fun h=>by unfold takeR;rw[if_pos h]
 have ht2:¬ (k=lnS s∨crs ps (lnS s) k=true)→takeR (crs ps) R s k=R k:=fun h=>by unfold takeR;rw[if_neg h]
 have hne:=hu k;have hcx:=fun q:k<8=>hcr (lnS s) k hs q;unfold crAt at hcx;have hlen8:=z10 (takK (crs ps) R s k);generalize lnS s=o at hs ht1 ht2 hne hcx ⊢;have hB:k<8→(bif ((k:Int)==(o:Int)) then true else(((crM ps).getD (Int.toNat (o:Int)) rwT.dflt).getD (Int.toNat (k:Int)) (Ty.int .i64).dflt==1))=(decide (k=o)||crs ps o k):=fun h8=>by
  rw[Int.toNat_natCast,Int.toNat_natCast];by_cases e:k=o
  ·subst e;simp
  ·have e2:((k:Int)==(o:Int))=false:=by simp;omega
   rw[e2,cond_false];have hcx:=hcx h8;have hd0:((crM ps).getD o rwT.dflt).getD k (Ty.int .i64).dflt=((crM ps).getD o rwT.dflt).getD k 0:=rfl;rw[hd0,hcx];cases crs ps o k<;>simp[e]
 refine zK0 ?_;refine z5 rfl (fun hc=>?_) (fun hc=>?_)
 ·replace hc:=zC hc;have hk8:k<8:=by omega
  have hget:=hget hk8;have hsucc:=hsucc hk8;have hB:=hB hk8;have hne:=hne hk8;refine zK0 ?_;refine z5 rfl (fun hd=>?_) (fun hd=>?_)
  ·have q:k=o∨crs ps o k=true:=by have:=hB.symm.trans hd;simpa using this
   rw[ht1 q] at hsucc;have hl:=List.length_pos_iff.2 (hne q);generalize rowsD (takK (crs ps) R s k)=D at hget hsucc hlen8 ⊢;rw[← hget] at hsucc hl;have hl2:(1:Int)≤((D.getD (Int.toNat (k:Int)) (Ty.slice (.int .i64)).dflt).length:Int):=by rw[Int.toNat_natCast];omega
   refine q4d xk (Tryz.f50.body.getD .skip) rfl 13 rfl ?_
   (refine q7 0 xk rfl rfl (q7 1 xk rfl rfl (q7 2 xk rfl rfl (q7 3 xk rfl rfl (q7 4 xk rfl rfl (q7 5 xk rfl rfl (q7 6 xk rfl rfl (q7 9 xk rfl rfl (q7 10 xk rfl rfl (z7 7 xk rfl rfl (z7 8 xk rfl rfl (z7 11 xk rfl rfl (zU 12 xk rfl rfl ?_))))))))))));exact zB3)
  ·have q:¬ (k=o∨crs ps o k=true):=by have:=hB.symm.trans hd;simpa using this
   have hY:=hsame (ht2 q);refine zK0 ?_;refine⟨k+1,?_,by omega,by omega⟩;rw[hY];exact zJ
 ·replace hc:=zC hc;rw[hfin (by omega)];refine zK0 ?_;exact g9 (q5b rfl rfl rfl rfl hK)
end Go.Proofs.YtjjkdjbbkagclaaGreatDoor
