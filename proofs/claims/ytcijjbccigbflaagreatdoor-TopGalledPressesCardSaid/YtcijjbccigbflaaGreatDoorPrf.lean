/- Texts of the proof of the statement that the last text proves. -/
import Derived.Test.YtcijjbccigbflaaGreatDoorPre
import Derived.ProofKit
import Derived.OpenShut
import Derived.Carry
import Derived.JoinedOf
import Derived.FnData
import GoSem.ClaimJoined
set_option linter.all false
set_option maxHeartbeats 2000000
variable{one s two:Int}{L U:Nat→Int}{N a b c clk d i j k m n x:Nat}{o q:List Nat}{on:Nat→Bool}{f g:Go.FuncId}{cs:List Prop}{R:Nat→List Int}{p:Prop}{rv xs ys:List Int}{af2:Array Go.Edge}{ops:List Go.Oper}{bf:Nat→Nat}{ps2:String}{fn:Go.Func}{eid t ty2:Go.TypeId}{α β:Type}{P:Nat→Nat→Bool}
namespace Ox
open Go Go.RowKit
variable {X:Ctx}{s:S}{M:Mem}{ρ:Env}{a:Act}{w w':World}{QA:Exit→S→Prop}{all l:List Oper}{P:Program}
variable {L:List (Nat×AV)}{H:List (Nat×HO)}{nx d n:Nat}{rr:List Fr}{c1 c2:List Prop}{ty ty2:TypeId}{ps ps2:String}{af af2:Array Edge}{md:Bool}
def mapB(P:Program)(t:TypeId):Bool:=match P.info? t with
 |some i=>(match i.zero with|some (Value.map none)=>true|_=>false)&&(i.size==1)&&(match P.underlying t with|some (.map ..)=>true|_=>false)
 |none=>false
structure MpT(P:Program)(t:TypeId):Prop where
 zero:∀ w,(zeroValue t).run P w=.ok (Value.map none) w
 size:∀ w,(Go.sizeOf t).run P w=.ok 1 w
 agg:∀ w,(isAgg t).run P w=.ok false w
def MpT.of(h:mapB P t=true):MpT P t:=by
 unfold mapB at h;cases hi:P.info? t with
 |none=>rw[hi] at h;cases h
 |some i=>
  rw[hi] at h;simp only[yyd,beq_iff_eq] at h;obtain⟨⟨h1,h2⟩,h3⟩:=h;refine⟨fun w=>?_,fun w=>?_,fun w=>?_⟩
  ·split at h1
   ·rename_i hz;simp[zeroValue,typeInfo,hi,hz]
   ·cases h1
  ·simp[Go.sizeOf,typeInfo,hi,h2]
  ·split at h3
   ·rename_i hu;simp[isAgg,run_underlying hu]
   ·cases h3
def AV.mpB:AV→Bool
 |.lf (.mp _)=>true
 |_=>false
variable{v:AV}
def mpB_rv(h:v.mpB=true){u:Value}(hu:v.rv M ρ u):∃ b,u=.map (some b):=by
 cases v with
 |lf x=>
  cases x with
  |mp l=>simp only[AV.rv,Leaf.at,yya] at hu;exact⟨_,hu.1.symm⟩
  |_=>simp[AV.mpB] at h
 |_=>simp[AV.mpB] at h
variable{x:Operand}
def JL.layM(hF:mapB X.P t=true)(hu:opd (del L d) x=some (c1,v))(hv:v.mpB=true)(hc:allP c1)(hd:ltB d X.n=true)(k:JL X true all QA l ⟨(d,.pfn v)::L,H,nx⟩) :
  JL X true all QA (⟨some d,.alloc t,ty,ps,af,none⟩::⟨none,.store t (.tmp d) x,ty2,ps2,af2,none⟩::l) ⟨L,H,nx⟩:=by
 have hf:=MpT.of hF;intro M ρ a w h1 h2
 let p:Value:=.pointer (some ⟨w.heap.size,0,none⟩)
 let w1:World:=w.alloc (.cells #[(Value.map none)] t)
 have hE:=h1.below.size;have hR:d<X.n:=w7 hd;have hA:=h2.size;have hJ:(execOp a.eval ⟨some d,.alloc t,ty,ps,af,none⟩).run X.P w=.ok (.value p) w1:=by simp only[execOp,Instr.alloc,yye,hf.zero,yyb,newVar,newRow,run_newObj,yyf];rfl
 have hk:REG X M ρ ⟨del L d,H,nx⟩ (a.put (some d) p):=⟨by simp[Act.put,hA],h2.defers,fun e y he=>by
  obtain⟨e1,e2⟩:=q2q he;have:=h2.reg e y e2;refine⟨this.1,?_⟩;have e3:((a.put (some d) p).tmps.getD e Go.undef)=a.tmps.getD e Go.undef:=by simp only[Act.put,yyv];rw[ywa (Ne.symm e1)]
  rw[e3];exact this.2⟩
 obtain⟨hB,hC⟩:=z8 (s:=⟨del L d,H,nx⟩) hu hc hk;obtain⟨f,hG⟩:=mpB_rv hv hC
 let w2:World:=w.alloc (.cells #[(a.put (some d) p).eval x] t)
 have hl:w1.heap[w.heap.size]?=some (.cells #[(Value.map none)] t (0,0)):=World.alloc_heap_new w _;have hK:(a.put (some d) p).eval (.tmp d)=p:=by simp only[Act.eval,Act.put,yyv];rw[yx6 (by omega)];rfl
 have hp:∀ y∈[(a.put (some d) p).eval x],y.oneCell'=true:=fun y hy=>by rw[yys.1 hy,hG];rfl
 have hst:=run_storeCells_at X.P w.heap.size 0 t [(a.put (some d) p).eval x] 0 #[(Value.map none)] w1 hl (by simp) hp;have hg:((a.put (some d) p).eval x).cells=#[(a.put (some d) p).eval x]:=by rw[hG];rfl
 have hw:w1.setRow w.heap.size (([Value.map none].take (0+0)++[(a.put (some d) p).eval x]++[Value.map none].drop (0+0+1)).toArray)=w2:=by show({heap:=(w.heap.push (.cells #[(Value.map none)] t)).modify w.heap.size _,tape:=w.tape,drawn:=w.drawn,os:=w.os,output:=w.output}:World)={heap:=w.heap.push _,tape:=w.tape,drawn:=w.drawn,os:=w.os,output:=w.output};rw[q76];rfl
 have hL:(execOp (a.put (some d) p).eval ⟨none,.store t (.tmp d) x,ty2,ps2,af2,none⟩).run X.P w1=.ok .skip w2:=by
  have h3:(storeVar t ⟨w.heap.size,0,none⟩ ((a.put (some d) p).eval x)).run X.P w1=.ok () w2:=by unfold storeVar;simp only[yye,hf.size,yyb,hg];simp only[List.size_toArray,List.length_cons,List.length_nil,ne_eq,not_true_eq_false,if_false,Array.toList];rw[hst];exact congrArg (Result.ok ()) hw
  simp only[execOp,Instr.storeAt,hK,p,Instr.sureAddr,yye,yyf,yyb];rw[h3];rfl
 let M':Mem:=fun b=>if b=w.heap.size then some (.cells #[(a.put (some d) p).eval x] t (0,0)) else M b
 have ha:∀ b o,M b=some o→M' b=some o:=fun b o hb=>by show(if b=w.heap.size then _ else _)=_;rw[if_neg (by have:=(yyj.1 (h1.mem _ _ hb)).1;omega)];exact hb
 have hM:Mem.le M M':=fun b c ty fz hb=>ha b _ hb;have hN:w2.heap[w.heap.size]?=some (.cells #[(a.put (some d) p).eval x] t (0,0)):=World.alloc_heap_new w _;have hH:Below w.heap.size w w2:=(Below.refl _ _).alloc (yyn _) _;have hP:SAT X M' ρ ⟨L,H,nx⟩ w2:=h1.ext hH hM (fun b o hb=>by
  by_cases e:b=w.heap.size
  ·subst e;have:some (Obj.cells #[(a.put (some d) p).eval x] t (0,0))=some o:=by have hh:(if w.heap.size=w.heap.size then some (Obj.cells #[(a.put (some d) p).eval x] t (0,0)) else M w.heap.size)=some o:=hb;rwa[if_pos rfl] at hh
   rw[← this];exact hN
  ·have hh:(if b=w.heap.size then some (Obj.cells #[(a.put (some d) p).eval x] t (0,0)) else M b)=some o:=hb;rw[if_neg e] at hh;have hQ:=(yyj.1 (h1.mem b o hh)).1;rw[hH.block b hQ];exact h1.mem b o hh) (fun b hb=>by
  show(if b=w.heap.size then _ else _)=_;rw[if_neg (by omega)])
 have hj:REG X M' ρ ⟨(d,.pfn v)::L,H,nx⟩ ((a.put (some d) p).put none Go.undef):=by
  refine⟨by simp[Act.put,hA],let ⟨Ds,e1,e2,e3,e4⟩:=h2.defers;⟨Ds,e1,e2,fun D hD=>⟨(e3 D hD).1,ha _ _ (e3 D hD).2⟩,e4⟩,fun e y he=>?_⟩;simp only[lk] at he;by_cases hz:d=e
  ·subst hz;rw[if_pos rfl] at he;injection he with he;subst he
   refine⟨hB,?_⟩;simp only[AV.rv];refine⟨w.heap.size,_,t,(0,0),?_,?_,w4 hM (Env.upTo.refl ρ nx) hB hC⟩
   ·show(a.put (some d) p).tmps.getD d Go.undef=p;simp only[Act.put,yyv];rw[yx6 (by omega)];rfl
   ·show(if w.heap.size=w.heap.size then _ else _)=_;rw[if_pos rfl]
  ·rw[if_neg hz] at he;have:=h2.reg e y he;refine⟨this.1,?_⟩;have e3:(((a.put (some d) p).put none Go.undef).tmps.getD e Go.undef)=a.tmps.getD e Go.undef:=by simp only[Act.put,yyv];rw[ywa hz]
   rw[e3];exact w4 hM (Env.upTo.refl ρ nx) this.1 this.2
 refine z9 (j8 rfl) (w8 rfl hJ (z9 (j8 rfl) (q1p rfl hL ?_)));exact k M' ρ _ w2 (hP.regs _) hj
def j1y(hF:mapB X.P t=true)(hu:opd s.L x=some (c1,.pfn v))(hc:allP c1):∀ {M ρ a w0} {d:Option Nat} {gu:Option (Nat×Bool)},SAT X M ρ s w0→REG X M ρ s a→v.bd s.nx∧∃ z,v.rv M ρ z∧∀ w1,Below w0.heap.size w0 w1→(execOp a.eval ⟨d,.load t x,ty,ps,af,gu⟩).run X.P w1=.ok (.value z) w1:=by
 have hf:=MpT.of hF;intro M ρ a w0 d gu h1 h2;obtain⟨hb,hr⟩:=z8 hu hc h2;simp only[AV.rv] at hr;obtain⟨b,fv,ty',fz,e1,e2,e3⟩:=hr;refine⟨hb,fv,e3,fun w1 hw=>?_⟩;have hm:=h1.mem b _ e2;have ha:=(yyj.1 hm).1;have hd:w1.heap[b]?=some (.cells #[fv] ty' fz):=by rw[hw.block b ha];exact hm
 have h3:(loadVar t ⟨b,0,none⟩).run X.P w1=.ok fv w1:=by unfold loadVar;simp only[yye,hf.agg,yyb];simp[u0 hd]
 simp only[execOp,e1,Instr.loadAt,Instr.sureAddr,yye,yyf,yyb,h3]
def j4f(hF:mapB X.P t=true)(hu:opd s.L x=some (c1,.pfn v))(hc:allP c1)(hd:ltB d X.n=true)(k:JL X md all QA l ⟨(d,v)::s.L,s.H,s.nx⟩):JL X md all QA (⟨some d,.load t x,ty,ps,af,none⟩::l) s:=by
 cases md
 ·intro M ρ a w0 h1 h2;obtain⟨hb,z,hz,hr⟩:=j1y (d:=some d) (gu:=none) (ty:=ty) (ps:=ps) (af:=af) hF hu hc h1 h2;simp only[wpQuiet,Region.wanted,if_true];refine⟨z,fun w hw=>?_,k M ρ _ w0 (h1.regs _) (h2.putO (d:=some d) (dstOk.spec (w7 hd)) hb hz)⟩;unfold Oper.quietAt;rw[hr w hw];exact⟨rfl,rfl⟩
 ·intro M ρ a w h1 h2;obtain⟨hb,z,hz,hr⟩:=j1y (d:=some d) (gu:=none) (ty:=ty) (ps:=ps) (af:=af) hF hu hc h1 h2;exact z9 (j8 rfl) (w8 rfl (hr w (Below.refl _ _)) (k M ρ _ w (h1.regs _) (h2.putO (d:=some d) (dstOk.spec (w7 hd)) hb hz)))
def JK.layM{t:TypeId}{x:Operand}{v:AV}(hF:mapB X.P t=true)(hu:opd (del L d) x=some (c1,v))(hv:v.mpB=true)(hd:ltB d X.n=true)(hc:allP c1)(k:JK X (.ops true all l::rr) QA ⟨(d,.pfn v)::L,H,nx⟩) :
  JK X (.ops true all (⟨some d,.alloc t,ty,ps,af,none⟩::⟨none,.store t (.tmp d) x,ty2,ps2,af2,none⟩::l)::rr) QA ⟨L,H,nx⟩:=JL.layM hF hu hv hc hd k
def JK.ldM(hF:mapB X.P t=true)(hu:opd L x=some (c1,.pfn v))(hd:ltB d X.n=true)(hc:allP c1)(k:JK X (.ops md all l::rr) QA ⟨(d,v)::L,H,nx⟩):JK X (.ops md all (⟨some d,.load t x,ty,ps,af,none⟩::l)::rr) QA ⟨L,H,nx⟩:=j4f (s:=⟨L,H,nx⟩) hF hu hc hd k
variable {m:Nat}
section
variable {x:Operand}{t:TypeId}{xs:List Int}{eid:TypeId}{e:Ty}
end
section
variable {kt vt:Ty}{t kid vid:TypeId}{es:List (Ent kt vt)}{clk n:Nat}{x:kt.den}{om ok ov:Operand}{c3:List Prop}{o:Oper}
def JL.mUpd(hT:MapT X.P kt vt t kid vid)(hu:opd L om=some (c1,.lf (.mp n)))(hl:lk H n=some (.map kt vt es clk))(hv:opd L ok=some (c2,.val kt x)){y:vt.den}(hy:opd L ov=some (c3,.val vt y))(hc:allP (c1++(c2++c3)))
  (k:JL X true all QA l ⟨L,updH H n (.map kt vt (mPut es clk x y) (mClk es clk x)),nx⟩):JL X true all QA (⟨none,.mapUpdate t om ok ov,ty,ps,af,none⟩::l) ⟨L,H,nx⟩:=by
 rw[z5,z5] at hc;refine q1j rfl rfl trivial (v:=.undef) (s':=⟨L,updH H n (.map kt vt (mPut es clk x y) (mClk es clk x)),nx⟩) (fun M ρ a w h1 h2=>?_) k;obtain⟨ms,hb,hm⟩:=q2c h1 hl;obtain⟨cx,hx,ha⟩:=q1k hv hc.2.1 h2;obtain⟨cy,hd,he⟩:=q1k hy hc.2.2 h2;obtain⟨ms',r1,r2⟩:=z9y hT hb hm hx hd;refine⟨ρ,_,_,?_,Env.upTo.refl _ _,yyn _,rfl,h1.setMap hl r1,trivial,.inr ⟨rfl,rfl⟩⟩;simp only[execOp,q42 hu hc.1 h2,ha,he,yye,r2,yyb,yyf]
end
end Ox
namespace Go.Proofs.YtcijjbccigbflaaGreatDoor
open Go Go.RowKit Ox
variable {E:World}{M0:Mem}{n:Nat}{rd:Option Nat}{up:Nat→Nat→Value}{dp:Nat}{QA:Exit→S→Prop}{st st' r:List Fr}{s s':S}{cs:List Prop}{md:Bool}{all l:List Oper}{d:Nat}{op:Op}{ty:TypeId}{ps:String}{af:Array Edge}{g:Bool}{gg:Nat×Bool}{v:AV}{f:FuncId}{args:AV}{L:List (Nat×AV)}{H:List (Nat×HO)}{nx:Nat}{kt vt:Ty}{t kid vid:TypeId}{es:List (Ent kt vt)}{clk m:Nat}{x y:kt.den}{c1 c2 c3:List Prop}{om ok ov:Operand}
def zs(h:stepC tys ets n false st s=some (cs,st',s'))(k:JK ⟨Tryz.prog,tys,ets,mts,E,M0,n,rd,up,dp⟩ st' QA s')(hc:allP cs:=by exact zD):JK ⟨Tryz.prog,tys,ets,mts,E,M0,n,rd,up,dp⟩ st QA s:=JK.step xk h k hc
def zg(hg:gOf all L (some gg)=some g)(h:evb tys op ⟨L,H,nx⟩=some (cs,v))(hd:ltB d n=true)(k:JK ⟨Tryz.prog,tys,ets,mts,E,M0,n,rd,up,dp⟩ (.ops md all l::r) QA ⟨(d,.gd g v)::L,H,nx⟩)
  (hc:g=true→allP cs:=by(first|(exact fun _=>trivial)|(exact fun hgd=>hgd)|(exact zE)|(exact fun hgd=>And.intro hgd (fun hpk=>Bool.and_eq_true_iff.2 ⟨hgd,by rw[hpk];rfl⟩))|(exact zF))) :
  JK ⟨Tryz.prog,tys,ets,mts,E,M0,n,rd,up,dp⟩ (.ops md all (⟨some d,op,ty,ps,af,some gg⟩::l)::r) QA ⟨L,H,nx⟩:=JK.gd xk hg h hd k hc
def zd{id:Nat}(k:JK ⟨Tryz.prog,tys,ets,mts,E,M0,n,rd,up,dp⟩ (.ops false ops ops::r) QA s)(hB:(Region.lexB .any ops.toArray&&ndAll ops)=true:=by decide +kernel):JK ⟨Tryz.prog,tys,ets,mts,E,M0,n,rd,up,dp⟩ (.code (.region id ⟨ops⟩ true)::r) QA s:=JK.draw xk k hB
def zc(h:callA tys op ⟨L,H,nx⟩=some (cs,f,args))(hf:Ox.Fn Tryz.prog f args (·=v))(hr:v.scal=true)(hd:ltB d n=true)(k:JK ⟨Tryz.prog,tys,ets,mts,E,M0,n,rd,up,dp⟩ (.ops md all l::r) QA ⟨(d,v)::L,H,nx⟩)(hc:allP cs:=by exact zD) :
  JK ⟨Tryz.prog,tys,ets,mts,E,M0,n,rd,up,dp⟩ (.ops md all (⟨some d,op,ty,ps,af,none⟩::l)::r) QA ⟨L,H,nx⟩:=JK.sc h hf hr hd k hc
def zk(hg:gOf all L (some gg)=some g)(h:callA tys op ⟨L,H,nx⟩=some (cs,f,args))(hf:g=true→Ox.Fn Tryz.prog f args (·=v))(hr:v.scal=true)(hd:ltB d n=true)(k:JK ⟨Tryz.prog,tys,ets,mts,E,M0,n,rd,up,dp⟩ (.ops md all l::r) QA ⟨(d,.gd g v)::L,H,nx⟩)
  (hc:g=true→allP cs:=by(first|(exact fun _=>trivial)|(exact fun hgd=>hgd)|(exact zE)|(exact zF))):JK ⟨Tryz.prog,tys,ets,mts,E,M0,n,rd,up,dp⟩ (.ops md all (⟨some d,op,ty,ps,af,some gg⟩::l)::r) QA ⟨L,H,nx⟩:=JK.scg hg h hf hr hd k hc
def ze(h:callA tys op ⟨L,[],nx⟩=some (cs,f,args))(hf:Ox.Fn Tryz.prog f args (·=v))(hd:ltB d n=true)(k:JK ⟨Tryz.prog,tys,ets,mts,E,M0,n,rd,up,dp⟩ (.ops true all l::r) QA ⟨(d,v)::L,H,nx⟩)(hc:allP cs:=by exact zD) :
  JK ⟨Tryz.prog,tys,ets,mts,E,M0,n,rd,up,dp⟩ (.ops true all (⟨some d,op,ty,ps,af,none⟩::l)::r) QA ⟨L,H,nx⟩:=JK.ce h hf hd k hc
def zt(hg:gOf all L (some gg)=some g)(ha:g=true){dd:Option Nat}(k:JK ⟨Tryz.prog,tys,ets,mts,E,M0,n,rd,up,dp⟩ (.ops true all (⟨dd,op,ty,ps,af,none⟩::l)::r) QA ⟨L,H,nx⟩):JK ⟨Tryz.prog,tys,ets,mts,E,M0,n,rd,up,dp⟩ (.ops true all (⟨dd,op,ty,ps,af,some gg⟩::l)::r) QA ⟨L,H,nx⟩:=JK.gT hg ha k
def zfl(hg:gOf all L (some gg)=some g)(ha:g=false)(hd:ltB d n=true)(k:JK ⟨Tryz.prog,tys,ets,mts,E,M0,n,rd,up,dp⟩ (.ops true all l::r) QA ⟨(d,.undef)::L,H,nx⟩):JK ⟨Tryz.prog,tys,ets,mts,E,M0,n,rd,up,dp⟩ (.ops true all (⟨some d,op,ty,ps,af,some gg⟩::l)::r) QA ⟨L,H,nx⟩:=JK.gF hg ha hd k
def zmi(hT:MapT Tryz.prog kt vt t kid vid)(hu:opd L om=some (c1,.lf (.mp m)))(hl:lk H m=some (.map kt vt es clk))(hv:opd L ok=some (c2,.val kt x)){y:vt.den}(hy:opd L ov=some (c3,.val vt y))
  (k:JK ⟨Tryz.prog,tys,ets,mts,E,M0,n,rd,up,dp⟩ (.ops true all l::r) QA ⟨L,updH H m (.map kt vt (mPut es clk x y) (mClk es clk x)),nx⟩) (hc:allP (c1++(c2++c3)):=by exact zD):JK ⟨Tryz.prog,tys,ets,mts,E,M0,n,rd,up,dp⟩ (.ops true all (⟨none,.insert t om ok ov,ty,ps,af,none⟩::l)::r) QA ⟨L,H,nx⟩:=JL.mIns (X:=⟨Tryz.prog,tys,ets,mts,E,M0,n,rd,up,dp⟩)  hT hu hl hv hy hc k
def zmd(hT:MapT Tryz.prog kt vt t kid vid){ta:TypeId}(hu:opd L om=some (c1,.lf (.mp m)))(hl:lk H m=some (.map kt vt es clk))(hv:opd L ok=some (c2,.val kt x))
  (k:JK ⟨Tryz.prog,tys,ets,mts,E,M0,n,rd,up,dp⟩ (.ops true all l::r) QA ⟨L,updH H m (.map kt vt (Ox.mDel es x) clk),nx⟩) (hc:allP (c1++c2):=by exact zD):JK ⟨Tryz.prog,tys,ets,mts,E,M0,n,rd,up,dp⟩ (.ops true all (⟨none,.call {callee:=.builtin .delete,args:=#[om,ok],argTypes:=#[t,ta]},ty,ps,af,none⟩::l)::r) QA ⟨L,H,nx⟩:=JL.mDel (X:=⟨Tryz.prog,tys,ets,mts,E,M0,n,rd,up,dp⟩)  hT hu hl hv hc k
def zmr(hT:MapT Tryz.prog kt vt t kid vid)(hu:opd L om=some (c1,.lf (.mp m)))(hl:lk H m=some (.map kt vt es clk))(hd:ltB d n=true)
  (k:JK ⟨Tryz.prog,tys,ets,mts,E,M0,n,rd,up,dp⟩ (.ops true all l::r) QA ⟨(d,.lf (.itr nx))::L,(nx,.iter m clk [] clk)::H,nx+1⟩) (hc:allP c1:=by exact zD):JK ⟨Tryz.prog,tys,ets,mts,E,M0,n,rd,up,dp⟩ (.ops true all (⟨some d,.range t om,ty,ps,af,none⟩::l)::r) QA ⟨L,H,nx⟩:=j4d (X:=⟨Tryz.prog,tys,ets,mts,E,M0,n,rd,up,dp⟩)  hT hu hl hd hc k
def zmm(hT:MapT Tryz.prog kt vt t kid vid)(hd:ltB d n=true)
  (k:JK ⟨Tryz.prog,tys,ets,mts,E,M0,n,rd,up,dp⟩ (.ops true all l::r) QA ⟨(d,.lf (.mp nx))::L,(nx,.map kt vt [] 0)::H,nx+1⟩):JK ⟨Tryz.prog,tys,ets,mts,E,M0,n,rd,up,dp⟩ (.ops true all (⟨some d,.makeMap t none,ty,ps,af,none⟩::l)::r) QA ⟨L,H,nx⟩:=q7s (X:=⟨Tryz.prog,tys,ets,mts,E,M0,n,rd,up,dp⟩)  hT hd k
def zeq(hK:EqT Tryz.prog kt t)(hu:opd L om=some (c1,.val kt x))(hv:opd L ok=some (c2,.val kt y))(hd:ltB d n=true){tt:TypeId}
  (k:JK ⟨Tryz.prog,tys,ets,mts,E,M0,n,rd,up,dp⟩ (.ops md all l::r) QA ⟨(d,.val .bool (kt.eqB x y))::L,H,nx⟩) (hc:allP (c1++c2):=by exact zD):JK ⟨Tryz.prog,tys,ets,mts,E,M0,n,rd,up,dp⟩ (.ops md all (⟨some d,.binOp .eql t om ok tt,ty,ps,af,none⟩::l)::r) QA ⟨L,H,nx⟩:=JL.eqQ (X:=⟨Tryz.prog,tys,ets,mts,E,M0,n,rd,up,dp⟩)  hK.key hK.ag hK.gt hu hv hd hc k
def zlf{x:Operand}(hF:funB Tryz.prog t=true)(hu:opd (del L d) x=some (cs,v))(hv:v.fnB=true)(hd:ltB d n=true)(k:JK ⟨Tryz.prog,tys,ets,mts,E,M0,n,rd,up,dp⟩ (.ops true all l::r) QA ⟨(d,.pfn v)::L,H,nx⟩)(hc:allP cs:=by exact zD) :
  JK ⟨Tryz.prog,tys,ets,mts,E,M0,n,rd,up,dp⟩ (.ops true all (⟨some d,.alloc t,ty,ps,af,none⟩::⟨none,.store t (.tmp d) x,ty2,ps2,af2,none⟩::l)::r) QA ⟨L,H,nx⟩:=JK.layF (X:=⟨Tryz.prog,tys,ets,mts,E,M0,n,rd,up,dp⟩) hF hu hv hd hc k
def zdf{x:Operand}(hF:funB Tryz.prog t=true)(hu:opd L x=some (cs,.pfn v))(hd:ltB d n=true)(k:JK ⟨Tryz.prog,tys,ets,mts,E,M0,n,rd,up,dp⟩ (.ops md all l::r) QA ⟨(d,v)::L,H,nx⟩)(hc:allP cs:=by exact zD) :
  JK ⟨Tryz.prog,tys,ets,mts,E,M0,n,rd,up,dp⟩ (.ops md all (⟨some d,.load t x,ty,ps,af,none⟩::l)::r) QA ⟨L,H,nx⟩:=JK.ldF (X:=⟨Tryz.prog,tys,ets,mts,E,M0,n,rd,up,dp⟩) hF hu hd hc k
def zdg{x:Operand}(hF:funB Tryz.prog t=true)(hg:gOf all L (some gg)=some g)(hu:opd L x=some (cs,.pfn v))(hd:ltB d n=true)(k:JK ⟨Tryz.prog,tys,ets,mts,E,M0,n,rd,up,dp⟩ (.ops md all l::r) QA ⟨(d,.gd g v)::L,H,nx⟩)(hc:g=true→allP cs:=by(first|(exact fun _=>trivial)|(exact fun hgd=>hgd)|(exact zE)|(exact zF))) :
  JK ⟨Tryz.prog,tys,ets,mts,E,M0,n,rd,up,dp⟩ (.ops md all (⟨some d,.load t x,ty,ps,af,some gg⟩::l)::r) QA ⟨L,H,nx⟩:=JK.ldFg (X:=⟨Tryz.prog,tys,ets,mts,E,M0,n,rd,up,dp⟩) hF hg hu hd hc k
def zlm{x:Operand}(hF:mapB Tryz.prog t=true)(hu:opd (del L d) x=some (cs,v))(hv:v.mpB=true)(hd:ltB d n=true)(k:JK ⟨Tryz.prog,tys,ets,mts,E,M0,n,rd,up,dp⟩ (.ops true all l::r) QA ⟨(d,.pfn v)::L,H,nx⟩)(hc:allP cs:=by exact zD) :
  JK ⟨Tryz.prog,tys,ets,mts,E,M0,n,rd,up,dp⟩ (.ops true all (⟨some d,.alloc t,ty,ps,af,none⟩::⟨none,.store t (.tmp d) x,ty2,ps2,af2,none⟩::l)::r) QA ⟨L,H,nx⟩:=JK.layM (X:=⟨Tryz.prog,tys,ets,mts,E,M0,n,rd,up,dp⟩) hF hu hv hd hc k
def zdm{x:Operand}(hF:mapB Tryz.prog t=true)(hu:opd L x=some (cs,.pfn v))(hd:ltB d n=true)(k:JK ⟨Tryz.prog,tys,ets,mts,E,M0,n,rd,up,dp⟩ (.ops md all l::r) QA ⟨(d,v)::L,H,nx⟩)(hc:allP cs:=by exact zD) :
  JK ⟨Tryz.prog,tys,ets,mts,E,M0,n,rd,up,dp⟩ (.ops md all (⟨some d,.load t x,ty,ps,af,none⟩::l)::r) QA ⟨L,H,nx⟩:=JK.ldM (X:=⟨Tryz.prog,tys,ets,mts,E,M0,n,rd,up,dp⟩) hF hu hd hc k
structure HB(q:Prop):Prop where
 h:q
variable{q:Prop}
def zK0(k:q)(h:HB q→p:=by(intro hzz;(repeat (first|refine zs rfl ?_|refine zg rfl rfl rfl ?_|refine zd ?_|refine z38 ?_|refine n3 ?_));exact hzz.h)):p:=h ⟨k⟩
def zK1(k:q)(h:HB q→p:=by(intro hzz;(repeat (first|refine zs rfl ?_|refine zg rfl rfl rfl ?_|refine z38 ?_|refine n3 ?_));exact hzz.h)):p:=h ⟨k⟩
def zK2(k:q)(h:HB q→p:=by(intro hzz;(first|refine JL.M0 xk rfl ?_);exact hzz.h)):p:=h ⟨k⟩
def zK3(k:q)(h:HB q→p:=by(intro hzz;(first|refine q53 xk rfl rfl ?_|refine v4 xk rfl rfl rfl ?_|refine r8 xk rfl rfl ?_|refine JL.M0 xk rfl ?_|refine z10 mpU rfl rfl rfl rfl ?_|refine z5x mpU rfl rfl rfl rfl ?_|refine q7s mpU rfl ?_|refine z1z (by assumption) rfl rfl rfl rfl ?_|(refine j4f z2z rfl trivial rfl ?_)|(refine JL.mUpd mpU rfl rfl rfl rfl trivial ?_));exact hzz.h)):p:=h ⟨k⟩
def zK4(k:q)(h:HB q→p:=by(intro hzz;(first|refine q13 rfl rfl (fun hgd=>c4) rfl trivial rfl ?_|refine q13 rfl rfl (fun hgd=>c5) rfl trivial rfl ?_);exact hzz.h)):p:=h ⟨k⟩
def zK5(k:q)(h:HB q→p:=by(intro hzz;(repeat (first|refine zs rfl ?_|refine zc rfl (hx) rfl rfl ?_));exact hzz.h)):p:=h ⟨k⟩
def zK6(k:q)(h:HB q→p:=by(intro hzz;(first|refine q53 xk rfl rfl ?_|refine v4 xk rfl rfl rfl ?_|refine r8 xk rfl rfl ?_|refine JL.M0 xk rfl ?_|refine z10 mpP rfl rfl rfl rfl ?_|refine z5x mpP rfl rfl rfl rfl ?_|refine q7s mpP rfl ?_|refine z1z (by assumption) rfl rfl rfl rfl ?_|refine j4m eqP rfl rfl rfl ?_|refine q85 rfl (h75) rfl trivial rfl ?_|refine q86 rfl (h75) rfl (fun r hr=>?_);subst hr|refine q13 rfl rfl (fun hgd=>h75) rfl trivial rfl ?_);exact hzz.h)):p:=h ⟨k⟩
def zK7(k:q)(h:HB q→p:=by(intro hzz;(repeat (first|refine zs rfl ?_|refine ze rfl (h55) rfl ?_));exact hzz.h)):p:=h ⟨k⟩
def zK8(k:q)(h:HB q→p:=by(intro hzz;(first|refine q53 xk rfl rfl ?_|refine v4 xk rfl rfl rfl ?_|refine r8 xk rfl rfl ?_|refine JL.M0 xk rfl ?_|refine z10 mpU rfl rfl rfl rfl ?_|refine z5x mpU rfl rfl rfl rfl ?_|refine q7s mpU rfl ?_|refine z1z (by assumption) rfl rfl rfl rfl ?_|refine q85 rfl (c84) rfl trivial rfl ?_|refine q86 rfl (c84) rfl (fun r hr=>?_);subst hr|refine q13 rfl rfl (fun hgd=>c84) rfl trivial rfl ?_|(refine j4f z2z rfl trivial rfl ?_));exact hzz.h)):p:=h ⟨k⟩
def zK9(k:q)(h:HB q→p:=by(intro hzz;(first|refine q85 rfl (c12) rfl trivial rfl ?_|(refine q86 rfl (c12) rfl (fun r hr=>?_);subst hr));exact hzz.h)):p:=h ⟨k⟩
def zK10(k:q)(h:HB q→p:=by(intro hzz;(first|refine q53 xk rfl rfl ?_|refine r8 xk rfl rfl ?_);exact hzz.h)):p:=h ⟨k⟩
def zK11(k:q)(h:HB q→p:=by(intro hzz;(first|refine q53 xk rfl rfl ?_|refine v4 xk rfl rfl rfl ?_|refine r8 xk rfl rfl ?_|refine JL.M0 xk rfl ?_|refine j4m eqPr rfl rfl rfl ?_);exact hzz.h)):p:=h ⟨k⟩
def zK12(k:q)(h:HB q→p:=by(intro hzz;(first|refine q85 rfl (c1) rfl trivial rfl ?_|(refine q86 rfl (c1) rfl (fun r hr=>?_);subst hr)|refine q85 rfl (c2) rfl trivial rfl ?_|(refine q86 rfl (c2) rfl (fun r hr=>?_);subst hr));exact hzz.h)):p:=h ⟨k⟩
def zK13(k:q)(h:HB q→p:=by(intro hzz;(first|refine q53 xk rfl rfl ?_|refine v4 xk rfl rfl rfl ?_|refine r8 xk rfl rfl ?_|refine JL.M0 xk rfl ?_|refine j4m eqWi rfl rfl rfl ?_);exact hzz.h)):p:=h ⟨k⟩
def zB0(h:p:=by(· (refine q13 rfl rfl (fun hgd=>c29) rfl trivial rfl ?_);refine q8 ?_;refine z6 21 xk rfl rfl rfl (q7 22 xk rfl rfl ?_);refine v6 xk ?_ ?_;exact zS;(exact zJ))):p:=h
def zB1(h:p:=by(· (refine v4 xk rfl rfl rfl ?_);refine q8 ?_;refine z6 14 xk rfl rfl rfl (q7 15 xk rfl rfl ?_);refine v6 xk ?_ ?_;exact zS;(exact zJ))):p:=h
def zB2(h:p:=by(· refine zK4 ?_;refine q8 ?_;refine q7 22 xk rfl rfl ?_;refine v6 xk ?_ ?_;exact zS;(exact zJ))):p:=h
def zB3(h:p:=by(· refine zK2 ?_;refine q8 ?_;refine v6 xk StF.nil ?_;(exact zJ))):p:=h
def zB4(h:p:=by(· refine zK3 ?_;refine q8 ?_;refine v6 xk StF.nil ?_;(exact zJ))):p:=h
def zB5(h:p:=by(· (refine v4 xk rfl rfl rfl ?_);refine q8 ?_;refine zU 17 xk rfl rfl ?_;(refine v4 xk rfl rfl rfl ?_);refine q8 ?_;refine z6 19 xk rfl rfl rfl (zU 21 xk rfl rfl ?_);exact zB2)):p:=h
def zB6(h:p:=by(· (refine v4 xk rfl rfl rfl ?_);refine q8 ?_;refine zU 17 xk rfl rfl ?_;(refine v4 xk rfl rfl rfl ?_);refine q8 ?_;refine zU 20 xk rfl rfl ?_;exact zB0)):p:=h
def zB7(h:p:=by(· refine zK4 ?_;refine q8 ?_;refine z6 13 xk rfl rfl rfl (q7 14 xk rfl rfl (q7 15 xk rfl rfl (z6 16 xk rfl rfl rfl (z6 18 xk rfl rfl rfl ?_))));refine k8 17 [20] xk ?_ ?_;exact zS;refine(BrF.one rfl rfl ?_ (BrF.one rfl rfl ?_ BrF.nil));(· (refine v4 xk rfl rfl rfl ?_);refine q8 ?_;refine z6 19 xk rfl rfl rfl (zU 20 xk rfl rfl ?_);(refine v4 xk rfl rfl rfl ?_);refine q8 ?_;refine zU 21 xk rfl rfl ?_;refine zK4 ?_;refine q8 ?_;refine q7 22 xk rfl rfl ?_;refine v6 xk ?_ ?_;exact zS;(exact zJ));exact zB5)):p:=h
def zU{X:Ctx}{K:S→Prop}{ls fl fl2:List Nat}{fuel:Nat}{o:Oper}(i:Nat)(hX:XOK X)(ho:ops[i]?=some o)(hf:(fl.filter fun f=>!waits o f)=fl2)(h:JL X true ops (qN fun t=>JF X ops K fl2 fuel (i::ls) t) [o] s)(hst:StF X ops s fl:=by(focus (repeat (first|exact StF.nil|refine j31 rfl rfl rfl ?_))))(hc:ndB ops ls fl [i]=true:=by decide +kernel):JF X ops K fl (fuel+1) ls s:=k8 i [] hX hst (BrF.one ho hf h BrF.nil) hc
def zS(h:p:=by(focus (repeat (first|exact StF.nil|refine j31 rfl rfl rfl ?_)))):p:=h
def zC(a:p)(h:p→q:=by(intro hzz;simp only[↓cdL] at hzz;(try simp only[Ty.dflt,Int.toNat_natCast] at hzz);exact hzz)):q:=h a
def zJ(h:p:=by(exact JW.Auto (by conv=>lhs;reduce))):p:=h
def zR{T:List (Nat×Ty)}{R:AV→Prop}{r:AV}(h:resA T fn s=some (cs,r))(hc:allP cs)(hr:R r):retQ T fn R .ret s:=⟨.inl rfl,cs,r,h,hc,hr⟩
end Go.Proofs.YtcijjbccigbflaaGreatDoor
namespace Ox
open Go Go.RowKit
variable {X:Ctx}{s:S}{M:Mem}{ρ:Env}{a:Act}{w w':World}{QA:Exit→S→Prop}{all l:List Oper}{o:Oper}
structure FnRow(P:Program)(f:FuncId)(args:AV)(eid:TypeId)(e:Ty)(xs:List e.den):Prop where
 call:∀ az w,(callFunc f az).run P w=.ok (.enter f az) w
 run:∀ M ρ w vs,MemIn M w→args.rvs M ρ vs→args.bd 0→Calls P f vs.toArray w fun en w'=>∃ v cs M',en=Ending.returned v∧w'.ownsRow w.heap.size eid e.size v xs.length cs∧RL M' e xs cs∧Below w.heap.size w w'∧M.le M'∧MemIn M' w'∧(∀ b,b<w.heap.size→M' b=M b)∧∀ b,v.ownBlock=some b→M' b=none
def rowQ(fn:Func)(eid:TypeId)(e:Ty)(xs:List e.den)(ex:Exit)(s:S):Prop:=(ex=.ret∨ex=.normal)∧∃ d m,fn.results.toList=[.tmp d]∧lk s.L d=some (.lf (.osl m))∧lk s.H m=some (.sl eid e xs)
variable{args:AV}{e:Ty}
def FnRow.intro{P:Program}{T:List (Nat×Ty)}{ET:List (Nat×Nat)}{MT:List (Nat×(Nat×Nat))}{c:Code}{xs:List e.den}(hf:P.funcs[f]?=some fn)(hb:fn.body=some c)
  (ha:∀ az w,(callFunc f az).run P w=.ok (.enter f az) w) (hn:argN args≤fn.ntmps) (h:∀ E M0 up,JC ⟨P,T,ET,MT,E,M0,fn.ntmps,none,up,0⟩ c (rowQ fn eid e xs) ⟨argL args 0,[],0⟩):FnRow P f args eid e xs:=by
 refine⟨ha,fun M ρ w vs hM hu hw=>(callsIn_wide (n:=0)).1 (callsIn_of_wp_marks hf hb trivial ?_ rfl)⟩
 let up0:Nat→Nat→Value:=fun _ _=>Go.undef
 have hg:SAT ⟨P,T,ET,MT,w,M,fn.ntmps,none,up0,0⟩ M ρ ⟨argL args 0,[],0⟩ w:=⟨Below.refl _ _,fun _ _ h=>h,fun _ _=>rfl,hM,fun l o h=>by simp[lk] at h,fun l l' o o' b h=>by simp[lk] at h,fun l o b h=>by simp[lk] at h⟩
 have hh:REG ⟨P,T,ET,MT,w,M,fn.ntmps,none,up0,0⟩ M ρ ⟨argL args 0,[],0⟩ {tmps:=vs.toArray++Array.replicate (fn.ntmps-vs.toArray.size) Go.undef,defers:=[]}:=REG.args hu hw rfl hn;refine wpIn_mono (h w M up0 M ρ _ w hg hh) ?_;rintro ex a1 w1 ⟨M2,ρ1,s1,k1',k2',hy,d,m,hz,hA,hp⟩;obtain⟨Ds,hB,hC,hj,_⟩:=k2'.defers;have fin:LeavesInM Fence.wide 0 P fn a1.tmps (fun en w'=>∃ v cs M',en=Ending.returned v∧w'.ownsRow w.heap.size eid e.size v xs.length cs∧RL M' e xs cs∧Below w.heap.size w w'∧M.le M'∧MemIn M' w'∧(∀ b,b<w.heap.size→M' b=M b)∧∀ b,v.ownBlock=some b→M' b=none) a1.defers .returning w1:=by
  rw[hB];refine q3h hC (fun D hD=>k1'.mem _ _ (hj D hD).2) fun w' hk hd=>?_;obtain⟨hJ,k1⟩:=k1'.taken (fun D hD=>by
   show M D=none;cases hE:M D with
   |none=>rfl
   |some o=>have h1:=(yyj.1 (hM D o hE)).1;have h2:w.heap.size≤D:=(hj D hD).1;omega) hj hk hd
  have he:=(k1.own m _ hp).2.2;simp only[HO.ok] at he;obtain⟨_,cs,hl,hF⟩:=he;have hv:=(k2'.reg d _ hA).2;rw[y7] at hv;simp only[Leaf.at,yya] at hv;refine⟨ρ1.sv m,?_,ρ1.sv m,cs,M2.without Ds,rfl,hl,hF,k1.below,fun b c ty fz hm=>k1.msub b _ hm,k1.mem,fun b hG=>k1.mnew b hG,fun b hb=>k1.notM m _ b hp hb⟩;have hH:(fn.results.toList.mapM (resOne a1.tmps)).run P w'=.ok [ρ1.sv m] w':=by rw[hz];simp only[List.mapM_cons,List.mapM_nil,resOne,yye,yyf,yyb,hv.1]
  have:=q2a hH;simpa using this
 rcases hy with rfl|rfl
 ·exact fin
 ·exact fin
def z85{xs:List e.den}(hg:o.guard=none)(h:callA X.T o.op ⟨s.L,[],s.nx⟩=some (cs,f,args))(hf:FnRow X.P f args eid e xs)(hd:dstOk X.n o.dst)(hc:allP cs)
  (k:JL X true all QA l (putS o.dst (.lf (.osl s.nx)) ⟨s.L,(s.nx,.sl eid e xs)::s.H,s.nx+1⟩)):JL X true all QA (o::l) s:=by
 intro M ρ a w h1 h2;have hk:SAT X M ρ ⟨s.L,[],s.nx⟩ w:=⟨h1.below,h1.msub,h1.mnew,h1.mem,fun l o h=>by simp[lk] at h,fun l l' o o' b h=>by simp[lk] at h,fun l o b h=>by simp[lk] at h⟩;have hp:REG X M ρ ⟨s.L,[],s.nx⟩ a:=⟨h2.size,h2.defers,h2.reg⟩;obtain⟨hb,vs,hu,hh⟩:=n6 hk (Mx:=M) ⟨Mem.le_refl M,fun l o b h=>by simp[lk] at h⟩ hp h hc;refine z9 (j8 hg) (x4 (q0p h) (by rw[hh,hf.call]) (hf.run M ρ w vs h1.mem hu hb) ?_);rintro en w' ⟨v,cs',M',rfl,ha,hv,hw,hm,hy,he,hz⟩;have h3:=h1.ext hw hm hy he;have hA:v.oneCell'=true:=by rcases ha.2 with⟨e1,_⟩|⟨g,cap,cur,e1,_⟩<;>rw[e1]<;>rfl
 have hge:∀ b,v.ownBlock=some b→w.heap.size≤b:=fun b hb=>by
  rcases ha.2 with⟨e1,_⟩|⟨g,cap,cur,e1,e2,_⟩
  ·rw[e1] at hb;cases hb
  ·rw[e1] at hb;simp only[Value.ownBlock,yya] at hb;subst hb;exact e2
 have h5:SAT X M' (ρ.with s.nx 0 e v) ⟨s.L,(s.nx,.sl eid e xs)::s.H,s.nx+1⟩ w':=by
  refine h3.add (row:=none) ⟨rfl,rfl,rfl,yyn _,fun _ _ _=>rfl⟩ (fun b hb=>by cases hb) (fun l o hl=>⟨hl,fun b _ e=>by cases e⟩) (k7 _ _ _ _ _) trivial ?_ ?_
  ·simp only[HO.ok,Env.with,if_true];refine⟨trivial,cs',⟨ha.1,?_⟩,hv⟩;rcases ha.2 with e1|⟨g,cap,cur,e1,e2,e3⟩
   ·exact .inl e1
   ·exact .inr ⟨g,cap,cur,e1,Nat.le_trans h1.below.size e2,e3⟩
  ·intro b hj;simp only[HO.at,Env.with,if_true] at hj;refine⟨hz b hj,fun l o1 hl hB=>?_⟩;have:=(u6 (h1.own l o1 hl).2.2 hB).2;have:=hge b hj;omega
 have h4:REG X M' (ρ.with s.nx 0 e v) ⟨s.L,(s.nx,.sl eid e xs)::s.H,s.nx+1⟩ a:=h2.grow hm (k7 _ _ _ _ _) (yxd _) fun D hD=>by rw[he D (yyj.1 (h1.mem _ _ hD)).1];exact hD
 refine⟨_,rfl,k M' _ _ w' (j6 h5) (h4.putO hd.spec (yy9 _) ?_)⟩;rw[y7];exact⟨by simp[Leaf.at,Env.with],hA⟩
def z86{r:List Fr}{L:List (Nat×AV)}{H:List (Nat×HO)}{nx d:Nat}{op:Op}{ty:TypeId}{ps:String}{af:Array Edge}{xs:List e.den}(h:callA X.T op ⟨L,[],nx⟩=some (cs,f,args))(hf:FnRow X.P f args eid e xs)(hd:ltB d X.n=true)(hc:allP cs)
  (k:JK X (.ops true all l::r) QA ⟨(d,.lf (.osl nx))::L,(nx,.sl eid e xs)::H,nx+1⟩):JK X (.ops true all (⟨some d,op,ty,ps,af,none⟩::l)::r) QA ⟨L,H,nx⟩:=z85 (s:=⟨L,H,nx⟩) rfl h hf (w7 hd) hc k
end Ox
namespace Go.Proofs.YtcijjbccigbflaaGreatDoor.Pr
open Go Go.RowKit Ox Ox.Sh
attribute [local irreducible] JC JL JK JW
abbrev vI(n:Int):AV:=.val (.int .i64) n
abbrev vB(b:Bool):AV:=.val .bool b
abbrev vL(xs:List Int):AV:=.val (.slice (.int .i64)) xs
abbrev shT:Ty:=.cons (.int .i64) (.cons (.int .i64) (.cons (.int .i64) .nil))
abbrev vS(z:Sh):AV:=.val shT z
abbrev vD(l:List Sh):AV:=.val (.slice shT) l
abbrev pI(n:Int):AV:=.val (.ptr (.int .i64)) (some n)
abbrev vT2(a b:Int):AV:=.tup (.acons (vI a) (.acons (vI b) .anil))
def j7(xs:List α)(h:i<xs.length)(d:α):xs.getD i d=xs[i]:=by simp[yyk,yyl h]
def fn55(x lo hi:Int):Ox.Fn Tryz.prog 55 (.acons (vI x) (.acons (pI lo) (.acons (pI hi) .anil))) (·=vB (decide (x<lo∨x>hi))):=by refine Ox.Fn.intro xok Tryz.func55 rfl Tryz.call55 (yyc rfl) (fun E M0 up=>?_);refine JK.start ?_;refine zK0 ?_;refine zR rfl trivial ?_;by_cases h:x<lo<;>simp[h]
def idxB{α:Type}(p:α→Bool):List α→Nat→Int
 |[],_=>-1
 |x::r,i=>if p x then(i:Int) else idxB p r (i+1)
def p6{α:Type}{p:α→Bool}:∀ {xs:List α} {i:Nat},(0≤idxB p xs i)↔xs.any p=true
 |[],i=>by simp[idxB]
 |x::r,i=>by
  simp only[idxB,List.any_cons,yy5];by_cases h:p x=true
  ·simp[h]
  ·rw[if_neg h,p6];simp[h]
variable{t1 t2:Ty}
def fn96{x1:t1.den}{x2:t2.den}(xs:List Int)(p:Int→Bool)(h:∀ x∈xs,Ox.Fn Tryz.prog f (.acons (vI x) (.acons (.val t1 x1) (.acons (.val t2 x2) .anil))) (·=vB (p x))) :
  Ox.Fn Tryz.prog 96 (.acons (vL xs) (.acons (.fn f .anil (.acons (.val t1 x1) (.acons (.val t2 x2) .anil))) .anil)) (·=vI (idxB p xs 0)):=by
 refine Ox.Fn.intro xok Tryz.func96 rfl Tryz.call96 (yyc rfl) (fun E M0 up=>?_);refine JK.start ?_;refine JK.lenOf 0 rfl fun hb=>?_;replace hb:xs.length≤9223372036854775807:=hb.1;refine zK0 ?_;refine JK.loop (fun i:Nat=>⟨[(0,vL xs),(1,.fn f .anil (.acons (.val t1 x1) (.acons (.val t2 x2) .anil))),(7,vI xs.length),(8,vI (i:Int))],[],0⟩) (fun i=>i≤xs.length∧idxB p xs 0=idxB p (xs.drop i) i) (fun i=>xs.length-i) 0 (by simp) (by exact zJ) fun i ⟨hi,hn⟩=>?_;refine zK0 ?_;refine q9 rfl (fun hc=>?_) (fun hc=>?_)
 ·replace hc:=zC hc;have ha:i<xs.length:=by omega
  have hx:=h (xs.getD i 0) (by rw[j7 xs ha];exact yy3 ha);refine zK5 ?_;refine q9 rfl (fun hd=>?_) (fun hd=>?_)
  ·refine zK0 ?_;refine zR rfl trivial ?_;rw[j7 xs ha] at hd;rw[hn,yyx ha,idxB,if_pos hd]
  ·refine zK0 ?_;rw[j7 xs ha] at hd;refine⟨i+1,by exact zJ,⟨by omega,?_⟩,by omega⟩;rw[hn,yyx ha,idxB,if_neg (by rw[hd];simp)]
 ·replace hc:=zC hc;refine zK0 ?_;refine zR rfl trivial ?_;obtain rfl:i=xs.length:=by omega
  rw[hn,List.drop_length];rfl
def fn54{x1:t1.den}{x2:t2.den}(xs:List Int)(p:Int→Bool)(h:∀ x∈xs,Ox.Fn Tryz.prog f (.acons (vI x) (.acons (.val t1 x1) (.acons (.val t2 x2) .anil))) (·=vB (p x))) :
  Ox.Fn Tryz.prog 54 (.acons (vL xs) (.acons (.fn f .anil (.acons (.val t1 x1) (.acons (.val t2 x2) .anil))) .anil)) (·=vB (xs.any p)):=by
 refine Ox.Fn.intro xok Tryz.func54 rfl Tryz.call54 (yyc rfl) (fun E M0 up=>?_);refine JK.start ?_
 (repeat (first|refine zs rfl ?_|refine n3 ?_|refine zc rfl (fn96 xs p h) rfl rfl ?_))
 refine zR rfl trivial ?_;refine congrArg vB ?_;rw[yy1,← p6 (p:=p) (i:=0)];simp
def fn21(lo hi:Int)(xs:List Int):Ox.Fn Tryz.prog 21 (.acons (vI lo) (.acons (vI hi) (.acons (vL xs) .anil))) (·=vB (decide (∀ x∈xs,lo≤x∧x≤hi))):=by
 refine Ox.Fn.intro xok Tryz.func21 rfl Tryz.call21 (yyc rfl) (fun E M0 up=>?_);refine JK.start ?_
 (repeat (first|refine zs rfl ?_|refine n3 ?_|refine zc rfl (fn54 xs (fun x=>decide (x<lo∨x>hi)) (fun x _=>fn55 x lo hi)) rfl rfl ?_))
 refine zR rfl trivial ?_;refine congrArg vB ?_;rw[yy1];simp only[yyz,List.any_eq_false,yyr];refine⟨fun h x hx=>?_,fun h x hx=>?_⟩
 ·have:=h x hx;omega
 ·have:=h x hx;omega
instance:DecidablePred okS:=fun s=>by unfold okS;infer_instance
def fn94(s:Sh):Ox.Fn Tryz.prog 94 (.acons (vS s) .anil) (·=vB (!decide (okS s))):=by
 obtain⟨a,b,c,_⟩:=s;refine Ox.Fn.intro xok Tryz.func94 rfl Tryz.call94 (yyc rfl) (fun E M0 up=>?_);refine JK.start ?_;have ha:=fn21 0 1000 (a::b::c::List.nil)
 (repeat (first|refine zs rfl ?_|refine n3 ?_|refine zc rfl (ha) rfl rfl ?_))
 refine zR rfl trivial ?_;refine congrArg (fun b=>vB (!b)) ?_;refine decide_eq_decide.2 ?_;simp only[List.forall_mem_cons,yxi,false_implies,implies_true,and_true,okS];constructor
 ·rintro⟨h1,h2,h3⟩;exact⟨h1.1,h1.2,h2.1,h2.2,h3.1,h3.2⟩
 ·rintro⟨h1,h2,h3,h4,h5,h6⟩;exact⟨⟨h1,h2⟩,⟨h3,h4⟩,h5,h6⟩
def fn145(xs:List Sh)(p:Sh→Bool)(h:∀ x∈xs,Ox.Fn Tryz.prog f (.acons (vS x) .anil) (·=vB (p x))) :
  Ox.Fn Tryz.prog 145 (.acons (vD xs) (.acons (.fn f .anil .anil) .anil)) (·=vI (idxB p xs 0)):=by
 refine Ox.Fn.intro xok Tryz.func145 rfl Tryz.call145 (yyc rfl) (fun E M0 up=>?_);refine JK.start ?_;refine JK.lenOf 0 rfl fun hb=>?_;replace hb:xs.length≤9223372036854775807:=hb.1;refine zK0 ?_;refine JK.loop (fun i:Nat=>⟨[(0,vD xs),(1,.fn f .anil .anil),(7,vI xs.length),(8,vI (i:Int))],[],0⟩) (fun i=>i≤xs.length∧idxB p xs 0=idxB p (xs.drop i) i) (fun i=>xs.length-i) 0 (by simp) (by exact zJ) fun i ⟨hi,hn⟩=>?_;refine zK0 ?_;refine q9 rfl (fun hc=>?_) (fun hc=>?_)
 ·replace hc:=zC hc;have ha:i<xs.length:=by omega
  have hx:=h (xs.getD i z0) (by rw[j7 xs ha];exact yy3 ha);refine zK5 ?_;refine q9 rfl (fun hd=>?_) (fun hd=>?_)
  ·refine zK0 ?_;refine zR rfl trivial ?_;rw[j7 xs ha] at hd;rw[hn,yyx ha,idxB,if_pos hd]
  ·refine zK0 ?_;rw[j7 xs ha] at hd;refine⟨i+1,by exact zJ,⟨by omega,?_⟩,by omega⟩;rw[hn,yyx ha,idxB,if_neg (by rw[hd];simp)]
 ·replace hc:=zC hc;refine zK0 ?_;refine zR rfl trivial ?_;obtain rfl:i=xs.length:=by omega
  rw[hn,List.drop_length];rfl
def fn95(xs:List Sh)(p:Sh→Bool)(h:∀ x∈xs,Ox.Fn Tryz.prog f (.acons (vS x) .anil) (·=vB (p x))) :
  Ox.Fn Tryz.prog 95 (.acons (vD xs) (.acons (.fn f .anil .anil) .anil)) (·=vB (xs.any p)):=by
 refine Ox.Fn.intro xok Tryz.func95 rfl Tryz.call95 (yyc rfl) (fun E M0 up=>?_);refine JK.start ?_
 (repeat (first|refine zs rfl ?_|refine n3 ?_|refine zc rfl (fn145 xs p h) rfl rfl ?_))
 refine zR rfl trivial ?_;refine congrArg vB ?_;rw[yy1,← p6 (p:=p) (i:=0)];simp
def dayE(l:List Sh):Int:=if l.length<1∨l.length>8 then 6 else if l.any (fun s=>!decide (okS s))=true then 3 else 0
variable{l:List Sh}
def day_ok(h:dayE l=0):1≤l.length∧l.length≤8∧okD l:=by
 unfold dayE at h;split at h
 ·omega
 ·split at h
  ·omega
  ·rename_i h1 h2;refine⟨by omega,by omega,fun s hs=>?_⟩;have:=List.any_eq_false.1 (Bool.not_eq_true _▸h2) s hs;simpa using this
def day_of(h1:1≤l.length)(h2:l.length≤8)(h3:okD l):dayE l=0:=by unfold dayE;rw[if_neg (by omega),if_neg];rw[Bool.not_eq_true,List.any_eq_false];intro s hs;simpa using h3 s hs
def fn52(l:List Sh):Ox.Fn Tryz.prog 52 (.acons (vD l) .anil) (·=vI (dayE l)):=by
 refine Ox.Fn.intro xok Tryz.func52 rfl Tryz.call52 (yyc rfl) (fun E M0 up=>?_);refine JK.start ?_;refine JK.lenOf 0 rfl fun ha=>?_;replace ha:l.length≤9223372036854775807:=ha.1;refine zK0 ?_;refine q9 rfl (fun hc=>?_) (fun hc=>?_)
 ·replace hc:=zC hc;refine zK0 ?_;refine zR rfl trivial ?_;rw[dayE,if_pos (by omega)]
 ·replace hc:=zC hc
  (repeat (first|refine zs rfl ?_|refine zc rfl (fn95 l (fun s=>!decide (okS s)) (fun s _=>fn94 s)) rfl rfl ?_))
  refine q9 rfl (fun hd=>?_) (fun hd=>?_)
  ·refine zK0 ?_;refine zR rfl trivial ?_;rw[dayE,if_neg (by omega),if_pos hd]
  ·refine zK0 ?_;refine zR rfl trivial ?_;rw[dayE,if_neg (by omega),if_neg (by rw[hd];simp)]
def fn16(n:Int):Ox.Fn Tryz.prog 16 (.acons (vI n) .anil) (·=vB (decide (0≤n∧n≤1000))):=by refine Ox.Fn.intro xok Tryz.func16 rfl Tryz.call16 (yyc rfl) (fun E M0 up=>?_);refine JK.start ?_;refine zK0 ?_;refine zR rfl trivial ?_;by_cases h:0≤n<;>simp[h]
def fn4(l:List Sh):Ox.Fn Tryz.prog 4 (.acons (vD l) .anil) (·=vI (dayE l)):=by
 refine Ox.Fn.intro xok Tryz.func4 rfl Tryz.call4 (yyc rfl) (fun E M0 up=>?_);refine JK.start ?_;refine JK.lenOf 0 rfl fun ha=>?_;replace ha:l.length≤9223372036854775807:=ha.1;refine zK0 ?_;refine q9 rfl (fun hc=>?_) (fun hc=>?_)
 ·replace hc:=zC hc;refine zK0 ?_;refine zR rfl trivial ?_;rw[dayE,if_pos (by omega)]
 ·replace hc:=zC hc;refine zK0 ?_;refine JK.loop (fun i:Nat=>⟨[(0,vD l),(3,vI (i:Int))],[],0⟩) (fun i=>i≤l.length∧∀ s∈l.take i,okS s) (fun i=>l.length-i) 0 (by simp) (by exact zJ) fun i ⟨hi,hn⟩=>?_;refine zK0 ?_;refine q9 rfl (fun hd=>?_) (fun hd=>?_)
  ·replace hd:=zC hd;have hb:i<l.length:=by omega
   have e1:=fn16 (da (l.getD i z0));have e2:=fn16 (dr (l.getD i z0));have e3:=fn16 (dp (l.getD i z0));have hg:l.getD i z0∈l:=by rw[j7 l hb];exact yy3 hb
   have hj:l.take (i+1)=l.take i++[l.getD i z0]:=by rw[List.take_succ,yyl hb,j7 l hb];rfl
   (repeat (first|refine zs rfl ?_|refine zg rfl rfl rfl ?_|refine zc rfl (e1) rfl rfl ?_|refine zk rfl rfl (fun _=>e2) rfl rfl ?_|refine zk rfl rfl (fun _=>e3) rfl rfl ?_))
   refine q9 rfl (fun he=>?_) (fun he=>?_)
   ·have hh:¬ okS (l.getD i z0):=fun h=>by unfold okS at h;simp at he;rw[yyk] at h;omega
    refine zK0 ?_;refine zR rfl trivial ?_;rw[dayE,if_neg (by omega),if_pos];rw[List.any_eq_true];exact⟨_,hg,by simpa using hh⟩
   ·have hh:okS (l.getD i z0):=by unfold okS;simp at he;rw[yyk];omega
    refine zK0 ?_;refine⟨i+1,by exact zJ,⟨by omega,fun s hs=>?_⟩,by omega⟩;rw[hj] at hs;rcases yy4.1 hs with hs|hs
    ·exact hn s hs
    ·rw[yys.1 hs];exact hh
  ·replace hd:=zC hd;refine zK0 ?_;refine zR rfl trivial ?_;obtain rfl:i=l.length:=by omega
   rw[yx3] at hn;rw[day_of (by omega) (by omega) hn]
def fn92(xs:List Int)(b:Int):Ox.Fn Tryz.prog 92 (.acons (vL xs) (.acons (vI b) .anil)) (·=vI (idxB (fun x=>decide (b=x)) xs 0)):=by
 refine Ox.Fn.intro xok Tryz.func92 rfl Tryz.call92 (yyc rfl) (fun E M0 up=>?_);refine JK.start ?_;refine JK.lenOf 0 rfl fun ha=>?_;replace ha:xs.length≤9223372036854775807:=ha.1;refine zK0 ?_;refine JK.loop (fun i:Nat=>⟨[(0,vL xs),(1,vI b),(7,vI xs.length),(8,vI (i:Int))],[],0⟩) (fun i=>i≤xs.length∧idxB (fun x=>decide (b=x)) xs 0=idxB (fun x=>decide (b=x)) (xs.drop i) i) (fun i=>xs.length-i) 0 (by simp) (by exact zJ) fun i ⟨hi,hn⟩=>?_;refine zK0 ?_;refine q9 rfl (fun hc=>?_) (fun hc=>?_)
 ·replace hc:=zC hc;have hb:i<xs.length:=by omega
  refine zK0 ?_;refine q9 rfl (fun hd=>?_) (fun hd=>?_)
  ·replace hd:=zC hd;refine zK0 ?_;refine zR rfl trivial ?_;rw[j7 xs hb] at hd;rw[hn,yyx hb,idxB,if_pos (by simpa using hd)]
  ·replace hd:=zC hd;refine zK0 ?_;rw[j7 xs hb] at hd;refine⟨i+1,by exact zJ,⟨by omega,?_⟩,by omega⟩;rw[hn,yyx hb,idxB,if_neg (by simpa using hd)]
 ·replace hc:=zC hc;refine zK0 ?_;refine zR rfl trivial ?_;obtain rfl:i=xs.length:=by omega
  rw[hn,List.drop_length];rfl
def fn97(xs:List Int)(b:Int):Ox.Fn Tryz.prog 97 (.acons (vL xs) (.acons (vI b) .anil)) (·=vB (decide (b∈xs))):=by
 refine Ox.Fn.intro xok Tryz.func97 rfl Tryz.call97 (yyc rfl) (fun E M0 up=>?_);refine JK.start ?_
 (repeat (first|refine zs rfl ?_|refine n3 ?_|refine zc rfl (fn92 xs b) rfl rfl ?_))
 refine zR rfl trivial ?_;refine congrArg vB ?_;rw[yy1];simp only[yyr];refine(p6 (p:=fun x=>decide (b=x)) (i:=0)).trans ?_;simp
end Go.Proofs.YtcijjbccigbflaaGreatDoor.Pr
namespace Ox
open Go Go.RowKit
variable {X:Ctx}{s:S}{M:Mem}{ρ:Env}{a:Act}{w w':World}{QA:Exit→S→Prop}{all l:List Oper}{md:Bool}
variable {L:List (Nat×AV)}{H:List (Nat×HO)}{nx m lo hi:Nat}{t:TypeId}{e:Ty}{eid:TypeId}{xs:List e.den}{c1:List Prop}{x:Operand}{ty:TypeId}{ps:String}{af:Array Edge}{f:Bool}
def q9n{P:Program}{ad:Option Addr}{cap:Nat}(hs:P.underlying t=some (.slice eid)):(Builtin.clear_ #[t] ty #[.slice ad 0 cap]).run P w=.ok (.tuple #[]) w:=by cases ad<;>simp[Builtin.clear_,run_underlying hs]
def j4h(hX:XOK X)(hu:opd L x=some (c1,.lf (.ovw m lo hi f)))(hl:lk H m=some (.sl eid e xs))(ht:lk X.T t=some (.slice e))(hG:hi=xs.length)(hQ:lo≤xs.length)(hc:allP c1)
  (k:JL X true all QA l ⟨L,updH H m (.sl eid e (xs.take lo++List.replicate (hi-lo) e.dflt)),nx⟩) :
  JL X true all QA (⟨none,.call {callee:=.builtin .clear,args:=#[x],argTypes:=#[t]},ty,ps,af,none⟩::l) ⟨L,H,nx⟩:=by
 refine q1j rfl rfl trivial (v:=.tup .anil) (s':=⟨L,updH H m (.sl eid e (xs.take lo++List.replicate (hi-lo) e.dflt)),nx⟩) (fun M ρ a w h1 h2=>?_) k;have eu:=z8 hu hc h2;rw[y7] at eu;simp only[Leaf.at,yya] at eu;have hA:=m6 h1 hl;simp only[HO.ok] at hA;obtain⟨hj,cs0,hb,hk⟩:=hA;have hB:=hX.t _ _ ht;simp only[TyOf] at hB;obtain⟨eid',hs,he⟩:=hB;obtain⟨d,hH,_⟩:=he.info;subst hG;have ha:∀ v' w',(Builtin.clear_ #[t] ty #[a.eval x]).run X.P w=.ok v' w' →
   (execOp a.eval {dst:=none,op:=.call {callee:=.builtin .clear,args:=#[x],argTypes:=#[t]},type:=ty,pos:=ps,after:=af,guard:=none}).run X.P w=.ok (.value v') w':=by
  intro v' w' hr;simp only[execOp,resolve,invoke,builtin,yye,yyf,yyb,List.map_toArray,yy6,List.map_nil,hr]
 have hd:RL M e (List.replicate (xs.length-lo) e.dflt) (List.replicate (xs.length-lo) e.zc).flatten:=RL.replicate (v5 M e) _;have hw:=(hk.take lo).append hd;have hg:(xs.take lo++List.replicate (xs.length-lo) e.dflt).length=xs.length:=by simp;omega
 rcases hb.2 with⟨e1,hn⟩|⟨g,cap,cur,hp,hJ,hC,hD,hK,hE,hL⟩
 ·have hx:xs=[]:=yxl hn;subst hx;refine⟨ρ,w,.value (.tuple #[]),ha _ _ ?_,Env.upTo.refl _ _,yyn _,rfl,?_,trivial,.inl ⟨_,rfl,by simp only[AV.rv,AV.rvs];exact⟨[],rfl,rfl⟩⟩⟩
  ·rw[← eu.2.1,e1];simp only[sview,List.length_nil,Nat.zero_sub];exact q9n hs.under
  ·refine h1.upd hl (n5 w _) rfl trivial ?_;simp only[HO.ok];simp only[List.take_nil,List.length_nil,Nat.zero_sub,List.replicate_zero,yxw];exact⟨hj,cs0,hb,hk⟩
 ·by_cases hz:lo=xs.length
  ·have hM:xs.take lo++List.replicate (xs.length-lo) e.dflt=xs:=by rw[hz];simp
   refine⟨ρ,w,.value (.tuple #[]),ha _ _ ?_,Env.upTo.refl _ _,yyn _,rfl,?_,trivial,.inl ⟨_,rfl,by simp only[AV.rv,AV.rvs];exact⟨[],rfl,rfl⟩⟩⟩
   ·rw[← eu.2.1,hp];simp only[sview,hz,Nat.sub_self];exact q9n hs.under
   ·refine h1.upd hl (n5 w _) rfl trivial ?_;rw[hM];simp only[HO.ok];exact⟨hj,cs0,hb,hk⟩
  ·have hR:lo<xs.length:=by omega
   have hv:(List.replicate (xs.length-lo) e.zc).flatten.length=(xs.length-lo)*e.size:=by have:=hd.1;simpa using this
   have hN:cs0.length=xs.length*e.size:=hk.1;have hT:lo*e.size+(xs.length-lo)*e.size=xs.length*e.size:=by rw[← yxc];congr 1;omega
   have hU:xs.length*e.size≤cap*e.size:=yy8 _ hD;have hst:=run_storeCells_at X.P g (lo*e.size) eid (List.replicate (xs.length-lo) e.zc).flatten 0 cur w hC (by rw[hv,hE];omega) hd.one;have hzz:(Builtin.zeroCells (e.wrap e.zc).cells (xs.length-lo)).toList=(List.replicate (xs.length-lo) e.zc).flatten:=by rw[y6 (t7 e) (v5 (fun _=>none) e).one];unfold Builtin.zeroCells;exact q01 _ e.zc
   refine⟨ρ,w.setRow g (splice cur.toList (lo*e.size) (List.replicate (xs.length-lo) e.zc).flatten).toArray,.value (.tuple #[]),ha _ _ ?_,Env.upTo.refl _ _,yyn _,rfl,?_,trivial,.inl ⟨_,rfl,by simp only[AV.rv,AV.rvs];exact⟨[],rfl,rfl⟩⟩⟩
   ·have hh:(storeCells ⟨g,lo*e.size,none⟩ (List.replicate (xs.length-lo) e.zc).flatten).run X.P w=.ok () (w.setRow g (splice cur.toList (lo*e.size) (List.replicate (xs.length-lo) e.zc).flatten).toArray):=by simpa[splice] using hst
    have hy:∃ cp,sview (.slice (some ⟨g,0,none⟩) xs.length cap) e.size lo xs.length f=.slice (some ⟨g,lo*e.size,none⟩) (xs.length-lo) cp:=by
     refine⟨(if f=true then xs.length else cap)-lo,?_⟩;have hP:¬ (if f=true then xs.length else cap)=lo:=by split<;>omega
     simp only[sview,if_neg hP];simp[j5]
    obtain⟨cp,hy⟩:=hy;rw[← eu.2.1,hp,hj,hy];obtain⟨q,hq⟩:∃ q,xs.length-lo=q+1:=⟨xs.length-lo-1,by omega⟩;rw[hq] at hh hzz ⊢;simp[Builtin.clear_,run_underlying hs.under,hH.run_zero,hzz,hh]
   ·refine h1.upd hl (by rw[HO.at,hp];exact f9 _ _ _) rfl trivial ?_;simp only[HO.ok];refine⟨hj,_,?_,hw⟩;have hF:(splice cur.toList (lo*e.size) (List.replicate (xs.length-lo) e.zc).flatten).length=cap*e.size:=by rw[t9 _ _ _ (by rw[hv];simp;omega)];simpa using hE
    have:=q40 (new:=splice cur.toList (lo*e.size) (List.replicate (xs.length-lo) e.zc).flatten) (size:=e.size) hp hJ hC hD hK hF (by rw[yxa,hF];omega);have e5:splice (List.take (xs.length*e.size) cur.toList) (lo*e.size) (List.replicate (xs.length-lo) e.zc).flatten=cs0.take (lo*e.size)++(List.replicate (xs.length-lo) e.zc).flatten:=by rw[hL,splice,List.drop_eq_nil_of_le (by rw[hv,hN];omega),yxw]
    rw[q4x _ _ _ _ (by rw[hv];omega) (by simp;omega),e5] at this;rw[hg];exact this
variable{r:List Fr}
def j4q(hX:XOK X)(hu:opd L x=some (c1,.lf (.ovw m lo hi f)))(hl:lk H m=some (.sl eid e xs))(ht:lk X.T t=some (.slice e))(ha:hi=xs.length)(hb:lo≤xs.length)(hc:allP c1)
  (k:JK X (.ops true all l::r) QA ⟨L,updH H m (.sl eid e (xs.take lo++List.replicate (hi-lo) e.dflt)),nx⟩) :
  JK X (.ops true all (⟨none,.call {callee:=.builtin .clear,args:=#[x],argTypes:=#[t]},ty,ps,af,none⟩::l)::r) QA ⟨L,H,nx⟩:=j4h hX hu hl ht ha hb hc k
variable{L':List (Nat×AV)}{H':List (Nat×HO)}
def j39(hd:lk L d=some (.lf (.ovw m 0 hi false)))(hl:lk H m=some (.sl eid e xs))(hu:hi≤xs.length)(hL:∀ d v,lk L' d=some v→lk L d=some v)(hH:subH H H')(hm:lk H' m=none) :
  JW X ⟨(d,.lf (.osl nx))::L',(nx,.sl eid e (xs.take hi))::H',nx+1⟩ ⟨L,H,nx⟩:=by
 intro M ρ a w h1 h2;have hv:=m6 h1 hl;simp only[HO.ok] at hv;obtain⟨hK,cs0,hp,hw⟩:=hv;have hh:=(h2.reg d _ hd).2;rw[y7] at hh;simp only[Leaf.at,yya] at hh;obtain⟨hh,_⟩:=hh;have ha:(xs.take hi).length=hi:=by simp;omega
 have key:∃ v,sview (ρ.sv m) (ρ.ty m).size 0 hi false=v∧w.ownsRow X.E.heap.size eid e.size v (xs.take hi).length (cs0.take (hi*e.size))∧(∀ b,v.ownBlock=some b→(ρ.sv m).ownBlock=some b):=by
  rcases hp.2 with⟨e1,hn⟩|⟨g,cap,cur,hy,hB,hC,hM,hD,hE,hF⟩
  ·have h0:hi=0:=by omega
   subst h0;refine⟨.slice none 0 0,by rw[e1];rfl,⟨by simp,.inl ⟨rfl,by simp⟩⟩,fun b hb=>by simp[Value.ownBlock] at hb⟩
  ·refine⟨.slice (some ⟨g,0,none⟩) hi cap,?_,⟨?_,.inr ⟨g,cap,cur,by rw[ha],hB,hC,by rw[ha];omega,hD,hE,?_⟩⟩,fun b hb=>by rw[hy];exact hb⟩
   ·rw[hy];simp[sview,Addr.add]
   ·rw[ha,yxa,hw.1];exact yx2 (yy8 _ hu)
   ·rw[ha,← hF,List.take_take,yx2 (yy8 _ hu)]
 obtain⟨v,hz,hA,hG⟩:=key;have hj:∀ b,(ρ.sv m).ownBlock=some b→X.E.heap.size≤b∧M b=none:=h1.row hl;have hs:SAT X M (ρ.with nx 0 e v) ⟨L,(nx,.sl eid e (xs.take hi))::H',nx+1⟩ w:=by refine SAT.newRow (s:=⟨L,H,nx⟩) h1 (row:=(ρ.sv m).ownBlock) (n5 w _) (fun b hb=>hj b hb) (fun k o hk=>⟨hH k o hk,fun b hb hJ=>?_⟩) hA (hw.take hi) (fun b hb=>.inl (hG b hb));have:=h1.apart k m o _ b (hH k o hk) hl hb hJ;subst this;rw[hm] at hk;cases hk
 refine⟨ρ.with nx 0 e v,hs.regs _,h2.size,h2.defers,fun d' v' hg=>?_⟩;simp only[lk] at hg;by_cases he:d=d'
 ·subst he;rw[if_pos rfl] at hg;injection hg with hg;subst hg
  refine⟨yy9 _,?_⟩;rw[y7];refine⟨?_,?_⟩
  ·simp only[Leaf.at,Env.with,if_true];rw[← hh,hz]
  ·rw[← hh,hz];rcases hA.2 with⟨e1,_⟩|⟨g,cap,cur,e1,_⟩<;>rw[e1]<;>rfl
 ·rw[if_neg he] at hg;obtain⟨f1,f2⟩:=h2.reg d' v' (hL d' v' hg);exact⟨j9 (yxd _) f1,w4 (Mem.le_refl M) (k7 _ _ _ _ _) f1 f2⟩
def JW.short(hd:lk L d=some (.lf (.ovw m 0 hi false)))(hl:lk H m=some (.sl eid e xs))(ha:hi≤xs.length)(hL:subL L L')(hH:subH H H')(hm:lk H' m=none) :
  JW X ⟨(d,.lf (.osl nx))::L',(nx,.sl eid e (xs.take hi))::H',nx+1⟩ ⟨L,H,nx⟩:=j39 hd hl ha (q72 hL) hH hm
variable{k:IntKind}
def RL.ints{M M':Mem}{xs:List Int}{cs:List Value}(h:RL M (.int k) xs cs):RL M' (.int k) xs cs:=⟨h.1,fun i hi=>by have:=h.2 i hi;simp only[Rep] at this ⊢;exact this⟩
variable{args:AV}
def q84{o:Oper}{f:FuncId}(hg:o.guard=none)(h:callA X.T o.op s=some (cs,f,args))(hf:FnRow X.P f args eid (.int k) ys)(hd:dstOk X.n o.dst)(hc:allP cs)
  (kk:JL X true all QA l (putS o.dst (.lf (.osl s.nx)) ⟨s.L,(s.nx,.sl eid (.int k) ys)::s.H,s.nx+1⟩)):JL X true all QA (o::l) s:=by
 intro M ρ a w h1 h2;obtain⟨hb,vs,hj,he⟩:=n6 h1 (q33 h1) h2 h hc;refine z9 (j8 hg) (x4 (q0p h) (by rw[he,hf.call]) (hf.run _ ρ w vs (q32 (Below.refl _ _)) hj hb) ?_);rintro en w' ⟨v,cs',M',rfl,ha,hk,hp,hm,hy,hu,hz⟩;have h3:=h1.later hp;have hv:v.oneCell'=true:=by rcases ha.2 with⟨e1,_⟩|⟨g,cap,cur,e1,_⟩<;>rw[e1]<;>rfl
 have hge:∀ b,v.ownBlock=some b→w.heap.size≤b:=fun b hb=>by
  rcases ha.2 with⟨e1,_⟩|⟨g,cap,cur,e1,e2,_⟩
  ·rw[e1] at hb;cases hb
  ·rw[e1] at hb;simp only[Value.ownBlock,yya] at hb;subst hb;exact e2
 have h5:SAT X M (ρ.with s.nx 0 (.int k) v) ⟨s.L,(s.nx,.sl eid (.int k) ys)::s.H,s.nx+1⟩ w':=by
  refine h3.add (row:=none) ⟨rfl,rfl,rfl,yyn _,fun _ _ _=>rfl⟩ (fun b hb=>by cases hb) (fun l o hl=>⟨hl,fun b _ e=>by cases e⟩) (k7 _ _ _ _ _) trivial ?_ ?_
  ·simp only[HO.ok,Env.with,if_true];refine⟨trivial,cs',⟨ha.1,?_⟩,hk.ints⟩;rcases ha.2 with e1|⟨g,cap,cur,e1,e2,e3⟩
   ·exact .inl e1
   ·exact .inr ⟨g,cap,cur,e1,Nat.le_trans h1.below.size e2,e3⟩
  ·intro b hh;simp only[HO.at,Env.with,if_true] at hh;have hA:=hge b hh;refine⟨?_,fun l o1 hl hw=>?_⟩
   ·cases hM:M b with
    |none=>rfl
    |some o=>have:=(yyj.1 (h1.mem b o hM)).1;omega
   ·have:=(u6 (h1.own l o1 hl).2.2 hw).2;omega
 have h4:REG X M (ρ.with s.nx 0 (.int k) v) ⟨s.L,(s.nx,.sl eid (.int k) ys)::s.H,s.nx+1⟩ a:=h2.grow (Mem.le_refl M) (k7 _ _ _ _ _) (yxd _) (x5 M);refine⟨_,rfl,kk M _ _ w' (j6 h5) (h4.putO hd.spec (yy9 _) ?_)⟩;rw[y7];exact⟨by simp[Leaf.at,Env.with],hv⟩
variable{op:Op}
def z50(h:callA X.T op ⟨L,H,nx⟩=some (cs,g,args))(hf:FnRow X.P g args eid (.int k) ys)(hd:ltB d X.n=true)(hc:allP cs)
  (kk:JK X (.ops true all l::r) QA ⟨(d,.lf (.osl nx))::L,(nx,.sl eid (.int k) ys)::H,nx+1⟩):JK X (.ops true all (⟨some d,op,ty,ps,af,none⟩::l)::r) QA ⟨L,H,nx⟩:=q84 (s:=⟨L,H,nx⟩) rfl h hf (w7 hd) hc kk
def JL.CRI(h:callA X.T op ⟨L,H,nx⟩=some (cs,g,args))(hf:FnRow X.P g args eid (.int k) ys)(hd:ltB d X.n=true)
  (kk:JL X true all QA l ⟨(d,.lf (.osl nx))::L,(nx,.sl eid (.int k) ys)::H,nx+1⟩) (hc:allP cs):JL X true all QA (⟨some d,op,ty,ps,af,none⟩::l) ⟨L,H,nx⟩:=q84 (s:=⟨L,H,nx⟩) rfl h hf (w7 hd) hc kk
end Ox
namespace Go.Proofs.YtcijjbccigbflaaGreatDoor.Pr
open Go Go.RowKit Ox Ox.Sh
attribute [local irreducible] JC JL JK JW
abbrev dayT:Ty:=.cons (.slice shT) (.cons (.int .i64) .nil)
abbrev shopT:Ty:=.cons dayT (.cons (.int .i64) .nil)
abbrev vH(l:List Sh)(pr le:Int):AV:=.val (.ptr shopT) (some ((l,pr,()),le,()))
abbrev ppH(l:List Sh)(pr le:Int):AV:=.val (.ptr (.ptr shopT)) (some (some ((l,pr,()),le,())))
abbrev vP(z:Int×Int×Int×Unit):AV:=.val shT z
variable{l:List Sh}
def z74(h:okD l)(n:Nat):0≤(l.getD n (0,0,0,())).1∧(l.getD n (0,0,0,())).1≤1000∧0≤(l.getD n (0,0,0,())).2.1∧(l.getD n (0,0,0,())).2.1≤1000∧0≤(l.getD n (0,0,0,())).2.2.1∧(l.getD n (0,0,0,())).2.2.1≤1000:=h.get n
def fn142(l:List Sh)(pr le:Int)(n:Nat)(f:Bool)(hl:okD l)(hn:n<l.length):Ox.Fn Tryz.prog 142 (.acons (vH l pr le) (.acons (vI n) (.acons (vB f) .anil))) (·=vI (wait l f n)):=by
 refine Ox.Fn.intro xok Tryz.func142 rfl Tryz.call142 (yyc rfl) (fun E M0 up=>?_);refine JK.start ?_;have hb:=z74 hl n;refine zK0 ?_;refine q9 rfl (fun hc=>?_) (fun hc=>?_)
 ·refine zK0 ?_;refine zR rfl trivial ?_;rw[hc];rfl
 ·refine zK0 ?_;refine zR rfl trivial ?_;rw[hc];rfl
def fn98(l:List Sh)(pr le:Int)(n:Nat)(hl:okD l)(hn:n<l.length):Ox.Fn Tryz.prog 98 (.acons (vI n) (.acons (ppH l pr le) .anil)) (·=vI (al (l.getD n z0))):=by refine Ox.Fn.intro xok Tryz.func98 rfl Tryz.call98 (yyc rfl) (fun E M0 up=>?_);refine JK.start ?_;have hb:=z74 hl n;refine zK0 ?_;refine zR rfl trivial ?_;rfl
def fn99(l:List Sh)(pr le:Int)(n:Nat)(hl:okD l)(hn:n<l.length):Ox.Fn Tryz.prog 99 (.acons (vI n) (.acons (ppH l pr le) .anil)) (·=vI (be (l.getD n z0))):=by refine Ox.Fn.intro xok Tryz.func99 rfl Tryz.call99 (yyc rfl) (fun E M0 up=>?_);refine JK.start ?_;have hb:=z74 hl n;refine zK0 ?_;refine zR rfl trivial ?_;rfl
abbrev rkF(l:List Sh)(pr le:Int):AV:=.fn 100 .anil (.acons (ppH l pr le) (.acons (.pfn (.fn 98 .anil (.acons (ppH l pr le) .anil))) (.acons (.pfn (.fn 99 .anil (.acons (ppH l pr le) .anil))) .anil)))
def fn100(l:List Sh)(pr le:Int)(n:Nat)(hl:okD l)(hn:n<l.length) :
  Ox.Fn Tryz.prog 100 (.acons (vI n) (.acons (ppH l pr le) (.acons (.pfn (.fn 98 .anil (.acons (ppH l pr le) .anil))) (.acons (.pfn (.fn 99 .anil (.acons (ppH l pr le) .anil))) .anil)))) (·=vI (rk l n)):=by
 refine Ox.Fn.intro xok Tryz.func100 rfl Tryz.call100 (yyc rfl) (fun E M0 up=>?_);refine JK.start ?_;have hb:=z74 hl n;have hd:=fn98 l pr le n hl hn;have ha:=fn99 l pr le n hl hn;have he:0≤be (l.getD n z0)∧be (l.getD n z0)≤2000:=by show 0≤(l.getD n (0,0,0,())).2.1+(l.getD n (0,0,0,())).2.2.1∧(l.getD n (0,0,0,())).2.1+(l.getD n (0,0,0,())).2.2.1≤2000;omega
 generalize hg:be (l.getD n z0)=bv at ha he;refine zK0 ?_;refine q9 rfl (fun hc=>?_) (fun hc=>?_)
 ·replace hc:=zC hc
  (repeat (first|refine zs rfl ?_|refine n3 ?_|refine zdf j2g rfl rfl ?_|refine zc rfl (hd) rfl rfl ?_))
  refine zR rfl trivial ?_;rw[rk,rankS,if_pos hc]
 ·replace hc:=zC hc
  (repeat (first|refine zs rfl ?_|refine n3 ?_|refine zdf j2g rfl rfl ?_|refine zc rfl (ha) rfl rfl ?_))
  refine zR rfl trivial ?_;rw[rk,rankS,if_neg hc,hg]
abbrev iL(o:List Nat):List Int:=o.map fun n:Nat=>(n:Int)
abbrev vR(r:List Int):AV:=.val (.arr 8 (.int .i64)) r
def j16(o:List Nat)(i:Nat):(iL o).getD i 0=((o.getD i 0:Nat):Int):=by
 by_cases h:i<o.length
 ·simp[yyk,yyl h]
 ·simp[yyk,yxs (Nat.le_of_not_lt h)]
def z1a(o:List Nat)(k:Nat):iL (o++[k])=iL o++[(k:Int)]:=by simp
def ownL(r:List Int)(k:Nat):List Nat:=(List.range k).filter fun n=>decide (r.getD n 0=1)
def j0m(r:List Int)(k:Nat):ownL r (k+1)=ownL r k++if r.getD k 0=1 then [k] else []:=by unfold ownL;rw[List.range_succ,List.filter_append];congr 1;simp only[List.filter_cons,List.filter_nil,yyr]
def ownL_len(r:List Int)(k:Nat):(ownL r k).length≤k:=by have:=yx8 (fun n=>decide (r.getD n 0=1)) (List.range k);rw[List.length_range] at this;exact this
def fn89(r:List Int)(hr:r.length=8):Ox.Fn Tryz.prog 89 (.acons (vR r) .anil) (·=vL (iL (ownL r 8))):=by
 refine Ox.Fn.intro xok Tryz.func89 rfl Tryz.call89 (yyc rfl) (fun E M0 up=>?_);refine JK.start ?_;refine zK1 ?_;refine JK.ghost 3 3 (.int .i64) rfl ?_;refine zK0 ?_;refine JK.loop (fun k:Nat=>⟨[(3,.lf (.osl 0)),(6,vR r),(7,vI (k:Int))],[(0,.sl 3 (.int .i64) (iL (ownL r k)))],1⟩) (fun k=>k≤8) (fun k=>8-k) 0 (yyu _) (by exact zJ) fun k hk=>?_;have he:=ownL_len r k;have ha:=j0m r k;have hl:(iL (ownL r k)).length≤8:=by rw[yxh];omega
 have hb:k=8→ownL r k=ownL r 8:=fun e=>by rw[e]
 generalize ownL r k=o at he ha hl hb ⊢;refine zK0 ?_;refine q9 rfl (fun hc=>?_) (fun hc=>?_)
 ·replace hc:=zC hc;refine zK0 ?_;refine q9 rfl (fun hd=>?_) (fun hd=>?_)
  ·replace hd:=zC hd;rw[if_pos (by exact hd)] at ha;refine zK0 ?_;refine⟨k+1,?_,by omega,by omega⟩;rw[ha,z1a];exact zJ
  ·replace hd:=zC hd;rw[if_neg (by exact hd),yxw] at ha;refine zK0 ?_;refine⟨k+1,?_,by omega,by omega⟩;rw[ha];exact zJ
 ·replace hc:=zC hc;refine zK0 ?_;refine zR rfl trivial ?_;rw[hb (by omega)]
def q8e{α:Type}(g:α→Int)(x:α):∀ (r:List α) (b:α),leastG g b (r++[x])=if g x<g (leastG g b r) then x else leastG g b r
 |[],b=>rfl
 |y::r,b=>by rw[List.cons_append,leastG,leastG,q8e g x r]
def fn101r(l:List Sh)(pr le:Int)(hl:okD l)(b:Nat)(r:List Nat)(h:∀ n∈b::r,n<l.length):Ox.Fn Tryz.prog 101 (.acons (vL (iL (b::r))) (.acons (rkF l pr le) .anil)) (·=vI (leastG (rk l) b r:Nat)):=by
 refine Ox.Fn.intro xok Tryz.func101 rfl Tryz.call101 (yyc rfl) (fun E M0 up=>?_);refine JK.start ?_;refine JK.lenOf 0 rfl fun hb=>?_;replace hb:(iL (b::r)).length≤9223372036854775807:=hb.1;have hp:(iL (b::r)).length=r.length+1:=by simp
 have hk:(iL r).length=r.length:=by simp
 refine zK0 ?_;refine JK.loop (fun i:Nat=>⟨[(1,(rkF l pr le)),(5,vI (leastG (rk l) b (r.take i):Nat)),(12,vL (iL r)),(13,vI r.length),(14,vI (i:Int))],[],0⟩) (fun i=>i≤r.length) (fun i=>r.length-i) 0 (yyu _) ?_ fun i hi=>?_
 ·have e1:(r.length:Int)=((List.drop (1:Int).toNat (iL (b::r))).length:Int):=by simp
  have e2:iL r=List.drop (1:Int).toNat (iL (b::r)):=rfl;have e3:vI ((leastG (rk l) b (r.take 0):Nat):Int)=vI ((iL (b::r)).getD (0:Int).toNat 0):=rfl;rw[e1,e2,e3];exact zJ
 ·have hm:leastG (rk l) b (r.take i)<l.length:=by
   have:=(q09 (rk l) (r.take i) b).1;rcases yym.1 this with e|e
   ·rw[e];exact h b yyi
   ·exact h _ (yyh _ (List.mem_of_mem_take e))
  have hh:i<r.length→leastG (rk l) b (r.take (i+1))=if (rk l) (r.getD i 0)<(rk l) (leastG (rk l) b (r.take i)) then r.getD i 0 else leastG (rk l) b (r.take i):=fun hj=>by rw[List.take_succ,yyl hj,j7 r hj];exact q8e _ _ _ _
  have he:i=r.length→leastG (rk l) b (r.take i)=leastG (rk l) b r:=fun e=>by rw[e,yx3]
  generalize leastG (rk l) b (r.take i)=w at hm hh he ⊢;refine zK0 ?_;refine q9 rfl (fun hc=>?_) (fun hc=>?_)
  ·replace hc:=zC hc;have hg:i<r.length:=by omega
   have ha:=hh hg;have hx:r.getD i 0<l.length:=by rw[j7 r hg];exact h _ (yyh _ (yy3 hg))
   have eX:(iL r).getD ((i:Int)).toNat (0:Int)=((r.getD i 0:Nat):Int):=j16 r i;generalize r.getD i 0=x at ha hx eX;have h1:=fn100 l pr le x hl hx;have h2:=fn100 l pr le w hl hm;rw[← eX] at h1
   (repeat (first|refine zs rfl ?_|refine zc rfl (h1) rfl rfl ?_|refine zc rfl (h2) rfl rfl ?_))
   refine q9 rfl (fun hd=>?_) (fun hd=>?_)
   ·replace hd:=zC hd;rw[if_pos hd] at ha;refine zK0 ?_;refine⟨i+1,?_,by omega,by omega⟩;rw[ha,← eX];exact zJ
   ·replace hd:=zC hd;rw[if_neg hd] at ha;refine zK0 ?_;refine⟨i+1,?_,by omega,by omega⟩;rw[ha];exact zJ
  ·replace hc:=zC hc;refine zK0 ?_;refine zR rfl trivial ?_;rw[he (by omega)]
def fn103(k n:Int):Ox.Fn Tryz.prog 103 (.acons (vI k) (.acons (pI n) .anil)) (·=vB (decide (k=n))):=by refine Ox.Fn.intro xok Tryz.func103 rfl Tryz.call103 (yyc rfl) (fun E M0 up=>?_);refine JK.start ?_;refine zK0 ?_;refine zR rfl trivial ?_;refine congrArg vB ?_;rw[yy1];simp
def fn108(xs:List Int)(n:Int):Ox.Fn Tryz.prog 108 (.acons (vL xs) (.acons (.fn 103 .anil (.acons (pI n) .anil)) .anil)) (·=vI (idxB (fun x=>decide (x=n)) xs 0)):=by
 refine Ox.Fn.intro xok Tryz.func108 rfl Tryz.call108 (yyc rfl) (fun E M0 up=>?_);refine JK.start ?_;refine JK.lenOf 0 rfl fun ha=>?_;replace ha:xs.length≤9223372036854775807:=ha.1;refine zK0 ?_;refine JK.loop (fun i:Nat=>⟨[(0,vL xs),(1,.fn 103 .anil (.acons (pI n) .anil)),(7,vI xs.length),(8,vI (i:Int))],[],0⟩) (fun i=>i≤xs.length∧idxB (fun x=>decide (x=n)) xs 0=idxB (fun x=>decide (x=n)) (xs.drop i) i) (fun i=>xs.length-i) 0 (by simp) (by exact zJ) fun i ⟨hi,hn⟩=>?_;refine zK0 ?_;refine q9 rfl (fun hc=>?_) (fun hc=>?_)
 ·replace hc:=zC hc;have hb:i<xs.length:=by omega
  have hx:=fn103 (xs.getD i 0) n;refine zK5 ?_;refine q9 rfl (fun hd=>?_) (fun hd=>?_)
  ·refine zK0 ?_;refine zR rfl trivial ?_;rw[j7 xs hb] at hd;rw[hn,yyx hb,idxB,if_pos hd]
  ·refine zK0 ?_;rw[j7 xs hb] at hd;refine⟨i+1,by exact zJ,⟨by omega,?_⟩,by omega⟩;rw[hn,yyx hb,idxB,if_neg (by rw[hd];simp)]
 ·replace hc:=zC hc;refine zK0 ?_;refine zR rfl trivial ?_;obtain rfl:i=xs.length:=by omega
  rw[hn,List.drop_length];rfl
def orN(t:Nat)(o:List Nat):Nat:=o.foldl (fun t n=>t ||| 2 ^ n) t
def z0t(t:Nat)(o:List Nat)(n:Nat):orN t (o++[n])=orN t o ||| 2 ^ n:=by unfold orN;rw[List.foldl_append];rfl
def or_lt{t n:Nat}(ht:t<256)(hn:n<8):t ||| 2 ^ n<256:=Nat.or_lt_two_pow (n:=8) ht (by have:=Nat.pow_lt_pow_right (a:=2) (by omega) hn;omega)
def j0n:∀ {o:List Nat} {t:Nat},t<256→(∀ n∈o,n<8)→orN t o<256
 |[],_,ht,_=>ht
 |n::o,t,ht,h=>j0n (o:=o) (or_lt ht (h n yyi)) fun k hk=>h k (yyh _ hk)
def q7k(l:List Sh)(p:Int×Int)(o:List Nat)(n:Nat):endP l p (o++[n])=nx l (endP l p o) n:=by rw[q00];rfl
def nx_bd(hl:okD l){p:Int×Int}{B:Int}(n:Nat)(h1:0≤p.1∧p.1≤B)(h2:0≤p.2∧p.2≤B+2000):(0≤(nx l p n).1∧(nx l p n).1≤B+1000)∧0≤(nx l p n).2∧(nx l p n).2≤B+3000:=by have h:=hl.get n;unfold okS at h;unfold nx;dsimp only;omega
def z3j{l:List Sh}(hl:okD l):∀ (o:List Nat) {p:Int×Int} {B:Int},0≤p.1∧p.1≤B→0≤p.2∧p.2≤B+2000→(0≤(endP l p o).1∧(endP l p o).1≤B+1000*o.length)∧0≤(endP l p o).2∧(endP l p o).2≤B+2000+1000*o.length
 |[],p,B,h1,h2=>by have e:endP l p []=p:=rfl;rw[e,List.length_nil];omega
 |n::o,p,B,h1,h2=>by
  have h3:=nx_bd hl n h1 h2;have h4:=z3j hl o (p:=nx l p n) (B:=B+1000) h3.1 (by omega);rw[q3n,List.length_cons]
  push_cast
  omega
def fn56(l:List Sh)(pr le:Int)(t:Nat)(b p:Int)(n:Nat)(hl:okD l)(hn:n<l.length)(h8:l.length≤8)(ht:t<256)(hb:0≤b∧b≤100000)(hp:0≤p∧p≤100000) :
  Ox.Fn Tryz.prog 56 (.acons (vH l pr le) (.acons (vP ((t:Int),b,p,())) (.acons (vI n) .anil))) (·=vP (((t ||| 2 ^ n:Nat):Int),(nx l (b,p) n).1,(nx l (b,p) n).2,())):=by
 refine Ox.Fn.intro xok Tryz.func56 rfl Tryz.call56 (yyc rfl) (fun E M0 up=>?_);refine JK.start ?_;have hs:=z74 hl n;have hx:nx l (b,p) n=(b+(l.getD n (0,0,0,())).1,Max.max (b+(l.getD n (0,0,0,())).1+(l.getD n (0,0,0,())).2.1) p+(l.getD n (0,0,0,())).2.2.1):=rfl;rw[hx];have he:2 ^ n<256:=Nat.pow_lt_pow_right (a:=2) (by omega) (by omega:n<8);have ha:(2:Int) ^ n=((2 ^ n:Nat):Int):=by push_cast;rfl
 generalize 2 ^ n=pw at he ha ⊢;have hg:0≤(2:Int) ^ n∧(2:Int) ^ n≤256:=by rw[ha];omega
 have hd:((t ||| pw:Nat):Int)=(((t:Int).toNat ||| ((1:Int)*2 ^ ((n:Int)).toNat).toNat:Nat):Int):=by rw[Int.toNat_natCast,Int.toNat_natCast,Int.one_mul,ha,Int.toNat_natCast]
 rw[hd];clear hd ha;refine zK1 ?_;refine o9 (s':=⟨[(2,vI n),(4,.lf (.optr 0 [])),(6,.lf (.optr 1 [])),(7,.lf (.optr 2 [])),(8,vI (b+(l.getD n (0,0,0,())).1))],[(0,.cell shT (vP ((t:Int),b,p,()))),(1,.cell shT (zav shT)),(2,.cell shT (vS (l.getD n (0,0,0,()))))],3⟩) (by exact zJ) ?_;generalize l.getD n (0,0,0,())=s at hs ⊢;obtain⟨s1,s2,s3,_⟩:=s;dsimp only at hs ⊢;refine y5 xk (Tryz.f56.body.getD .skip) ⟨[(6,.lf (.optr 1 []))],[(1,.cell shT (vP ((((t:Int).toNat ||| ((1:Int)*2 ^ ((n:Int)).toNat).toNat:Nat):Int),b+s1,Max.max (b+s1+s2) p+s3,())))],3⟩ rfl 18 rfl ?_ ?_
 ·(refine q7 0 xk rfl rfl (q7 2 xk rfl rfl (q7 3 xk rfl rfl (q7 5 xk rfl rfl (q7 6 xk rfl rfl (q7 7 xk rfl rfl (q7 10 xk rfl rfl (q7 13 xk rfl rfl (z7 1 xk rfl rfl (z7 4 xk rfl rfl (z7 8 xk rfl rfl (z7 9 xk rfl rfl (z7 11 xk rfl rfl (z7 12 xk rfl rfl (z7 14 xk rfl rfl (z7 15 xk rfl rfl (zU 16 xk rfl rfl ?_))))))))))))))));refine zK10 ?_;refine q8 ?_;refine zU 17 xk rfl rfl ?_;refine zK2 ?_;refine q8 ?_;refine v6 xk StF.nil ?_;(exact zJ))
 ·refine zK0 ?_;refine zR rfl trivial ?_;rfl
def fn57(l:List Sh)(pr le:Int)(t:Nat)(b p:Int)(o:List Nat)(hl:okD l)(h8:l.length≤8)(ho:∀ n∈o,n<l.length)(hy:o.length≤8)(ht:t<256)(hb:0≤b∧b≤20000)(hp:0≤p∧p≤22000) :
  Ox.Fn Tryz.prog 57 (.acons (vH l pr le) (.acons (vL (iL o)) (.acons (vP ((t:Int),b,p,())) .anil))) (·=vI (endS l (b,p) o)):=by
 refine Ox.Fn.intro xok Tryz.func57 rfl Tryz.call57 (yyc rfl) (fun E M0 up=>?_);refine JK.start ?_;have hv:(iL o).length=o.length:=by simp
 refine zK0 ?_;refine JK.loop (fun i:Nat=>⟨[(0,vH l pr le),(5,.lf (.optr 0 [])),(9,vL (iL o)),(10,vI o.length),(11,vI (i:Int))],[(0,.cell shT (vP ((orN t (o.take i):Nat),(endP l (b,p) (o.take i)).1,(endP l (b,p) (o.take i)).2,())))],1⟩)
  (fun i=>i≤o.length) (fun i=>o.length-i) 0 (yyu _) ?_ fun i hi=>?_
 ·have e:(o.length:Int)=((iL o).length:Int):=by rw[hv]
  rw[e];exact zJ
 ·have hw:∀ n∈o.take i,n<8:=fun n hn=>by have:=ho n (List.mem_of_mem_take hn);omega
  have hq:=j0n (t:=t) ht hw;have hj:=z3j hl (o.take i) (p:=(b,p)) (B:=20000) ⟨hb.1,hb.2⟩ ⟨hp.1,by show p≤22000;omega⟩;have hd:(o.take i).length≤8:=by rw[yxa];omega
  have ha:i=o.length→(endP l (b,p) (o.take i)).2=endS l (b,p) o:=fun e=>by rw[e,yx3];rfl
  have hk:i<o.length→orN t (o.take (i+1))=orN t (o.take i) ||| 2 ^ (o.getD i 0):=fun hd=>by rw[List.take_succ,yyl hd,j7 o hd];exact z0t _ _ _
  have hu:i<o.length→endP l (b,p) (o.take (i+1))=nx l (endP l (b,p) (o.take i)) (o.getD i 0):=fun hd=>by rw[List.take_succ,yyl hd,j7 o hd];exact q7k _ _ _ _
  generalize orN t (o.take i)=tk at hq hk ⊢;generalize endP l (b,p) (o.take i)=q at hj hu ha ⊢;obtain⟨q1,q2⟩:=q;dsimp only at hj ha ⊢;refine zK0 ?_;refine q9 rfl (fun hc=>?_) (fun hc=>?_)
  ·replace hc:=zC hc;have hh:i<o.length:=by omega
   have he:=hk hh;have hg:=hu hh;have hx:o.getD i 0<l.length:=by rw[j7 o hh];exact ho _ (yy3 hh)
   have eX:(iL o).getD ((i:Int)).toNat (0:Int)=((o.getD i 0:Nat):Int):=j16 o i;generalize o.getD i 0=x at he hg hx eX;have h75:=fn56 l pr le tk q1 q2 x hl hx h8 hq (by omega) (by omega);rw[← he,← hg,← eX] at h75
   (repeat (first|refine zs rfl ?_|refine z38 ?_|refine ze rfl (h75) rfl ?_))
   exact⟨i+1,by exact zJ,by omega,by omega⟩
  ·replace hc:=zC hc;refine zK0 ?_;refine zR rfl trivial ?_;rw[← ha (by omega)]
structure DelI(x:Int)(xs:List Int)(i j:Nat)(cs:List Int):Prop where
 len:cs.length=xs.length
 le:i≤j
 lt:j≤xs.length
 tk:cs.take i=(xs.take j).filter fun k=>decide (k≠x)
 dr:cs.drop j=xs.drop j
variable{x:Int}{cs:List Int}
def DelI.get(h:DelI x xs i j cs)(hj:j<xs.length):cs.getD j 0=xs.getD j 0:=by have h1:=congrArg (fun l=>l.getD 0 0) h.dr;simpa[yyk,List.getElem?_drop] using h1
def DelI.ne(h:DelI x xs i j cs)(hj:j<xs.length)(hx:xs.getD j 0≠x):DelI x xs (i+1) (j+1) (cs.set i (cs.getD j 0)):=by
 have hl:=h.len;have hd:=h.le;have e1:cs.set i (cs.getD j 0)=cs.take i++cs.getD j 0::cs.drop (i+1):=by rw[List.set_eq_take_append_cons_drop,if_pos (by omega)]
 have ha:(cs.take i).length=i:=by rw[yxa];omega
 refine⟨by rw[List.length_set];exact hl,by omega,by omega,?_,?_⟩
 ·have e2:(cs.set i (cs.getD j 0)).take (i+1)=cs.take i++[cs.getD j 0]:=by rw[e1,List.take_append,ha,yxn (by omega),show i+1-i=1 by omega];rfl
  have hb:xs[j]≠x:=by rw[← j7 xs hj 0];exact hx
  rw[e2,h.get hj,h.tk,List.take_succ,yyl hj,List.filter_append,j7 xs hj];simp[hb]
 ·rw[e1,List.drop_append,ha,List.drop_of_length_le (by omega),List.nil_append,show j+1-i=(j-i)+1 by omega,List.drop_succ_cons,List.drop_drop,show i+1+(j-i)=j+1 by omega];have:=congrArg (List.drop 1) h.dr;rw[List.drop_drop,List.drop_drop] at this;exact this
def DelI.eq(h:DelI x xs i j cs)(hj:j<xs.length)(hx:xs.getD j 0=x):DelI x xs i (j+1) cs:=by
 have hl:=h.len;refine⟨hl,by have:=h.le;omega,by omega,?_,?_⟩
 ·rw[h.tk,List.take_succ,yyl hj,List.filter_append];have ha:xs[j]=x:=by rw[← j7 xs hj 0];exact hx
  simp[ha]
 ·have:=congrArg (List.drop 1) h.dr;rw[List.drop_drop,List.drop_drop] at this;exact this
def DelI.done(h:DelI x xs i xs.length cs):cs.take i=xs.filter fun k=>decide (k≠x):=by rw[h.tk,yx3]
def z65{p:Int→Bool}:∀ {xs:List Int} {i:Nat},(∃ x∈xs,p x=true)→∃ j,j<xs.length∧idxB p xs i=((i+j:Nat):Int)∧p (xs.getD j 0)=true∧∀ x∈xs.take j,p x=false
 |[],_,h=>by obtain⟨x,hx,_⟩:=h;cases hx
 |y::r,i,h=>by
  by_cases hy:p y=true
  ·exact⟨0,by simp,by rw[idxB,if_pos hy];rfl,hy,fun x hx=>by cases hx⟩
  ·obtain⟨j,h1,h2,h3,h4⟩:=z65 (xs:=r) (i:=i+1) (by
    obtain⟨x,hx,hp⟩:=h;rcases yym.1 hx with rfl|hx
    ·exact absurd hp hy
    ·exact⟨x,hx,hp⟩)
   refine⟨j+1,by simp;omega,by rw[idxB,if_neg hy,h2];congr 1;omega,h3,fun x hx=>?_⟩;rw[List.take_succ_cons] at hx;rcases yym.1 hx with rfl|hx
   ·simpa using hy
   ·exact h4 x hx
def DelI.start(hj:j<xs.length)(hx:xs.getD j 0=x)(hb:∀ y∈xs.take j,decide (y=x)=false):DelI x xs j (j+1) xs:=by
 refine⟨rfl,by omega,by omega,?_,rfl⟩;rw[List.take_succ,yyl hj,List.filter_append];have ha:xs[j]=x:=by rw[← j7 xs hj 0];exact hx
 have e:(xs.take j).filter (fun k=>decide (k≠x))=xs.take j:=List.filter_eq_self.2 fun y hy=>by have:=hb y hy;simpa using this
 rw[e];simp[ha]
def j17(o:List Nat)(n:Nat):(iL o).filter (fun k=>decide (k≠(n:Int)))=iL (o.filter fun k=>decide (k≠n)):=by unfold iL;rw[List.filter_map];congr 1;refine List.filter_congr fun k _=>?_;refine decide_eq_decide.2 ?_;show(k:Int)≠n↔k≠n;omega
def z3d(row:List Nat)(k:Nat):Sh.freeL (k+1) row=Sh.freeL k row++if k∈row then [] else [k]:=by unfold Sh.freeL;rw[List.range_succ,List.filter_append];congr 1;by_cases h:k∈row<;>simp[h]
set_option maxHeartbeats 4000000 in
def fn58(l:List Sh)(pr le:Int)(row:List Nat)(hl:okD l)(h8:l.length≤8) :
  FnRow Tryz.prog 58 (.acons (vH l pr le) (.acons (vL (iL row)) .anil)) 3 (.int .i64) (iL (ruleF l l.length (Sh.freeL l.length row))):=by
 refine Ox.FnRow.intro (T:=tys) (ET:=ets) (MT:=mts) Tryz.func58 rfl Tryz.call58 (yyc rfl) (fun E M0 up=>?_);refine JK.start ?_;refine zK0 ?_;refine JK.ghost 5 3 (.int .i64) rfl ?_
 (refine z12 [0] [1,2,5,17,18] rfl ?_)
 refine JK.loop (fun k:Nat=>⟨[(1,vL (iL row)),(2,ppH l pr le),(5,.lf (.osl 0)),(17,vI l.length),(18,vI (k:Int))],[(0,.sl 3 (.int .i64) (iL (Sh.freeL k row)))],1⟩) (fun k=>k≤l.length) (fun k=>l.length-k) 0 (yyu _) (by exact zJ) fun k hk=>?_;have hh:=z3d row k;have hH:=q2f k row;have hB:(iL (Sh.freeL k row)).length≤8:=by rw[yxh];omega
 have hb:k=l.length→Sh.freeL k row=Sh.freeL l.length row:=fun e=>by rw[e]
 generalize Sh.freeL k row=o at hh hH hB hb ⊢;refine zK0 ?_;refine q9 rfl (fun hc=>?_) (fun hc=>?_)
 ·replace hc:=zC hc;have hW:k<l.length:=by omega
  (repeat (first|refine zs rfl ?_|refine zc rfl (fn97 _ _) rfl rfl ?_))
  have hu:decide ((k:Int)∈iL row)=decide (k∈row):=by
   refine decide_eq_decide.2 ⟨fun h=>?_,fun h=>yy0.2 ⟨k,h,rfl⟩⟩;obtain⟨a,ha,e⟩:=yy0.1 h;have:a=k:=by omega
   rw[← this];exact ha
  refine q9 rfl (fun hd=>?_) (fun hd=>?_)
  ·rw[if_neg (by rw[hu] at hd;simpa using hd)] at hh;refine zK0 ?_;refine⟨k+1,?_,by omega,by omega⟩;rw[hh,z1a];exact zJ
  ·rw[if_pos (by rw[hu] at hd;simpa using hd),yxw] at hh;refine zK0 ?_;refine⟨k+1,?_,by omega,by omega⟩;rw[hh];exact zJ
 ·replace hc:=zC hc;have ho:=hb (by omega);have hC:=p7 l.length row;have hD:∀ n∈Sh.freeL l.length row,n<l.length:=fun n hn=>(q0q.1 hn).1;rw[← ho] at hC hD ⊢;clear hb hh
  (repeat (first|refine zs rfl ?_|refine zlf j2g rfl rfl rfl ?_))
  refine JK.ghost 10 3 (.int .i64) rfl ?_;have hY:o.length≤8:=by omega
  clear ho hc hB;refine JK.loop (σ:=Nat×List Nat×List Nat) (fun q=>⟨[(5,.lf (.osl 0)),(9,rkF l pr le),(10,.lf (.osl 1))],[(0,.sl 3 (.int .i64) (iL q.2.1)),(1,.sl 3 (.int .i64) (iL q.2.2))],2⟩)
   (fun q=>q.2.1.length≤q.1∧q.2.1.Nodup∧(∀ n∈q.2.1,n<l.length)∧q.2.2++ruleF l q.1 q.2.1=ruleF l l.length o∧q.2.1.length+q.2.2.length≤8) (fun q=>q.1) (l.length,o,[]) ⟨by dsimp only;omega,hC,hD,rfl,by dsimp only[List.length_nil];omega⟩ (by exact zJ) fun q hq=>?_
  obtain⟨f,left,out⟩:=q;obtain⟨i1,i2,i3,i4,i5⟩:=hq;dsimp only at i1 i2 i3 i4 i5 ⊢;have hZ:(iL left).length=left.length:=by simp
  have h0:(iL out).length=out.length:=by simp
  refine zK0 ?_;refine q9 rfl (fun hd=>?_) (fun hd=>?_)
  ·replace hd:=zC hd;have hJ:0<left.length:=by omega
   cases left with
   |nil=>simp at hJ
   |cons b r=>
   cases f with
   |zero=>simp at i1
   |succ f=>
   have hm:=(q09 (rk l) r b).1;have hp:=q0j i2 hm;have hK:r.length=((b::r).filter fun k=>decide (k≠leastG (rk l) b r)).length:=by have:=hp.length_eq;rw[List.length_cons,List.length_cons] at this;omega
   have hv:=j17 (b::r) (leastG (rk l) b r);rw[ruleF] at i4;have hE:((leastG (rk l) b r:Nat):Int)∈iL (b::r):=yy0.2 ⟨_,hm,rfl⟩;have hF:=fn101r l pr le hl b r i3;have hw:=i3 _ hm;generalize leastG (rk l) b r=x at hm hp hK hv i4 hE hF hw;have hL:∀ n∈(b::r).filter (fun k=>decide (k≠x)),n<l.length:=fun n hn=>i3 n (yy7.1 hn).1;have hM:=i2.filter (fun k=>decide (k≠x))
   (repeat (first|refine zs rfl ?_|refine zc rfl (hF) rfl rfl ?_))
   refine y5 xk (Tryz.f58.body.getD .skip) ⟨[(5,.lf (.osl 0)),(9,rkF l pr le),(10,.lf (.osl 1)),(11,.lf (.optr 2 []))],[(0,.sl 3 (.int .i64) (iL (b::r))),(1,.sl 3 (.int .i64) (iL (out++[x]))),(2,.cell (.int .i64) (vI x))],3⟩ rfl 10 rfl ?_ ?_
   ·(refine q7 0 xk rfl rfl (q7 1 xk rfl rfl (q7 2 xk rfl rfl (q7 3 xk rfl rfl (q7 4 xk rfl rfl (q7 5 xk rfl rfl (z7 6 xk rfl rfl (zU 7 xk rfl rfl ?_)))))));(refine r8 xk rfl rfl ?_);refine q8 ?_;refine zU 8 xk rfl rfl ?_;(first|refine r8 xk rfl rfl ?_|refine JL.M0 xk rfl ?_|refine q53 xk rfl rfl ?_);refine q8 ?_;refine q7 9 xk rfl rfl ?_;refine v6 xk StF.nil ?_;((rw[z1a];(refine q3w (by conv=>lhs;reduce) ?_ ?_ ?_ ?_ rfl<;>(repeat' (first|exact trivial|exact rfl|refine And.intro ?_ ?_|exact yyc rfl|refine q30 ?_|refine q3z ?_|(refine congrArg (fun z:Int=>some (AV.val (.int .i64) z)) ?_;push_cast;omega)|(show some (HO.sl 3 (.int .i64) _)=some (HO.sl 3 (.int .i64) _);congr 1;rw[Int.toNat_natCast,yx3])))))))
   ·(refine z12 [2] [5,9,10,11] rfl ?_)
    refine zK0 ?_;refine JK.inl [9,10] rfl rfl trivial Tryz.func102 rfl Tryz.call102 (yyc rfl) rfl fun M1 up1=>?_;obtain⟨j0,j1,j2,j3,j4⟩:=z65 (p:=fun k=>decide (k=(x:Int))) (xs:=iL (b::r)) (i:=0) ⟨_,hE,decide_eq_true rfl⟩;have hy:=fn108 (iL (b::r)) x;rw[j2,yxu] at hy;have hst:=DelI.start j1 (of_decide_eq_true j3) j4;have hN:(iL (b::r)).length≤8:=by simp;simp at i5;omega
    generalize iL (b::r)=xs at hy hst hN hv j1 ⊢;clear j2 j3 j4
    (repeat (first|refine zs rfl ?_|refine zc rfl (hy) rfl rfl ?_))
    refine q9 rfl (fun hc=>?_) (fun _=>?_)
    ·replace hc:=zC hc;omega
    ·refine zK0 ?_;refine JK.loop (σ:=Nat×Nat×List Int) (fun q=>⟨[(0,.lf (.osl 0)),(1,.fn 103 .anil (.acons (pI x) .anil)),(5,vI (q.1:Int)),(6,vI (q.2.1:Int))],[(3,.fr 0 [(9,rkF l pr le),(10,.lf (.osl 1))]),(0,.sl 3 (.int .i64) q.2.2),(1,.sl 3 (.int .i64) (iL (out++[x])))],4⟩)
      (fun q=>DelI x xs q.1 q.2.1 q.2.2) (fun q=>xs.length-q.2.1) (j0,j0+1,xs) hst (by exact zJ) fun q hq=>?_
     obtain⟨i,j,cs⟩:=q;dsimp only at hq ⊢;have h1:=hq.len;have h2:=hq.le;have h3:=hq.lt;refine zK0 ?_;refine q9 rfl (fun hc=>?_) (fun hc=>?_)
     ·replace hc:=zC hc;have hj:j<xs.length:=by omega
      have hg:=hq.get hj;have hP:=fn103 (cs.getD j 0) x
      (repeat (first|refine zs rfl ?_|refine zc rfl (hP) rfl rfl ?_))
      refine q9 rfl (fun he=>?_) (fun he=>?_)
      ·have hA:xs.getD j 0≠(x:Int):=by rw[← hg];simpa using he
       refine zK0 ?_;exact⟨(i+1,j+1,cs.set i (cs.getD j 0)),by exact zJ,hq.ne hj hA,by dsimp only;omega⟩
      ·have hA:xs.getD j 0=(x:Int):=by rw[← hg];simpa using he
       refine zK0 ?_;exact⟨(i,j+1,cs),by exact zJ,hq.eq hj hA,by dsimp only;omega⟩
     ·replace hc:=zC hc;have hj:j=xs.length:=by omega
      subst hj;have hQ:=hq.done;refine zK0 ?_;refine j4q xk rfl rfl rfl rfl ?_ trivial ?_
      ·show((i:Int)).toNat≤cs.length;omega
      have hR:(cs.take i).length=i:=by rw[yxa];omega
      have hT:(List.take ((i:Int)).toNat cs++List.replicate (cs.length-((i:Int)).toNat) (Ty.dflt (.int .i64))).length=xs.length:=by rw[Int.toNat_natCast,yy2,hR,List.length_replicate];omega
      have hG:(List.take ((i:Int)).toNat cs++List.replicate (cs.length-((i:Int)).toNat) (Ty.dflt (.int .i64))).take i=iL ((b::r).filter fun k=>decide (k≠x)):=by rw[← hv,← hQ,Int.toNat_natCast,yx7 (by omega),yxn (by omega)]
      generalize List.take ((i:Int)).toNat cs++List.replicate (cs.length-((i:Int)).toNat) (Ty.dflt (.int .i64))=ds at hT hG ⊢;have hU:i≤ds.length:=by omega
      refine zK0 ?_;refine q5m rfl rfl rfl rfl ?_;refine zK0 ?_;refine⟨(f,(b::r).filter (fun k=>decide (k≠x)),out++[x]),?_,⟨?_,hM,hL,?_,?_⟩,yy9 _⟩
      ·refine JW.trans (s2:=⟨[(5,.lf (.osl 4)),(9,rkF l pr le),(10,.lf (.osl 1))],[(4,.sl 3 (.int .i64) (iL ((b::r).filter fun k=>decide (k≠x)))),(1,.sl 3 (.int .i64) (iL (out++[x])))],5⟩) (by exact zJ) ?_;rw[← hG];refine JW.short (d:=5) (m:=0) (hi:=i) rfl rfl hU ⟨rfl,rfl,trivial⟩ (fun m o h=>?_) rfl;by_cases e:1=m
       ·subst e;exact h
       ·simp[lk,e] at h
      ·dsimp only;rw[List.length_cons] at i1;omega
      ·dsimp only;rw[yxg];exact i4
      ·dsimp only;rw[yy2,List.length_singleton];rw[List.length_cons] at i5;omega
  ·replace hd:=zC hd;have hz:left.length=0:=by omega
   have:=List.length_eq_zero_iff.1 hz;subst this;have e:ruleF l l.length o=out:=by
    cases f with
    |zero=>rw[← i4];simp[ruleF]
    |succ f=>rw[← i4];simp[ruleF]
   rw[e];refine zK0 ?_;exact⟨.inl rfl,4,1,rfl,rfl,rfl⟩
def prS(l:List Sh):Int:=(l.map fun s:Sh=>s.2.2.1).sum
def ruleL(l:List Sh):List Nat:=ruleF l l.length (Sh.freeL l.length [])
def leS(l:List Sh):Int:=endS l (0,0) (ruleL l)
def prS_snoc(l:List Sh)(s:Sh):prS (l++[s])=prS l+s.2.2.1:=by simp[prS]
def prS_bd:∀ {l:List Sh},okD l→0≤prS l∧prS l≤1000*l.length
 |[],_=>by simp[prS]
 |s::l,h=>by
  have h1:=prS_bd (l:=l) fun x hx=>h x (yyh _ hx);have h2:=h s yyi;unfold okS at h2;have e:prS (s::l)=s.2.2.1+prS l:=by simp[prS]
  rw[e,List.length_cons]
  push_cast
  dsimp only[da,dr,dp] at h2;omega
def q74(l:List Sh):List.Perm (ruleL l) (Sh.freeL l.length []):=q35 l _ (q2f _ _) (p7 _ _)
def rule_mem:∀ n∈ruleL l,n<l.length:=fun n hn=>(q0q.1 ((q74 l).mem_iff.1 hn)).1
def rule_len(l:List Sh):(ruleL l).length=l.length:=by
 rw[(q74 l).length_eq];have:Sh.freeL l.length []=List.range l.length:=List.filter_eq_self.2 fun n _=>by simp
 rw[this,List.length_range]
def fn53(l:List Sh)(hl:okD l)(h8:l.length≤8):Ox.Fn Tryz.prog 53 (.acons (vD l) .anil) (·=vH l (prS l) (leS l)):=by
 refine Ox.Fn.intro xok Tryz.func53 rfl Tryz.call53 (yyc rfl) (fun E M0 up=>?_);refine JK.start ?_;refine zK0 ?_;refine JK.loop (fun i:Nat=>⟨[(0,vD l),(3,.lf (.optr 0 [])),(10,vD l),(11,vI l.length),(12,vI (i:Int))],[(0,.cell shopT (.val shopT ((l,prS (l.take i),()),0,())))],1⟩) (fun i=>i≤l.length) (fun i=>l.length-i) 0 (yyu _) (by exact zJ) fun i hi=>?_;have hb:=prS_bd (l:=l.take i) fun s hs=>hl s (List.mem_of_mem_take hs);have hs:=z74 hl i;have hh:(l.take i).length≤8:=by rw[yxa];omega
 have hd:i<l.length→prS (l.take (i+1))=prS (l.take i)+(l.getD i (0,0,0,())).2.2.1:=fun h=>by rw[List.take_succ,yyl h,j7 l h];exact prS_snoc _ _
 have ha:i=l.length→prS (l.take i)=prS l:=fun e=>by rw[e,yx3]
 generalize prS (l.take i)=S at hb hd ha ⊢;refine zK0 ?_;refine q9 rfl (fun hc=>?_) (fun hc=>?_)
 ·replace hc:=zC hc;refine zK1 ?_;refine o9 (s':=⟨[(0,vD l),(3,.lf (.optr 0 [])),(5,.lf (.optr 1 [])),(10,vD l),(11,vI l.length),(12,vI (i:Int))],[(0,.cell shopT (.val shopT ((l,S,()),0,()))),(1,.cell shT (vS (l.getD i (0,0,0,()))))],2⟩) (by exact zJ) ?_;generalize l.getD i (0,0,0,())=s at hs hd ⊢;obtain⟨s1,s2,s3,_⟩:=s;dsimp only at hs hd ⊢;refine q4h xk (Tryz.f53.body.getD .skip) ⟨[(0,vD l),(3,.lf (.optr 0 [])),(10,vD l),(11,vI l.length),(12,vI (i:Int))],[(0,.cell shopT (.val shopT ((l,S+s3,()),0,())))],2⟩ rfl 12 rfl ?_ ?_
  ·(refine q7 0 xk rfl rfl (q7 1 xk rfl rfl (q7 2 xk rfl rfl (q7 3 xk rfl rfl (q7 5 xk rfl rfl (z7 4 xk rfl rfl (z7 6 xk rfl rfl (z7 7 xk rfl rfl (z7 8 xk rfl rfl (z7 9 xk rfl rfl (z7 10 xk rfl rfl (zU 11 xk rfl rfl ?_)))))))))));refine zK2 ?_;refine q8 ?_;refine v6 xk ?_ ?_;exact zS;(exact zJ))
  ·rw[← hd (by omega)];refine zK0 ?_;exact⟨i+1,by exact zJ,by omega,by omega⟩
 ·replace hc:=zC hc;rw[ha (by omega)];have he:=fn58 l (prS l) 0 [] hl h8;have hg:=fn57 l (prS l) 0 0 0 0 (ruleL l) hl h8 rule_mem (by rw[rule_len];exact h8) (by omega) (by omega) (by omega);refine zK0 ?_;refine z50 rfl he rfl trivial ?_
  (repeat (first|refine zs rfl ?_|refine n3 ?_|refine zc rfl (hg) rfl rfl ?_))
  refine zR rfl trivial ?_;rfl
abbrev vOp(l:List Sh):AV:=.tup (.acons (.val (.ptr shopT) (if dayE l=0 then some ((l,prS l,()),leS l,()) else none)) (.acons (vI (dayE l)) .anil))
def fn20(l:List Sh):Ox.Fn Tryz.prog 20 (.acons (vD l) .anil) (·=vOp l):=by
 refine Ox.Fn.intro xok Tryz.func20 rfl Tryz.call20 (yyc rfl) (fun E M0 up=>?_);refine JK.start ?_
 (repeat (first|refine zs rfl ?_|refine zc rfl (fn52 l) rfl rfl ?_))
 refine q9 rfl (fun hc=>?_) (fun hc=>?_)
 ·replace hc:=zC hc;have e:vOp l=.tup (.acons (.val (.ptr shopT) none) (.acons (vI (dayE l)) .anil)):=by unfold vOp;rw[if_neg hc]
  rw[e];refine zK0 ?_;refine zR rfl trivial ?_;rfl
 ·replace hc:=zC hc;have ha:dayE l=0:=by omega
  obtain⟨h1,h8,hl⟩:=day_ok ha;have e:vOp l=.tup (.acons (.val (.ptr shopT) (some ((l,prS l,()),leS l,()))) (.acons (vI 0) .anil)):=by unfold vOp;rw[if_pos ha,ha]
  rw[e]
  (repeat (first|refine zs rfl ?_|refine n3 ?_|refine ze rfl (fn53 l hl h8) rfl ?_))
  refine zR rfl trivial ?_;rfl
variable{P:Nat→Bool}
def j2p{row:List Nat}(hn:n<N)(hr:n∉row)(hp:P n=true)(hb:∀ m,m<n→m∉row→P m=false):(Sh.freeL N row).find? P=some n:=by
 unfold Sh.freeL;rw[List.find?_filter,List.find?_range_eq_some];refine⟨by simp[hr,hp],yyt.2 hn,fun m hm=>?_⟩;by_cases h:m∈row
 ·simp[h]
 ·simp[h,hb m hm h]
def q9e{row:List Nat}(hb:∀ m,m<N→m∉row→P m=false):(Sh.freeL N row).find? P=none:=by rw[List.find?_eq_none];intro m hm;have:=q0q.1 hm;rw[hb m this.1 this.2];simp
def and_one(b k:Nat):(b / 2 ^ k) &&& 1=1↔b.testBit k=true:=by rw[Nat.testBit_eq_decide_div_mod_eq,Nat.and_one_is_mod,decide_eq_true_iff]
def j0o(k:Nat):∀ (o:List Nat) (t:Nat),(orN t o).testBit k=(t.testBit k||decide (k∈o))
 |[],t=>by simp[orN]
 |n::o,t=>by
  have e:orN t (n::o)=orN (t ||| 2 ^ n) o:=rfl;rw[e,j0o k o,Nat.testBit_or,Nat.testBit_two_pow];by_cases h:n=k
  ·subst h;simp
  ·have h':¬ k=n:=fun e=>h e.symm;simp[h,h']
def z2a(o:List Nat)(k:Nat):(orN 0 o / 2 ^ k) &&& 1=1↔k∈o:=by rw[and_one,j0o];simp
def z1r(t k:Nat):((((t:Int) / 2 ^ ((k:Int)).toNat).toNat &&& ((1:Int)).toNat:Nat):Int)=(((t / 2 ^ k) &&& 1:Nat):Int):=by rw[Int.toNat_natCast,show((t:Int) / 2 ^ k)=((t / 2 ^ k:Nat):Int) by push_cast;rfl,Int.toNat_natCast];rfl
set_option maxHeartbeats 4000000 in
def fn25(l:List Sh)(pr le:Int)(hl:okD l)(h8:l.length≤8):Ox.Fn Tryz.prog 25 (.acons (vH l pr le) .anil) (·=vL (iL (greedy l l.length le l.length [] (0,0)))):=by
 refine Ox.Fn.intro xok Tryz.func25 rfl Tryz.call25 (yyc rfl) (fun E M0 up=>?_);refine JK.start ?_;refine zK0 ?_;refine JK.ghost 3 3 (.int .i64) rfl ?_
 (refine z12 [1] [0,3,4,5] rfl ?_)
 refine JK.loop (σ:=Nat×List Nat) (fun q=>⟨[(0,vH l pr le),(3,vL (iL q.2)),(4,.lf (.optr 0 [])),(5,.fn 57 (.acons (vH l pr le) .anil) .anil)],[(0,.cell shT (vP ((orN 0 q.2:Nat),(endP l (0,0) q.2).1,(endP l (0,0) q.2).2,())))],1⟩)
  (fun q=>greedy l l.length le q.1 q.2 (endP l (0,0) q.2)=greedy l l.length le l.length [] (0,0)∧q.2.length+q.1=l.length∧(∀ n∈q.2,n<l.length)∧q.2.Nodup) (fun q=>q.1) (l.length,[]) ⟨rfl,by simp,(fun n hn=>by cases hn),yx5⟩ (by exact zJ) fun q hq=>?_
 obtain⟨f,row⟩:=q;obtain⟨i1,i2,i3,i4⟩:=hq;dsimp only at i1 i2 i3 i4 ⊢;have hN:(iL row).length=row.length:=by simp
 have hF:=z3j hl row (p:=(0,0)) (B:=0) ⟨by decide,by decide⟩ ⟨by decide,by decide⟩;have hq:=j0n (t:=0) (o:=row) (by omega) fun n hn=>by have:=i3 n hn;omega
 have hk:=z2a row;have hp:=z0t 0 row;have hu:=q7k l (0,0) row;generalize orN 0 row=tk at hq hk hp ⊢;generalize endP l (0,0) row=p at i1 hF hu ⊢;obtain⟨p1,p2⟩:=p;dsimp only at hF ⊢;refine zK0 ?_;refine q9 rfl (fun hc=>?_) (fun hc=>?_)
 ·replace hc:=zC hc;cases f with
  |zero=>omega
  |succ f=>
  rw[greedy] at i1;refine zK0 ?_;refine JK.loop (fun n:Nat=>⟨[(0,vH l pr le),(3,vL (iL row)),(4,.lf (.optr 0 [])),(5,.fn 57 (.acons (vH l pr le) .anil) .anil),(26,vI l.length),(27,vI (n:Int))],[(0,.cell shT (vP ((tk:Int),p1,p2,())))],1⟩)
   (fun n=>n≤l.length∧∀ m,m<n→m∉row→decide (endS l (nx l (p1,p2) m) (ruleF l l.length (Sh.freeL l.length (row++[m])))≤le)=false) (fun n=>l.length-n) 0 ⟨yyu _,fun m hm=>absurd hm (by omega)⟩ (by exact zJ) fun n ⟨hn,hv⟩=>?_
  refine zK0 ?_;refine q9 rfl (fun hd=>?_) (fun hd=>?_)
  ·replace hd:=zC hd;have hz:n<l.length:=by omega
   have hT:0≤(tk:Int) / 2 ^ n∧(tk:Int) / 2 ^ n≤256:=by
    have e:(tk:Int) / 2 ^ n=((tk / 2 ^ n:Nat):Int):=by push_cast;rfl
    have:=Nat.div_le_self tk (2 ^ n);rw[e];generalize tk / 2 ^ n=z at this ⊢;omega
   have hG:=z1r tk n;refine zK0 ?_;refine q9 rfl (fun he=>?_) (fun he=>?_)
   ·have hH:=of_decide_eq_true (by rw[← hG];exact he:decide ((((tk / 2 ^ n) &&& 1:Nat):Int)=1)=true);have hj:n∈row:=(hk n).1 (by omega);refine zK0 ?_;refine⟨n+1,by exact zJ,⟨by omega,fun m hm hw=>?_⟩,by omega⟩;by_cases e:m=n
    ·subst e;exact absurd hj hw
    ·exact hv m (by omega) hw
   ·have hH:=of_decide_eq_false (by rw[← hG];exact he:decide ((((tk / 2 ^ n) &&& 1:Nat):Int)=1)=false);have hj:n∉row:=fun h=>hH (by rw[(hk n).2 h];rfl);have hP:(row++[n]).Nodup:=by rw[List.nodup_append];exact⟨i4,by simp,fun a ha b hb e=>hj (by rw[← yys.1 hb,← e];exact ha)⟩
    have h75:=fn56 l pr le tk p1 p2 n hl hz h8 hq (by omega) (by omega);have hA:=fn58 l pr le (row++[n]) hl h8;have hB:=q35 l l.length (q2f l.length (row++[n])) (p7 l.length (row++[n]));have hJ:∀ m∈ruleF l l.length (Sh.freeL l.length (row++[n])),m<l.length:=fun m hm=>(q0q.1 (hB.mem_iff.1 hm)).1;have hK:(ruleF l l.length (Sh.freeL l.length (row++[n]))).length≤8:=by rw[hB.length_eq];have:=q2f l.length (row++[n]);omega
    have hL:=nx_bd hl n (p:=(p1,p2)) (B:=8000) (by dsimp only;omega) (by dsimp only;omega);have hQ:tk ||| 2 ^ n<256:=or_lt hq (by omega)
    have hR:=hp n;have hC:=hu n;have hD:∀ m,m<n+1→m∉row→m=n∨decide (endS l (nx l (p1,p2) m) (ruleF l l.length (Sh.freeL l.length (row++[m])))≤le)=false:=fun m hm hr=>by
     by_cases e:m=n
     ·exact .inl e
     ·exact .inr (hv m (by omega) hr)
    have hh:=fun h=>j2p hz hj (P:=fun m=>decide (endS l (nx l (p1,p2) m) (ruleF l l.length (Sh.freeL l.length (row++[m])))≤le)) h hv;generalize hM:ruleF l l.length (Sh.freeL l.length (row++[n]))=ro at hA hB hJ hK;rw[hM] at hh;obtain⟨x1,x2,hE⟩:∃ x1 x2,nx l (p1,p2) n=(x1,x2):=⟨_,_,rfl⟩;rw[hE] at h75 hL hC hh;dsimp only at hL h75;have hy:=fn57 l pr le (tk ||| 2 ^ n) x1 x2 ro hl h8 hJ hK hQ (by omega) (by omega);have hU:(List.take (iL row).length (iL row)).length=row.length:=by rw[yx3,hN]
    (repeat (first|refine zs rfl ?_|refine ze rfl (h75) rfl ?_))
    refine o9 (s':=⟨[(0,vH l pr le),(3,vL (iL row)),(4,.lf (.optr 0 [])),(5,.fn 57 (.acons (vH l pr le) .anil) .anil),(6,vI (n:Int)),(7,.lf (.osl 1)),(8,.lf (.optr 2 [])),(26,vI l.length),(27,vI (n:Int))],
     [(0,.cell shT (vP ((tk:Int),p1,p2,()))),(1,.sl 3 (.int .i64) (iL (row++[n]))),(2,.cell shT (vP (((tk ||| 2 ^ n:Nat):Int),x1,x2,())))],3⟩) ?_ ?_
    ·rw[z1a];(refine q3w (by conv=>lhs;reduce) ?_ ?_ ?_ ?_ rfl<;>(repeat' (first|exact trivial|exact rfl|refine And.intro ?_ ?_|exact yyc rfl|refine q30 ?_|refine q3z ?_|(refine congrArg (fun z:Int=>some (AV.val (.int .i64) z)) ?_;push_cast;omega)|(show some (HO.sl 3 (.int .i64) _)=some (HO.sl 3 (.int .i64) _);congr 1;congr 1;rw[Int.toNat_natCast,yx3]))))
    refine y5 xk (lpC Tryz.f25.body) ⟨[(0,vH l pr le),(3,vL (iL row)),(4,.lf (.optr 0 [])),(5,.fn 57 (.acons (vH l pr le) .anil) .anil),(6,vI (n:Int)),(7,.lf (.osl 1)),(8,.lf (.optr 2 [])),(26,vI l.length),(27,vI (n:Int)),(59,vB (decide (endS l (x1,x2) ro≤le)))],
     [(0,.cell shT (vP ((tk:Int),p1,p2,()))),(1,.sl 3 (.int .i64) (iL (row++[n]))),(2,.cell shT (vP (((tk ||| 2 ^ n:Nat):Int),x1,x2,())))],4⟩ rfl 11 rfl ?_ ?_
    ·(refine q7 0 xk rfl rfl (q7 1 xk rfl rfl (q7 2 xk rfl rfl (q7 6 xk rfl rfl (q7 7 xk rfl rfl (q7 8 xk rfl rfl (z7 4 xk rfl rfl (z7 9 xk rfl rfl (zU 3 xk rfl rfl ?_))))))));(first|refine q85 rfl (hy) rfl trivial rfl ?_|(refine q86 rfl (hy) rfl (fun r hr=>?_);subst hr)|(refine JL.CRI rfl hA rfl ?_ trivial));refine q8 ?_;refine zU 5 xk rfl rfl ?_;(first|refine q85 rfl (hy) rfl trivial rfl ?_|(refine q86 rfl (hy) rfl (fun r hr=>?_);subst hr)|(refine JL.CRI rfl hA rfl ?_ trivial));refine q8 ?_;refine z7 10 xk rfl rfl ?_;refine v6 xk ?_ ?_;exact zS;(exact zJ))
    refine zK0 ?_;refine q9 rfl (fun hg=>?_) (fun hg=>?_)
    ·rw[hh hg] at i1;dsimp only at i1;rw[hE,← hC] at i1
     (refine z12 [1] [0,4,5,7,8] rfl ?_)
     refine zK1 ?_;refine y5 xk (lpC Tryz.f25.body) ⟨[(0,vH l pr le),(3,vL (iL (row++[n]))),(4,.lf (.optr 0 [])),(5,.fn 57 (.acons (vH l pr le) .anil) .anil)],[(0,.cell shT (vP (((tk ||| 2 ^ n:Nat):Int),x1,x2,())))],4⟩ rfl 4 rfl ?_ ?_
     ·(refine q7 0 xk rfl rfl (q7 2 xk rfl rfl (z7 1 xk rfl rfl (zU 3 xk rfl rfl ?_)));exact zB3)
     refine zK0 ?_;refine⟨(f,row++[n]),?_,⟨i1,?_,?_,hP⟩,yy9 _⟩
     ·dsimp only;rw[hR,hC];exact zJ
     ·dsimp only;rw[yy2,List.length_singleton];omega
     ·intro m hm;rcases yy4.1 hm with hm|hm
      ·exact i3 m hm
      ·rw[yys.1 hm];exact hz
    ·refine zK0 ?_;refine⟨n+1,by exact zJ,⟨by omega,fun m hm hw=>?_⟩,by omega⟩;rcases hD m hm hw with e|e
     ·rw[e,hM,hE];exact hg
     ·exact e
  ·replace hd:=zC hd;rw[q9e (fun m hm=>hv m (by omega))] at i1;refine zK0 ?_;refine zR rfl trivial ?_;rw[← i1]
 ·replace hc:=zC hc;have hf:f=0:=by omega
  subst hf;rw[greedy] at i1;refine zK0 ?_;refine zR rfl trivial ?_;rw[i1]
def Ord(N:Nat)(xs:List Int):Prop:=xs.length=N∧(∀ x∈xs,0≤x∧x<(N:Int))∧xs.Nodup
abbrev natL(xs:List Int):List Nat:=xs.map Int.toNat
def iL_nat(h:∀ x∈xs,0≤x):iL (natL xs)=xs:=by
 unfold iL natL;rw[List.map_map]
 conv=>rhs;rw[← List.map_id xs]
 refine List.map_congr_left fun x hx=>?_;have:=h x hx;show((x.toNat:Nat):Int)=x;omega
def Ord.iL{N:Nat}{xs:List Int}(h:Ord N xs):Go.Proofs.YtcijjbccigbflaaGreatDoor.Pr.iL (natL xs)=xs:=iL_nat fun x hx=>(h.2.1 x hx).1
def Ord.len(h:Ord N xs):(natL xs).length=N:=by rw[yxh];exact h.1
abbrev lvL(t:List Sh):List Int:=t.map fun s:Sh=>s.1
abbrev T0:Sh:=(0,0,0,())
end Go.Proofs.YtcijjbccigbflaaGreatDoor.Pr
namespace Go.Proofs.YtcijjbccigbflaaGreatDoor.Pr
open Go Go.RowKit Ox Ox.Sh
abbrev allL(l:List Sh):List (List Nat):=lvl l.length l.length
def z1e(N:Nat):Sh.freeL N []=List.range N:=List.filter_eq_self.2 fun n _=>by simp
def z4x:o∈lvl N N↔o.length=N∧o.Nodup∧∀ x∈o,x<N:=by
 rw[z45,q5k];constructor
 ·rintro⟨z,rfl,h1,h2,h3⟩;exact⟨h1,h2,fun x hx=>(h3 x hx).1⟩
 ·rintro⟨h1,h2,h3⟩;exact⟨o,rfl,h1,h2,fun x hx=>⟨h3 x hx,by simp⟩⟩
def q2d(h:o∈lvl N N):List.Perm o (List.range N):=by obtain⟨h1,h2,h3⟩:=z4x.1 h;exact z0r h2 List.nodup_range (fun x hx=>yyt.2 (h3 x hx)) (by rw[List.length_range];omega)
def z43(h:List.Perm o (List.range N)):o∈lvl N N:=z4x.2 ⟨by rw[h.length_eq,List.length_range],h.nodup_iff.2 List.nodup_range,fun x hx=>yyt.1 (h.mem_iff.1 hx)⟩
def z90(l:List Sh):ruleL l∈allL l:=by have:=q74 l;rw[z1e] at this;exact z43 this
variable{l:List Sh}
def j1x(hl:okD l)(h:o∈allL l):leS l≤endS l (0,0) o:=by have:=q2d h;rw[← z1e] at this;exact q75 hl l.length (0,0) (q2f _ _) (p7 _ _) this
def bestsL(l:List Sh):List (List Nat):=(allL l).filter fun o=>decide (endS l (0,0) o=leS l)
def q8c:o∈bestsL l↔o∈allL l∧endS l (0,0) o=leS l:=by unfold bestsL;rw[yy7,yyr]
def z78(l:List Sh):ruleL l∈bestsL l:=q8c.2 ⟨z90 l,rfl⟩
def bests_ne(l:List Sh):bestsL l≠[]:=fun e=>by have:=z78 l;rw[e] at this;cases this
def bestO(l:List Sh):List Nat:=greedy l l.length (leS l) l.length [] (0,0)
def z8z(hl:okD l):∃ r,bestsL l=bestO l::r:=by
 have h:=q6x hl (N:=l.length) (least:=leS l) l.length [] (by rw[z1e,List.length_range]) ⟨ruleL l,by rw[← z45];exact z90 l,Int.le_refl _⟩;rw[← z45] at h;have e:∀ L:List (List Nat),(∀ o∈L,leS l≤endS l (0,0) o)→∀ b,L.find? (fun o=>decide (endS l (0,0) o≤leS l))=some b→∃ r,L.filter (fun o=>decide (endS l (0,0) o=leS l))=b::r:=by
  intro L;induction L with
  |nil=>intro _ b h;cases h
  |cons o L ih=>
   intro ha b hb;have h0:=ha o yyi;by_cases hc:endS l (0,0) o≤leS l
   ·rw[List.find?_cons_of_pos (by exact decide_eq_true hc)] at hb;rw[List.filter_cons_of_pos (by exact decide_eq_true (by omega:endS l (0,0) o=leS l))];cases hb;exact⟨_,rfl⟩
   ·rw[List.find?_cons_of_neg (by simpa using hc)] at hb;rw[yxz (by simp;omega)];exact ih (fun o ho=>ha o (yyh _ ho)) b hb
 exact e _ (fun o ho=>j1x hl ho) _ h
def best_in(hl:okD l):bestO l∈bestsL l:=by obtain⟨r,h⟩:=z8z hl;rw[h];exact yyi
def le_pos(hl:okD l):0≤leS l:=(z3j hl (ruleL l) (p:=(0,0)) (B:=0) ⟨by decide,by decide⟩ ⟨by decide,by decide⟩).2.1
def befB(a b:Nat):List Nat→Bool
 |[]=>true
 |n::r=>if n=b then false else if n=a then true else befB a b r
def q7l(a b n:Nat):∀ r:List Nat,befB a b (r++[n])=(befB a b r&&!(decide (n=b)&&!decide (a∈r)))
 |[]=>by
  show(if n=b then false else if n=a then true else true)=_;by_cases h:n=b
  ·simp[h,befB]
  ·simp[h,befB]
 |m::r=>by
  show(if m=b then false else if m=a then true else befB a b (r++[n]))=_;rw[befB];by_cases h:m=b
  ·rw[if_pos h,if_pos h];rfl
  ·rw[if_neg h,if_neg h];by_cases h2:m=a
   ·subst h2;simp
   ·rw[if_neg h2,if_neg h2,q7l a b n r];have:a∈m::r↔a∈r:=by rw[yym];exact⟨fun h=>h.resolve_left fun e=>h2 e.symm,.inr⟩
    rw[decide_eq_decide.2 this]
def okC(one two:Int)(row:List Nat)(n:Nat):Bool:=!(decide (0≤one)&&decide ((n:Int)=two)&&!decide (one.toNat∈row))
def rowsC(one two:Int)(N:Nat):Nat→List (List Nat)
 |0=>[[]]
 |k+1=>(rowsC one two N k).flatMap fun row=>((Sh.freeL N row).filter (okC one two row)).map fun n=>row++[n]
def q9p(two:Int){one:Int}(h:one<0)(N:Nat):∀ k,rowsC one two N k=lvl N k
 |0=>rfl
 |k+1=>by rw[rowsC,lvl,q9p two h N k];congr 1;funext row;rw[List.filter_eq_self.2 fun n _=>by unfold okC;rw[decide_eq_false (by omega)];rfl]
def q1n{α β:Type}(P:α→Bool)(f:α→List β):∀ L:List α,(L.filter P).flatMap f=L.flatMap fun a=>if P a=true then f a else []
 |[]=>rfl
 |a::L=>by
  rw[List.flatMap_cons,← q1n P f L];by_cases h:P a=true
  ·rw[List.filter_cons_of_pos h,List.flatMap_cons,if_pos h]
  ·rw[yxz h,if_neg h,List.nil_append]
def q0o{α β:Type}(P:β→Bool)(f:α→List β):∀ L:List α,(L.flatMap f).filter P=L.flatMap fun a=>(f a).filter P
 |[]=>rfl
 |a::L=>by rw[List.flatMap_cons,List.flatMap_cons,List.filter_append,q0o P f L]
def z2j(a b:Nat)(N:Nat):∀ k,rowsC (a:Int) (b:Int) N k=(lvl N k).filter (befB a b)
 |0=>rfl
 |k+1=>by
  rw[rowsC,lvl,z2j a b N k,q1n,q0o];congr 1;funext row;have e:∀ n:Nat,okC (a:Int) (b:Int) row n=!(decide (n=b)&&!decide (a∈row)):=fun n=>by unfold okC;rw[decide_eq_true (by omega:(0:Int)≤(a:Int)),Bool.true_and,Int.toNat_natCast,decide_eq_decide.2 (Int.ofNat_inj:((n:Int)=(b:Int))↔n=b)]
  rw[List.filter_map];have e2:(befB a b∘fun n=>row++[n])=fun n=>befB a b row&&okC (a:Int) (b:Int) row n:=by funext n;show befB a b (row++[n])=_;rw[q7l,e n]
  rw[e2];by_cases h:befB a b row=true
  ·rw[if_pos h,h];rfl
  ·rw[if_neg h,Bool.eq_false_iff.2 h];simp
def plR(l:List Sh)(r:List Nat):Sh:=(((orN 0 r:Nat):Int),(endP l (0,0) r).1,(endP l (0,0) r).2,())
def bitB(p:Sh)(k:Nat):Bool:=decide ((p.1.toNat / 2 ^ k) &&& 1=1)
def z5p(l:List Sh)(r:List Nat)(k:Nat):bitB (plR l r) k=decide (k∈r):=by unfold bitB plR;rw[Int.toNat_natCast];exact decide_eq_decide.2 (z2a r k)
def nxP(l:List Sh)(p:Sh)(n:Nat):Sh:=(((p.1.toNat ||| 2 ^ n:Nat):Int),(nx l (p.2.1,p.2.2.1) n).1,(nx l (p.2.1,p.2.2.1) n).2,())
def nx_plR(l:List Sh)(r:List Nat)(n:Nat):nxP l (plR l r) n=plR l (r++[n]):=by unfold nxP plR;rw[Int.toNat_natCast,z0t,q7k]
def skipB(one two:Int)(p:Sh)(n:Nat):Bool:=bitB p n||(decide (0≤one)&&decide ((n:Int)=two)&&!bitB p one.toNat)
def extC(l:List Sh)(one two:Int)(p:Sh):Nat→List Sh
 |0=>[]
 |k+1=>extC l one two p k++if skipB one two p k=true then [] else [nxP l p k]
def j2v(l:List Sh)(one two:Int)(r:List Nat):∀ N,extC l one two (plR l r) N=((Sh.freeL N r).filter (okC one two r)).map fun n=>plR l (r++[n])
 |0=>rfl
 |k+1=>by
  rw[extC,j2v l one two r k,z3d,List.filter_append,yx4];congr 1;unfold skipB okC;rw[z5p,z5p];by_cases h:k∈r
  ·rw[decide_eq_true h,if_pos h];rfl
  ·rw[decide_eq_false h,if_neg h,Bool.false_or,nx_plR];cases hb:(decide (0≤one)&&decide ((k:Int)=two)&&!decide (one.toNat∈r)) with
   |true=>simp only[if_true,List.filter_cons,hb];rfl
   |false=>simp only[yyw,if_false,List.filter_cons,hb,Bool.not_false,if_true,List.filter_nil,yy6,List.map_nil]
def z1g(l:List Sh)(one two:Int)(p:Sh):∀ k,(extC l one two p k).length≤k
 |0=>yyn _
 |k+1=>by rw[extC,yy2];have:=z1g l one two p k;split<;>simp<;>omega
def keepP(le:Int)(p:Sh):Bool:=!(decide (p=T0)||decide (p.2.2.1>le))
def placesC(l:List Sh)(one two le:Int):Nat→List Sh
 |0=>[T0]
 |k+1=>((placesC l one two le k).flatMap fun p=>extC l one two p l.length).filter (keepP le)
def end_grow(hl:okD l)(r:List Nat)(n:Nat):endS l (0,0) r≤endS l (0,0) (r++[n]):=by unfold endS;rw[q7k];have h:=hl.get n;unfold okS at h;unfold nx;dsimp only;omega
def keep_plR(le:Int)(r:List Nat)(n:Nat):keepP le (plR l (r++[n]))=decide (endS l (0,0) (r++[n])≤le):=by
 have h1:plR l (r++[n])≠T0:=fun e=>by have h:=z5p l (r++[n]) n;rw[e,decide_eq_true (by simp)] at h;unfold bitB at h;simp at h
 unfold keepP;rw[decide_eq_false h1,Bool.false_or];show(!decide (endS l (0,0) (r++[n])>le))=_;rw[← decide_not];exact decide_eq_decide.2 Int.not_lt
def q77{l:List Sh}(hl:okD l)(one two:Int){le:Int}(h0:0≤le):∀ k,placesC l one two le k=((rowsC one two l.length k).filter fun r=>decide (endS l (0,0) r≤le)).map (plR l)
 |0=>by have e:decide (endS l (0,0) []≤le)=true:=decide_eq_true h0;rw[placesC,rowsC,List.filter_cons_of_pos (by exact e)];rfl
 |k+1=>by
  rw[placesC,q77 hl one two h0 k,List.flatMap_map,q0o,q1n,rowsC,q0o,List.map_flatMap];congr 1;funext r;rw[j2v,List.filter_map,List.filter_map,List.map_map];have e1:(keepP le∘fun n=>plR l (r++[n]))=((fun r=>decide (endS l (0,0) r≤le))∘fun n=>r++[n]):=by funext n;exact keep_plR le r n
  rw[e1];by_cases h:endS l (0,0) r≤le
  ·rw[if_pos (decide_eq_true h)];rfl
  ·rw[if_neg (by simpa using h)];have:∀ L:List Nat,L.filter ((fun r=>decide (endS l (0,0) r≤le))∘fun n=>r++[n])=[]:=fun L=>by rw[List.filter_eq_nil_iff];intro n _;have:=end_grow hl r n;show ¬ decide (endS l (0,0) (r++[n])≤le)=true;simp;omega
   rw[this];rfl
def cntS(l:List Sh)(one two:Int):Int:=((placesC l one two (leS l) l.length).length:Nat)
def j3d(hl:okD l)(h:one<0):cntS l one two=((bestsL l).length:Nat):=by unfold cntS bestsL;rw[q77 hl one two (le_pos hl),yxh,q9p two h];congr 2;refine List.filter_congr fun o ho=>decide_eq_decide.2 ?_;have:=j1x hl ho;constructor<;>intro<;>omega
def cnt_bef(hl:okD l)(a b:Nat):cntS l a b=(((bestsL l).filter (befB a b)).length:Nat):=by unfold cntS bestsL;rw[q77 hl a b (le_pos hl),yxh,z2j,List.filter_filter,List.filter_filter];congr 2;refine List.filter_congr fun o ho=>?_;have:=j1x hl ho;rw[Bool.and_comm];congr 1;exact decide_eq_decide.2 (by constructor<;>intro<;>omega)
end Go.Proofs.YtcijjbccigbflaaGreatDoor.Pr
namespace Go.Proofs.YtcijjbccigbflaaGreatDoor.Pr
open Go Go.RowKit Ox Ox.Sh
attribute [local irreducible] JC JL JK JW
def bstep(l:List Sh)(q:List (List Nat)×Int)(o:List Nat):List (List Nat)×Int:=if q.2<0∨endS l (0,0) o<q.2 then([o],endS l (0,0) o) else if endS l (0,0) o=q.2 then(q.1++[o],q.2) else q
variable{l:List Sh}
def end_pos(hl:okD l)(o:List Nat):0≤endS l (0,0) o:=(z3j hl o (p:=(0,0)) (B:=0) ⟨by decide,by decide⟩ ⟨by decide,by decide⟩).2.1
def BI(l:List Sh)(done:List (List Nat))(q:List (List Nat)×Int):Prop:=(done=[]∧q=([],-1))∨(0≤q.2∧(∃ o∈done,endS l (0,0) o=q.2)∧(∀ o∈done,q.2≤endS l (0,0) o)∧q.1=done.filter fun o=>decide (endS l (0,0) o=q.2))
def BI.step(hl:okD l){done:List (List Nat)}{q:List (List Nat)×Int}(h:BI l done q)(o:List Nat):BI l (done++[o]) (bstep l q o):=by
 have hp:=end_pos hl o;right;rcases h with⟨rfl,rfl⟩|⟨h1,h2,h3,h4⟩
 ·unfold bstep;rw[if_pos (.inl (by decide))];refine⟨hp,⟨o,by simp,rfl⟩,fun x hx=>?_,?_⟩
  ·rw[List.nil_append,yys] at hx;rw[hx];exact Int.le_refl _
  ·simp
 ·unfold bstep;by_cases c1:endS l (0,0) o<q.2
  ·rw[if_pos (.inr c1)];refine⟨hp,⟨o,by simp,rfl⟩,fun x hx=>?_,?_⟩
   ·dsimp only;rcases yy4.1 hx with hx|hx
    ·have:=h3 x hx;omega
    ·rw[yys.1 hx];exact Int.le_refl _
   ·dsimp only;rw[List.filter_append];have:done.filter (fun x=>decide (endS l (0,0) x=endS l (0,0) o))=[]:=List.filter_eq_nil_iff.2 fun x hx=>by have:=h3 x hx;simp;omega
    rw[this];simp
  ·rw[if_neg (by omega)];by_cases c2:endS l (0,0) o=q.2
   ·rw[if_pos c2];refine⟨h1,⟨o,by simp,c2⟩,fun x hx=>?_,?_⟩
    ·dsimp only;rcases yy4.1 hx with hx|hx
     ·exact h3 x hx
     ·rw[yys.1 hx];omega
    ·dsimp only;rw[List.filter_append,h4];simp[c2]
   ·rw[if_neg c2];obtain⟨y,hy,ha⟩:=h2;refine⟨h1,⟨y,by simp[hy],ha⟩,fun x hx=>?_,?_⟩
    ·rcases yy4.1 hx with hx|hx
     ·exact h3 x hx
     ·rw[yys.1 hx];omega
    ·rw[List.filter_append,h4];simp[c2]
end Go.Proofs.YtcijjbccigbflaaGreatDoor.Pr
namespace Go.Proofs.YtcijjbccigbflaaGreatDoor.Pr
open Go Go.RowKit Ox Ox.Sh
abbrev shE:=Ent shT (.int .i64)
def q38{α β:Type}{f:α→List β}{m:Nat}(hf:∀ a,(f a).length≤m):∀ l:List α,(l.flatMap f).length≤m*l.length
 |[]=>by simp
 |a::l=>by have:=q38 hf l;have:=hf a;simp only[List.flatMap_cons,yy2,List.length_cons,Nat.mul_add];omega
structure CM(Q:Sh→Prop)(es:List shE)(clk:Nat)(c:Sh→Nat):Prop where
 wf:MWF es clk
 nn:∀ e∈es,0≤(show Int from e.2.1)
 ok:∀ e∈es,Q e.1
 eq:∀ p:Sh,(show Int from mGet es p (0:Int))=(c p:Int)
variable{Q:Sh→Prop}
def CM.congr{es:List shE}{c c':Sh→Nat}(h:CM Q es clk c)(hc:∀ p,c p=c' p):CM Q es clk c':=⟨h.wf,h.nn,h.ok,fun p=>by rw[← hc p];exact h.eq p⟩
def CM.nil(Q:Sh→Prop)(clk:Nat):CM Q [] clk fun _=>0:=⟨.nil,(fun _ h=>by cases h),(fun _ h=>by cases h),fun _=>rfl⟩
variable{c:Sh→Nat}
def CM.add{es:List shE}(h:CM Q es clk c)(q:Sh)(n:Nat)(hq:Q q){v:Int}(hv:v=(c q:Int)+n) :
  CM Q (mPut es clk q v) (mClk es clk q) fun p=>if p=q then c p+n else c p:=by
 refine⟨h.wf.put,fun e he=>?_,fun e he=>?_,fun p=>?_⟩
 ·rcases(q1g h.wf).1 he with⟨h1,_⟩|⟨_,h1,_⟩
  ·exact h.nn e h1
  ·show(0:Int)≤e.2.1;rw[h1];show(0:Int)≤v;omega
 ·rcases(q1g h.wf).1 he with⟨h1,_⟩|⟨h1,_,_⟩
  ·exact h.ok e h1
  ·show Q e.1;rw[h1];exact hq
 ·show(mGet (mPut es clk q v) p (0:Int):Int)=_;rw[z6v h.wf (inferInstanceAs (Decidable ((p:Sh)=q)))];by_cases e:p=q
  ·rw[if_pos e,if_pos e,e];exact hv
  ·rw[if_neg e,if_neg e];exact h.eq p
def bag(es:List shE):List Sh:=es.flatMap fun e=>List.replicate (show Int from e.2.1).toNat (e.1:Sh)
def z1s(es:List shE)(e:shE):bag (es++[e])=bag es++List.replicate (show Int from e.2.1).toNat (e.1:Sh):=by simp[bag]
def z3n(n:Nat)(a p:Sh):(List.replicate n a).count p=if p=a then n else 0:=by
 rw[List.count_replicate];by_cases e:p=a
 ·subst e;simp
 ·rw[if_neg e,if_neg];simpa using fun h=>e h.symm
def z3o{clk:Nat}:∀ {es:List shE},MWF es clk→(∀ e∈es,0≤(show Int from e.2.1))→∀ p:Sh,((bag es).count p:Int)=mGet es p (0:Int)
 |[],_,_,p=>rfl
 |e::es,hw,hn,p=>by
  have hb:MWF es clk:=hw.sub (List.sublist_cons_self e es);have ih:=z3o hb (fun a ha=>hn a (yyh _ ha)) p;have hk:∀ a∈es,a.1≠e.1:=fun a ha h=>(yxq.1 hw.nk).1 (yy0.2 ⟨a,ha,h⟩);have e1:bag (e::es)=List.replicate (show Int from e.2.1).toNat (e.1:Sh)++bag es:=rfl;rw[e1,List.count_append,z3n];have hd:=hn e yyi;by_cases h:p=e.1
  ·rw[if_pos h];have h0:((bag es).count p:Int)=0:=by rw[ih,n9 (fun a ha hx=>hk a ha (hx.trans h))]
   have h2:mGet (e::es) p (0:Int)=e.2.1:=by rw[h];exact s6 hw yyi
   rw[h2];have:((show Int from e.2.1).toNat:Int)=e.2.1:=Int.toNat_of_nonneg hd;omega
  ·rw[if_neg h,yxu,ih];cases hi:mIdx es p with
   |none=>
    rw[f7] at hi;rw[n9 hi,n9];intro a ha;rcases yym.1 ha with rfl|ha
    ·exact fun h'=>h h'.symm
    ·exact hi a ha
   |some j=>obtain⟨hl,he⟩:=o6 hi;rw[← he,s6 hb (yy3 hl),s6 hw (yyh _ (yy3 hl))]
def z1t{es:List shE}{L:List Sh}(h:CM Q es clk fun p=>L.count p):(bag es).Perm L:=by rw[List.perm_iff_count];intro p;have:=z3o h.wf h.nn p;rw[show mGet es p (0:Int)=((L.count p:Nat):Int) from h.eq p] at this;omega
def q5g{f:α→List β}{l l':List α}(h:l.Perm l'):(l.flatMap f).Perm (l'.flatMap f):=by
 induction h with
 |nil=>exact .refl _
 |cons a _ ih=>simp only[List.flatMap_cons];exact ih.append_left _
 |swap a b l=>simp only[List.flatMap_cons,← yxg];exact List.perm_append_comm.append_right _
 |trans _ _ h1 h2=>exact h1.trans h2
def q5r(n:Nat)(a:Sh)(f:Sh→List Sh)(q:Sh):((List.replicate n a).flatMap f).count q=n*(f a).count q:=by
 induction n with
 |zero=>simp
 |succ n ih=>rw[List.replicate_succ,List.flatMap_cons,List.count_append,ih,Nat.succ_mul,Nat.add_comm]
structure Far(es done:List shE):Prop where
 rest:∃ rest,(done++rest).Perm es
def Far.nil(es:List shE):Far es []:=⟨es,.refl _⟩
def Far.sub{es done:List shE}(h:Far es done):∀ e∈done,e∈es:=by obtain⟨rest,h⟩:=h.rest;exact fun e he=>h.mem_iff.1 (yxr _ he)
def Far.snoc{es done:List shE}(hw:MWF es clk)(h:Far es done){e:shE}(he:e∈es)(hs:e.2.2∉done.map (·.2.2)):Far es (done++[e]):=by obtain⟨rest,h⟩:=h.rest;have:e∈rest:=(yy4.1 (h.mem_iff.2 he)).resolve_left fun hd=>hs (List.mem_map_of_mem hd);obtain⟨s,t,rfl⟩:=List.append_of_mem this;refine⟨s++t,.trans ?_ h⟩;rw[yxg];refine List.Perm.append_left _ ?_;rw[List.singleton_append];exact List.perm_middle.symm
def Far.all{es done:List shE}(hw:MWF es clk)(h:Far es done)(ha:∀ e∈es,e.2.2∈done.map (·.2.2)):done.Perm es:=by
 obtain⟨rest,h⟩:=h.rest;cases rest with
 |nil=>simpa using h
 |cons x r=>have hx:x∈es:=h.mem_iff.1 (List.mem_append_right _ yyi);obtain⟨y,hy,hb⟩:=yy0.1 (ha x hx);have hn:((done++x::r).map (·.2.2)).Nodup:=(h.map _).nodup_iff.2 hw.nb;rw[yx4,List.nodup_append] at hn;exact absurd hb (hn.2.2 _ (List.mem_map_of_mem hy) _ (by simp))
def Far.len{es done:List shE}(h:Far es done):(bag done).length≤(bag es).length:=by obtain⟨rest,h⟩:=h.rest;have:=(q5g (f:=fun e:shE=>List.replicate (show Int from e.2.1).toNat (e.1:Sh)) h).length_eq;rw[List.flatMap_append,yy2] at this;unfold bag;omega
def far_step{done:List shE}{p:Sh}{many:Int}{born:Nat}{f:Sh→List Sh}(q:Sh):((bag (done++[(p,many,born)])).flatMap f).count q=((bag done).flatMap f).count q+many.toNat*(f p).count q:=by rw[z1s,List.flatMap_append,List.count_append,q5r]
def z8w(f:Sh→Bool)(l:List Sh)(p:Sh):(l.filter f).count p=if f p=true then l.count p else 0:=by
 split
 ·rename_i h;exact List.count_filter h
 ·rename_i h;exact List.count_eq_zero.2 fun hm=>h (yy7.1 hm).2
def q8s{es es3:List shE}{f:Sh→Bool}(h:CM Q es clk c)(hs:es3.Sublist es)(hi:∀ e∈es,e∈es3↔f e.1=true):CM Q es3 clk fun p=>if f p=true then c p else 0:=by
 have hw:=h.wf.sub hs;refine⟨hw,fun e he=>h.nn e (hs.subset he),fun e he=>h.ok e (hs.subset he),fun p=>?_⟩;have h1:=h.eq p;cases hx:mIdx es p with
 |none=>
  rw[f7] at hx;have e1:mGet es p (0:Int)=(0:Int):=n9 hx;have e2:mGet es3 p (0:Int)=(0:Int):=n9 fun e he=>hx e (hs.subset he);show mGet es3 p (0:Int)=_;rw[e2];have h0:(c p:Int)=0:=by rw[← h1];exact e1
  have hb:c p=0:=by omega
  rw[hb];split<;>rfl
 |some k=>
  obtain⟨hl,hk⟩:=o6 hx;have he:=yy3 hl;generalize es[k]=e at hk he;subst hk;show mGet es3 e.1 (0:Int)=_;by_cases hf:f e.1=true
  ·rw[if_pos hf,s6 hw ((hi e he).2 hf),← h1];exact(s6 h.wf he).symm
  ·rw[if_neg hf];refine n9 fun a ha hk=>hf ?_;have:=h.wf.eq (hs.subset ha) he hk;subst this;exact(hi a he).1 ha
def z5q[BEq α][LawfulBEq α](p a:α)[Decidable (p=a)]:(a==p)=decide (p=a):=by rw[yy1,beq_iff_eq,decide_eq_true_iff];exact eq_comm
def cnt1[BEq α][LawfulBEq α](c n:Nat)(p a:α)[Decidable (p=a)]:(if p=a then c+n else c)=c+n*[a].count p:=by
 rw[List.count_singleton,z5q];by_cases h:p=a
 ·rw[if_pos h,decide_eq_true h,if_pos rfl];omega
 ·rw[if_neg h,decide_eq_false h,if_neg (by decide)];omega
end Go.Proofs.YtcijjbccigbflaaGreatDoor.Pr
namespace Go.Proofs.YtcijjbccigbflaaGreatDoor.Pr
open Go Go.RowKit Ox Ox.Sh
attribute [local irreducible] JC JL JK JW
def eqP:EqT Tryz.prog shT 108:=.of (by decide +kernel)
set_option maxRecDepth 4096 in
def mpP:MapT Tryz.prog shT (.int .i64) 109 108 3:=.of (by rfl) (by decide +kernel)
def PB(i:Nat)(p:Sh):Prop:=(0≤p.1∧p.1<256)∧(0≤p.2.1∧p.2.1≤1000*i)∧0≤p.2.2.1∧p.2.2.1≤2000+1000*i
def cm_start:CM (PB 0) (mPut [] 0 T0 1) 1 fun p=>([T0]:List Sh).count p:=by
 have hT:PB 0 T0:=⟨⟨Int.le_refl _,by decide⟩,⟨Int.le_refl _,Int.le_refl _⟩,Int.le_refl _,by show(0:Int)≤2000+1000*((0:Nat):Int);omega⟩;refine CM.congr (CM.add (CM.nil (PB 0) 0) T0 1 hT (v:=1) (by simp)) fun p=>?_;rw[List.count_cons,List.count_nil];by_cases h:p=T0
 ·rw[if_pos h,if_pos (by rw[h];exact beq_self_eq_true _)]
 ·rw[if_neg h,if_neg (by simpa using fun e=>h e.symm)]
variable{l:List Sh}
def nx_PB(hl:okD l){p:Sh}(h:PB i p)(hn:n<8):PB (i+1) (nxP l p n):=by
 obtain⟨⟨h1,h2⟩,⟨h3,h4⟩,h5,h6⟩:=h;have h7:=or_lt (t:=p.1.toNat) (n:=n) (by omega) hn;have h8:=nx_bd hl n (p:=(p.2.1,p.2.2.1)) (B:=1000*i) ⟨h3,h4⟩ ⟨h5,by dsimp only;omega⟩;unfold PB nxP;dsimp only at h8 ⊢
 push_cast
 refine⟨⟨by omega,by omega⟩,⟨by omega,by omega⟩,by omega,by omega⟩
def q6b(l:List Sh)(one two le:Int)(h8:l.length≤8):∀ i,(placesC l one two le i).length≤8 ^ i
 |0=>by simp[placesC]
 |i+1=>by have h1:=q6b l one two le h8 i;have h2:=q38 (m:=8) (fun p=>Nat.le_trans (z1g l one two p l.length) h8) (placesC l one two le i);have h3:=yx8 (keepP le) ((placesC l one two le i).flatMap fun p=>extC l one two p l.length);rw[placesC,Nat.pow_succ];omega
set_option maxHeartbeats 4000000 in
def fn22(l:List Sh)(pr:Int)(one two:Int)(hl:okD l)(h8:l.length≤8)(h1:one<l.length) :
  Ox.Fn Tryz.prog 22 (.acons (vH l pr (leS l)) (.acons (vI one) (.acons (vI two) .anil))) (·=vI (cntS l one two)):=by
 refine Ox.Fn.intro xok Tryz.func22 rfl Tryz.call22 (yyc rfl) (fun E M0 up=>?_);refine JK.start ?_;have hK:cntS l one two=((placesC l one two (leS l) l.length).length:Nat):=rfl;rw[hK];clear hK;generalize leS l=le
 (repeat (first|refine zs rfl ?_|refine zmi mpP rfl rfl rfl rfl ?_|refine zmm mpP rfl ?_))
 refine JK.loop (σ:=Nat×List shE×Nat) (fun q=>⟨[(0,vH l pr le),(1,vI one),(2,vI two),(7,.lf (.optr 0 [])),(8,.lf (.mp 1)),(26,vI l.length),(27,vI (q.1:Int))],
   [(0,.cell shT (vP T0)),(1,.map shT (.int .i64) q.2.1 q.2.2)],2⟩)
  (fun q=>q.1≤l.length∧CM (PB q.1) q.2.1 q.2.2 fun p=>(placesC l one two le q.1).count p) (fun q=>l.length-q.1)
  (0,mPut [] 0 T0 1,1) ⟨by simp,cm_start⟩ (by exact zJ) fun q hq=>?_
 obtain⟨i,es,clk⟩:=q;obtain⟨hi,hp⟩:=hq;dsimp only at hi hp;refine zK0 ?_;refine q9 rfl (fun hc=>?_) (fun hc=>?_)
 ·replace hc:=zC hc;have Hf:i<l.length:=by omega
  (repeat (first|refine zs rfl ?_|refine zmr mpP rfl rfl rfl ?_|refine zmm mpP rfl ?_))
  refine q7t (σ:=List shE×List shE×Nat×Nat) (τ:=List shE×Nat) (fun q=>⟨[(0,vH l pr le),(1,vI one),(2,vI two),(7,.lf (.optr 0 [])),(8,.lf (.mp 1)),(9,.lf (.mp 2)),(26,vI l.length),(27,vI (i:Int)),(31,.lf (.itr 3))],
    [(0,.cell shT (vP T0)),(1,.map shT (.int .i64) es clk),(2,.map shT (.int .i64) q.2.1 q.2.2.1),(3,.iter 1 clk (q.1.map (·.2.2)) q.2.2.2)],4⟩)
   (fun q=>Far es q.1∧clk≤q.2.2.2∧CM (PB (i+1)) q.2.1 q.2.2.1 fun p=>((bag q.1).flatMap (fun p=>extC l one two p l.length)).count p) (fun q=>mLeft es (q.1.map (·.2.2)))
   ([],[],0,clk) ⟨Far.nil es,yyn _,CM.nil _ 0⟩ (by exact zJ)
   (fun q=>⟨[(0,vH l pr le),(1,vI one),(2,vI two),(7,.lf (.optr 0 [])),(9,.lf (.mp 1)),(26,vI l.length),(27,vI (i:Int))],
    [(0,.cell shT (vP T0)),(1,.map shT (.int .i64) q.1 q.2)],2⟩) (fun q=>CM (PB (i+1)) q.1 q.2 fun p=>((placesC l one two le i).flatMap (fun p=>extC l one two p l.length)).count p) (fun q hh=>?_) (fun q hq=>?_)
  ·obtain⟨es2,clk2⟩:=q;dsimp only at hh
   (repeat (first|refine zs rfl ?_|refine zmr mpP rfl rfl rfl ?_))
   have h5:∀ {l:List shE},l.Sublist es2→MWF l clk2:=fun h=>hh.wf.sub h;refine q7t (σ:=List shE×List Nat×Nat) (τ:=List shE) (fun q=>⟨[(0,vH l pr le),(1,vI one),(2,vI two),(7,.lf (.optr 0 [])),(9,.lf (.mp 1)),(26,vI l.length),(27,vI (i:Int)),(81,.lf (.itr 2))],
     [(0,.cell shT (vP T0)),(1,.map shT (.int .i64) q.1 clk2),(2,.iter 1 clk2 q.2.1 q.2.2)],3⟩)
    (fun q=>q.1.Sublist es2∧clk2≤q.2.2∧∀ e∈es2,e∈q.1↔(e.2.2∈q.2.1→keepP le e.1=true)) (fun q=>mLeft q.1 q.2.1)
    (es2,[],clk2) ⟨List.Sublist.refl _,yyn _,fun e he=>⟨fun _=>(fun h=>by cases h),fun _=>he⟩⟩ (by exact zJ)
    (fun q=>⟨[(0,vH l pr le),(1,vI one),(2,vI two),(7,.lf (.optr 0 [])),(9,.lf (.mp 1)),(26,vI l.length),(27,vI (i:Int))],
     [(0,.cell shT (vP T0)),(1,.map shT (.int .i64) q clk2)],2⟩) (fun q=>CM (PB (i+1)) q clk2 fun p=>(placesC l one two le (i+1)).count p) (fun es3 hj=>?_) (fun q hq=>?_)
   ·refine zK0 ?_;exact⟨(i+1,es3,clk2),by exact zJ,⟨by omega,hj⟩,by dsimp only;omega⟩
   ·obtain⟨es3,seen,last⟩:=q;obtain⟨hy,hg,hz⟩:=hq;dsimp only at hy hg hz;have hD:=h5 hy;refine zK0 ?_;refine z7x rfl rfl rfl hD.lt hg rfl (fun hall=>?_) (fun e he hE=>?_)
    ·refine zK0 ?_;refine q9 rfl (fun hc=>absurd hc (by decide)) (fun _=>?_);refine zK0 ?_;refine⟨es3,by exact zJ,(q8s hh hy fun e he=>⟨fun h=>(hz e he).1 h (hall e h),fun h=>(hz e he).2 fun _=>h⟩).congr fun p=>?_⟩;rw[placesC];exact(z8w _ _ _).symm
    ·have hH:=q7c he hE;have hN:=hy.subset he;obtain⟨e1,e2,e3,many,born,rfl⟩:∃ (e1 e2 e3 many:Int) (born:Nat),e=((e1,e2,e3,()),many,born):=⟨e.1.1,e.1.2.1,e.1.2.2.1,e.2.1,e.2.2,rfl⟩;have hU:PB (i+1) (e1,e2,e3,()):=hh.ok _ hN;obtain⟨hP,hR,hT⟩:=hU;dsimp only at hP hR hT;refine zK0 ?_;refine q9 rfl (fun _=>?_) (fun hc=>absurd hc (by decide));refine zK0 ?_;refine z7z rfl rfl rfl rfl rfl he hD rfl ?_
     (repeat (first|refine zs rfl ?_|refine zg rfl rfl rfl ?_|refine zd ?_|refine zeq eqP rfl rfl rfl ?_))
     have hJ:keepP le (e1,e2,e3,())=!(bif shT.eqB (e1,e2,e3,()) T0 then true else decide (e3>le)):=by
      unfold keepP;have:shT.eqB (e1,e2,e3,()) T0=decide ((e1,e2,e3,())=T0):=by rw[yy1,v9,decide_eq_true_iff]
      rw[this];cases decide ((e1,e2,e3,())=T0)<;>rfl
     refine q9 rfl (fun hf=>?_) (fun hf=>?_)
     ·have hJ:keepP le (e1,e2,e3,())=false:=by rw[hJ];exact congrArg (!·) hf
      (repeat (first|refine zs rfl ?_|refine z38 ?_|refine zmd mpP rfl rfl rfl ?_))
      refine⟨(mDel es3 (e1,e2,e3,()),seen++[born],clk2),by exact zJ,⟨q7d.trans hy,yyn _,fun a ha=>?_⟩,Nat.lt_of_le_of_lt (j1i q7d) hH⟩;rw[z03 hD,hz a ha];refine⟨fun h hs=>?_,fun h=>⟨fun hs=>h (yxr _ hs),fun hk=>?_⟩⟩
      ·rcases yy4.1 hs with hs|hs
       ·exact h.1 hs
       ·exact absurd (congrArg (·.1) (hh.wf.eqb ha hN (yys.1 hs))) h.2
      ·have:=h (List.mem_append_right _ (yys.2 (congrArg (·.2.2) (hh.wf.eq ha hN hk))));rw[hk,hJ] at this;cases this
     ·have hJ:keepP le (e1,e2,e3,())=true:=by rw[hJ];exact congrArg (!·) hf
      refine zK0 ?_;refine⟨(es3,seen++[born],clk2),by exact zJ,⟨hy,yyn _,fun a ha=>?_⟩,hH⟩;rw[hz a ha];refine⟨fun h hs=>?_,fun h=>fun hs=>h (yxr _ hs)⟩;rcases yy4.1 hs with hs|hs
      ·exact h hs
      ·rw[hh.wf.eqb ha hN (yys.1 hs)];exact hJ
  ·obtain⟨done,es2,clk2,last⟩:=q;obtain⟨hu,hg,hh⟩:=hq;dsimp only at hu hg hh;have hw:=hh.wf;refine zK0 ?_;refine z7x rfl rfl rfl hp.wf.lt hg rfl (fun hall=>?_) (fun e he hE=>?_)
   ·refine zK0 ?_;refine q9 rfl (fun hc=>absurd hc (by decide)) (fun _=>?_);refine zK0 ?_;refine⟨(es2,clk2),by exact zJ,hh.congr fun p=>?_⟩;exact(q5g ((q5g (hu.all hp.wf hall)).trans (z1t hp))).count_eq p
   ·have hv:=hu.snoc hp.wf he hE;have hH:=q7c he hE;obtain⟨e1,e2,e3,many,born,rfl⟩:∃ (e1 e2 e3 many:Int) (born:Nat),e=((e1,e2,e3,()),many,born):=⟨e.1.1,e.1.2.1,e.1.2.2.1,e.2.1,e.2.2,rfl⟩;have hU:PB i (e1,e2,e3,()):=hp.ok _ he;obtain⟨hP,hR,hT⟩:=hU;dsimp only at hP hR hT;have h6:0≤many:=hp.nn _ he;obtain⟨t,rfl⟩:∃ t:Nat,e1=(t:Int):=⟨e1.toNat,by omega⟩;refine zK0 ?_;refine q9 rfl (fun _=>?_) (fun hc=>absurd hc (by decide));refine zK0 ?_;refine z7z rfl rfl rfl rfl rfl he hp.wf rfl ?_;refine zK0 ?_;have h7:=fun q=>far_step (done:=done) (p:=((t:Int),e2,e3,())) (many:=many) (born:=born) (f:=fun p=>extC l one two p l.length) q;refine JK.loop (σ:=Nat×List shE×Nat) (fun q=>⟨[(0,vH l pr le),(1,vI one),(2,vI two),(7,.lf (.optr 0 [])),(8,.lf (.mp 1)),(9,.lf (.mp 2)),(10,.lf (.optr 4 [])),(11,vI many),(26,vI l.length),(27,vI (i:Int)),(31,.lf (.itr 3)),(42,vI l.length),(43,vI (q.1:Int))],
     [(0,.cell shT (vP T0)),(1,.map shT (.int .i64) es clk),(2,.map shT (.int .i64) q.2.1 q.2.2),(3,.iter 1 clk (done.map (·.2.2)++[born]) clk),(4,.cell shT (vP ((t:Int),e2,e3,())))],5⟩)
     (fun q=>q.1≤l.length∧CM (PB (i+1)) q.2.1 q.2.2 fun p=>((bag done).flatMap (fun p=>extC l one two p l.length)).count p+many.toNat*(extC l one two ((t:Int),e2,e3,()) q.1).count p) (fun q=>l.length-q.1)
     (0,es2,clk2) ⟨yyu _,hh.congr fun p=>by simp[extC]⟩ (by exact zJ) fun q hq=>?_
    obtain⟨n,es3,clk3⟩:=q;obtain⟨hn,hj⟩:=hq;dsimp only at hn hj;refine zK0 ?_;refine q9 rfl (fun hd=>?_) (fun hd=>?_)
    ·replace hd:=zC hd;have h9:n<l.length:=by omega
     have hZ:∀ k:Nat,0≤(t:Int) / 2 ^ k∧(t:Int) / 2 ^ k≤256:=fun k=>by
      have e:(t:Int) / 2 ^ k=((t / 2 ^ k:Nat):Int):=by push_cast;rfl
      rw[e];have:=Nat.div_le_self t (2 ^ k);generalize t / 2 ^ k=z at this ⊢;omega
     have Hh:=hZ n;have Hi:=hZ one.toNat;have hF:bitB ((t:Int),e2,e3,()) n=(((((t:Int) / 2 ^ ((n:Int)).toNat).toNat &&& ((1:Int)).toNat:Nat):Int)==1):=by rw[z1r];unfold bitB;rw[Int.toNat_natCast,yy1,decide_eq_true_iff,beq_iff_eq];omega
     have hW:∀ k:Nat,bitB ((t:Int),e2,e3,()) k=!(((((t:Int) / 2 ^ k).toNat &&& ((1:Int)).toNat:Nat):Int)==0):=fun k=>by have:=z1r t k;rw[Int.toNat_natCast] at this;rw[this];unfold bitB;rw[Int.toNat_natCast,yy1,decide_eq_true_iff,yyz,beq_eq_false_iff_ne,ne_eq,Nat.and_one_is_mod];omega
     have hA:∀ p,(extC l one two ((t:Int),e2,e3,()) (n+1)).count p=(extC l one two ((t:Int),e2,e3,()) n).count p+(if skipB one two ((t:Int),e2,e3,()) n=true then [] else [nxP l ((t:Int),e2,e3,()) n]).count p:=fun p=>by rw[extC,List.count_append]
     iterate 9 (refine zs rfl ?_)
     refine JK.cut (σ:=Unit) (fun _=>⟨[(0,vH l pr le),(1,vI one),(2,vI two),(7,.lf (.optr 0 [])),(8,.lf (.mp 1)),(9,.lf (.mp 2)),(10,.lf (.optr 4 [])),(11,vI many),(12,vI (n:Int)),(26,vI l.length),(27,vI (i:Int)),(31,.lf (.itr 3)),(42,vI l.length),(43,vI (n:Int))],
      [(0,.cell shT (vP T0)),(1,.map shT (.int .i64) es clk),(2,.map shT (.int .i64) es3 clk3),(3,.iter 1 clk (done.map (·.2.2)++[born]) clk),(4,.cell shT (vP ((t:Int),e2,e3,())))],5⟩)
      (fun _=>skipB one two ((t:Int),e2,e3,()) n=false) ?_ (fun _ hC=>?_)
     ·by_cases h0:0≤one
      ·have hL:skipB one two ((t:Int),e2,e3,()) n=(bif ((((t:Int) / 2 ^ ((n:Int)).toNat).toNat &&& ((1:Int)).toNat:Nat):Int)==1 then true else bif (bif decide (one ≥ 0) then((n:Int)==two) else false) then((((t:Int) / 2 ^ one.toNat).toNat &&& ((1:Int)).toNat:Nat):Int)==0 else false):=by unfold skipB;rw[← hF,hW one.toNat,Bool.not_not,decide_eq_true h0,Bool.true_and];have:decide ((n:Int)=two)=((n:Int)==two):=rfl;rw[this];cases bitB ((t:Int),e2,e3,()) n<;>cases ((n:Int)==two)<;>rfl
       refine zK0 ?_;refine q9 rfl (fun hf=>?_) (fun hf=>?_)
       ·have hC:skipB one two ((t:Int),e2,e3,()) n=true:=hL.trans hf;refine zK0 ?_;refine⟨(n+1,es3,clk3),by exact zJ,⟨by dsimp only;omega,hj.congr fun p=>?_⟩,by dsimp only;omega⟩;rw[hA,if_pos hC];simp
       ·have hC:skipB one two ((t:Int),e2,e3,()) n=false:=hL.trans hf;refine zK0 ?_;exact⟨(),by exact zJ,hC⟩
      ·by_cases hb:bitB ((t:Int),e2,e3,()) n=true
       ·have hC:skipB one two ((t:Int),e2,e3,()) n=true:=by unfold skipB;rw[hb];rfl
        have hM:(((((t:Int) / 2 ^ ((n:Int)).toNat).toNat &&& ((1:Int)).toNat:Nat):Int)==1)=true:=hF.symm.trans hb
        (repeat (first|refine zs rfl ?_|refine zg rfl rfl rfl ?_|refine zfl rfl (by simp only[wantB];rw[hM];rfl) rfl ?_|refine JK.pickT rfl hM rfl rfl trivial trivial ?_))
        refine q9 rfl (fun _=>?_) (fun h=>absurd h (by decide));refine zK0 ?_;refine⟨(n+1,es3,clk3),by exact zJ,⟨by dsimp only;omega,hj.congr fun p=>?_⟩,by dsimp only;omega⟩;rw[hA,if_pos hC];simp
       ·have hC:skipB one two ((t:Int),e2,e3,()) n=false:=by unfold skipB;rw[Bool.eq_false_iff.2 hb,decide_eq_false h0];rfl
        have hM:(((((t:Int) / 2 ^ ((n:Int)).toNat).toNat &&& ((1:Int)).toNat:Nat):Int)==1)=false:=hF.symm.trans (Bool.eq_false_iff.2 hb)
        (repeat (first|refine zt rfl (by simp only[wantB];rw[hM];rfl) ?_|refine zfl rfl (by first|rfl|(simp only[wantB];exact decide_eq_false h0)) rfl ?_|refine JK.pickF rfl (by first|rfl|exact hM|exact decide_eq_false h0) rfl rfl trivial trivial ?_|refine zs rfl ?_))
        refine q9 rfl (fun h=>absurd h (by decide)) (fun _=>?_);refine zK0 ?_;exact⟨(),by exact zJ,hC⟩
     ·have h75:=fn56 l pr le t e2 e3 n hl h9 h8 (by omega) (by omega) (by omega);have hQ:(((t ||| 2 ^ n:Nat):Int),(nx l (e2,e3) n).1,(nx l (e2,e3) n).2,())=nxP l ((t:Int),e2,e3,()) n:=by unfold nxP;rw[Int.toNat_natCast]
      rw[hQ] at h75;have h2:=nx_PB hl (i:=i) (p:=((t:Int),e2,e3,())) ⟨hP,hR,hT⟩ (n:=n) (by omega);rw[if_neg (by rw[hC];simp)] at hA;generalize nxP l ((t:Int),e2,e3,()) n=Q at h75 h2 hA;have hD:=hj.wf;have g4:=(z1t hp).length_eq;have g5:=q6b l one two le h8 i;have g6:8 ^ i≤8 ^ 7:=yx9 (by omega) (by omega);have g7:8 ^ 7=2097152:=rfl;have Hj:many≤2097152:=by have q1:(many:Int)=_:=(s6 hp.wf he).symm.trans (hp.eq ((t:Int),e2,e3,()));have q2:=List.count_le_length (a:=(((t:Int),e2,e3,()):Sh)) (l:=placesC l one two le i);omega
      have Hk:(((bag done).flatMap (fun p=>extC l one two p l.length)).count Q+many.toNat*(extC l one two ((t:Int),e2,e3,()) n).count Q:Nat)≤40000000:=by have q1:=List.count_le_length (a:=Q) (l:=(bag done).flatMap (fun p=>extC l one two p l.length));have q2:=q38 (m:=8) (fun p=>Nat.le_trans (z1g l one two p l.length) h8) (bag done);have q3:=hu.len;have q4:=List.count_le_length (a:=Q) (l:=extC l one two ((t:Int),e2,e3,()) n);have q5:=z1g l one two ((t:Int),e2,e3,()) n;have q6:many.toNat*(extC l one two ((t:Int),e2,e3,()) n).count Q≤2097152*8:=Nat.mul_le_mul (by omega) (by omega);omega
      have h3:(mGet es3 Q (Ty.dflt (.int .i64)):Int)=_:=hj.eq Q;have Ha:(0:Int)≤mGet es3 Q (Ty.dflt (.int .i64))∧(mGet es3 Q (Ty.dflt (.int .i64)):Int)+many≤50000000:=by rw[h3];dsimp only[Ty.den];omega
      have Hb:(0:Int)≤mGet (mEnt es3 clk3 Q) Q (Ty.dflt (.int .i64))∧(mGet (mEnt es3 clk3 Q) Q (Ty.dflt (.int .i64)):Int)+many≤50000000:=by rw[z02 hD];exact Ha
      refine q4h xk (Tryz.f22.body.getD .skip) ⟨[(0,vH l pr le),(1,vI one),(2,vI two),(7,.lf (.optr 0 [])),(8,.lf (.mp 1)),(9,.lf (.mp 2)),(10,.lf (.optr 4 [])),(11,vI many),(12,vI (n:Int)),(26,vI l.length),(27,vI (i:Int)),(31,.lf (.itr 3)),(42,vI l.length),(43,vI (n:Int))],
       [(0,.cell shT (vP T0)),(1,.map shT (.int .i64) es clk),(2,.map shT (.int .i64) (mPut es3 clk3 Q ((mGet es3 Q (Ty.dflt (.int .i64)):Int)+many)) (mClk es3 clk3 Q)),(3,.iter 1 clk (done.map (·.2.2)++[born]) clk),(4,.cell shT (vP ((t:Int),e2,e3,())))],5⟩ rfl 11 rfl ?_ ?_
      ·(refine q7 0 xk rfl rfl (q7 1 xk rfl rfl (q7 3 xk rfl rfl (q7 6 xk rfl rfl (z7 2 xk rfl rfl (zU 4 xk rfl rfl ?_)))));refine zK6 ?_;refine q8 ?_;refine k8 5 [8] xk StF.nil (BrF.one rfl rfl ?_ (BrF.one rfl rfl ?_ BrF.nil));(· refine zK6 ?_;refine q8 ?_;refine q7 7 xk rfl rfl (zU 8 xk rfl rfl ?_);refine zK6 ?_;refine q8 ?_;refine q7 9 xk rfl rfl (zU 10 xk rfl rfl ?_);refine zK6 ?_;refine q8 ?_;refine v6 xk StF.nil ?_;((refine q3w (by conv=>lhs;reduce) ?_ ?_ ?_ ?_ rfl<;>(repeat' (first|exact trivial|exact rfl|refine And.intro ?_ ?_|exact yyc rfl|refine q30 ?_|refine q3z ?_|(refine congrArg (fun z:Int=>some (AV.val (.int .i64) z)) ?_;push_cast;omega)|exact congrArg (fun z:Int=>some (HO.map shT (.int .i64) (mPut es3 clk3 Q z) (mClk es3 clk3 Q))) (congrArg (fun z:Int=>z+many) (z02 hD)))))));(· refine zK6 ?_;refine q8 ?_;refine q7 9 xk rfl rfl (zU 5 xk rfl rfl ?_);refine zK6 ?_;refine q8 ?_;refine q7 7 xk rfl rfl (zU 10 xk rfl rfl ?_);refine zK6 ?_;refine q8 ?_;refine v6 xk StF.nil ?_;((refine q3w (by conv=>lhs;reduce) ?_ ?_ ?_ ?_ rfl<;>(repeat' (first|exact trivial|exact rfl|refine And.intro ?_ ?_|exact yyc rfl|refine q30 ?_|refine q3z ?_|(refine congrArg (fun z:Int=>some (AV.val (.int .i64) z)) ?_;push_cast;omega)|exact congrArg (fun z:Int=>some (HO.map shT (.int .i64) (mPut es3 clk3 Q z) (mClk es3 clk3 Q))) (congrArg (fun z:Int=>z+many) (z02 hD))))))))
      have hG:=hj.add Q many.toNat h2 (v:=(mGet es3 Q (Ty.dflt (.int .i64)):Int)+many) (by rw[h3];omega)
      generalize (mPut es3 clk3 Q ((mGet es3 Q (Ty.dflt (.int .i64)):Int)+many))=es4 at hG ⊢;generalize mClk es3 clk3 Q=clk4 at hG ⊢;refine zK0 ?_;refine⟨(n+1,es4,clk4),by exact zJ,⟨by dsimp only;omega,hG.congr fun p=>?_⟩,by dsimp only;omega⟩;rw[hA,Nat.mul_add,← Nat.add_assoc];exact cnt1 _ _ _ _
    ·replace hd:=zC hd;obtain rfl:n=l.length:=by omega
     refine zK0 ?_;refine⟨(done++[(((t:Int),e2,e3,()),many,born)],es3,clk3,clk),by(refine q3w (by conv=>lhs;reduce) ?_ ?_ ?_ ?_ rfl<;>(repeat' (first|exact trivial|exact rfl|refine And.intro ?_ ?_|exact yyc rfl|refine q30 ?_|refine q3z ?_|(refine congrArg (fun z:Int=>some (AV.val (.int .i64) z)) ?_;push_cast;omega)|(simp)))),⟨hv,yyn _,hj.congr fun p=>(h7 p).symm⟩,by simpa using hH⟩
 ·replace hc:=zC hc;obtain rfl:i=l.length:=by omega
  have h4:=z1t hp;have Hl:=q6b l one two le h8 l.length;have g6:8 ^ l.length≤8 ^ 8:=yx9 (by omega) (by omega);have g7:8 ^ 8=16777216:=rfl
  (repeat (first|refine zs rfl ?_|refine zmr mpP rfl rfl rfl ?_))
  refine JK.loop (σ:=List shE×Nat) (fun q=>⟨[(14,vI ((bag q.1).length:Nat)),(103,.lf (.itr 2))],
    [(1,.map shT (.int .i64) es clk),(2,.iter 1 clk (q.1.map (·.2.2)) q.2)],3⟩)
   (fun q=>Far es q.1∧clk≤q.2) (fun q=>mLeft es (q.1.map (·.2.2))) ([],clk) ⟨Far.nil es,yyn _⟩ (by exact zJ) fun q hq=>?_
  obtain⟨done,last⟩:=q;obtain⟨hu,hg⟩:=hq;dsimp only at hu hg;refine zK0 ?_;refine z7x rfl rfl rfl hp.wf.lt hg rfl (fun hall=>?_) (fun e he hE=>?_)
  ·have hY:(bag done).length=(placesC l one two le l.length).length:=by rw[← h4.length_eq];exact(q5g (hu.all hp.wf hall)).length_eq
   refine zK0 ?_;refine q9 rfl (fun hc=>absurd hc (by decide)) (fun _=>?_);refine zK0 ?_;refine zR rfl trivial ?_;exact congrArg (fun n:Nat=>vI (n:Int)) hY
  ·have hv:=hu.snoc hp.wf he hE;have hH:=q7c he hE;obtain⟨p,many,born,rfl⟩:∃ (p:Sh) (many:Int) (born:Nat),e=(p,many,born):=⟨e.1,e.2.1,e.2.2,rfl⟩;have h6:0≤many:=hp.nn _ he;have Hc:=hv.len;rw[h4.length_eq] at Hc;have Hd:(bag (done++[(p,many,born)])).length=(bag done).length+many.toNat:=by rw[z1s,yy2,List.length_replicate]
   generalize He:(bag done).length=B at Hd;have hB:((bag (done++[(p,many,born)])).length:Int)=(B:Int)+many:=by omega
   refine zK0 ?_;refine q9 rfl (fun _=>?_) (fun hc=>absurd hc (by decide));refine zK0 ?_;refine z7z rfl rfl rfl rfl rfl he hp.wf rfl ?_;refine zK0 ?_;refine⟨(done++[(p,many,born)],clk),?_,⟨hv,yyn _⟩,by simpa using hH⟩;dsimp only;rw[hB,← He]
   (refine q3w (by conv=>lhs;reduce) ?_ ?_ ?_ ?_ rfl<;>(repeat' (first|exact trivial|exact rfl|refine And.intro ?_ ?_|exact yyc rfl|refine q30 ?_|refine q3z ?_|(refine congrArg (fun z:Int=>some (AV.val (.int .i64) z)) ?_;push_cast;omega)|(simp))))
def bstI(l:List Sh):List Int:=if dayE l=0 then iL (bestO l) else []
def lstI(l:List Sh):Int:=if dayE l=0 then leS l else 0
abbrev vB3(a:List Int)(b c:Int):AV:=.tup (.acons (vL a) (.acons (vI b) (.acons (vI c) .anil)))
def j3o(hl:okD l):(bestO l).length=l.length:=(z4x.1 (q8c.1 (best_in hl)).1).1
def fn9(l:List Sh):Ox.Fn Tryz.prog 9 (.acons (vD l) .anil) (·=vB3 (bstI l) (lstI l) (dayE l)):=by
 refine Ox.Fn.intro xok Tryz.func9 rfl Tryz.call9 (yyc rfl) (fun E M0 up=>?_);refine JK.start ?_;have h55:=fn20 l;unfold vOp at h55;by_cases hc:dayE l=0
 ·obtain⟨d1,d8,dl⟩:=day_ok hc;rw[if_pos hc,hc] at h55;have ha:=fn25 l (prS l) (leS l) dl d8;have hb:=j3o dl;have e1:bstI l=iL (bestO l):=by unfold bstI;rw[if_pos hc]
  have e2:lstI l=leS l:=by unfold lstI;rw[if_pos hc]
  rw[e1,e2,hc];change Ox.Fn Tryz.prog 25 _ (·=vL (iL (bestO l))) at ha;have hd:(iL (bestO l)).length=l.length:=by rw[yxh];exact hb
  generalize iL (bestO l)=B at ha hd ⊢;refine zK7 ?_;refine q9 rfl (fun h=>absurd h (by decide)) (fun _=>?_);have he:(List.replicate ((B.length:Int)).toNat (Ty.dflt (.int .i64))).length=B.length:=by simp
  (repeat (first|refine zs rfl ?_|refine ze rfl (ha) rfl ?_))
  (refine z12 [0] [5,8] rfl ?_)
  refine zK0 ?_;refine zR rfl trivial ?_;rfl
 ·have e1:bstI l=[]:=by unfold bstI;rw[if_neg hc]
  have e2:lstI l=0:=by unfold lstI;rw[if_neg hc]
  rw[e1,e2];rw[if_neg hc] at h55;generalize dayE l=z at hc h55 ⊢;refine zK7 ?_;refine q9 rfl (fun _=>?_) (fun h=>?_)
  ·refine zK0 ?_;refine zR rfl trivial ?_;rfl
  ·replace h:=zC h;omega
def kindE(l:List Sh)(one two:Int):Int:=if dayE l≠0 then dayE l else if (0≤one∧one<(l.length:Int))∧(0≤two∧two<(l.length:Int))∧one≠two then 0 else 2
def kindV(l:List Sh)(a b:Nat):Int:=if (bestsL l).all (befB a b)=true then 2 else if (bestsL l).any (befB a b)=true then 1 else 0
def kindI(l:List Sh)(one two:Int):Int:=if kindE l one two=0 then kindV l one.toNat two.toNat else 0
def kind_ok:kindE l one two=0↔dayE l=0∧(0≤one∧one<(l.length:Int))∧(0≤two∧two<(l.length:Int))∧one≠two:=by
 unfold kindE;split
 ·rename_i h;exact⟨fun h'=>absurd h' h,fun h'=>absurd h'.1 h⟩
 ·rename_i h;split
  ·rename_i h';exact⟨fun _=>⟨by omega,h'⟩,fun _=>rfl⟩
  ·rename_i h';exact⟨fun e=>by omega,fun e=>absurd e.2 h'⟩
def kind_cnt(a b:Nat):kindV l a b=if (((bestsL l).filter (befB a b)).length:Int)=0 then 0 else if (((bestsL l).filter (befB a b)).length:Int)=(bestsL l).length then 2 else 1:=by
 have ha:=bests_ne l;unfold kindV;generalize bestsL l=L at ha;have h1:L.all (befB a b)=true↔(L.filter (befB a b)).length=L.length:=by rw[List.length_filter_eq_length_iff,yyy]
 have h2:L.any (befB a b)=true↔¬ (L.filter (befB a b)).length=0:=by
  rw[List.length_eq_zero_iff,List.filter_eq_nil_iff,List.any_eq_true];constructor
  ·rintro⟨x,hx,h⟩ h';exact h' x hx h
  ·intro h;refine yxj fun hn=>h fun x hx hb=>hn ⟨x,hx,hb⟩
 have h3:L.length≠0:=fun e=>ha (List.length_eq_zero_iff.1 e);by_cases c1:(L.filter (befB a b)).length=0
 ·rw[if_neg (fun h=>by have:=h1.1 h;omega),if_neg (fun h=>h2.1 h c1),if_pos (by omega)]
 ·rw[if_neg (by omega:¬ ((L.filter (befB a b)).length:Int)=0)];by_cases c2:(L.filter (befB a b)).length=L.length
  ·rw[if_pos (h1.2 c2),if_pos (by omega)]
  ·rw[if_neg (fun h=>c2 (h1.1 h)),if_pos (h2.2 c1),if_neg (by omega)]
def countI(l:List Sh):Int:=if dayE l=0 then((bestsL l).length:Int) else 0
def fn10(l:List Sh):Ox.Fn Tryz.prog 10 (.acons (vD l) .anil) (·=vT2 (countI l) (dayE l)):=by
 refine Ox.Fn.intro xok Tryz.func10 rfl Tryz.call10 (yyc rfl) (fun E M0 up=>?_);refine JK.start ?_;have h55:=fn20 l;unfold vOp at h55;by_cases hc:dayE l=0
 ·obtain⟨d1,d8,dl⟩:=day_ok hc;rw[if_pos hc,hc] at h55;have ha:=fn22 l (prS l) (-1) (-1) dl d8 (by omega);rw[j3d dl (by decide)] at ha;have e1:countI l=((bestsL l).length:Nat):=by unfold countI;rw[if_pos hc]
  rw[e1,hc];refine zK7 ?_;refine q9 rfl (fun h=>absurd h (by decide)) (fun _=>?_)
  (repeat (first|refine zs rfl ?_|refine n3 ?_|refine zc rfl (ha) rfl rfl ?_))
  refine zR rfl trivial ?_;rfl
 ·have e1:countI l=0:=by unfold countI;rw[if_neg hc]
  rw[e1];rw[if_neg hc] at h55;generalize dayE l=z at hc h55 ⊢;refine zK7 ?_;refine q9 rfl (fun _=>?_) (fun h=>?_)
  ·refine zK0 ?_;refine zR rfl trivial ?_;rfl
  ·replace h:=zC h;omega
def fn7(l:List Sh)(one two:Int):Ox.Fn Tryz.prog 7 (.acons (vD l) (.acons (vI one) (.acons (vI two) .anil))) (·=vT2 (kindI l one two) (kindE l one two)):=by
 refine Ox.Fn.intro xok Tryz.func7 rfl Tryz.call7 (yyc rfl) (fun E M0 up=>?_);refine JK.start ?_;have h55:=fn20 l;unfold vOp at h55;by_cases hc:dayE l=0
 ·obtain⟨d1,d8,dl⟩:=day_ok hc;rw[if_pos hc,hc] at h55;have hj:=fn21 0 ((l.length:Int)-1) [one,two];have e52:decide (∀ x∈[one,two],0≤x∧x≤(l.length:Int)-1)=decide ((0≤one∧one<(l.length:Int))∧(0≤two∧two<(l.length:Int))):=decide_eq_decide.2 (by simp only[yym,yxi,or_false,forall_eq_or_imp,forall_eq];omega)
  rw[e52] at hj;refine zK7 ?_;refine q9 rfl (fun h=>absurd h (by decide)) (fun _=>?_)
  (repeat (first|refine zs rfl ?_|refine zg rfl rfl rfl ?_|refine zc rfl (hj) rfl rfl ?_))
  refine q9 rfl (fun hd=>?_) (fun hd=>?_)
  ·have hk:¬ ((0≤one∧one<(l.length:Int))∧(0≤two∧two<(l.length:Int))∧one≠two):=by rintro⟨q1,q2,q3⟩;have ha:(bif !decide ((0≤one∧one<(l.length:Int))∧0≤two∧two<(l.length:Int)) then true else one==two)=true:=hd;rw[decide_eq_true ⟨q1,q2⟩] at ha;exact q3 (beq_iff_eq.1 ha)
   have e2:kindE l one two=2:=by unfold kindE;rw[if_neg (by omega),if_neg hk]
   have e1:kindI l one two=0:=by unfold kindI;rw[if_neg (by rw[e2];decide)]
   rw[e1,e2];refine zK0 ?_;refine zR rfl trivial ?_;rfl
  ·have hb:(0≤one∧one<(l.length:Int))∧(0≤two∧two<(l.length:Int))∧one≠two:=by
    have ha:(bif !decide ((0≤one∧one<(l.length:Int))∧0≤two∧two<(l.length:Int)) then true else one==two)=false:=hd;by_cases q:(0≤one∧one<(l.length:Int))∧0≤two∧two<(l.length:Int)
    ·rw[decide_eq_true q] at ha;exact⟨q.1,q.2,fun e=>by rw[e] at ha;simp at ha⟩
    ·rw[decide_eq_false q] at ha;cases ha
   have hz:kindE l one two=0:=kind_ok.2 ⟨hc,hb⟩;have e1:kindI l one two=kindV l one.toNat two.toNat:=by unfold kindI;rw[if_pos hz]
   rw[e1,hz];have hA:=fn22 l (prS l) (-1) (-1) dl d8 (by omega);have hB:=fn22 l (prS l) one two dl d8 hb.1.2;have eB:cntS l one two=(((bestsL l).filter (befB one.toNat two.toNat)).length:Nat):=by have:=cnt_bef dl one.toNat two.toNat;rw[show((one.toNat:Nat):Int)=one by omega,show((two.toNat:Nat):Int)=two by omega] at this;exact this
   rw[j3d dl (by decide)] at hA;rw[eB] at hB;rw[kind_cnt];generalize ((bestsL l).length:Nat)=nA at hA ⊢;generalize (((bestsL l).filter (befB one.toNat two.toNat)).length:Nat)=nB at hB ⊢
   (repeat (first|refine zs rfl ?_|refine zc rfl (hA) rfl rfl ?_|refine zc rfl (hB) rfl rfl ?_))
   refine q9 rfl (fun he=>?_) (fun he=>?_)
   ·have hg:(nB:Int)=0:=beq_iff_eq.1 he;rw[if_pos hg];refine zK0 ?_;refine zR rfl trivial ?_;rfl
   ·have hg:¬ (nB:Int)=0:=beq_eq_false_iff_ne.1 he;rw[if_neg hg];refine zK0 ?_;refine q9 rfl (fun hf=>?_) (fun hf=>?_)
    ·have hh:(nB:Int)=(nA:Int):=beq_iff_eq.1 hf;rw[if_pos hh];refine zK0 ?_;refine zR rfl trivial ?_;rfl
    ·have hh:¬ (nB:Int)=(nA:Int):=beq_eq_false_iff_ne.1 hf;rw[if_neg hh];refine zK0 ?_;refine zR rfl trivial ?_;rfl
 ·have e2:kindE l one two=dayE l:=by unfold kindE;rw[if_pos hc]
  have e1:kindI l one two=0:=by unfold kindI;rw[if_neg (by rw[e2];exact hc)]
  rw[e1,e2];rw[if_neg hc] at h55;generalize dayE l=z at hc h55 ⊢;refine zK7 ?_;refine q9 rfl (fun _=>?_) (fun h=>?_)
  ·refine zK0 ?_;refine zR rfl trivial ?_;rfl
  ·replace h:=zC h;omega
end Go.Proofs.YtcijjbccigbflaaGreatDoor.Pr
namespace Go.Proofs.YtcijjbccigbflaaGreatDoor.Pr
open Go Go.RowKit Ox Ox.Sh
def z20(N:Nat):∀ k,(lvl N k).Nodup
 |0=>yxq.2 ⟨by simp,yx5⟩
 |k+1=>by
  rw[lvl];unfold List.Nodup;rw[List.pairwise_flatMap];refine⟨fun row _=>?_,(z20 N k).imp fun {r s} ha=>?_⟩
  ·rw[List.pairwise_map];exact(p7 N row).imp fun {a b} hb e=>hb (by simpa using e)
  ·rintro x hx y hy rfl;obtain⟨a,_,ea⟩:=yy0.1 hx;obtain⟨b,_,eb⟩:=yy0.1 hy;have:=ea.trans eb.symm;exact ha (List.append_inj_left' this rfl)
def bests_nodup(l:List Sh):(bestsL l).Nodup:=(z20 _ _).filter _
variable{l:List Sh}
def bests_perm(h:o∈bestsL l):List.Perm o (List.range l.length):=q2d (q8c.1 h).1
def z5s{a b:Nat}(hd:a≠b):∀ {o:List Nat},b∈o→(befB a b o=true↔o.idxOf a<o.idxOf b)
 |[],h=>absurd h yxi
 |m::r,h=>by
  rw[befB,List.idxOf_cons,List.idxOf_cons];by_cases e:m=b
  ·rw[if_pos e,e];simp
  ·rw[if_neg e];have hb:(m==b)=false:=by simpa using e
   by_cases e2:m=a
   ·rw[if_pos e2,e2];have:(a==b)=false:=by simpa using hd
    simp[this]
   ·rw[if_neg e2,hb];have ha:(m==a)=false:=by simpa using e2
    rw[ha,z5s hd ((yym.1 h).resolve_left fun q=>e q.symm)];simp
def kind_all(hk:k<l.length)(ha:i≠k):kindV l i k=2↔∀ o∈bestsL l,o.idxOf i<o.idxOf k:=by
 have h:(bestsL l).all (befB i k)=true↔∀ o∈bestsL l,o.idxOf i<o.idxOf k:=by rw[yyy];exact⟨fun h o ho=>(z5s ha ((bests_perm ho).mem_iff.2 (yyt.2 hk))).1 (h o ho),fun h o ho=>(z5s ha ((bests_perm ho).mem_iff.2 (yyt.2 hk))).2 (h o ho)⟩
 rw[← h];unfold kindV;by_cases e:(bestsL l).all (befB i k)=true
 ·simp[e]
 ·rw[if_neg e];refine⟨fun q=>?_,fun q=>absurd q e⟩;split at q<;>cases q
end Go.Proofs.YtcijjbccigbflaaGreatDoor.Pr
namespace Ox.Gl
def NB(P:Nat→Nat→Bool)(n:Nat):Prop:=∀ S:Nat→Prop,(∃ c,S c)→(∀ c,S c→c<n)→∃ c,S c∧∀ a,S a→P a c=false
def onB(P:Nat→Nat→Bool)(n:Nat):Nat→Nat→Bool
 |0,j=>decide (j<n)
 |k+1,j=>decide (j<n)&&(List.range n).any fun i=>onB P n k i&&P i j
def NB_of_on(h:∀ i,i<n→onB P n n i=false):NB P n:=by
 intro S h1 h2;refine yxj fun hc=>?_;have h3:∀ c,S c→∃ a,S a∧P a c=true:=fun c hS=>yxj fun hn=>hc ⟨c,hS,fun a ha=>by
  cases hp:P a c
  ·rfl
  ·exact absurd ⟨a,ha,hp⟩ hn⟩
 have h4:∀ k c,S c→onB P n k c=true:=by
  intro k;induction k with
  |zero=>intro c hS;simp[onB,h2 c hS]
  |succ k ih=>intro c hS;obtain⟨a,ha,hp⟩:=h3 c hS;simp only[onB,h2 c hS,decide_true,Bool.true_and,List.any_eq_true,yyt,yyd];exact⟨a,h2 a ha,ih a ha,hp⟩
 obtain⟨c,hS⟩:=h1;have:=h c (h2 c hS);rw[h4 n c hS] at this;cases this
def freeM(bf:Nat→Nat)(left:Nat):Nat→Nat
 |0=>0
 |m+1=>if left &&& 2 ^ m≠0∧bf m &&& left=0 then freeM bf left m ||| 2 ^ m else freeM bf left m
def q6l:(x &&& 2 ^ m≠0)↔x.testBit m=true:=by
 constructor
 ·intro h;cases hb:x.testBit m
  ·refine absurd (Nat.eq_of_testBit_eq fun i=>?_) h;rw[yxv,Nat.testBit_two_pow,Nat.zero_testBit];by_cases he:m=i
   ·subst he;simp[hb]
   ·simp[he]
  ·rfl
 ·intro h hz;have h2:(x &&& 2 ^ m).testBit m=true:=by rw[yxv,Nat.testBit_two_pow,h];simp
  rw[hz] at h2;simp at h2
def q3m(bf:Nat→Nat)(left:Nat):∀ m c,(freeM bf left m).testBit c=(decide (c<m)&&left.testBit c&&(bf c &&& left==0))
 |0,c=>by simp[freeM]
 |m+1,c=>by
  unfold freeM;by_cases h:left &&& 2 ^ m≠0∧bf m &&& left=0
  ·rw[if_pos h,Nat.testBit_or,q3m bf left m,Nat.testBit_two_pow];by_cases he:m=c
   ·subst he;simp[q6l.1 h.1,h.2]
   ·by_cases hl:c<m
    ·simp[he,hl,Nat.lt_succ_of_lt hl]
    ·simp[he,hl,show ¬ c<m+1 by omega]
  ·rw[if_neg h,q3m bf left m];by_cases he:c=m
   ·subst he;have:¬ (left.testBit c=true∧bf c &&& left=0):=fun k=>h ⟨q6l.2 k.1,k.2⟩;cases h1:left.testBit c
    ·simp
    ·have h2:(bf c &&& left==0)=false:=by simp only[beq_eq_false_iff_ne];exact fun e=>this ⟨h1,e⟩
     simp[h2]
   ·by_cases hl:c<m
    ·simp[hl,Nat.lt_succ_of_lt hl]
    ·simp[hl,show ¬ c<m+1 by omega]
def z8v(h:x≠0):∃ c,x.testBit c=true:=Nat.exists_testBit_of_ne_zero h
def bit_lt(h:x<2 ^ n)(hb:x.testBit c=true):c<n:=by refine Nat.lt_of_not_le fun hc=>?_;rw[Nat.testBit_lt_two_pow (yxf h (yx9 (by decide) hc))] at hb;cases hb
def j2j{n left:Nat}(hn:NB P n)(hb:∀ c a,c<n→(bf c).testBit a=P a c)(h0:left≠0)(hl:left<2 ^ n):freeM bf left n≠0:=by
 obtain⟨c,h1,h2⟩:=hn (fun c=>left.testBit c=true) (z8v h0) fun c h=>bit_lt hl h;have hc:=bit_lt hl h1;have h3:bf c &&& left=0:=Nat.eq_of_testBit_eq fun a=>by
  rw[yxv,hb c a hc,Nat.zero_testBit];cases ha:left.testBit a
  ·simp
  ·simp[h2 a ha]
 intro hz;have h4:=q3m bf left n c;rw[hz] at h4;simp[hc,h1,h3] at h4
def z7a(bf:Nat→Nat)(left n:Nat):left &&& freeM bf left n=freeM bf left n:=Nat.eq_of_testBit_eq fun c=>by rw[yxv,q3m];cases left.testBit c<;>simp
def xor_lt(hs:a &&& b=b)(hb:b≠0):a ^^^ (a &&& b)<a:=by
 have h1:a ^^^ b≤a:=Nat.le_of_testBit fun c h=>by
  rw[Nat.testBit_xor] at h;have:(a &&& b).testBit c=b.testBit c:=by rw[hs]
  rw[yxv] at this;cases ha:a.testBit c<;>simp_all
 rw[hs];refine Nat.lt_of_le_of_ne h1 fun he=>hb ?_;have h2:a ^^^ (a ^^^ b)=a ^^^ a:=by rw[he]
 rw[← Nat.xor_assoc,Nat.xor_self,Nat.zero_xor] at h2;exact h2
def peel_lt{n left:Nat}(hn:NB P n)(hb:∀ c a,c<n→(bf c).testBit a=P a c)(h0:left≠0)(hl:left<2 ^ n) :
  left ^^^ (left &&& freeM bf left n)<left:=xor_lt (z7a bf left n) (j2j hn hb h0 hl)
def z9j{lo hi least most drag n p:Int}(hd:0<drag)(h0:0≤p)(hn:p<n) :
  (max 0 (-((most-hi) / drag))≤p∧p≤min (n-1) ((lo-least) / drag))↔(least≤lo-p*drag∧hi-p*drag≤most):=by
 have e1:p≤(lo-least) / drag↔p*drag≤lo-least:=Int.le_ediv_iff_mul_le hd;have e2:-p≤(most-hi) / drag↔-p*drag≤most-hi:=Int.le_ediv_iff_mul_le hd;have e3:-p*drag=-(p*drag):=Int.neg_mul ..;constructor
 ·intro⟨h1,h2⟩;have:=e1.1 (by omega);have:=e2.1 (by omega);omega
 ·intro⟨h1,h2⟩;have:=e1.2 (by omega);have:=e2.2 (by omega);omega
def ruleP(bf:Nat→Nat):Nat→List Nat→Bool
 |_,[]=>true
 |lies,c::r=>(bf c ^^^ (bf c &&& lies)==0)&&ruleP bf (lies ||| 2 ^ c) r
def z59{x y:Nat}:(x ^^^ (x &&& y)==0)=true↔∀ a,x.testBit a=true→y.testBit a=true:=by
 rw[beq_iff_eq];constructor
 ·intro h a ha;have:(x ^^^ (x &&& y)).testBit a=false:=by rw[h];simp
  rw[Nat.testBit_xor,yxv,ha] at this;cases hy:y.testBit a
  ·rw[hy] at this;simp at this
  ·rfl
 ·intro h;refine Nat.eq_of_testBit_eq fun a=>?_;rw[Nat.testBit_xor,yxv,Nat.zero_testBit];cases hx:x.testBit a
  ·simp
  ·simp[h a hx]
def z2i{P:Nat→Nat→Bool}{n:Nat}{bf:Nat→Nat}(hb:∀ c a,c<n→(bf c).testBit a=P a c)(hp:∀ a c,P a c=true→a<n)(hi:∀ a,P a a=false) :
  ∀ (rest pre:List Nat) (lies:Nat),(pre++rest).Nodup→(∀ a,a∈pre++rest↔a<n)→(∀ a,lies.testBit a=decide (a∈pre)) →
  (ruleP bf lies rest=true↔rest.Pairwise fun x y=>P y x=false)
 |[],_,_,_,_,_=>by simp[ruleP]
 |c::r,pre,lies,h1,h2,h3=>by
  have hc:c<n:=(h2 c).1 (by simp);have hd:(pre++[c]++r).Nodup:=by simpa using h1
  have ih:=z2i hb hp hi r (pre++[c]) (lies ||| 2 ^ c) hd (by simpa using h2) (fun a=>by
   rw[Nat.testBit_or,h3,Nat.testBit_two_pow];by_cases e:a=c
   ·simp[e]
   ·simp[e,show ¬ c=a from fun h=>e h.symm])
  unfold ruleP;rw[yyd,z59,ih,List.pairwise_cons];refine and_congr ⟨fun h a ha=>?_,fun h a ha=>?_⟩ Iff.rfl
  ·cases he:P a c
   ·rfl
   ·have h4:=h a (by rw[hb c a hc];exact he);rw[h3] at h4;have h5:a∈pre:=of_decide_eq_true h4;exact absurd rfl ((List.nodup_append.1 h1).2.2 a h5 a (yyh _ ha))
  ·rw[hb c a hc] at ha;rw[h3];refine decide_eq_true ?_;have h4:=(h2 a).2 (hp a c ha);rcases yy4.1 h4 with h5|h5
   ·exact h5
   ·rcases yym.1 h5 with h6|h6
    ·subst h6;rw[hi] at ha;cases ha
    ·rw[h a h6] at ha;cases ha
def swp[Inhabited α](l:List α)(i k:Nat):List α:=(l.set i (l.getD k default)).set k (l.getD i default)
def z0l{α:Type}{x:α}:∀ {l:List α} {i:Nat} (h:i<l.length),(l[i]::l.set i x).Perm (x::l)
 |a::r,0,_=>by simpa using List.Perm.swap x a r
 |a::r,i+1,h=>by have ih:=z0l (x:=x) (l:=r) (i:=i) (Nat.lt_of_succ_lt_succ h);simp only[List.getElem_cons_succ,List.set_cons_succ];exact(List.Perm.swap _ _ _).trans ((ih.cons a).trans (List.Perm.swap _ _ _))
def swp_perm[Inhabited α]{l:List α}(hi:i<l.length)(hk:k<l.length):(swp l i k).Perm l:=by
 unfold swp;have e1:l.getD k default=l[k]:=by simp[List.getD,hk]
 have e2:l.getD i default=l[i]:=by simp[List.getD,hi]
 rw[e1,e2];have p1:=z0l (x:=l[k]) hi;have ha:k<(l.set i l[k]).length:=by simpa using hk
 have p2:=z0l (l:=l.set i l[k]) (x:=l[i]) ha;have e3:(l.set i l[k])[k]=l[k]:=by rw[List.getElem_set];split<;>rfl
 rw[e3] at p2;exact(List.perm_cons _).1 (p2.trans p1)
def z0j[Inhabited α](l:List α)(i k:Nat):(swp l i k).length=l.length:=by simp[swp]
def j3q:∀ {n:Nat} {l:List Int},l.Perm ((List.range n).map Int.ofNat)→l.Pairwise (·≤·)→l=(List.range n).map Int.ofNat:=by
 intro n l hp hs;have hr:((List.range n).map Int.ofNat).Pairwise (·≤·):=by rw[List.pairwise_map];exact List.pairwise_lt_range.imp fun h=>by show Int.ofNat _≤Int.ofNat _;simp only[Int.ofNat_eq_natCast];omega
 exact hp.eq_of_pairwise (fun a b _ _ h1 h2=>Int.le_antisymm h1 h2) hs hr
def okc(P:Nat→Nat→Bool)(n:Nat)(q:List Nat)(c:Nat):Bool:=!(q.contains c)&&(List.range n).all fun a=>!(P a c)||q.contains a
def lvl(P:Nat→Nat→Bool)(n:Nat):Nat→List (List Nat)
 |0=>[[]]
 |m+1=>(lvl P n m).flatMap fun q=>((List.range n).filter (okc P n q)).map fun c=>q++[c]
def q43:okc P n q c=true↔c∉q∧∀ a,a<n→P a c=true→a∈q:=by
 unfold okc;rw[yyd,yyz,yyy];refine and_congr (by rw[← Bool.not_eq_true,List.contains_iff_mem]) ⟨fun h a ha hp=>?_,fun h a ha=>?_⟩
 ·have:=h a (yyt.2 ha);rw[hp] at this;simpa using this
 ·cases hp:P a c
  ·rfl
  ·simpa using h a (yyt.1 ha) hp
def q0g{P:Nat→Nat→Bool}{n:Nat}:∀ {m:Nat} {q:List Nat},q∈lvl P n m→q.length=m∧q.Nodup∧∀ c∈q,c<n
 |0,q,h=>by simp[lvl] at h;subst h;simp
 |m+1,q,h=>by
  simp only[lvl,List.mem_flatMap,yy0,yy7,yyt] at h;obtain⟨p,hp,c,⟨hc,ho⟩,rfl⟩:=h;obtain⟨h1,h2,h3⟩:=q0g hp;have h4:=(q43.1 ho).1;refine⟨by simp[h1],?_,fun x hx=>?_⟩
  ·rw[List.nodup_append];exact⟨h2,by simp,fun a ha b hb e=>h4 (by simp at hb;subst hb;subst e;exact ha)⟩
  ·rcases yy4.1 hx with k|k
   ·exact h3 x k
   ·simp at k;subst k;exact hc
def j2n{f:α→List β}{l l':List α}(h:l.Perm l'):(l.flatMap f).Perm (l'.flatMap f):=by
 induction h with
 |nil=>exact List.Perm.refl _
 |cons x _ ih=>simp only[List.flatMap_cons];exact List.Perm.append_left _ ih
 |swap x y l=>simp only[List.flatMap_cons,← yxg];exact List.Perm.append_right _ List.perm_append_comm
 |trans _ _ i1 i2=>exact i1.trans i2
section
variable {P P':Nat→Nat→Bool}{n:Nat}{f:Nat→Nat}
end
def NB_next(h:NB P n)(hn:∃ c,c<n∧c∉q):∃ c,c<n∧okc P n q c=true:=by obtain⟨c,h1,h2⟩:=h (fun c=>c<n∧c∉q) hn fun c hc=>hc.1;refine⟨c,h1.1,q43.2 ⟨h1.2,fun a ha hp=>yxj fun hc=>?_⟩⟩;rw[h2 a ⟨ha,hc⟩] at hp;cases hp
end Ox.Gl
namespace Ox
open Go Go.RowKit
variable {X:Ctx}{s:S}{QA:Exit→S→Prop}
variable {M:Mem}{ρ:Env}{a:Act}{w w':World}{all l:List Oper}{md:Bool}
variable {L:List (Nat×AV)}{H:List (Nat×HO)}{nx d m:Nat}{eid:TypeId}{e:Ty}
def ghP(n:Nat):AV→List Bool→Option AV
 |.lf .nils,[]=>some (.lf (.osl n))
 |.mix a b,false::p=>(ghP n a p).map fun x=>.mix x b
 |.mix a b,true::p=>(ghP n b p).map fun x=>.mix a x
 |_,_=>none
def j2d:∀ {v:AV} {p:List Bool} {v':AV},ghP n v p=some v'→v.bd n→v'.bd (n+1)∧(∀ t,confB t v=true→confB t v'=true)∧∀ cs,v.rc M ρ cs→v'.rc M (ρ.nilAt n e) cs:=by
 intro v p v' h hb
 fun_induction ghP n v p generalizing v' with
 |case1=>
  injection h with h;subst h
  refine⟨yy9 _,fun t ht=>?_,fun cs hc=>?_⟩
  ·cases t<;>first|rfl|(simp[confB] at ht;done)
  ·simp only[AV.rc,Leaf.at] at hc ⊢;obtain⟨v,h1,h2,h3⟩:=hc;exact⟨v,by rw[← h1];simp[Env.nilAt],h2,h3⟩
 |case2 a b p ih=>
  simp only[yyo] at h;obtain⟨a',ha,rfl⟩:=h;obtain⟨e1,e2,e3⟩:=ih ha hb.1;refine⟨⟨e1,j9 (yxd _) hb.2⟩,fun t ht=>?_,fun cs hc=>?_⟩
  ·cases t with
   |cons ta tb=>simp only[confB,yyd] at ht ⊢;exact⟨e2 _ ht.1,ht.2⟩
   |arr m e=>
    cases m with
    |zero=>simp[confB] at ht
    |succ m=>simp only[confB,yyd] at ht ⊢;exact⟨e2 _ ht.1,ht.2⟩
   |_=>simp[confB] at ht
  ·simp only[AV.rc] at hc ⊢;obtain⟨c1,c2,k1,k2,k3⟩:=hc;exact⟨c1,c2,e3 _ k1,x6 (Mem.le_refl M) (q04 ρ n e) hb.2 k2,k3⟩
 |case3 a b p ih=>
  simp only[yyo] at h;obtain⟨b',hd,rfl⟩:=h;obtain⟨e1,e2,e3⟩:=ih hd hb.2;refine⟨⟨j9 (yxd _) hb.1,e1⟩,fun t ht=>?_,fun cs hc=>?_⟩
  ·cases t with
   |cons ta tb=>simp only[confB,yyd] at ht ⊢;exact⟨ht.1,e2 _ ht.2⟩
   |arr m e=>
    cases m with
    |zero=>simp[confB] at ht
    |succ m=>simp only[confB,yyd] at ht ⊢;exact⟨ht.1,e2 _ ht.2⟩
   |_=>simp[confB] at ht
  ·simp only[AV.rc] at hc ⊢;obtain⟨c1,c2,k1,k2,k3⟩:=hc;exact⟨c1,c2,x6 (Mem.le_refl M) (q04 ρ n e) hb.1 k1,e3 _ k2,k3⟩
 |case4=>cases h
variable{c:Code}{t:Ty}{v v':AV}
def j4z(m:Nat)(p:List Bool)(eid:TypeId)(e:Ty)(hm:lk s.H m=some (.cell t v))(hv:ghP s.nx v p=some v')
  (k:JC X c QA ⟨s.L,updH ((s.nx,.sl eid e [])::s.H) m (.cell t v'),s.nx+1⟩):JC X c QA s:=fun M ρ a w h1 h2=>by
 have g1:=h1.ghost eid e;have hr:=q04 ρ s.nx e;have g2:REG X M (ρ.nilAt s.nx e) ⟨s.L,updH ((s.nx,.sl eid e [])::s.H) m (.cell t v'),s.nx+1⟩ a:=by have:=h2.grow (H':=updH ((s.nx,.sl eid e [])::s.H) m (.cell t v')) (nx':=s.nx+1) (Mem.le_refl M) hr (yxd _) (x5 M);exact this
 obtain⟨o1,o2,o3⟩:=h1.own m _ hm;have ha:lk ((s.nx,HO.sl eid e [])::s.H) m=some (.cell t v):=by simp only[lk];rw[if_neg (by omega)];exact hm
 obtain⟨q1,q2,q3⟩:=g1.own m _ ha;obtain⟨b1,b2,b3⟩:=j2d (M:=M) (ρ:=ρ) (e:=e) hv o2;refine k M _ a w (g1.upd ha (n5 w _) rfl b1 ?_) g2;simp only[HO.ok] at q3 o3 ⊢;obtain⟨r1,r2,r3,c,ty,r4,r5⟩:=q3;obtain⟨u1,u2,u3,c',ty',u4,u5⟩:=o3;refine⟨r1,b2 t r2,r3,c,ty,r4,?_⟩;have:w.heap[ρ.blk m]?=some (.cells c ty (0,0)):=by simpa[Env.nilAt] using r4
 rw[this] at u4;injection u4 with u4;injection u4 with u4 u4';subst u4
 exact b3 _ u5
def q88{r:List Fr}(m:Nat)(p:List Bool)(eid:TypeId)(e:Ty)(hm:lk s.H m=some (.cell t v))(hv:ghP s.nx v p=some v')
  (k:JK X (.code c::r) QA ⟨s.L,updH ((s.nx,.sl eid e [])::s.H) m (.cell t v'),s.nx+1⟩):JK X (.code c::r) QA s:=j4z m p eid e hm hv k
def toV:(t:Ty)→AV→Option t.den
 |t,.val t' x=>if h:t'=t then some (h▸x) else none
 |.cons a b,.mix x y=>(toV a x).bind fun u=>(toV b y).map fun v=>(u,v)
 |.arr (n+1) e,.mix x y=>(toV e x).bind fun u=>(toV (.arr n e) y).map fun v=>(u::v:List e.den)
 |.slice _,.lf .nils=>some []
 |_,_=>none
def toV_rc:∀ {v:AV} {t:Ty} {x:t.den} {cs:List Value},toV t v=some x→v.rc M ρ cs→Rep M t x cs:=by
 intro v;induction v with
 |val t' y=>
  intro t x cs h hr;simp only[toV] at h;split at h
  ·rename_i e;subst e;injection h with h;subst h;simpa only[AV.rc] using hr
  ·cases h
 |mix a b iha ihb=>
  intro t x cs h hr;simp only[AV.rc] at hr;obtain⟨c1,c2,r1,r2,rfl⟩:=hr;cases t with
  |cons ta tb=>simp only[toV,yyq,yyo] at h;obtain⟨u,hu,v,hv,rfl⟩:=h;simp only[Rep];exact⟨c1,c2,rfl,iha hu r1,ihb hv r2⟩
  |arr n e=>
   cases n with
   |zero=>simp[toV] at h
   |succ n=>simp only[toV,yyq,yyo] at h;obtain⟨u,hu,v,hv,rfl⟩:=h;have e1:=iha hu r1;have e2:=ihb hv r2;rw[q2b] at e2 ⊢;obtain⟨f1,f2⟩:=e2;exact⟨by simp[f1],RL.append (l:=[u]) (m:=v) (q52 e1) f2⟩
  |_=>simp[toV] at h
 |lf y=>
  intro t x cs h hr;cases t<;>cases y<;>simp only[toV,reduceCtorEq,yya] at h
  subst h;simp only[AV.rc,Leaf.at] at hr;obtain⟨v,h1,_,rfl⟩:=hr;injection h1 with h1;subst h1
  exact v5 M (.slice _)
 |fn f a c _ _=>intro t x cs h hr;cases t<;>simp[toV] at h
 |_=>intro t x cs h hr;simp only[AV.rc] at hr
def JC.cellV(m:Nat){x:t.den}(hm:lk s.H m=some (.cell t v))(hv:toV t v=some x)(k:JC X c QA ⟨s.L,updH s.H m (.cell t (.val t x)),s.nx⟩):JC X c QA s:=fun M ρ a w h1 h2=>by obtain⟨o1,o2,o3⟩:=h1.own m _ hm;refine k M ρ a w (h1.upd hm (n5 w _) rfl trivial ?_) ⟨h2.size,h2.defers,h2.reg⟩;simp only[HO.ok] at o3 ⊢;obtain⟨r1,r2,r3,c,ty,r4,r5⟩:=o3;exact⟨r1,by simp[confB],r3,c,ty,r4,by simp only[AV.rc];exact toV_rc hv r5⟩
def JK.cellV{c:Code}{r:List Fr}(m:Nat){t:Ty}{v:AV}{x:t.den}(hm:lk s.H m=some (.cell t v))(hv:toV t v=some x)(k:JK X (.code c::r) QA ⟨s.L,updH s.H m (.cell t (.val t x)),s.nx⟩):JK X (.code c::r) QA s:=JC.cellV m hm hv k
end Ox
namespace Ox.St
def lnS(s:Int):Nat:=s.natAbs-1
variable (X:Nat→Nat→Bool)
def ext(s:Int)(k:Nat):List Int:=if k=lnS s then [s] else if X (lnS s) k then [0] else []
def layR(R:Nat→List Int)(s:Int):Nat→List Int:=fun k=>
 if k≠lnS s∧X (lnS s) k=false then R k
 else if (R (lnS s)).getLast?=some (-s) then(R k).dropLast
 else if k=lnS s then R k++[s] else R k++[0]
def bld:List Int→Nat→List Int
 |[],_=>[]
 |t::r,k=>bld r k++ext X t k
variable {X:Nat→Nat→Bool}(hs:∀ i j,X i j=X j i)
def z5i(s:Int):ext X s (lnS s)=[s]:=by simp[ext]
def q8d(s:Int):lnS (-s)=lnS s:=by simp[lnS]
def lay_no(h:(R (lnS s)).getLast?≠some (-s)):layR X R s=fun k=>R k++ext X s k:=by
 funext k;unfold layR ext;by_cases h1:k=lnS s
 ·rw[if_neg (by simp[h1]),if_neg h,if_pos h1,if_pos h1]
 ·cases h2:X (lnS s) k
  ·simp[h1]
  ·simp[h1,h]
def lay_of{R R':Nat→List Int}(h:∀ k,R k=R' k++ext X (-s) k):layR X R s=R':=by
 funext k;have hl:(R (lnS s)).getLast?=some (-s):=by rw[h,← q8d s,z5i];simp
 unfold layR;by_cases h1:k=lnS s
 ·rw[if_neg (by simp[h1]),if_pos hl,h,h1,← q8d s,z5i];simp
 ·cases h2:X (lnS s) k
  ·simp[h1,h,ext,q8d,h2]
  ·simp only[h1,ne_eq,not_false_eq_true,true_and,Bool.true_eq_false,if_false,hl,if_true];rw[h];simp[ext,q8d,h1,h2]
def Adj:List Int→Prop
 |x::y::r=>¬ (x≠0∧y=-x)∧Adj (y::r)
 |_=>True
def Adj.app:∀ {r:List Int} {y:Int},Adj r→(∀ x,r.getLast?=some x→¬ (x≠0∧y=-x))→Adj (r++[y])
 |[],_,_,_=>trivial
 |[x],y,_,h=>⟨h x rfl,trivial⟩
 |x::z::r,y,h,k=>⟨h.1,Adj.app (r:=z::r) h.2 fun w hw=>k w (by rw[List.getLast?_cons_cons];exact hw)⟩
def Adj.left:∀ {r q:List Int},Adj (r++q)→Adj r
 |[],_,_=>trivial
 |[x],_,_=>trivial
 |x::z::r,q,h=>⟨h.1,Adj.left (r:=z::r) (q:=q) h.2⟩
def Adj.last:∀ {r:List Int} {x y:Int},Adj (r++[y])→r.getLast?=some x→¬ (x≠0∧y=-x)
 |[],_,_,_,h=>by cases h
 |[z],x,y,h,hx=>by simp at hx;subst hx;exact h.1
 |z::w::r,x,y,h,hx=>Adj.last (r:=w::r) h.2 (by rw[List.getLast?_cons_cons] at hx;exact hx)
structure Pile(X:Nat→Nat→Bool)(rv:List Int)(R:Nat→List Int):Prop where
 eq:R=bld X rv
 nz:∀ t∈rv,t≠0
 adj:∀ k,Adj (R k)
def Pile.nil:Pile X [] (fun _=>[]):=⟨by funext k;rfl,fun _ h=>absurd h yxi,fun _=>trivial⟩
def z7l(hs:∀ i j,X i j=X j i){s:Int}(ha:s≠0):∀ {rv:List Int},(∀ t∈rv,t≠0)→(bld X rv (lnS s)).getLast?=some (-s) →
  ∃ r1 r2,rv=r1++-s::r2∧(∀ t∈r1,lnS t≠lnS s∧X (lnS t) (lnS s)=false)∧∀ k,bld X rv k=bld X (r1++r2) k++ext X (-s) k
 |[],_,h=>by simp[bld] at h
 |t::r,hn,h=>by
  simp only[bld] at h;by_cases h1:lnS s=lnS t
  ·have:ext X t (lnS s)=[t]:=by simp[ext,h1]
   rw[this] at h;simp at h;subst h;exact⟨[],r,rfl,fun _ h=>absurd h yxi,fun k=>rfl⟩
  ·cases h2:X (lnS t) (lnS s)
   ·have:ext X t (lnS s)=[]:=by simp[ext,h1,h2]
    rw[this,yxw] at h;obtain⟨r1,r2,e1,e2,e3⟩:=z7l hs ha (fun x hx=>hn x (yyh _ hx)) h;refine⟨t::r1,r2,by rw[e1];rfl,fun x hx=>?_,fun k=>?_⟩
    ·rcases yym.1 hx with rfl|hx
     ·exact⟨fun e=>h1 e.symm,h2⟩
     ·exact e2 x hx
    ·show bld X r k++ext X t k=(bld X (r1++r2) k++ext X t k)++ext X (-s) k;rw[e3 k,yxg,yxg];congr 1;unfold ext;rw[q8d];by_cases k1:k=lnS s
     ·rw[if_pos k1,k1,if_neg h1,h2];simp
     ·rw[if_neg k1];by_cases k2:k=lnS t
      ·rw[if_pos k2,k2,hs (lnS s) (lnS t),h2];simp
      ·rw[if_neg k2];cases X (lnS s) k<;>cases X (lnS t) k<;>rfl
   ·have:ext X t (lnS s)=[0]:=by simp[ext,h1,h2]
    rw[this] at h;simp at h;omega
def Pile.undo(hs:∀ i j,X i j=X j i)(h:Pile X rv R)(ha:s≠0)(hu:(R (lnS s)).getLast?=some (-s)) :
  ∃ r1 r2,rv=r1++-s::r2∧(∀ t∈r1,lnS t≠lnS s∧X (lnS t) (lnS s)=false)∧Pile X (r1++r2) (layR X R s)∧∀ k,R k=layR X R s k++ext X (-s) k:=by
 obtain⟨r1,r2,e1,e2,e3⟩:=z7l hs ha h.nz (by rw[← h.eq];exact hu);have e4:∀ k,R k=bld X (r1++r2) k++ext X (-s) k:=fun k=>by rw[h.eq];exact e3 k
 have e5:=lay_of e4;refine⟨r1,r2,e1,e2,⟨e5,fun t ht=>h.nz t ?_,fun k=>?_⟩,fun k=>by rw[e5];exact e4 k⟩
 ·rw[e1];rcases yy4.1 ht with ht|ht
  ·exact yxr _ ht
  ·exact List.mem_append_right _ (yyh _ ht)
 ·rw[e5];have:=h.adj k;rw[e4 k] at this;exact this.left
def Pile.put(h:Pile X rv R)(ha:s≠0)(hu:(R (lnS s)).getLast?≠some (-s)) :
  Pile X (s::rv) (layR X R s)∧∀ k,layR X R s k=R k++ext X s k:=by
 have e:=lay_no (X:=X) hu;refine⟨⟨?_,fun t ht=>?_,fun k=>?_⟩,fun k=>by rw[e]⟩
 ·rw[e,h.eq];rfl
 ·rcases yym.1 ht with rfl|ht
  ·exact ha
  ·exact h.nz t ht
 ·rw[e];show Adj (R k++ext X s k);have hk:=h.adj k;unfold ext;split
  ·rename_i h1;refine hk.app fun x hx ⟨_,hy⟩=>hu ?_;rw[← h1,hx,hy,Int.neg_neg]
  ·split
   ·exact hk.app fun x hx ⟨h1,hy⟩=>by omega
   ·rw[yxw];exact hk
def layL(R:Nat→List Int)(u:List Int):Nat→List Int:=u.foldl (layR X) R
def Pile.lay(hs:∀ i j,X i j=X j i)(h:Pile X rv R)(ha:s≠0):∃ rv',Pile X rv' (layR X R s)∧rv'.length≤rv.length+1∧∀ t∈rv',t=s∨t∈rv:=by
 by_cases hu:(R (lnS s)).getLast?=some (-s)
 ·obtain⟨r1,r2,e1,_,e2,_⟩:=h.undo hs ha hu;refine⟨_,e2,by rw[e1];simp;omega,fun t ht=>.inr ?_⟩;rw[e1];rcases yy4.1 ht with ht|ht
  ·exact yxr _ ht
  ·exact List.mem_append_right _ (yyh _ ht)
 ·exact⟨_,(h.put ha hu).1,by simp,fun t ht=>yym.1 ht⟩
def Pile.layL(hs:∀ i j,X i j=X j i):∀ {u rv:List Int} {R:Nat→List Int},Pile X rv R→(∀ s∈u,s≠0)→∃ rv',Pile X rv' (Ox.St.layL (X:=X) R u)∧rv'.length≤rv.length+u.length∧∀ t∈rv',t∈u∨t∈rv
 |[],rv,R,h,_=>⟨rv,h,by simp,fun t ht=>.inr ht⟩
 |s::u,rv,R,h,hn=>by
  obtain⟨rv1,h1,h2,h4⟩:=h.lay hs (hn s yyi);obtain⟨rv2,h3,h5,h6⟩:=Pile.layL hs (u:=u) h1 fun x hx=>hn x (yyh _ hx);refine⟨rv2,h3,by rw[List.length_cons];omega,fun t ht=>?_⟩;rcases h6 t ht with h|h
  ·exact .inl (yyh _ h)
  ·rcases h4 t h with h|h
   ·exact .inl (h▸yyi)
   ·exact .inr h
def Eqv(X:Nat→Nat→Bool)(u v:List Int):Prop:=∀ rv R,Pile X rv R→layL (X:=X) R u=layL (X:=X) R v
def Nz(u:List Int):Prop:=∀ s∈u,s≠0
def q7g(R:Nat→List Int)(u v:List Int):layL (X:=X) R (u++v)=layL (X:=X) (layL (X:=X) R u) v:=List.foldl_append ..
def Eqv.trans{u v w:List Int}(h:Eqv X u v)(k:Eqv X v w):Eqv X u w:=fun rv R p=>(h rv R p).trans (k rv R p)
def Eqv.symm{u v:List Int}(h:Eqv X u v):Eqv X v u:=fun rv R p=>(h rv R p).symm
def Eqv.app(hs:∀ i j,X i j=X j i){u v:List Int}(h:Eqv X u v){x:List Int}(hx:Nz x)(y:List Int):Eqv X (x++u++y) (x++v++y):=fun rv R p=>by obtain⟨rv',p',_⟩:=p.layL hs hx;rw[q7g,q7g,q7g,q7g,h _ _ p']
def j3k(a b:List Int)(k:Nat):bld X (a++b) k=bld X b k++bld X a k:=by
 induction a with
 |nil=>simp[bld]
 |cons t a ih=>rw[List.cons_append];simp only[bld];rw[ih,yxg]
def z7n{y:Int}(h:y∈bld X rv k)(hy:y≠0):lnS y=k∧y∈rv:=by
 induction rv with
 |nil=>simp[bld] at h
 |cons t r ih=>
  simp only[bld,yy4] at h;rcases h with h|h
  ·exact⟨(ih h).1,yyh _ (ih h).2⟩
  ·unfold ext at h;split at h
   ·rename_i e;rw[yys.1 h];exact⟨e.symm,yyi⟩
   ·split at h
    ·exact absurd (yys.1 h) hy
    ·simp at h
def bld_off(h:bld X rv k=[]):∀ t∈rv,lnS t≠k∧X (lnS t) k=false:=by
 induction rv with
 |nil=>exact fun _ h=>absurd h yxi
 |cons t r ih=>
  simp only[bld,List.append_eq_nil_iff] at h;intro x hx;rcases yym.1 hx with rfl|hx
  ·have h2:=h.2;unfold ext at h2;by_cases e:k=lnS x
   ·rw[if_pos e] at h2;simp at h2
   ·rw[if_neg e] at h2;refine⟨fun q=>e q.symm,?_⟩;cases hX:X (lnS x) k
    ·rfl
    ·rw[hX] at h2;simp at h2
  ·exact ih h.1 x hx
def q9f:∀ {l:List Int},(∀ y∈l,y=0)→l++[0]=0::l
 |[],_=>rfl
 |x::r,h=>by rw[h x yyi,List.cons_append,q9f fun y hy=>h y (yyh _ hy)]
def z3t(hs:∀ i j,X i j=X j i){s:Int}(ha:s≠0):∀ {rv:List Int},(∀ t∈rv,t≠0)→(bld X rv (lnS s)).head?=some s →
  ∃ r1 r2,rv=r1++s::r2∧(∀ t∈r2,lnS t≠lnS s∧X (lnS t) (lnS s)=false)∧∀ k,bld X rv k=ext X s k++bld X (r1++r2) k
 |[],_,h=>by simp[bld] at h
 |t::r,hn,h=>by
  by_cases hr:bld X r (lnS s)=[]
  ·simp only[bld,hr,List.nil_append] at h;unfold ext at h;split at h
   ·simp at h;subst h;have ho:=bld_off hr;refine⟨[],r,rfl,ho,fun k=>?_⟩;simp only[bld,List.nil_append];unfold ext;by_cases h1:k=lnS t
    ·rw[if_pos h1,h1,hr];rfl
    ·rw[if_neg h1];cases h2:X (lnS t) k
     ·simp
     ·simp only[if_true];exact q9f fun y hy=>yxj fun hd=>by obtain⟨q1,q2⟩:=z7n hy hd;have q3:=(ho y q2).2;rw[q1,hs,h2] at q3;cases q3
   ·split at h
    ·simp at h;omega
    ·simp at h
  ·have h':(bld X r (lnS s)).head?=some s:=by
    simp only[bld] at h;cases hb:bld X r (lnS s) with
    |nil=>exact absurd hb hr
    |cons x y=>rw[hb] at h;simpa using h
   obtain⟨r1,r2,e1,e2,e3⟩:=z3t hs ha (fun x hx=>hn x (yyh _ hx)) h';refine⟨t::r1,r2,by rw[e1];rfl,e2,fun k=>?_⟩;simp only[bld,List.cons_append];rw[e3 k,yxg]
def takeR(X:Nat→Nat→Bool)(R:Nat→List Int)(s:Int):Nat→List Int:=fun k=>if k=lnS s∨X (lnS s) k=true then(R k).drop 1 else R k
def Adj.tail{x:Int}{r:List Int}(h:Adj (x::r)):Adj r:=by
 cases r with
 |nil=>trivial
 |cons y r=>exact h.2
def Pile.take(hs:∀ i j,X i j=X j i)(h:Pile X rv R)(ha:s≠0)(hf:(R (lnS s)).head?=some s) :
  ∃ r1 r2,rv=r1++s::r2∧(∀ t∈r2,lnS t≠lnS s∧X (lnS t) (lnS s)=false)∧Pile X (r1++r2) (takeR X R s)∧∀ k,R k=ext X s k++takeR X R s k:=by
 obtain⟨r1,r2,e1,e2,e3⟩:=z3t hs ha h.nz (by rw[← h.eq];exact hf);have e4:∀ k,R k=ext X s k++bld X (r1++r2) k:=fun k=>by rw[h.eq];exact e3 k
 have e5:takeR X R s=bld X (r1++r2):=by
  funext k;unfold takeR;by_cases h1:k=lnS s
  ·rw[if_pos (.inl h1),e4 k];simp[ext,h1]
  ·cases h2:X (lnS s) k
   ·rw[if_neg (by simp[h1]),e4 k];simp[ext,h1,h2]
   ·rw[if_pos (.inr rfl),e4 k];simp[ext,h1,h2]
 refine⟨r1,r2,e1,e2,⟨e5,fun t ht=>h.nz t ?_,fun k=>?_⟩,fun k=>by rw[e5];exact e4 k⟩
 ·rw[e1];rcases yy4.1 ht with ht|ht
  ·exact yxr _ ht
  ·exact List.mem_append_right _ (yyh _ ht)
 ·rw[e5];have:=h.adj k;rw[e4 k] at this;unfold ext at this;split at this
  ·exact this.tail
  ·split at this
   ·exact this.tail
   ·exact this
def frontK(r:List Int):List Int:=match r with
 |s::_=>if s=0 then [] else [s]
 |[]=>[]
def frontsN(R:Nat→List Int):Nat→List Int
 |0=>[]
 |n+1=>frontsN R n++frontK (R n)
def frontsR(R:Nat→List Int):List Int:=frontsN R 8
def q8k{R:Nat→List Int}{s:Int}:∀ {n:Nat},s∈frontsN R n↔∃ k,k<n∧s≠0∧(R k).head?=some s
 |0=>by simp[frontsN]
 |n+1=>by
  simp only[frontsN,yy4,q8k (n:=n)];constructor
  ·rintro(⟨k,h1,h2⟩|h)
   ·exact⟨k,by omega,h2⟩
   ·refine⟨n,yy9 n,?_⟩;unfold frontK at h;split at h
    ·rename_i x y e;split at h
     ·simp at h
     ·rename_i h0;rw[yys.1 h];exact⟨h0,by rw[e];rfl⟩
    ·simp at h
  ·rintro⟨k,h1,h2,h3⟩;rcases Nat.lt_or_ge k n with h|h
   ·exact .inl ⟨k,h,h2,h3⟩
   ·obtain rfl:k=n:=by omega
    right;cases hR:R k with
    |nil=>rw[hR] at h3;simp at h3
    |cons x y=>rw[hR] at h3;simp at h3;subst h3;simp[frontK,h2]
def Pile.none(h:Pile X rv R)(hb:∀ t∈rv,lnS t<8)(hf:frontsR R=[]):rv=[]:=by
 rcases List.eq_nil_or_concat rv with h0|⟨r,t,h0⟩
 ·exact h0
 ·exfalso;have h0:rv=r++[t]:=by simpa using h0
  have ht:t∈rv:=by rw[h0];simp
  have h1:R (lnS t)=t::bld X r (lnS t):=by rw[h.eq,h0,j3k];simp[bld,ext]
  have:t∈frontsR R:=q8k.2 ⟨lnS t,hb t ht,h.nz t ht,by rw[h1];rfl⟩;rw[hf] at this;simp at this
def leastG(key:Int→Int):Int→List Int→Int
 |b,[]=>b
 |b,x::r=>leastG key (if key x<key b then x else b) r
end Ox.St
namespace Ox.Gl
open Ox.St
def greT(P:Nat→Nat→Bool)(n:Nat):Nat→List Nat→List Nat
 |0,_=>[]
 |m+1,q=>match (List.range n).find? (okc P n q) with
  |none=>[]
  |some c=>c::greT P n m (q++[c])
def stk(c:Nat):Int:=(c:Int)+1
def q0u(c:Nat):lnS (stk c)=c:=by unfold lnS stk;omega
def stk_of{t:Int}(h:0<t):t=stk (lnS t):=by unfold lnS stk;omega
variable {P:Nat→Nat→Bool}{n:Nat}
def crsP(P:Nat→Nat→Bool):Nat→Nat→Bool:=fun i j=>P i j||P j i
def z7h(i j:Nat):crsP P i j=crsP P j i:=by unfold crsP;rw[Bool.or_comm]
structure PQ(P:Nat→Nat→Bool)(n:Nat)(q:List Nat)(rv:List Int)(R:Nat→List Int):Prop where
 pile:Pile (crsP P) rv R
 pos:∀ t∈rv,0<t∧lnS t<n
 ne:rv.Pairwise fun x y=>lnS x≠lnS y
 lin:rv.Pairwise fun x y=>P (lnS x) (lnS y)=false
 mem:∀ c,c<n→(stk c∈rv↔c∉q)
def z7m{X:Nat→Nat→Bool}{k:Nat}:∀ {r:List Int},(∀ t∈r,lnS t≠k∧X (lnS t) k=false)→bld X r k=[]
 |[],_=>rfl
 |t::r,h=>by have h1:=h t yyi;simp only[bld,z7m fun y hy=>h y (yyh _ hy),List.nil_append,ext];rw[if_neg (fun e=>h1.1 e.symm),h1.2];rfl
def head_of{X:Nat→Nat→Bool}{r1 r2:List Int}(h:Pile X (r1++s::r2) R)(h2:∀ t∈r2,lnS t≠lnS s∧X (lnS t) (lnS s)=false):(R (lnS s)).head?=some s:=by rw[h.eq,j3k];simp only[bld,z7m h2,List.nil_append,z5i];rfl
def PQ.front_iff(hi:∀ a,P a a=false)(h:PQ P n q rv R)(hc:c<n) :
  (R c).head?=some (stk c)↔okc P n q c=true:=by
 rw[q43];constructor
 ·intro hf;have hh:(R (lnS (stk c))).head?=some (stk c):=by rw[q0u];exact hf
  obtain⟨r1,r2,e1,e2,-,-⟩:=h.pile.take z7h (by unfold stk;omega) hh;have hm:stk c∈rv:=by rw[e1];simp
  refine⟨(h.mem c hc).1 hm,fun a ha hp=>yxj fun hq=>?_⟩;have hd:=(h.mem a ha).2 hq;rw[e1] at hd;rcases yy4.1 hd with h1|h1
  ·have hl:=h.lin;rw[e1,List.pairwise_append] at hl;have:=hl.2.2 _ h1 _ yyi;rw[q0u,q0u,hp] at this;cases this
  ·rcases yym.1 h1 with h1|h1
   ·have:a=c:=by unfold stk at h1;omega
    subst this;rw[hi] at hp;cases hp
   ·have:=(e2 _ h1).2;rw[q0u,q0u] at this;unfold crsP at this;rw[hp] at this;simp at this
 ·intro⟨h1,h2⟩;have hm:=(h.mem c hc).2 h1;obtain⟨r1,r2,e⟩:=List.append_of_mem hm;have hp:=h.pile;have hb:=h.ne;have hl:=h.lin;rw[e] at hp hb hl;rw[List.pairwise_append] at hb hl;have:=head_of hp (fun t ht=>by
   have k1:=(List.pairwise_cons.1 hb.2.1).1 t ht;have k2:=(List.pairwise_cons.1 hl.2.1).1 t ht;have he:t∈rv:=by rw[e];simp[ht]
   obtain⟨p1,p2⟩:=h.pos t he;refine⟨fun e=>k1 e.symm,?_⟩;unfold crsP;rw[k2,Bool.or_false];cases hg:P (lnS t) (lnS (stk c))
   ·rfl
   ·rw[q0u] at hg;have:=h2 _ p2 hg;exact absurd this ((h.mem _ p2).1 (by rw[← stk_of p1];exact he)))
  rw[q0u] at this;exact this
def PQ.row(hi:∀ a,P a a=false)(h:PQ P n q rv R)(c:Nat) :
  frontK (R c)=if c<n∧okc P n q c=true then [stk c] else []:=by
 split
 ·rename_i k;have:=(h.front_iff hi k.1).2 k.2;cases hR:R c with
  |nil=>rw[hR] at this;cases this
  |cons x r=>rw[hR] at this;simp at this;subst this;simp[frontK,show stk c≠0 by unfold stk;omega]
 ·rename_i k;cases hR:R c with
  |nil=>rfl
  |cons x r=>
   by_cases h0:x=0
   ·simp[frontK,h0]
   ·exfalso;have hk:x∈bld (crsP P) rv c:=by rw[← h.pile.eq,hR];simp
    obtain⟨e1,e2⟩:=z7n hk h0;obtain⟨p1,p2⟩:=h.pos x e2;have e3:=stk_of p1;rw[e1] at e3 p2;exact k ⟨p2,(h.front_iff hi p2).1 (by rw[hR,e3];rfl)⟩
def z82(hi:∀ a,P a a=false){q:List Nat}{rv:List Int}{R:Nat→List Int}(h:PQ P n q rv R):∀ m,frontsN R m=((List.range m).filter fun c=>decide (c<n∧okc P n q c=true)).map stk
 |0=>rfl
 |m+1=>by
  rw[St.frontsN,z82 hi h m,h.row hi,List.range_succ,List.filter_append,yx4];congr 1;by_cases k:m<n∧okc P n q m=true
  ·simp[k]
  ·rw[if_neg k,yxz (by simpa using k)];rfl
def PQ.take(hi:∀ a,P a a=false){q:List Nat}{rv:List Int}{R:Nat→List Int}(h:PQ P n q rv R){c:Nat}(hc:c<n)(ho:okc P n q c=true) :
  ∃ rv',PQ P n (q++[c]) rv' (takeR (crsP P) R (stk c)):=by
 have hf:=(h.front_iff hi hc).2 ho;have he:(R (lnS (stk c))).head?=some (stk c):=by rw[q0u];exact hf
 obtain⟨r1,r2,e1,e2,e3,-⟩:=h.pile.take z7h (by unfold stk;omega) he;have hb:(r1++r2).Sublist rv:=by rw[e1];exact List.Sublist.append_left (List.sublist_cons_self _ _) _
 refine⟨r1++r2,e3,fun t ht=>h.pos t (hb.subset ht),h.ne.sublist hb,h.lin.sublist hb,fun a ha=>?_⟩;have hd:=h.ne;rw[e1,List.pairwise_append] at hd;have hx:∀ t,t∈r1++r2↔t∈rv∧lnS t≠c:=by
  intro t;rw[e1];constructor
  ·intro ht;refine⟨?_,?_⟩
   ·rcases yy4.1 ht with k|k<;>simp[k]
   ·rcases yy4.1 ht with k|k
    ·have:=hd.2.2 t k _ yyi;rw[q0u] at this;exact this
    ·have:=(List.pairwise_cons.1 hd.2.1).1 t k;rw[q0u] at this;exact fun e=>this e.symm
  ·intro⟨ht,k⟩;rcases yy4.1 ht with j|j
   ·simp[j]
   ·rcases yym.1 j with j|j
    ·subst j;rw[q0u] at k;exact absurd rfl k
    ·simp[j]
 rw[hx,h.mem a ha,q0u];simp
def q6z{x:Nat}:∀ {a:List Nat},a.Nodup→x∈a→List.Perm a (x::a.filter fun k=>decide (k≠x))
 |b::r,hn,h=>by
  obtain⟨h1,h2⟩:=yxq.1 hn;by_cases e:b=x
  ·subst e;have e:(r.filter fun k=>decide (k≠b))=r:=List.filter_eq_self.2 fun k hk=>decide_eq_true fun e:k=b=>h1 (by rw[← e];exact hk);rw[yxz (by simp),e]
  ·rw[List.filter_cons_of_pos (by simpa using e)];have:=q6z h2 ((yym.1 h).resolve_left fun e'=>e e'.symm);exact(this.cons b).trans (List.Perm.swap x b _)
def q78:∀ {z a:List Nat},z.Nodup→a.Nodup→(∀ x∈z,x∈a)→a.length≤z.length→List.Perm z a
 |[],a,_,_,_,h=>by rw[List.length_eq_zero_iff.1 (Nat.le_zero.1 h)]
 |x::z,a,hz,ha,hs,h=>by obtain⟨h1,h2⟩:=yxq.1 hz;have hp:=q6z ha (hs x yyi);have hl:=hp.length_eq;refine List.Perm.trans ?_ hp.symm;refine List.Perm.cons x (q78 h2 (ha.filter _) (fun y hy=>?_) (by simp only[List.length_cons] at hl h;omega));rw[yy7];exact⟨hs y (yyh _ hy),decide_eq_true fun e=>h1 (e▸hy)⟩
def z8j(h1:q.Nodup)(h2:∀ c∈q,c<n)(h3:q.length=n):q.Perm (List.range n):=q78 h1 List.nodup_range (fun x hx=>yyt.2 (h2 x hx)) (by simp[h3])
def z04(hq:q∈lvl P n m)(hc:c<n)(ho:okc P n q c=true):q++[c]∈lvl P n (m+1):=by simp only[lvl,List.mem_flatMap,yy0,yy7,yyt];exact⟨q,hq,c,⟨hc,ho⟩,rfl⟩
def z44(hp:∀ a c,P a c=true→a<n):∀ {m:Nat} {q:List Nat},q∈lvl P n m→(∀ c∈q,∀ a,P a c=true→a∈q)∧q.Pairwise fun x y=>P y x=false
 |0,q,h=>by simp[lvl] at h;subst h;simp
 |m+1,q,h=>by
  simp only[lvl,List.mem_flatMap,yy0,yy7,yyt] at h;obtain⟨p,hb,c,⟨hc,ho⟩,rfl⟩:=h;obtain⟨h1,h2⟩:=z44 hp hb;obtain⟨h3,h4⟩:=q43.1 ho;refine⟨fun x hx a ha=>?_,?_⟩
  ·rcases yy4.1 hx with k|k
   ·exact yxr _ (h1 x k a ha)
   ·rw[yys.1 k] at ha;exact yxr _ (h4 a (hp a c ha) ha)
  ·rw[List.pairwise_append];refine⟨h2,by simp,fun x hx y hy=>?_⟩;rw[yys.1 hy];cases hd:P c x
   ·rfl
   ·exact absurd (h1 x hx c hd) h3
def q2d(h:q∈lvl P n n):q.Perm (List.range n):=by obtain⟨h1,h2,h3⟩:=q0g h;exact z8j h2 h3 h1
def next_ne(hN:NB P n)(hq:q∈lvl P n m)(hm:m<n):(List.range n).filter (okc P n q)≠[]:=by
 obtain⟨h1,h2,h3⟩:=q0g hq;have:∃ c,c<n∧c∉q:=yxj fun hc=>by
  have:∀ c,c∈List.range n→c∈q:=fun c ha=>yxj fun k=>hc ⟨c,yyt.1 ha,k⟩;have:=(q78 List.nodup_range h2 this (by rw[h1];simp;omega)).length_eq
  simp at this;omega
 obtain⟨c,hc,ho⟩:=NB_next hN this;intro e;have:c∈(List.range n).filter (okc P n q):=yy7.2 ⟨yyt.2 hc,ho⟩;rw[e] at this;cases this
def z1b(hN:NB P n):∀ (m:Nat) {k:Nat} {q:List Nat},q∈lvl P n k→k+m≤n→q++greT P n m q∈lvl P n (k+m)
 |0,k,q,h,_=>by simpa[greT] using h
 |m+1,k,q,h,hk=>by
  unfold greT;have ha:=next_ne hN h (by omega);cases hf:(List.range n).find? (okc P n q) with
  |none=>refine absurd (List.filter_eq_nil_iff.2 fun c hc=>?_) ha;have:=List.find?_eq_none.1 hf c hc;exact this
  |some c=>have h1:=List.find?_some hf;have h2:=yyt.1 (List.mem_of_find?_eq_some hf);have:=z1b hN m (z04 h h2 h1) (by omega);rw[yxg] at this;rw[show k+(m+1)=k+1+m by omega];exact this
end Ox.Gl
namespace Ox.Gl
variable {P:Nat→Nat→Bool}{n:Nat}
def q7a:∀ {z a:List Nat},z.Nodup→(∀ x∈z,x∈a)→z.length≤a.length
 |[],_,_,_=>yyu _
 |x::z,a,hz,hs=>by obtain⟨h1,h2⟩:=yxq.1 hz;have hx:=hs x yyi;have:=q7a (z:=z) (a:=a.erase x) h2 fun y hy=>(List.mem_erase_of_ne (fun e:y=x=>h1 (by rw[← e];exact hy))).2 (hs y (yyh _ hy));rw[List.length_erase_of_mem hx] at this;have:=List.length_pos_of_mem hx;simp only[List.length_cons];omega
structure Sch(P:Nat→Nat→Bool)(n:Nat)(p:Nat→Int):Prop where
 inj:∀ a c,a<n→c<n→p a=p c→a=c
 lt:∀ a c,a<n→c<n→P a c=true→p a+1≤p c
def Bnd(n:Nat)(p L U:Nat→Int):Prop:=∀ c,c<n→L c≤p c∧p c≤U c
variable{p:Nat→Int}
def no_block(h:Sch P n p)(hb:Bnd n p L U){F T:Int}{cs:List Nat}(hn:cs.Nodup)(hc:∀ c∈cs,c<n∧F≤L c∧U c≤T)(he:cs≠[]):(cs.length:Int)≤T-F+1:=by
 have h1:∀ c∈cs,F≤p c∧p c≤T:=fun c k=>by obtain⟨k1,k2,k3⟩:=hc c k;obtain⟨k4,k5⟩:=hb c k1;omega
 have h2:(cs.map fun c=>(p c-F).toNat).Nodup:=by rw[List.nodup_iff_pairwise_ne,List.pairwise_map];refine(List.nodup_iff_pairwise_ne.1 hn).imp_of_mem fun {a b} ha hd hg e=>hg ?_;have:=h1 a ha;have:=h1 b hd;exact h.inj a b (hc a ha).1 (hc b hd).1 (by omega)
 have h3:=q7a (a:=List.range (T-F+1).toNat) h2 fun x hx=>by obtain⟨c,k1,rfl⟩:=yy0.1 hx;have:=h1 c k1;rw[yyt];omega
 rw[yxh,List.length_range] at h3;cases cs with
 |nil=>exact absurd rfl he
 |cons c r=>have:=h1 c yyi;omega
def Bnd.step(h:Sch P n p)(hb:Bnd n p L U)(ha:a<n)(hc:c<n)(hp:P a c=true) :
  Bnd n p (fun x=>if x=c then max (L c) (L a+1) else L x) (fun x=>if x=a then min (U a) (U c-1) else U x):=fun x hx=>by
 have h1:=h.lt a c ha hc hp;have h2:=hb a ha;have h3:=hb c hc;have h4:=hb x hx;constructor
 ·show(if x=c then _ else _)≤_;split
  ·rename_i e;subst e;omega
  ·exact h4.1
 ·show _≤(if x=a then _ else _);split
  ·rename_i e;subst e;omega
  ·exact h4.2
def plc(o:List Nat)(c:Nat):Int:=(o.idxOf c:Nat)
def plc_sch(hp:∀ a c,P a c=true→a<n)(h:o∈lvl P n n):Sch P n (plc o):=by
 have hh:=q2d h;have hw:o.Nodup:=hh.nodup_iff.2 List.nodup_range;have hm:∀ c,c<n→c∈o:=fun c hc=>hh.mem_iff.2 (yyt.2 hc);have hl:=(z44 hp h).2;have hg:∀ c (hc:c<n),∃ k:o.idxOf c<o.length,o[o.idxOf c]=c:=fun c hc=>⟨List.idxOf_lt_length_of_mem (hm c hc),List.getElem_idxOf _⟩;refine⟨fun a c ha hc e=>?_,fun a c ha hc hb=>?_⟩
 ·obtain⟨k1,e1⟩:=hg a ha;obtain⟨k2,e2⟩:=hg c hc;unfold plc at e;have:o.idxOf a=o.idxOf c:=by omega
  rw[← e1,← e2];exact getElem_congr_idx this
 ·obtain⟨k1,e1⟩:=hg a ha;obtain⟨k2,e2⟩:=hg c hc;unfold plc;have hj:¬ o.idxOf c≤o.idxOf a:=fun hj=>by
   rcases Nat.lt_or_eq_of_le hj with hk|he
   ·have:=yx1.1 hl _ _ k2 k1 hk;rw[e1,e2,hb] at this;cases this
   ·have:a=c:=by rw[← e1,← e2];exact getElem_congr_idx he.symm
    subst this;have:∀ {m:Nat} {q:List Nat},q∈lvl P n m→∀ x∈q,P x x=false:=by
     intro m;induction m with
     |zero=>intro q hq x hx;simp[lvl] at hq;subst hq;cases hx
     |succ m ih=>
      intro q hq x hx;simp only[lvl,List.mem_flatMap,yy0,yy7,yyt] at hq;obtain⟨q',hu,d,⟨hd,ho⟩,rfl⟩:=hq;rcases yy4.1 hx with k|k
      ·exact ih hu x k
      ·rw[yys.1 k];obtain⟨i1,i2⟩:=q43.1 ho;cases hv:P d d
       ·rfl
       ·exact absurd (i2 d hd hv) i1
    rw[this h a (hm a ha)] at hb;cases hb
  omega
def sch_of(hp:∀ a c,P a c=true→a<n)(hN:NB P n)(hq:q∈lvl P n k)(hk:k≤n) :
  ∃ p:Nat→Int,Sch P n p∧(∀ c,c<n→0≤p c∧p c≤(n:Int)-1)∧∀ i (hi:i<q.length),p q[i]=i:=by
 have h:=z1b hN (n-k) hq (by omega);rw[show k+(n-k)=n by omega] at h;have ha:=q2d h;have hb:(q++greT P n (n-k) q).Nodup:=ha.nodup_iff.2 List.nodup_range;refine⟨plc (q++greT P n (n-k) q),plc_sch hp h,fun c hc=>?_,fun i hi=>?_⟩
 ·have h1:=List.idxOf_lt_length_of_mem (ha.mem_iff.2 (yyt.2 hc));have h2:=ha.length_eq;rw[List.length_range] at h2;unfold plc;omega
 ·have h3:i<(q++greT P n (n-k) q).length:=by simp;omega
  have h4:q[i]=(q++greT P n (n-k) q)[i]:=by rw[List.getElem_append_left hi]
  unfold plc;rw[h4,hb.idxOf_getElem]
variable {β:Type}(a0 a1:β→Nat)
def prB(B:List β)(a c:Nat):Bool:=B.any fun p=>decide (a0 p=a∧a1 p=c)
variable {a0 a1}
def prB_iff{B:List β}:prB a0 a1 B a c=true↔∃ p∈B,a0 p=a∧a1 p=c:=by unfold prB;rw[List.any_eq_true];simp
def get_set{l:List Int}{x:Int}(hi:i<l.length):(l.set i x).getD a 0=if a=i then x else l.getD a 0:=by
 simp only[yyk,List.getElem?_set];by_cases h:i=a
 ·subst h;simp[hi]
 ·rw[if_neg h,if_neg fun e=>h e.symm]
def bitsQ(q:List Nat):Nat:=q.foldl (fun x c=>x ||| 2 ^ c) 0
def q4b(q:List Nat)(c:Nat):bitsQ (q++[c])=bitsQ q ||| 2 ^ c:=by simp[bitsQ]
def z3u:∀ (q:List Nat) (x a:Nat),(q.foldl (fun x c=>x ||| 2 ^ c) x).testBit a=(x.testBit a||decide (a∈q))
 |[],x,a=>by simp
 |c::q,x,a=>by
  rw[List.foldl_cons,z3u q,Nat.testBit_or,Nat.testBit_two_pow,Bool.or_assoc];congr 1;by_cases h:c=a
  ·subst h;simp
  ·by_cases h2:a∈q
   ·simp[h2]
   ·simp[h,h2,show ¬ a=c from fun e=>h e.symm]
def q3p(q:List Nat)(a:Nat):(bitsQ q).testBit a=decide (a∈q):=by unfold bitsQ;rw[z3u];simp
def z1q(h:∀ c∈q,c<n):bitsQ q<2 ^ n:=by refine Nat.lt_pow_two_of_testBit _ fun i hi=>?_;rw[q3p];refine decide_eq_false fun hm=>?_;have:=h i hm;omega
def j3m(h:q.Perm (List.range n)):bitsQ q=2 ^ n-1:=Nat.eq_of_testBit_eq fun i=>by rw[q3p,Nat.testBit_two_pow_sub_one];rw[decide_eq_decide,h.mem_iff,yyt]
def okx(P:Nat→Nat→Bool)(n x c:Nat):Bool:=!(x.testBit c)&&(List.range n).all fun a=>!(P a c)||x.testBit a
def z6n(q:List Nat)(c:Nat):okx P n (bitsQ q) c=okc P n q c:=by
 unfold okx okc;simp only[q3p];have h:∀ a,decide (a∈q)=q.contains a:=fun a=>by rw[yy1,yyr,List.contains_iff_mem]
 simp only[h]
def j0v(hb:∀ c a,c<n→(bf c).testBit a=P a c)(hp:∀ a c,P a c=true→a<n)(hc:c<n):okx P n x c=(!(x.testBit c)&&(bf c ^^^ (bf c &&& x)==0)):=by
 unfold okx;congr 1;rw[yy1,z59,yyy];constructor
 ·intro h a ha;rw[hb c a hc] at ha;have:=h a (yyt.2 (hp a c ha));rw[ha] at this;simpa using this
 ·intro h a _;cases hd:P a c
  ·rfl
  ·simpa using h a (by rw[hb c a hc];exact hd)
def kb(P:Nat→Nat→Bool)(n:Nat):Nat→List Nat
 |0=>[0]
 |m+1=>(kb P n m).flatMap fun x=>((List.range n).filter (okx P n x)).map fun c=>x ||| 2 ^ c
def z60:∀ m,kb P n m=(lvl P n m).map bitsQ
 |0=>rfl
 |m+1=>by rw[kb,lvl,z60 m,List.flatMap_map,List.map_flatMap];congr 1;funext q;rw[List.map_map];have:okx P n (bitsQ q)=okc P n q:=funext fun c=>z6n q c;rw[this];refine List.map_congr_left fun c _=>?_;exact(q4b q c).symm
def kb_all:(kb P n n).count (2 ^ n-1)=(lvl P n n).length:=by
 rw[z60];have:(lvl P n n).map bitsQ=List.replicate (lvl P n n).length (2 ^ n-1):=by rw[List.eq_replicate_iff];refine⟨by simp,fun x hx=>?_⟩;obtain⟨q,hq,rfl⟩:=yy0.1 hx;exact j3m (q2d hq)
 rw[this,List.count_replicate_self]
def z5c(h:x∈kb P n m):x<2 ^ n∧∃ q∈lvl P n m,x=bitsQ q:=by rw[z60] at h;obtain⟨q,hq,rfl⟩:=yy0.1 h;exact⟨z1q (q0g hq).2.2,q,hq,rfl⟩
def kb_level(h1:x∈kb P n m)(h2:x∈kb P n k):m=k:=by
 obtain⟨-,q,hq,e1⟩:=z5c h1;obtain⟨-,r,hr,e2⟩:=z5c h2;obtain⟨a1,a2,a3⟩:=q0g hq;obtain⟨b1,b2,b3⟩:=q0g hr;have hm:∀ c,c∈q↔c∈r:=fun c=>by
  have:(bitsQ q).testBit c=(bitsQ r).testBit c:=by rw[← e1,e2]
  rw[q3p,q3p,decide_eq_decide] at this;exact this
 have l1:=q7a a2 fun x hx=>(hm x).1 hx;have l2:=q7a b2 fun x hx=>(hm x).2 hx;omega
def z21:∀ m,(lvl P n m).length≤n ^ m
 |0=>by simp[lvl]
 |m+1=>by
  rw[lvl,Nat.pow_succ];have:∀ L:List (List Nat),(L.flatMap fun q=>((List.range n).filter (okc P n q)).map fun c=>q++[c]).length≤L.length*n:=fun L=>by
   induction L with
   |nil=>simp
   |cons q L ih=>rw[List.flatMap_cons,yy2,yxh,List.length_cons,Nat.succ_mul];have:=yx8 (okc P n q) (List.range n);rw[List.length_range] at this;omega
  exact Nat.le_trans (this _) (yy8 n (z21 m))
end Ox.Gl
namespace Ox.Gl
open Ox.St
variable {P:Nat→Nat→Bool}{n:Nat}
def fstO(P:Nat→Nat→Bool)(n:Nat):List Nat:=greT P n n []
def z68(hN:NB P n):fstO P n∈lvl P n n:=by have:=z1b hN n (k:=0) (q:=[]) (by simp[lvl]) (by omega);simpa[fstO] using this
def pick(u:List Int)(m:Nat)(cs:List Nat):Nat:=cs.getD (if 0<u.length then(u.getD (m % u.length) 0).toNat % cs.length else 0) 0
end Ox.Gl
namespace Ox.Gl
def z2u{α:Type}[DecidableEq α]:∀ {z a:List α},z.Nodup→(∀ x∈z,x∈a)→z.length≤a.length
 |[],_,_,_=>yyu _
 |x::z,a,hz,hs=>by obtain⟨h1,h2⟩:=yxq.1 hz;have hx:=hs x yyi;have:=z2u (z:=z) (a:=a.erase x) h2 fun y hy=>(List.mem_erase_of_ne (fun e:y=x=>h1 (by rw[← e];exact hy))).2 (hs y (yyh _ hy));rw[List.length_erase_of_mem hx] at this;have:=List.length_pos_of_mem hx;simp only[List.length_cons];omega
variable (P:Nat→Nat→Bool)(n:Nat)
def onL(k:Nat):List Int:=(List.range n).map fun j=>if onB P n k j=true then 1 else 0
def innB(on:Nat→Bool)(i m j:Nat):Bool:=(List.range i).any (fun x=>on x&&P x j)||(decide (j<m)&&(on i&&P i j))
def innL(on:Nat→Bool)(i m:Nat):List Int:=(List.range n).map fun j=>if innB P on i m j=true then 1 else 0
variable {P n}
def z63:(innL P n on i m).length=n:=by simp[innL]
def j0s:(onL P n k).length=n:=by simp[onL]
def j0t(h:j<n):(onL P n k).getD j 0=if onB P n k j=true then 1 else 0:=by simp[onL,List.getD,h]
def j13:innL P n on 0 0=List.replicate n 0:=by refine List.ext_getElem (by simp[innL]) fun i h1 h2=>?_;simp[innL,innB]
def innL_yes(h:on i=true∧P i m=true):(innL P n on i m).set m 1=innL P n on i (m+1):=by
 refine List.ext_getElem (by simp[innL]) fun j h1 h2=>?_;simp[innL] at h1;rw[List.getElem_set];by_cases e:m=j
 ·subst e;rw[if_pos rfl];simp[innL,innB,h.1,h.2]
 ·rw[if_neg e];have:decide (j<m+1)=decide (j<m):=by rw[decide_eq_decide];omega
  simp only[innL,innB,List.getElem_map,List.getElem_range,this]
def innL_no(h:¬ (on i=true∧P i m=true)):innL P n on i (m+1)=innL P n on i m:=by
 refine List.map_congr_left fun j _=>?_;unfold innB;by_cases e:j=m
 ·subst e;have:(on i&&P i j)=false:=by rw[Bool.eq_false_iff];intro k;rw[yyd] at k;exact h k
  rw[this];simp
 ·have:decide (j<m+1)=decide (j<m):=by rw[decide_eq_decide];omega
  rw[this]
def innL_row:innL P n on i n=innL P n on (i+1) 0:=by refine List.map_congr_left fun j hj=>?_;have:=yyt.1 hj;unfold innB;rw[List.range_succ,List.any_append];simp[this]
def innL_all:innL P n (onB P n k) n 0=onL P n (k+1):=by refine List.map_congr_left fun j hj=>?_;have:=yyt.1 hj;simp[innB,onB,this]
abbrev RgD:=Int×Int×Unit
def loR(R:List RgD)(i:Nat):Int:=(R.getD i (0,0,())).1
def hiR(R:List RgD)(i:Nat):Int:=(R.getD i (0,0,())).2.1
def loS(R:List RgD)(c:Nat)(v:Int):List RgD:=R.set c (v,hiR R c,())
def hiS(R:List RgD)(c:Nat)(v:Int):List RgD:=R.set c (loR R c,v,())
def pairR(c:Nat)(R:List RgD)(a:Nat):List RgD:=
 let Q:=loS R c (max (loR R c) (loR R a+1))
 hiS Q a (min (hiR Q a) (hiR Q c-1))
def tenB(b:Nat):List Nat:=(List.range 10).filter fun i=>b.testBit i
def lowB(b:Nat):Nat:=(tenB b).headD 0
def ten_all:((List.range 1024).all fun b=>b==0||(tenB b==lowB b::tenB (b &&& (b-1))&&decide (lowB b<10)&&decide (b &&& (b-1)<b)&&decide (b &&& (b-1)<1024)))=true:=by decide +kernel
def z58(h0:b≠0)(h:b<1024):tenB b=lowB b::tenB (b &&& (b-1))∧lowB b<10∧b &&& (b-1)<b∧b &&& (b-1)<1024:=by
 have:=yyy.1 ten_all b (yyt.2 h);simp only[yy5,yyd,beq_iff_eq,yyr] at this;rcases this with k|⟨⟨⟨k1,k2⟩,k3⟩,k4⟩
 ·exact absurd k h0
 ·exact⟨k1,k2,k3,k4⟩
def z9h:i∈tenB b↔i<10∧b.testBit i=true:=by unfold tenB;rw[yy7,yyt]
def roundB(bf:Nat→Nat)(R:List RgD):List RgD:=(List.range 10).foldl (fun R c=>(tenB (bf c)).foldl (pairR c) R) R
def bndF(bf:Nat→Nat):Nat→List RgD→List RgD
 |0,R=>R
 |k+1,R=>if roundB bf R=R then roundB bf R else bndF bf k (roundB bf R)
variable{R:List RgD}
def q2o{v:RgD}(hc:c<R.length):(R.set c v).getD x (0,0,())=if x=c then v else R.getD x (0,0,()):=by
 simp only[yyk,List.getElem?_set];by_cases h:c=x
 ·subst h;simp[hc]
 ·rw[if_neg h,if_neg fun e=>h e.symm]
def z2q(c:Nat)(R:List RgD)(a:Nat):(pairR c R a).length=R.length:=by simp[pairR,loS,hiS]
variable {P:Nat→Nat→Bool}{n:Nat}
variable{p:Nat→Int}
def z8k(h:Sch P n p)(hn:n≤R.length)(hb:Bnd n p (loR R) (hiR R))(ha:a<n)(hc:c<n)(hp:P a c=true):Bnd n p (loR (pairR c R a)) (hiR (pairR c R a)):=by
 have hd:=h.lt a c ha hc hp;have he:a≠c:=fun e=>by subst e;omega
 have e:=hb.step h ha hc hp;have h1:c<R.length:=by omega
 have h2:a<(loS R c (max (loR R c) (loR R a+1))).length:=by unfold loS;rw[List.length_set];omega
 have g1:∀ y,loR (loS R c (max (loR R c) (loR R a+1))) y=if y=c then max (loR R c) (loR R a+1) else loR R y:=fun y=>by generalize max (loR R c) (loR R a+1)=v;unfold loS loR;rw[q2o h1];split<;>rfl
 have g2:∀ y,hiR (loS R c (max (loR R c) (loR R a+1))) y=hiR R y:=fun y=>by
  generalize max (loR R c) (loR R a+1)=v;unfold loS;show hiR (R.set c (v,hiR R c,())) y=hiR R y;generalize hw:hiR R c=w;unfold hiR;rw[q2o h1];split
  ·rename_i e1;subst e1;exact hw.symm
  ·rfl
 unfold pairR;generalize loS R c (max (loR R c) (loR R a+1))=Q at g1 g2 h2;have g3:∀ v y,loR (hiS Q a v) y=loR Q y:=fun v y=>by
  unfold hiS;generalize hw:loR Q a=w;unfold loR;rw[q2o h2];split
  ·rename_i e1;subst e1;exact hw.symm
  ·rfl
 have g4:∀ v y,hiR (hiS Q a v) y=if y=a then v else hiR Q y:=fun v y=>by unfold hiS;generalize loR Q a=w;unfold hiR;rw[q2o h2];split<;>rfl
 intro x hx;have k:=e x hx;show loR (hiS Q a _) x≤p x∧p x≤hiR (hiS Q a _) x;rw[g3,g1,g4,g2,g2,g2];exact k
def z4n(h:Sch P n p)(hn:n≤10)(hb:∀ c a,(bf c).testBit a=true→c<n∧a<n∧P a c=true)(hl:R.length=10)(hk:Bnd n p (loR R) (hiR R)) :
  (roundB bf R).length=10∧Bnd n p (loR (roundB bf R)) (hiR (roundB bf R)):=by
 have inner:∀ (c:Nat) (az:List Nat),(∀ a∈az,(bf c).testBit a=true)→∀ R:List RgD,R.length=10→Bnd n p (loR R) (hiR R)→(az.foldl (pairR c) R).length=10∧Bnd n p (loR (az.foldl (pairR c) R)) (hiR (az.foldl (pairR c) R)):=by
  intro c az;induction az with
  |nil=>intro _ R h1 h2;exact⟨h1,h2⟩
  |cons a az ih=>intro ha R h1 h2;obtain⟨k1,k2,k3⟩:=hb c a (ha a yyi);exact ih (fun b hd=>ha b (yyh _ hd)) _ (by rw[z2q,h1]) (z8k h (by omega) h2 k2 k1 k3)
 have outer:∀ (cs:List Nat) (R:List RgD),R.length=10→Bnd n p (loR R) (hiR R)→(cs.foldl (fun R c=>(tenB (bf c)).foldl (pairR c) R) R).length=10 ∧
   Bnd n p (loR (cs.foldl (fun R c=>(tenB (bf c)).foldl (pairR c) R) R)) (hiR (cs.foldl (fun R c=>(tenB (bf c)).foldl (pairR c) R) R)):=by
  intro cs;induction cs with
  |nil=>intro R h1 h2;exact⟨h1,h2⟩
  |cons c cs ih=>intro R h1 h2;obtain⟨k1,k2⟩:=inner c (tenB (bf c)) (fun a ha=>(z9h.1 ha).2) R h1 h2;exact ih _ k1 k2
 exact outer _ R hl hk
def z3s{p:Nat→Int}(h:Sch P n p)(hn:n≤10){bf:Nat→Nat}(hb:∀ c a,(bf c).testBit a=true→c<n∧a<n∧P a c=true):∀ (k:Nat) {R:List RgD},R.length=10→Bnd n p (loR R) (hiR R) →
  (bndF bf k R).length=10∧Bnd n p (loR (bndF bf k R)) (hiR (bndF bf k R))
 |0,R,h1,h2=>⟨h1,h2⟩
 |k+1,R,h1,h2=>by
  obtain⟨k1,k2⟩:=z4n h hn hb h1 h2;unfold bndF;split
  ·exact⟨k1,k2⟩
  ·exact z3s h hn hb k k1 k2
abbrev CoD:=RgD×Int×Int×Unit
def sLo(c:CoD):Int:=c.1.1
def sHi(c:CoD):Int:=c.1.2.1
def cLs(c:CoD):Int:=c.2.1
def cMs(c:CoD):Int:=c.2.2.1
def z0(p:List Int):Int:=p.getD 0 0
def z1(p:List Int):Int:=p.getD 1 0
def q0(p:List Int):Nat:=(z0 p).toNat
def q1(p:List Int):Nat:=(z1 p).toNat
def coZ:CoD:=((0,0,()),0,0,())
def pG(ps:List (List Int)):Nat→Nat→Bool:=prB q0 q1 ps
def okCo(c:CoD):Prop:=(0≤sLo c∧sLo c≤sHi c∧sHi c≤1000)∧0≤cLs c∧cLs c≤cMs c∧cMs c≤1000
def okPr(n:Nat)(p:List Int):Prop:=(0≤z0 p∧z0 p<n)∧(0≤z1 p∧z1 p<n)∧z0 p≠z1 p
structure VG(d:Int)(cs:List CoD)(ps:List (List Int)):Prop where
 n1:1≤cs.length
 n10:cs.length≤10
 p40:ps.length≤40
 d1:1≤d
 d100:d≤100
 co:∀ c∈cs,okCo c
 pr:∀ p∈ps,okPr cs.length p
 nd:ps.Nodup
 nb:NB (pG ps) cs.length
variable {d:Int}{cs:List CoD}{ps:List (List Int)}
def z2r:pG ps a c=true↔∃ p∈ps,q0 p=a∧q1 p=c:=prB_iff
def VG.lt(h:VG d cs ps)(hp:pG ps a c=true):a<cs.length∧c<cs.length∧a≠c:=by obtain⟨p,h1,h2,h3⟩:=z2r.1 hp;obtain⟨⟨k1,k2⟩,⟨k3,k4⟩,k5⟩:=h.pr p h1;unfold q0 at h2;unfold q1 at h3;omega
def VG.irr(h:VG d cs ps)(a:Nat):pG ps a a=false:=by
 cases hp:pG ps a a
 ·rfl
 ·exact absurd rfl (h.lt hp).2.2
def befS(L:List Int)(p:List Int):List Int:=L.set (q1 p) (((L.getD (q1 p) 0).toNat ||| (1*2 ^ (z0 p).toNat:Int).toNat:Nat):Int)
def befL(ps:List (List Int)):List Int:=ps.foldl befS (List.replicate 10 0)
def bfN(ps:List (List Int))(c:Nat):Nat:=ps.foldl (fun x p=>if q1 p=c then x ||| 2 ^ q0 p else x) 0
def q3i(m:Nat):(1*2 ^ m:Int).toNat=2 ^ m:=by
 rw[Int.one_mul];have:((2:Int) ^ m)=((2 ^ m:Nat):Int):=by rw[Int.natCast_pow];rfl
 rw[this,Int.toNat_natCast]
def z7o(L:List Int)(p:List Int):(befS L p).length=L.length:=by simp[befS]
def q5v(c:Nat):∀ (ps:List (List Int)) (L:List Int) (x:Nat),(∀ p∈ps,q1 p<L.length)→L.getD c 0=(x:Int)→(ps.foldl befS L).length=L.length ∧
  (ps.foldl befS L).getD c 0=((ps.foldl (fun x p=>if q1 p=c then x ||| 2 ^ q0 p else x) x:Nat):Int)
 |[],L,x,_,h=>⟨rfl,h⟩
 |p::ps,L,x,hp,h=>by
  have h1:=hp p yyi;have hv:(befS L p).getD c 0=((if q1 p=c then x ||| 2 ^ q0 p else x:Nat):Int):=by
   unfold befS;rw[get_set h1];by_cases e:q1 p=c
   ·subst e;rw[if_pos rfl,if_pos rfl,q3i,h,Int.toNat_natCast];rfl
   ·rw[if_neg fun k=>e k.symm,if_neg e,h]
  obtain⟨k1,k2⟩:=q5v c ps (befS L p) _ (fun q hq=>by rw[z7o];exact hp q (yyh _ hq)) hv;exact⟨by rw[List.foldl_cons,k1,z7o],by rw[List.foldl_cons,List.foldl_cons,k2]⟩
def bf_bit(c a:Nat):∀ (ps:List (List Int)) (x:Nat),(ps.foldl (fun x p=>if q1 p=c then x ||| 2 ^ q0 p else x) x).testBit a=(x.testBit a||pG ps a c)
 |[],x=>by simp[pG,prB]
 |p::ps,x=>by
  rw[List.foldl_cons,bf_bit c a ps];have e:pG (p::ps) a c=(decide (q0 p=a∧q1 p=c)||pG ps a c):=rfl;rw[e];by_cases h:q1 p=c
  ·rw[if_pos h,Nat.testBit_or,Nat.testBit_two_pow,Bool.or_assoc];simp[h]
  ·rw[if_neg h];simp[h]
def q3q(ps:List (List Int))(c a:Nat):(bfN ps c).testBit a=pG ps a c:=by unfold bfN;rw[bf_bit];simp
def z2p(h:n≤10):2 ^ n≤1024:=yx9 (by decide) h
def z98(n c:Nat):(List.replicate n (0:Int)).getD c 0=((0:Nat):Int):=by rw[yyk,List.getElem?_replicate];split<;>rfl
def VG.bef_len(h:VG d cs ps):(befL ps).length=10:=(q5v 0 ps (List.replicate 10 0) 0 (fun p hp=>by have:=(h.pr p hp).2.1;have:=h.n10;unfold q1;simp;omega) (by simp)).1
def VG.bef(h:VG d cs ps)(c:Nat):(befL ps).getD c 0=(bfN ps c:Int):=(q5v c ps (List.replicate 10 0) 0 (fun p hp=>by have:=(h.pr p hp).2.1;have:=h.n10;unfold q1;simp;omega) (z98 10 c)).2
def VG.bf_lt(h:VG d cs ps)(c:Nat):bfN ps c<2 ^ cs.length:=Nat.lt_pow_two_of_testBit _ fun i hi=>by
 rw[q3q];cases hp:pG ps i c
 ·rfl
 ·have:=(h.lt hp).1;omega
def VG.bf_1024(h:VG d cs ps)(c:Nat):bfN ps c<1024:=yxf (h.bf_lt c) (z2p h.n10)
def q7l(ps:List (List Int))(h:i<ps.length){z:List Int}(hz:ps.getD i z=ps[i]):befL (ps.take (i+1))=befS (befL (ps.take i)) (ps.getD i z):=by unfold befL;rw[yxy h,List.foldl_append,hz];rfl
def z3v(h:VG d cs ps)(i:Nat):(befL (ps.take i)).length=10:=(q5v 0 (ps.take i) (List.replicate 10 0) 0 (fun p hp=>by have:=(h.pr p (List.mem_of_mem_take hp)).2.1;have:=h.n10;unfold q1;simp;omega) (by simp)).1
def z5r(h:VG d cs ps)(i c:Nat):0≤(befL (ps.take i)).getD c 0∧(befL (ps.take i)).getD c 0<1024:=by
 have e:=(q5v c (ps.take i) (List.replicate 10 0) 0 (fun p hp=>by have:=(h.pr p (List.mem_of_mem_take hp)).2.1;have:=h.n10;unfold q1;simp;omega) (z98 10 c)).2
 have e2:(befL (ps.take i)).getD c 0=(bfN (ps.take i) c:Int):=e;have h3:bfN (ps.take i) c<1024:=yxf (Nat.lt_pow_two_of_testBit (n:=cs.length) _ fun j hj=>by
  rw[q3q];cases hp:pG (ps.take i) j c
  ·rfl
  ·obtain⟨p,k1,k2,_⟩:=z2r.1 hp;have:=(h.lt (z2r.2 ⟨p,List.mem_of_mem_take k1,k2,rfl⟩)).1;omega) (z2p h.n10)
 omega
def winD(d:Int)(n:Nat)(c:CoD):RgD:=(max 0 (-((cMs c-sHi c) / d)),min ((n:Int)-1) ((sLo c-cLs c) / d),())
def winS(d:Int)(n:Nat)(cs:List CoD):Nat→List RgD
 |0=>List.replicate 10 (0,0,())
 |i+1=>(winS d n cs i).set i (winD d n (cs.getD i coZ))
def winL(d:Int)(cs:List CoD):List RgD:=winS d cs.length cs cs.length
def q0w(n:Nat):∀ i,(winS d n cs i).length=10
 |0=>rfl
 |i+1=>by rw[winS,List.length_set,q0w n i]
def z0f(n:Nat):∀ {i c:Nat},c<i→i≤10→(winS d n cs i).getD c (0,0,())=winD d n (cs.getD c coZ)
 |i+1,c,h1,h2=>by
  rw[winS,q2o (by rw[q0w];omega)];by_cases e:c=i
  ·subst e;rw[if_pos rfl]
  ·rw[if_neg e,z0f n (by omega) (by omega)]
def VG.win(h:VG d cs ps)(hc:c<cs.length):(winL d cs).getD c (0,0,())=winD d cs.length (cs.getD c coZ):=z0f _ hc h.n10
def sprD(d:Int)(c:CoD)(k:Int):RgD:=(sLo c-k*d,sHi c-k*d,())
def suB(d:Int)(c:CoD)(k:Int):Bool:=decide (cLs c≤sLo c-k*d∧sHi c-k*d≤cMs c)
def VG.suit(h:VG d cs ps)(hc:c<cs.length){k:Int}(h0:0≤k)(hk:k<cs.length) :
  (loR (winL d cs) c≤k∧k≤hiR (winL d cs) c)↔suB d (cs.getD c coZ) k=true:=by
 unfold loR hiR suB;rw[h.win hc,yyr];have:=h.d1;exact z9j (lo:=sLo (cs.getD c coZ)) (hi:=sHi (cs.getD c coZ)) (by omega) h0 hk
def z0v(h:VG d cs ps)(hi:i<cs.length):okCo (cs.getD i coZ):=by rw[yyk,yyl hi,Option.getD_some];exact h.co _ (yy3 hi)
end Ox.Gl
namespace Go.Proofs.YtcijjbccigbflaaGreatDoor.Ga
open Go Go.RowKit Ox
attribute [local irreducible] JC JL JK JW
abbrev vI(n:Int):AV:=.val (.int .i64) n
abbrev vB(b:Bool):AV:=.val .bool b
abbrev vL(xs:List Int):AV:=.val (.slice (.int .i64)) xs
abbrev pI(n:Int):AV:=.val (.ptr (.int .i64)) (some n)
def j7(xs:List α)(h:i<xs.length)(d:α):xs.getD i d=xs[i]:=by simp[yyk,yyl h]
variable{X:Ctx}{c:Code}{Q:Exit→S→Prop}
def cdf{s:S}(hb:fn.body=some c)(k:JK X [.code c] Q s):JK X [.code (fn.body.getD .skip)] Q s:=by rw[hb];exact k
def cdt{s:S}(hb:fn.body=some c)(k:JK X [.code (fn.body.getD .skip)] Q s):JK X [.code c] Q s:=by rw[hb] at k;exact k
def idxB{α:Type}(p:α→Bool):List α→Nat→Int
 |[],_=>-1
 |x::r,i=>if p x then(i:Int) else idxB p r (i+1)
def p6{α:Type}{p:α→Bool}:∀ {xs:List α} {i:Nat},(0≤idxB p xs i)↔xs.any p=true
 |[],i=>by simp[idxB]
 |x::r,i=>by
  simp only[idxB,List.any_cons,yy5];by_cases h:p x=true
  ·simp[h]
  ·rw[if_neg h,p6];simp[h]
def fn92(xs:List Int)(b:Int):Ox.Fn Tryz.prog 92 (.acons (vL xs) (.acons (vI b) .anil)) (·=vI (idxB (fun x=>decide (b=x)) xs 0)):=by
 refine Ox.Fn.intro xok Tryz.func92 rfl Tryz.call92 (yyc rfl) (fun E M0 up=>?_);refine JK.start ?_;refine JK.lenOf 0 rfl fun ha=>?_;replace ha:xs.length≤9223372036854775807:=ha.1;refine zK0 ?_;refine JK.loop (fun i:Nat=>⟨[(0,vL xs),(1,vI b),(7,vI xs.length),(8,vI (i:Int))],[],0⟩) (fun i=>i≤xs.length∧idxB (fun x=>decide (b=x)) xs 0=idxB (fun x=>decide (b=x)) (xs.drop i) i) (fun i=>xs.length-i) 0 (by simp) (by exact zJ) fun i ⟨hi,hn⟩=>?_;refine zK0 ?_;refine q9 rfl (fun hc=>?_) (fun hc=>?_)
 ·replace hc:=zC hc;have hb:i<xs.length:=by omega
  refine zK0 ?_;refine q9 rfl (fun hd=>?_) (fun hd=>?_)
  ·replace hd:=zC hd;refine zK0 ?_;refine zR rfl trivial ?_;rw[j7 xs hb] at hd;rw[hn,yyx hb,idxB,if_pos (by simpa using hd)]
  ·replace hd:=zC hd;refine zK0 ?_;rw[j7 xs hb] at hd;refine⟨i+1,by exact zJ,⟨by omega,?_⟩,by omega⟩;rw[hn,yyx hb,idxB,if_neg (by simpa using hd)]
 ·replace hc:=zC hc;refine zK0 ?_;refine zR rfl trivial ?_;obtain rfl:i=xs.length:=by omega
  rw[hn,List.drop_length];rfl
variable{t1 t2:Ty}
def fn96{x1:t1.den}{x2:t2.den}(xs:List Int)(p:Int→Bool)(h:∀ x∈xs,Ox.Fn Tryz.prog f (.acons (vI x) (.acons (.val t1 x1) (.acons (.val t2 x2) .anil))) (·=vB (p x))) :
  Ox.Fn Tryz.prog 96 (.acons (vL xs) (.acons (.fn f .anil (.acons (.val t1 x1) (.acons (.val t2 x2) .anil))) .anil)) (·=vI (idxB p xs 0)):=by
 refine Ox.Fn.intro xok Tryz.func96 rfl Tryz.call96 (yyc rfl) (fun E M0 up=>?_);refine JK.start ?_;refine JK.lenOf 0 rfl fun hb=>?_;replace hb:xs.length≤9223372036854775807:=hb.1;refine zK0 ?_;refine JK.loop (fun i:Nat=>⟨[(0,vL xs),(1,.fn f .anil (.acons (.val t1 x1) (.acons (.val t2 x2) .anil))),(7,vI xs.length),(8,vI (i:Int))],[],0⟩) (fun i=>i≤xs.length∧idxB p xs 0=idxB p (xs.drop i) i) (fun i=>xs.length-i) 0 (by simp) (by exact zJ) fun i ⟨hi,hn⟩=>?_;refine zK0 ?_;refine q9 rfl (fun hc=>?_) (fun hc=>?_)
 ·replace hc:=zC hc;have ha:i<xs.length:=by omega
  have hx:=h (xs.getD i 0) (by rw[j7 xs ha];exact yy3 ha);refine zK5 ?_;refine q9 rfl (fun hd=>?_) (fun hd=>?_)
  ·refine zK0 ?_;refine zR rfl trivial ?_;rw[j7 xs ha] at hd;rw[hn,yyx ha,idxB,if_pos hd]
  ·refine zK0 ?_;rw[j7 xs ha] at hd;refine⟨i+1,by exact zJ,⟨by omega,?_⟩,by omega⟩;rw[hn,yyx ha,idxB,if_neg (by rw[hd];simp)]
 ·replace hc:=zC hc;refine zK0 ?_;refine zR rfl trivial ?_;obtain rfl:i=xs.length:=by omega
  rw[hn,List.drop_length];rfl
def fn54{x1:t1.den}{x2:t2.den}(xs:List Int)(p:Int→Bool)(h:∀ x∈xs,Ox.Fn Tryz.prog f (.acons (vI x) (.acons (.val t1 x1) (.acons (.val t2 x2) .anil))) (·=vB (p x))) :
  Ox.Fn Tryz.prog 54 (.acons (vL xs) (.acons (.fn f .anil (.acons (.val t1 x1) (.acons (.val t2 x2) .anil))) .anil)) (·=vB (xs.any p)):=by
 refine Ox.Fn.intro xok Tryz.func54 rfl Tryz.call54 (yyc rfl) (fun E M0 up=>?_);refine JK.start ?_
 (repeat (first|refine zs rfl ?_|refine n3 ?_|refine zc rfl (fn96 xs p h) rfl rfl ?_))
 refine zR rfl trivial ?_;refine congrArg vB ?_;rw[yy1,← p6 (p:=p) (i:=0)];simp
abbrev prT:Ty:=.arr 2 (.int .i64)
abbrev vPr(p:List Int):AV:=.val prT p
def eqPr:EqT Tryz.prog prT 38:=.of (by decide +kernel)
def fn108b{x1:t1.den}{x2:t2.den}(xs:List Int)(p:Int→Bool)(h:∀ x∈xs,Ox.Fn Tryz.prog f (.acons (vI x) (.acons (.val t1 x1) (.acons (.val t2 x2) .anil))) (·=vB (p x))) :
  Ox.Fn Tryz.prog 108 (.acons (vL xs) (.acons (.fn f .anil (.acons (.val t1 x1) (.acons (.val t2 x2) .anil))) .anil)) (·=vI (idxB p xs 0)):=by
 refine Ox.Fn.intro xok Tryz.func108 rfl Tryz.call108 (yyc rfl) (fun E M0 up=>?_);refine JK.start ?_;refine JK.lenOf 0 rfl fun hb=>?_;replace hb:xs.length≤9223372036854775807:=hb.1;refine zK0 ?_;refine JK.loop (fun i:Nat=>⟨[(0,vL xs),(1,.fn f .anil (.acons (.val t1 x1) (.acons (.val t2 x2) .anil))),(7,vI xs.length),(8,vI (i:Int))],[],0⟩) (fun i=>i≤xs.length∧idxB p xs 0=idxB p (xs.drop i) i) (fun i=>xs.length-i) 0 (by simp) (by exact zJ) fun i ⟨hi,hn⟩=>?_;refine zK0 ?_;refine q9 rfl (fun hc=>?_) (fun hc=>?_)
 ·replace hc:=zC hc;have ha:i<xs.length:=by omega
  have hx:=h (xs.getD i 0) (by rw[j7 xs ha];exact yy3 ha);refine zK5 ?_;refine q9 rfl (fun hd=>?_) (fun hd=>?_)
  ·refine zK0 ?_;refine zR rfl trivial ?_;rw[j7 xs ha] at hd;rw[hn,yyx ha,idxB,if_pos hd]
  ·refine zK0 ?_;rw[j7 xs ha] at hd;refine⟨i+1,by exact zJ,⟨by omega,?_⟩,by omega⟩;rw[hn,yyx ha,idxB,if_neg (by rw[hd];simp)]
 ·replace hc:=zC hc;refine zK0 ?_;refine zR rfl trivial ?_;obtain rfl:i=xs.length:=by omega
  rw[hn,List.drop_length];rfl
def fn148(ps:List (List Int))(p:List Int):Ox.Fn Tryz.prog 148 (.acons (.val (.slice prT) ps) (.acons (vPr p) .anil)) (·=vI (idxB (fun q=>prT.eqB p q) ps 0)):=by
 refine Ox.Fn.intro xok Tryz.func148 rfl Tryz.call148 (yyc rfl) (fun E M0 up=>?_);refine JK.start ?_;refine JK.lenOf 0 rfl fun ha=>?_;replace ha:ps.length≤9223372036854775807:=ha.1;refine zK0 ?_;refine JK.loop (fun i:Nat=>⟨[(0,.val (.slice prT) ps),(3,.lf (.optr 0 [])),(7,vI ps.length),(8,vI (i:Int))],[(0,.cell prT (vPr p))],1⟩) (fun i=>i≤ps.length∧idxB (fun q=>prT.eqB p q) ps 0=idxB (fun q=>prT.eqB p q) (ps.drop i) i) (fun i=>ps.length-i) 0 (by simp) (by exact zJ) fun i ⟨hi,hn⟩=>?_;refine zK0 ?_;refine q9 rfl (fun hc=>?_) (fun hc=>?_)
 ·replace hc:=zC hc;have hb:i<ps.length:=by omega
  refine zK1 ?_;refine y5 xk (Tryz.f148.body.getD .skip) ⟨[(0,.val (.slice prT) ps),(3,.lf (.optr 0 [])),(5,vI (i:Int)),(7,vI ps.length),(8,vI (i:Int)),(16,vB (prT.eqB p (ps.getD i prT.dflt)))],[(0,.cell prT (vPr p))],1⟩ rfl 6 rfl ?_ ?_
  ·(refine q7 1 xk rfl rfl (q7 2 xk rfl rfl (q7 3 xk rfl rfl (z7 0 xk rfl rfl (z7 4 xk rfl rfl (zU 5 xk rfl rfl ?_)))));refine zK11 ?_;refine q8 ?_;refine v6 xk StF.nil ?_;(exact zJ))
  rw[j7 ps hb];refine zK0 ?_;refine q9 rfl (fun hd=>?_) (fun hd=>?_)
  ·refine zK0 ?_;refine zR rfl trivial ?_;rw[hn,yyx hb,idxB,if_pos hd]
  ·refine zK0 ?_;refine⟨i+1,by exact zJ,⟨by omega,?_⟩,by omega⟩;rw[hn,yyx hb,idxB,if_neg (by rw[hd];simp)]
 ·replace hc:=zC hc;refine zK0 ?_;refine zR rfl trivial ?_;obtain rfl:i=ps.length:=by omega
  rw[hn,List.drop_length];rfl
def fn107(ps:List (List Int))(p:List Int):Ox.Fn Tryz.prog 107 (.acons (.val (.slice prT) ps) (.acons (vPr p) .anil)) (·=vB (decide (p∈ps))):=by
 refine Ox.Fn.intro xok Tryz.func107 rfl Tryz.call107 (yyc rfl) (fun E M0 up=>?_);refine JK.start ?_
 (repeat (first|refine zs rfl ?_|refine n3 ?_|refine zc rfl (fn148 ps p) rfl rfl ?_))
 refine zR rfl trivial ?_;refine congrArg vB ?_;rw[yy1];simp only[yyr];refine(p6 (p:=fun q=>prT.eqB p q) (i:=0)).trans ?_;rw[List.any_eq_true];refine⟨fun⟨x,h1,h2⟩=>?_,fun h=>⟨p,h,v9.2 rfl⟩⟩;rw[v9.1 h2];exact h1
abbrev p0(p:List Int):Int:=p.getD 0 0
abbrev p1(p:List Int):Int:=p.getD 1 0
end Go.Proofs.YtcijjbccigbflaaGreatDoor.Ga
namespace Ox
open Go Go.RowKit Go.ChangeShapes Go.WideShapes Go.ChangeAt
section
variable {H:Type}{enc:TypeId×Value→H}{P:Program}{w:World}{base:Nat}{spare:Nat→Bool}{held:Bool}
def Ty.argB:Ty→Bool
 |.int _|.bool|.nil=>true
 |.slice e=>e.argB&&decide (0<e.size)
 |.arr _ e=>e.argB
 |.cons a b=>a.argB&&b.argB
 |.ptr _=>false
def q8t{b off n:Nat}{spot:Option Nat}{cs:List Value}(h:w.cells? base ⟨b,off,spot⟩ n=some cs)(hn:0<n) :
  spot=none∧∃ c ty fz,w.heap[b]?=some (.cells c ty fz)∧cs=(c.toList.drop off).take n:=by
 unfold World.cells? at h;split at h
 ·have hl:=mapM_some_length h;have hg:=fun i (hi:i<n)=>mapM_some_get h i i (by simp[hi]);have h0:=hg 0 hn;rw[List.length_range] at hl;rw[yyl (by omega)] at h0;simp only[Addr.add,if_true,World.cell?] at h0;split at h0
  ·rename_i c ty fz hb;split at h0
   ·cases h0
   ·rename_i hs;have hs:spot=none:=by simpa using hs
    subst hs;refine⟨rfl,c,ty,fz,hb,?_⟩;apply List.ext_getElem?;intro i;rw[yxo];by_cases hi:i<n
    ·rw[if_pos hi,← hg i hi,j5,u0 hb,List.getElem?_drop];simp
    ·rw[if_neg hi,yxs (by omega)]
  ·cases h0
 ·cases h
def Ty.fit:(t:Ty)→t.den→Prop
 |.int k,n=>inK k n
 |.bool,_=>True
 |.slice e,l=>∀ y∈l,e.fit y
 |.ptr _,_=>True
 |.arr _ e,l=>∀ y∈l,e.fit y
 |.nil,_=>True
 |.cons a b,y=>a.fit y.1∧b.fit y.2
def inK_wf{k:IntKind}{n:Int}(h:(Lit.int k n).wf=true):inK k n:=by simp only[Lit.wf,yyd,yyr] at h;cases k<;>exact h
def RepA(P:Program)(t:Ty):Prop:=∀ {H:Type} {enc:TypeId×Value→H} {w:World} {base:Nat} {spare:Nat→Bool} {held:Bool} (id:TypeId) (fuel:Nat) (cs:List Value) (x:DataW H×List MemPlace),
 TyOf P t id→t.argB=true→DataW.trod enc P w base spare held fuel id cs=some x→∃ y,Rep (fun b=>w.heap[b]?) t y cs∧t.fit y
def RepF(P:Program)(t:Ty):Prop:=∀ {H:Type} {enc:TypeId×Value→H} {w:World} {base:Nat} {spare:Nat→Bool} {held:Bool} (fs:List Field) (off fuel:Nat) (cs:List Value),
 TyOf.fields P t fs off→t.argB=true→cs.length=off+t.size→(∀ (i:Nat) (f:Field),fs[i]?=some f→∃ x,DataW.trod enc P w base spare held fuel f.type ((cs.drop f.offset).take (P.cellsOf f.type))=some x) →
  ∃ y,Rep (fun b=>w.heap[b]?) t y (cs.drop off)∧t.fit y
def j1t{p:Nat→α→Prop}(h:∀ i,i<n→∃ y,p i y):∃ l:List α,l.length=n∧∀ i (hi:i<l.length),p i (l.get ⟨i,hi⟩):=by
 induction n with
 |zero=>exact⟨[],rfl,fun i hi=>absurd hi (by simp)⟩
 |succ n ih=>
  obtain⟨l,h1,h2⟩:=ih fun i hi=>h i (by omega);obtain⟨y,hy⟩:=h n (by omega);refine⟨l++[y],by simp[h1],fun i hi=>?_⟩;simp only[List.get_eq_getElem];by_cases hl:i<l.length
  ·rw[List.getElem_append_left hl];exact h2 i hl
  ·have:i=l.length:=by simp at hi;omega
   subst this;rw[List.getElem_append_right (yyn _)];simp only[Nat.sub_self,List.getElem_cons_zero];rw[h1];exact hy
def rep_all(P:Program):∀ t:Ty,RepA P t∧RepF P t:=by
 intro t;induction t with
 |int k=>
  refine⟨fun id fuel cs x ht _ h=>?_,fun fs off fuel cs hf _ _ _=>by simp[TyOf.fields] at hf⟩;simp only[TyOf] at ht;have hu:=ht.under;cases fuel with
  |zero=>simp[DataW.trod] at h
  |succ n=>
   unfold DataW.trod at h;rw[hu] at h;split at h<;>try (simp_all;done)
   rename_i k' q n' he;split at h
   ·rename_i hk;injection he with he
    injection he with he
    subst he;exact⟨n',by simp only[Rep];rw[hk.1],inK_wf hk.2⟩
   ·cases h
 |bool=>
  refine⟨fun id fuel cs x ht _ h=>?_,fun fs off fuel cs hf _ _ _=>by simp[TyOf.fields] at hf⟩;simp only[TyOf] at ht;have hu:=ht.under;cases fuel with
  |zero=>simp[DataW.trod] at h
  |succ n=>
   unfold DataW.trod at h;rw[hu] at h;split at h<;>try (simp_all;done)
   rename_i b he;exact⟨b,by simp only[Rep],trivial⟩
 |slice e ih=>
  refine⟨@fun H enc w base spare held id fuel cs x ht hb h=>?_,fun fs off fuel cs hf _ _ _=>by simp[TyOf.fields] at hf⟩;simp only[TyOf] at ht;obtain⟨eid,hi,he⟩:=ht;simp only[Ty.argB,yyd,yyr] at hb;have hj:=q2g he;rcases DataW.trod_slice hi.under h with⟨h0,_⟩|⟨a,len,cap,elems,rest,n,_,rfl,_,_,hA,hw,hN,hg,_⟩
  ·exact⟨[],by simp only[Rep];exact⟨none,0,h0,yyn _,yyu _,fun _=>rfl,.inl rfl⟩,fun y hy=>by cases hy⟩
  ·have each:∀ i,i<len→∃ y:e.den,∃ spot c ty fz,a=⟨a.block,a.off,spot⟩∧(spot=none∨i≠0)∧∃ _:w.heap[a.block]?=some (.cells c ty fz),Rep (fun b=>w.heap[b]?) e y ((c.toList.drop (a.off+i*e.size)).take e.size)∧e.fit y:=by
    intro i hh;have h1:=hg i hh;rw[yyl (by omega),yyq,hj] at h1;obtain⟨ce,h2,h3⟩:=h1;obtain⟨blk,off,spot⟩:=a;by_cases h0:i*e.size=0
    ·have hp:i=0:=by
      rcases Nat.mul_eq_zero.1 h0 with h0|h0
      ·exact h0
      ·omega
     subst hp;simp only[Nat.zero_mul,Addr.add,if_true] at h2;obtain⟨hs,c,ty,fz,h4,rfl⟩:=q8t h2 hb.2;obtain⟨y,hy,hv⟩:=ih.1 eid n _ _ he hb.1 h3;exact⟨y,spot,c,ty,fz,rfl,.inl hs,h4,by simpa using hy,hv⟩
    ·have e1:(Addr.add ⟨blk,off,spot⟩ (i*e.size))=⟨blk,off+i*e.size,none⟩:=by simp only[Addr.add,if_neg h0]
     rw[e1] at h2;obtain⟨hs,c,ty,fz,h4,rfl⟩:=q8t h2 hb.2;obtain⟨y,hy,hv⟩:=ih.1 eid n _ _ he hb.1 h3;exact⟨y,spot,c,ty,fz,rfl,.inr (fun hp=>h0 (by rw[hp,Nat.zero_mul])),h4,hy,hv⟩
   by_cases hB:len=0
   ·subst hB;exact⟨[],by simp only[Rep];exact⟨some a,cap,rfl,yyu _,hw,(fun h=>by cases h),.inl rfl⟩,fun y hy=>by cases hy⟩
   ·obtain⟨y0,spot,c,ty,fz,ha,hs,hc,_⟩:=each 0 (by omega);have hs:spot=none:=hs.resolve_right (fun h=>h rfl);subst hs;obtain⟨l,hl,hr⟩:=j1t (p:=fun i (y:e.den)=>Rep (fun b=>w.heap[b]?) e y ((c.toList.drop (a.off+i*e.size)).take e.size)∧e.fit y) (n:=len) (fun i hh=>by
     obtain⟨y,_,c',ty',fz',_,_,hd,hy⟩:=each i hh;rw[hc] at hd;injection hd with hd
     injection hd with hd _ _
     subst hd;exact⟨y,hy⟩)
    refine⟨l,?_,fun y hy=>by obtain⟨i,hi,rfl⟩:=List.mem_iff_get.1 hy;exact(hr i.1 i.2).2⟩
    simp only[Rep];refine⟨some a,cap,by rw[hl],by rw[hl];exact hA,hw,(fun h=>by cases h),.inr ⟨a.block,a.off,c,ty,fz,by rw[ha],hc,fun i hi=>(hr i hi).1⟩⟩
 |ptr e ih=>exact⟨fun id fuel cs x _ hb _=>by simp[Ty.argB] at hb,fun fs off fuel cs hf _ _ _=>by simp[TyOf.fields] at hf⟩
 |arr n e ih=>
  refine⟨@fun H enc w base spare held id fuel cs x ht hb h=>?_,fun fs off fuel cs hf _ _ _=>by simp[TyOf.fields] at hf⟩;simp only[TyOf] at ht;obtain⟨eid,hi,he⟩:=ht;simp only[Ty.argB] at hb;have hj:=q2g he;have hC:P.cellsOf id=n*e.size:=q2g (t:=.arr n e) ⟨eid,hi,he⟩;obtain⟨xs,m,_,_,hl,hz,hg⟩:=DataW.trod_array hi.under h;obtain⟨l,h1,h2⟩:=j1t (p:=fun i (y:e.den)=>Rep (fun b=>w.heap[b]?) e y ((cs.drop (i*e.size)).take e.size)∧e.fit y) (n:=n) (fun i hh=>by have h3:=hg i hh;rw[hj,yyl (by omega)] at h3;exact ih.1 eid m _ _ he hb h3)
  exact⟨l,by simp only[Rep];exact⟨h1,by rw[hl,hC],fun i hi=>(h2 i hi).1⟩,fun y hy=>by obtain⟨i,hi,rfl⟩:=List.mem_iff_get.1 hy;exact(h2 i.1 i.2).2⟩
 |nil=>refine⟨fun id fuel cs x ht _ _=>by simp[TyOf] at ht,fun fs off fuel cs hf _ hl _=>⟨(),?_,trivial⟩⟩;simp only[Rep,Ty.size] at hl ⊢;exact List.drop_of_length_le (by omega)
 |cons a b iha ihb=>
  have hF:RepF P (.cons a b):=by
   intro H enc w base spare held fs off fuel cs hf hb hl hg;cases fs with
   |nil=>simp[TyOf.fields] at hf
   |cons f r=>simp only[TyOf.fields] at hf;obtain⟨h1,h2,h3,h4⟩:=hf;simp only[Ty.argB,yyd] at hb;simp only[Ty.size] at hl;obtain⟨x,hx⟩:=hg 0 f rfl;rw[h1,q2g h2] at hx;obtain⟨y1,hD,hE⟩:=iha.1 _ _ _ _ h2 hb.1 hx;obtain⟨y2,hG,hH⟩:=ihb.2 r (off+a.size) fuel cs h4 hb.2 (by omega) fun i f hf=>hg (i+1) f (by simpa using hf);refine⟨(y1,y2),?_,hE,hH⟩;simp only[Rep];refine⟨_,_,?_,hD,hG⟩;rw[← List.drop_drop,List.take_append_drop]
  refine⟨@fun H enc w base spare held id fuel cs x ht hb h=>?_,hF⟩;have hJ:=q2g ht;simp only[TyOf] at ht;obtain⟨fs,hi,hm⟩:=ht;obtain⟨xs,n,_,_,hl,hz,hg⟩:=DataW.trod_struct hi.under h;have hK:TyOf.fields P (.cons a b) fs.toList 0:=by
   split at hm
   ·rename_i f r hL;rw[hL];simp only[TyOf.fields];simpa using hm
   ·exact hm.elim
  have:=hF fs.toList 0 n cs hK hb (by rw[hl,hJ];omega) (held:=held) (enc:=enc) (w:=w) (base:=base) (spare:=spare) fun i f hf=>by
   have h1:=hg i f (by simpa using hf);have hM:i<xs.length:=by rw[hz];have:=(yxb.1 hf).1;simpa using this
   rw[yyl hM] at h1;exact⟨_,h1⟩
  simpa using this
def Dat:List Ty→Type
 |[]=>Unit
 |t::ts=>t.den×Dat ts
def Dat.av:{ts:List Ty}→Dat ts→AV
 |[],_=>.anil
 |t::_,x=>.acons (.val t x.1) (Dat.av x.2)
def Dat.fit:{ts:List Ty}→Dat ts→Prop
 |[],_=>True
 |t::_,x=>t.fit x.1∧Dat.fit x.2
def tysB(P:Program):List Ty→List TypeId→Bool
 |[],[]=>true
 |t::ts,i::is=>(tyB P t i&&t.argB)&&(P.readableRec i&&decide (i<P.types.size))&&tysB P ts is
 |_,_=>false
variable{t:Ty}
def agg_of{id:TypeId}(ht:TyOf P t id)(hb:t.argB=true):(t.agg=true∧((∃ fs,P.underlying id=some (.struct fs))∨∃ n e,P.underlying id=some (.array n e))) ∨
  (t.agg=false∧((∃ k,P.underlying id=some (.int k))∨P.underlying id=some .bool∨∃ e,P.underlying id=some (.slice e))):=by
 cases t with
 |int k=>simp only[TyOf] at ht;exact .inr ⟨rfl,.inl ⟨k,ht.under⟩⟩
 |bool=>simp only[TyOf] at ht;exact .inr ⟨rfl,.inr (.inl ht.under)⟩
 |slice e=>simp only[TyOf] at ht;obtain⟨eid,h,_⟩:=ht;exact .inr ⟨rfl,.inr (.inr ⟨eid,h.under⟩)⟩
 |ptr e=>simp[Ty.argB] at hb
 |arr n e=>simp only[TyOf] at ht;obtain⟨eid,h,_⟩:=ht;exact .inl ⟨rfl,.inr ⟨n,eid,h.under⟩⟩
 |nil=>simp[TyOf] at ht
 |cons a b=>simp only[TyOf] at ht;obtain⟨fs,h,_⟩:=ht;exact .inl ⟨rfl,.inl ⟨fs,h.under⟩⟩
def arg_rv{ρ:Env}{id:TypeId}{v:Value}{d:DataW H}{ps:List MemPlace}(ht:TyOf P t id)(hb:t.argB=true)(hv:Value.okWide P w .any base id v){b0:Nat}
  (h:DataW.Trod enc P w b0 spare held id v d ps):∃ y,(AV.val t y).rv (fun b=>w.heap[b]?) ρ v∧t.fit y:=by
 obtain⟨fuel,h⟩:=h;obtain⟨y,hy,he⟩:=(rep_all P t).1 id fuel _ _ ht hb h;refine⟨y,?_,he⟩;simp only[AV.rv];refine⟨_,hy,?_⟩;unfold Value.okWide at hv;rcases agg_of ht hb with⟨ha,hu⟩|⟨ha,hu⟩
 ·have:∃ cs,v=.agg cs:=by rcases hu with⟨fs,hu⟩|⟨n,e,hu⟩<;>· rw[hu] at hv;obtain⟨cs,h1,_⟩:=hv;exact⟨cs,h1⟩
  obtain⟨cs,rfl⟩:=this;rw[m8 ha];simp[Value.cells]
 ·have hd:v.oneCell'=true:=by rcases hu with⟨k,hu⟩|hu|⟨e,hu⟩<;>rw[hu] at hv<;>simp only[Cell.okWide,hu,Cell.ok] at hv<;>(split at hv<;>first|rfl|(exact hv.elim)|(split at hv<;>first|rfl|exact hv.elim))
  rw[q1a hd];simp[Ty.wrap,ha]
variable{ts:List Ty}
def q70{i:TypeId}{is:List TypeId}(h:tysB P (t::ts) (i::is)=true):TyOf P t i∧t.argB=true∧P.readableRec i=true∧i<P.types.size∧tysB P ts is=true:=by simp only[tysB,yyd,yyr] at h;exact⟨t8 h.1.1.1,h.1.1.2,h.1.2.1,h.1.2.2,h.2⟩
def j3x{ρ:Env}{b0:Nat}:∀ {ts:List Ty} {is:List TypeId} {vs:List Value} {ds:List (DataW H)} {ps:List MemPlace},tysB P ts is=true→(∀ (j:Nat) t v,is[j]?=some t→vs[j]?=some v→Value.okWide P w .any base t v) →
  DataW.TrodAll enc P w b0 spare held is vs ds ps→∃ ys:Dat ts,ys.av.rvs (fun b=>w.heap[b]?) ρ vs∧ys.fit
 |[],[],vs,ds,ps,_,_,h=>by
  cases vs with
  |nil=>exact⟨(),by simp only[Dat.av,AV.rvs],trivial⟩
  |cons v vs=>cases ds<;>simp[DataW.TrodAll] at h
 |t::ts,i::is,vs,ds,ps,hb,hv,h=>by
  obtain⟨h1,h2,_,_,h5⟩:=q70 hb;cases vs with
  |nil=>cases ds<;>simp[DataW.TrodAll] at h
  |cons v vs=>
   cases ds with
   |nil=>simp[DataW.TrodAll] at h
   |cons d ds=>obtain⟨p,q,h6,h7,_⟩:=h;obtain⟨y,hy,hd⟩:=arg_rv (ρ:=ρ) h1 h2 (hv 0 i v rfl rfl) h6;obtain⟨ys,he,ha⟩:=j3x (ρ:=ρ) h5 (fun j t v hj hg=>hv (j+1) t v (by simpa using hj) (by simpa using hg)) h7;exact⟨(y,ys),by simp only[Dat.av,AV.rvs];exact⟨v,vs,hy,he,rfl⟩,hd,ha⟩
 |[],_::_,_,_,_,hb,_,_=>by simp[tysB] at hb
 |_::_,[],_,_,_,hb,_,_=>by simp[tysB] at hb
def Dat.bd:∀ {ts:List Ty} (ys:Dat ts) (n:Nat),ys.av.bd n
 |[],_,_=>trivial
 |_::_,x,n=>⟨trivial,Dat.bd x.2 n⟩
def q92{W W':World}(hl:laidOutB P=true)(ha:Below W.heap.size W W'){sp:Nat→Bool}:∀ {ts:List Ty} {is:List TypeId} {vs:List Value} {ds:List (DataW H)} {ps:List MemPlace},tysB P ts is=true →
  DataW.TrodAll enc P W 0 (fun _=>true) true is vs ds ps→(∀ p∈ps,p.block<W.heap.size)→(∀ p∈ps,sp p.block=true)→DataW.TrodAll enc P W' 0 sp true is vs ds ps
 |[],[],vs,ds,ps,_,h,_,_=>by cases vs<;>cases ds<;>simp_all[DataW.TrodAll]
 |t::ts,i::is,vs,ds,ps,hb,h,hd,he=>by
  obtain⟨_,_,h3,h4,h5⟩:=q70 hb;cases vs with
  |nil=>cases ds<;>simp[DataW.TrodAll] at h
  |cons v vs=>
   cases ds with
   |nil=>simp[DataW.TrodAll] at h
   |cons d ds=>obtain⟨p,q,h6,h7,rfl⟩:=h;refine⟨p,q,WideElems.Trod_stays hl h3 h4 h6 (fun x hx=>ha.same (hd x (yxr _ hx))) (fun x hx=>he x (yxr _ hx)),?_,rfl⟩;exact q92 hl ha h5 h7 (fun x hx=>hd x (List.mem_append_right _ hx)) (fun x hx=>he x (List.mem_append_right _ hx))
 |[],_::_,_,_,_,hb,_,_,_=>by simp[tysB] at hb
 |_::_,[],_,_,_,hb,_,_,_=>by simp[tysB] at hb
def z8q{Z:Mem→Prop}{s:ChangeSpec}{W:World}{args:Array Value}{ds gs:List (DataW H)}{before:List MemPlace}{fresh ha:Bool}
  (hz:Z (fun b=>W.heap[b]?)) (hfn:∀ ys:Dat ts,ys.fit→FnL Z P f ys.av (·=.val .bool true)) (hh:tysB P ts fn.params.toList=true) (hl:laidOutB P=true) (hd:s.vars=[])
  (he:∀ ds:List (DataW H),ds.length=ts.length→(s.fn H ds).results=[.lit (.bool true)]∧(s.fn H ds).args=ds∧(s.fn H ds).vars=[]) {rt:TypeId} (hk:fn.resultTypes=#[rt]) (hE:P.underlying rt=some .bool)
  (hp:∀ (j:Nat) t v,fn.params[j]?=some t→args[j]?=some v→Value.okWide P W .any base t v) (hW:DataW.Whole enc P fn.params.toList s.vars false W args.toList ds gs before) :
  Calls P f args W fun e W'=>∃ v,e=.returned v∧s.post enc P fn false fresh ha false W args v W':=by
 have hu:=hW;obtain⟨p,q,hA,hV,rfl,hL,_⟩:=hW;rw[hd] at hV;obtain⟨rfl,rfl⟩:=trodVars_none hV;rw[yxw] at hu;obtain⟨ys,hF,hw⟩:=j3x (ρ:=⟨fun _=>0,fun _=>.nil,fun _=>Go.undef⟩) hh (fun j t v hj hv=>hp j t v (by simpa using hj) (by simpa using hv)) hA;have hy:∀ {ts:List Ty} {is:List TypeId} {vs:List Value} {ds:List (DataW H)} {ps:List MemPlace},tysB P ts is=true→DataW.TrodAll enc P W 0 (fun _=>true) true is vs ds ps→ds.length=ts.length:=by
  intro ts;induction ts with
  |nil=>intro is vs ds ps hb h;cases is<;>cases vs<;>cases ds<;>simp_all[DataW.TrodAll,tysB]
  |cons t ts ih=>
   intro is vs ds ps hb h;cases is with
   |nil=>simp[tysB] at hb
   |cons i is=>
    cases vs<;>cases ds<;>try (simp[DataW.TrodAll] at h;done)
    obtain⟨p,q,_,h7,_⟩:=h;simp[ih (q70 hb).2.2.2.2 h7]
 have hG:=hy hh hA;have hg:=(hfn ys hw).run (fun b=>W.heap[b]?) ⟨fun _=>0,fun _=>.nil,fun _=>Go.undef⟩ W args.toList hz (fun _ _ h=>h) hF (Dat.bd ys 0);rw[Array.toArray_toList] at hg;refine hg.mono fun e W'=>?_;rintro⟨v,r,M',rfl,rfl,_,hB,hC,_⟩;rw[p5] at hB;subst hB;obtain⟨hH,hJ,hK⟩:=he ds hG;have hD:=fun x hx=>hu.lt x hx;refine⟨_,rfl,ds,[],p,[],p,[],hu,?_,?_,?_,World.keptBut_mono (fun x hx=>⟨hx,.inr (.inl hx)⟩) (hC.frame (·∈p)),fun h=>by cases h⟩
 ·rw[yxw,hH,hk];exact trodAll_cons_mk (shut_bool hE _) trodAll_mk0
 ·rw[yxw,hJ];exact q92 hl hC hh hA hD fun x hx=>by simpa using hD x hx
 ·rw[yxw,hK,hd];rfl
end
end Ox
namespace Ox
open Go Go.RowKit
noncomputable section
def z06{P:Program}{w:World}{name:String}{k:IntKind}{xs:List Int}{g:Nat}{t e:TypeId}(hg:P.globalNamed name=some g)(ht:(P.globals[g]?).map (·.type)=some t)(hu:P.underlying t=some (.array xs.length e))(he:P.underlying e=some (.int k))(hc:P.cellsOf e=1) :
  ∀ {laid:List (String×DataW Unit)} {ps:List MemPlace},DataW.LaidVars P w laid ps→(name,DataW.agg (xs.map fun z=>DataW.lit (.int k z)))∈laid →
  ∃ (cs:Array Value) (ty:TypeId) (fz:Nat×Nat),w.heap[g]?=some (.cells cs ty fz)∧xs.length≤cs.size∧∀ i,i<xs.length→cs[i]?=some (.int k (xs.getD i 0))
 |[],_,_,hm=>absurd hm yxi
 |(n,d)::r,ps,h,hm=>by
  obtain⟨g',t',cs,fuel,p,q,h1,h2,h3,h4,h5,_⟩:=h;rcases yym.1 hm with hm|hm
  ·injection hm with e1 e2
   subst e1;subst e2;obtain rfl:=Option.some.inj (hg.symm.trans h1);obtain rfl:=Option.some.inj (ht.symm.trans h2);obtain⟨ys,m,_,hx,hl,hp,ha⟩:=DataW.trod_array hu h4;have hy:ys.map (·.1)=xs.map fun z=>DataW.lit (.int k z):=by
    injection hx with hx _
    injection hx with hx
    exact hx.symm
   have hb:∃ ty fz,w.heap[g]?=some (.cells cs ty fz):=by
    unfold World.var? at h3;rw[hg] at h3;simp only[Option.bind_some] at h3;split at h3
    ·rename_i cs' ty fz hh;injection h3 with h3
     exact⟨ty,fz,by rw[hh,h3]⟩
    ·cases h3
   obtain⟨ty,fz,hh⟩:=hb;have key:∀ i,i<xs.length→cs[i]?=some (.int k (xs.getD i 0)):=fun i hi=>by
    have h6:=ha i hi;rw[hc,Nat.mul_one] at h6;have hj:i<ys.length:=by rw[hp];exact hi
    rw[yyl hj] at h6;obtain⟨z,h7,h8,_⟩:=DataW.trod_int he h6;have h9:(ys[i]).1=DataW.lit (.int k (xs.getD i 0)):=by have:=congrArg (fun l=>l[i]?) hy;simp only[List.getElem?_map,yyl hj,yyl hi,yxm,yya] at this;rw[this,yyk,yyl hi];rfl
    rw[h8] at h9;injection h9 with h9
    injection h9 with _ h9
    subst h9;have hk:i<cs.toList.length:=by refine Nat.lt_of_not_le fun hd=>?_;rw[List.drop_of_length_le hd] at h7;cases h7
    rw[yyx hk] at h7;injection h7 with h7 _
    rw[← yxt,yyl hk,h7]
   refine⟨cs,ty,fz,hh,?_,key⟩;refine Nat.le_of_not_lt fun hd=>?_;have:=key cs.size hd;simp at this
  ·exact z06 hg ht hu he hc h5 hm
end
end Ox
