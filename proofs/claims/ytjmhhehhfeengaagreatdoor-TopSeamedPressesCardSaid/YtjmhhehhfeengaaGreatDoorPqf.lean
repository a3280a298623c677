/- Texts of the proof of the statement that the last text proves. -/
import Derived.Test.YtjmhhehhfeengaaGreatDoorPqe
import Derived.ProofKit
import Derived.OpenShut
import Derived.Carry
import Derived.JoinedOf
import Derived.FnData
import GoSem.ClaimJoined
set_option linter.all false
set_option maxHeartbeats 2000000
variable{w1:Go.World}{mo:List (List Int)}{N a b clk d i j k m n u v:Nat}{X is o:List Nat}{f:Go.FuncId}{P x y:Int}{g δ:Nat→Int}{cs:List Prop}{p q:Prop}{ops:List Go.Oper}{gg:Nat×Bool}{fn:Go.Func}{xs ys:List Int}{α:Type}{tt:Go.TypeId}
namespace Ox
open Go Go.RowKit
variable {X:Ctx}{s:S}{M:Mem}{ρ:Env}{a:Act}{w w':World}{QA:Exit→S→Prop}{all l:List Oper}{P:Program}
variable {L:List (Nat×AV)}{H:List (Nat×HO)}{nx d n:Nat}{rr:List Fr}{c1 c2:List Prop}{ty ty2:TypeId}{ps ps2:String}{af af2:Array Edge}{md:Bool}
variable {m:Nat}
section
variable {x:Operand}{t:TypeId}{xs:List Int}{eid:TypeId}{e:Ty}
end
section
variable {kt vt:Ty}{t kid vid:TypeId}{es:List (Ent kt vt)}{clk n:Nat}{x:kt.den}{om ok ov:Operand}{c3:List Prop}{o:Oper}
def JL.mUpd(hT:MapT X.P kt vt t kid vid)(hu:opd L om=some (c1,.lf (.mp n)))(hl:lk H n=some (.map kt vt es clk))(hv:opd L ok=some (c2,.val kt x)){y:vt.den}(hy:opd L ov=some (c3,.val vt y))(hc:allP (c1++(c2++c3)))
  (k:JL X true all QA l ⟨L,updH H n (.map kt vt (mPut es clk x y) (mClk es clk x)),nx⟩):JL X true all QA (⟨none,.mapUpdate t om ok ov,ty,ps,af,none⟩::l) ⟨L,H,nx⟩:=by
 rw[q8,q8] at hc;refine q3n rfl rfl trivial (v:=.undef) (s':=⟨L,updH H n (.map kt vt (mPut es clk x y) (mClk es clk x)),nx⟩) (fun M ρ a w h1 h2=>?_) k;obtain⟨ms,hb,hm⟩:=q1e h1 hl;obtain⟨cx,hx,hxe⟩:=o8 hv hc.2.1 h2;obtain⟨cy,hy',hye⟩:=o8 hy hc.2.2 h2;obtain⟨ms',r1,r2⟩:=j0l hT hb hm hx hy';refine⟨ρ,_,_,?_,Env.upTo.refl _ _,yyn _,rfl,h1.setMap hl r1,trivial,.inr ⟨rfl,rfl⟩⟩;simp only[execOp,q3d hu hc.1 h2,hxe,hye,yye,r2,yyb,yyf]
end
end Ox
namespace Go.Proofs.YtjmhhehhfeengaaGreatDoor
open Go Go.RowKit Ox
variable {E:World}{M0:Mem}{n:Nat}{rd:Option Nat}{up:Nat→Nat→Value}{dp:Nat}{QA:Exit→S→Prop}{st st' r:List Fr}{s s':S}{cs:List Prop}{md:Bool}{all l:List Oper}{d:Nat}{op:Op}{ty:TypeId}{ps:String}{af:Array Edge}{g:Bool}{gg:Nat×Bool}{v:AV}{f:FuncId}{args:AV}{L:List (Nat×AV)}{H:List (Nat×HO)}{nx:Nat}{kt vt:Ty}{t kid vid:TypeId}{es:List (Ent kt vt)}{clk m:Nat}{x y:kt.den}{c1 c2 c3:List Prop}{om ok ov:Operand}
def zs(h:stepC tys ets n false st s=some (cs,st',s'))(k:JK ⟨Tryz.prog,tys,ets,mts,E,M0,n,rd,up,dp⟩ st' QA s')(hc:allP cs:=by exact zD):JK ⟨Tryz.prog,tys,ets,mts,E,M0,n,rd,up,dp⟩ st QA s:=JK.step xk h k hc
def zu(h:stepC tys ets n true st s=some (cs,st',s'))(k:JK ⟨Tryz.prog,tys,ets,mts,E,M0,n,rd,up,dp⟩ st' QA s')(hc:allP cs:=by exact zD):JK ⟨Tryz.prog,tys,ets,mts,E,M0,n,rd,up,dp⟩ st QA s:=JK.step xk h k hc
def zg(hg:gOf all L (some gg)=some g)(h:evb tys op ⟨L,H,nx⟩=some (cs,v))(hd:ltB d n=true)(k:JK ⟨Tryz.prog,tys,ets,mts,E,M0,n,rd,up,dp⟩ (.ops md all l::r) QA ⟨(d,.gd g v)::L,H,nx⟩)
  (hc:g=true→allP cs:=by(first|(exact fun _=>trivial)|(exact fun hgd=>hgd)|(exact zE)|(exact fun hgd=>And.intro hgd (fun hpk=>Bool.and_eq_true_iff.2 ⟨hgd,by rw[hpk];rfl⟩))|(exact zF))) :
  JK ⟨Tryz.prog,tys,ets,mts,E,M0,n,rd,up,dp⟩ (.ops md all (⟨some d,op,ty,ps,af,some gg⟩::l)::r) QA ⟨L,H,nx⟩:=JK.gd xk hg h hd k hc
def zd{id:Nat}(k:JK ⟨Tryz.prog,tys,ets,mts,E,M0,n,rd,up,dp⟩ (.ops false ops ops::r) QA s)(hB:(Region.lexB .any ops.toArray&&ndAll ops)=true:=by decide +kernel):JK ⟨Tryz.prog,tys,ets,mts,E,M0,n,rd,up,dp⟩ (.code (.region id ⟨ops⟩ true)::r) QA s:=JK.draw xk k hB
def zc(h:callA tys op ⟨L,H,nx⟩=some (cs,f,args))(hf:Ox.Fn Tryz.prog f args (·=v))(hr:v.scal=true)(hd:ltB d n=true)(k:JK ⟨Tryz.prog,tys,ets,mts,E,M0,n,rd,up,dp⟩ (.ops md all l::r) QA ⟨(d,v)::L,H,nx⟩)(hc:allP cs:=by exact zD) :
  JK ⟨Tryz.prog,tys,ets,mts,E,M0,n,rd,up,dp⟩ (.ops md all (⟨some d,op,ty,ps,af,none⟩::l)::r) QA ⟨L,H,nx⟩:=JK.sc h hf hr hd k hc
def zk(hg:gOf all L (some gg)=some g)(h:callA tys op ⟨L,H,nx⟩=some (cs,f,args))(hf:g=true→Ox.Fn Tryz.prog f args (·=v))(hr:v.scal=true)(hd:ltB d n=true)(k:JK ⟨Tryz.prog,tys,ets,mts,E,M0,n,rd,up,dp⟩ (.ops md all l::r) QA ⟨(d,.gd g v)::L,H,nx⟩)
  (hc:g=true→allP cs:=by(first|(exact fun _=>trivial)|(exact fun hgd=>hgd)|(exact zE)|(exact zF))):JK ⟨Tryz.prog,tys,ets,mts,E,M0,n,rd,up,dp⟩ (.ops md all (⟨some d,op,ty,ps,af,some gg⟩::l)::r) QA ⟨L,H,nx⟩:=JK.scg hg h hf hr hd k hc
def ze(h:callA tys op ⟨L,[],nx⟩=some (cs,f,args))(hf:Ox.Fn Tryz.prog f args (·=v))(hd:ltB d n=true)(k:JK ⟨Tryz.prog,tys,ets,mts,E,M0,n,rd,up,dp⟩ (.ops true all l::r) QA ⟨(d,v)::L,H,nx⟩)(hc:allP cs:=by exact zD) :
  JK ⟨Tryz.prog,tys,ets,mts,E,M0,n,rd,up,dp⟩ (.ops true all (⟨some d,op,ty,ps,af,none⟩::l)::r) QA ⟨L,H,nx⟩:=JK.ce h hf hd k hc
def zt(hg:gOf all L (some gg)=some g)(hgt:g=true){dd:Option Nat}(k:JK ⟨Tryz.prog,tys,ets,mts,E,M0,n,rd,up,dp⟩ (.ops true all (⟨dd,op,ty,ps,af,none⟩::l)::r) QA ⟨L,H,nx⟩):JK ⟨Tryz.prog,tys,ets,mts,E,M0,n,rd,up,dp⟩ (.ops true all (⟨dd,op,ty,ps,af,some gg⟩::l)::r) QA ⟨L,H,nx⟩:=JK.gT hg hgt k
def zfl(hg:gOf all L (some gg)=some g)(hgf:g=false)(hd:ltB d n=true)(k:JK ⟨Tryz.prog,tys,ets,mts,E,M0,n,rd,up,dp⟩ (.ops true all l::r) QA ⟨(d,.undef)::L,H,nx⟩):JK ⟨Tryz.prog,tys,ets,mts,E,M0,n,rd,up,dp⟩ (.ops true all (⟨some d,op,ty,ps,af,some gg⟩::l)::r) QA ⟨L,H,nx⟩:=JK.gF hg hgf hd k
def zmi(hT:MapT Tryz.prog kt vt t kid vid)(hu:opd L om=some (c1,.lf (.mp m)))(hl:lk H m=some (.map kt vt es clk))(hv:opd L ok=some (c2,.val kt x)){y:vt.den}(hy:opd L ov=some (c3,.val vt y))
  (k:JK ⟨Tryz.prog,tys,ets,mts,E,M0,n,rd,up,dp⟩ (.ops true all l::r) QA ⟨L,updH H m (.map kt vt (mPut es clk x y) (mClk es clk x)),nx⟩) (hc:allP (c1++(c2++c3)):=by exact zD):JK ⟨Tryz.prog,tys,ets,mts,E,M0,n,rd,up,dp⟩ (.ops true all (⟨none,.insert t om ok ov,ty,ps,af,none⟩::l)::r) QA ⟨L,H,nx⟩:=JL.mIns (X:=⟨Tryz.prog,tys,ets,mts,E,M0,n,rd,up,dp⟩)  hT hu hl hv hy hc k
def zmu(hT:MapT Tryz.prog kt vt t kid vid)(hu:opd L om=some (c1,.lf (.mp m)))(hl:lk H m=some (.map kt vt es clk))(hv:opd L ok=some (c2,.val kt x)){y:vt.den}(hy:opd L ov=some (c3,.val vt y))
  (k:JK ⟨Tryz.prog,tys,ets,mts,E,M0,n,rd,up,dp⟩ (.ops true all l::r) QA ⟨L,updH H m (.map kt vt (mPut es clk x y) (mClk es clk x)),nx⟩) (hc:allP (c1++(c2++c3)):=by exact zD):JK ⟨Tryz.prog,tys,ets,mts,E,M0,n,rd,up,dp⟩ (.ops true all (⟨none,.mapUpdate t om ok ov,ty,ps,af,none⟩::l)::r) QA ⟨L,H,nx⟩:=JL.mUpd (X:=⟨Tryz.prog,tys,ets,mts,E,M0,n,rd,up,dp⟩)  hT hu hl hv hy hc k
def zmd(hT:MapT Tryz.prog kt vt t kid vid){ta:TypeId}(hu:opd L om=some (c1,.lf (.mp m)))(hl:lk H m=some (.map kt vt es clk))(hv:opd L ok=some (c2,.val kt x))
  (k:JK ⟨Tryz.prog,tys,ets,mts,E,M0,n,rd,up,dp⟩ (.ops true all l::r) QA ⟨L,updH H m (.map kt vt (Ox.mDel es x) clk),nx⟩) (hc:allP (c1++c2):=by exact zD):JK ⟨Tryz.prog,tys,ets,mts,E,M0,n,rd,up,dp⟩ (.ops true all (⟨none,.call {callee:=.builtin .delete,args:=#[om,ok],argTypes:=#[t,ta]},ty,ps,af,none⟩::l)::r) QA ⟨L,H,nx⟩:=JL.mDel (X:=⟨Tryz.prog,tys,ets,mts,E,M0,n,rd,up,dp⟩)  hT hu hl hv hc k
def zmr(hT:MapT Tryz.prog kt vt t kid vid)(hu:opd L om=some (c1,.lf (.mp m)))(hl:lk H m=some (.map kt vt es clk))(hd:ltB d n=true)
  (k:JK ⟨Tryz.prog,tys,ets,mts,E,M0,n,rd,up,dp⟩ (.ops true all l::r) QA ⟨(d,.lf (.itr nx))::L,(nx,.iter m clk [] clk)::H,nx+1⟩) (hc:allP c1:=by exact zD):JK ⟨Tryz.prog,tys,ets,mts,E,M0,n,rd,up,dp⟩ (.ops true all (⟨some d,.range t om,ty,ps,af,none⟩::l)::r) QA ⟨L,H,nx⟩:=j48 (X:=⟨Tryz.prog,tys,ets,mts,E,M0,n,rd,up,dp⟩)  hT hu hl hd hc k
def zmm(hT:MapT Tryz.prog kt vt t kid vid)(hd:ltB d n=true)
  (k:JK ⟨Tryz.prog,tys,ets,mts,E,M0,n,rd,up,dp⟩ (.ops true all l::r) QA ⟨(d,.lf (.mp nx))::L,(nx,.map kt vt [] 0)::H,nx+1⟩):JK ⟨Tryz.prog,tys,ets,mts,E,M0,n,rd,up,dp⟩ (.ops true all (⟨some d,.makeMap t none,ty,ps,af,none⟩::l)::r) QA ⟨L,H,nx⟩:=q57 (X:=⟨Tryz.prog,tys,ets,mts,E,M0,n,rd,up,dp⟩)  hT hd k
def zeq(hK:EqT Tryz.prog kt t)(hu:opd L om=some (c1,.val kt x))(hv:opd L ok=some (c2,.val kt y))(hd:ltB d n=true)
  (k:JK ⟨Tryz.prog,tys,ets,mts,E,M0,n,rd,up,dp⟩ (.ops md all l::r) QA ⟨(d,.val .bool (kt.eqB x y))::L,H,nx⟩) (hc:allP (c1++c2):=by exact zD):JK ⟨Tryz.prog,tys,ets,mts,E,M0,n,rd,up,dp⟩ (.ops md all (⟨some d,.binOp .eql t om ok tt,ty,ps,af,none⟩::l)::r) QA ⟨L,H,nx⟩:=JL.eqQ (X:=⟨Tryz.prog,tys,ets,mts,E,M0,n,rd,up,dp⟩)  hK.key hK.ag hK.gt hu hv hd hc k
def zne(hK:EqT Tryz.prog kt t)(hu:opd L om=some (c1,.val kt x))(hv:opd L ok=some (c2,.val kt y))(hd:ltB d n=true)
  (k:JK ⟨Tryz.prog,tys,ets,mts,E,M0,n,rd,up,dp⟩ (.ops md all l::r) QA ⟨(d,.val .bool (!kt.eqB x y))::L,H,nx⟩) (hc:allP (c1++c2):=by exact zD):JK ⟨Tryz.prog,tys,ets,mts,E,M0,n,rd,up,dp⟩ (.ops md all (⟨some d,.binOp .neq t om ok tt,ty,ps,af,none⟩::l)::r) QA ⟨L,H,nx⟩:=JL.neQ (X:=⟨Tryz.prog,tys,ets,mts,E,M0,n,rd,up,dp⟩)  hK.key hK.ag hK.gt hu hv hd hc k
def zlf{x:Operand}{ty2:TypeId}{ps2:String}{af2:Array Edge}(hF:funB Tryz.prog t=true)(hu:opd (del L d) x=some (cs,v))(hv:v.fnB=true)(hd:ltB d n=true)(k:JK ⟨Tryz.prog,tys,ets,mts,E,M0,n,rd,up,dp⟩ (.ops true all l::r) QA ⟨(d,.pfn v)::L,H,nx⟩)(hc:allP cs:=by exact zD) :
  JK ⟨Tryz.prog,tys,ets,mts,E,M0,n,rd,up,dp⟩ (.ops true all (⟨some d,.alloc t,ty,ps,af,none⟩::⟨none,.store t (.tmp d) x,ty2,ps2,af2,none⟩::l)::r) QA ⟨L,H,nx⟩:=JK.layF (X:=⟨Tryz.prog,tys,ets,mts,E,M0,n,rd,up,dp⟩) hF hu hv hd hc k
def zdf{x:Operand}(hF:funB Tryz.prog t=true)(hu:opd L x=some (cs,.pfn v))(hd:ltB d n=true)(k:JK ⟨Tryz.prog,tys,ets,mts,E,M0,n,rd,up,dp⟩ (.ops md all l::r) QA ⟨(d,v)::L,H,nx⟩)(hc:allP cs:=by exact zD) :
  JK ⟨Tryz.prog,tys,ets,mts,E,M0,n,rd,up,dp⟩ (.ops md all (⟨some d,.load t x,ty,ps,af,none⟩::l)::r) QA ⟨L,H,nx⟩:=JK.ldF (X:=⟨Tryz.prog,tys,ets,mts,E,M0,n,rd,up,dp⟩) hF hu hd hc k
def zmo(hT:MapT Tryz.prog kt vt t kid vid)(hu:opd L om=some (c1,.lf (.mp m)))(hl:lk H m=some (.map kt vt es clk))(hv:opd L ok=some (c2,.val kt x))(hd:ltB d n=true)
  (k:JK ⟨Tryz.prog,tys,ets,mts,E,M0,n,rd,up,dp⟩ (.ops true all l::r) QA ⟨(d,.tup (.acons (.val vt (mGet es x vt.dflt)) (.acons (.val .bool (mHas es x)) .anil)))::L,H,nx⟩) (hc:allP (c1++c2):=by exact zD) :
  JK ⟨Tryz.prog,tys,ets,mts,E,M0,n,rd,up,dp⟩ (.ops true all (⟨some d,.lookup t om ok true,ty,ps,af,none⟩::l)::r) QA ⟨L,H,nx⟩:=z9l (X:=⟨Tryz.prog,tys,ets,mts,E,M0,n,rd,up,dp⟩) hT hu hl hv hd k hc
structure HB(q:Prop):Prop where
 h:q
def zK0(k:q)(h:HB q→p:=by(intro hzz;(repeat (first|refine zs rfl ?_|refine zg rfl rfl rfl ?_|refine zd ?_|refine j6 ?_|refine j5 ?_));exact hzz.h)):p:=h ⟨k⟩
def zK1(k:q)(h:HB q→p:=by(intro hzz;(repeat (first|refine zs rfl ?_|refine zg rfl rfl rfl ?_|refine zd ?_|refine j6 ?_|refine j5 ?_|refine zlf u5 rfl rfl rfl ?_|refine zdf u5 rfl rfl ?_));exact hzz.h)):p:=h ⟨k⟩
def zK2(k:q)(h:HB q→p:=by(intro hzz;(repeat (first|refine zs rfl ?_|refine zg rfl rfl rfl ?_|refine zd ?_|refine j6 ?_|refine j5 ?_|refine zmo mpW rfl rfl rfl rfl ?_|refine zmi mpW rfl rfl rfl rfl ?_|refine zmu mpW rfl rfl rfl rfl ?_|refine zmd mpW rfl rfl rfl ?_|refine zmr mpW rfl rfl rfl ?_|refine zmm mpW rfl ?_|refine zeq eqK rfl rfl rfl ?_|refine zne eqK rfl rfl rfl ?_));exact hzz.h)):p:=h ⟨k⟩
def zK3(k:q)(h:HB q→p:=by(intro hzz;(repeat (first|refine zs rfl ?_|refine zg rfl rfl rfl ?_|refine zd ?_|refine j6 ?_|refine j5 ?_|refine zmo mpP rfl rfl rfl rfl ?_|refine zmi mpP rfl rfl rfl rfl ?_|refine zmu mpP rfl rfl rfl rfl ?_|refine zmd mpP rfl rfl rfl ?_|refine zmr mpP rfl rfl rfl ?_|refine zmm mpP rfl ?_|refine zeq eqP rfl rfl rfl ?_|refine zne eqP rfl rfl rfl ?_));exact hzz.h)):p:=h ⟨k⟩
def zK4(k:q)(h:HB q→p:=by(intro hzz;(repeat (first|refine zs rfl ?_|refine zg rfl rfl rfl ?_|refine zd ?_|refine j6 ?_|refine j5 ?_|refine zlf q4s rfl rfl rfl ?_|refine zdf q4s rfl rfl ?_));exact hzz.h)):p:=h ⟨k⟩
def zK5(k:q)(h:HB q→p:=by(intro hzz;(repeat (first|refine zs rfl ?_|refine zg rfl rfl rfl ?_|refine zd ?_|refine j6 ?_|refine j5 ?_|refine zeq eqA rfl rfl rfl ?_|refine zne eqA rfl rfl rfl ?_));exact hzz.h)):p:=h ⟨k⟩
def zK6(k:q)(h:HB q→p:=by(intro hzz;(first|refine q4n xk rfl rfl ?_|refine q7h xk rfl rfl ?_|refine JL.M0 xk rfl ?_|refine q73 mpW rfl rfl rfl rfl ?_|refine z2p mpW rfl rfl rfl rfl ?_|refine q57 mpW rfl ?_|refine q72 (by assumption) rfl rfl rfl rfl ?_|refine z0r eqK rfl rfl rfl ?_|refine z9j rfl (c65) rfl trivial rfl ?_|refine z9k rfl (c65) rfl (fun r hr=>?_);subst hr);exact hzz.h)):p:=h ⟨k⟩
def zK7(k:q)(h:HB q→p:=by(intro hzz;(first|refine q4n xk rfl rfl ?_|refine q7h xk rfl rfl ?_|refine JL.M0 xk rfl ?_|refine q73 mpW rfl rfl rfl rfl ?_|refine z2p mpW rfl rfl rfl rfl ?_|refine q57 mpW rfl ?_|refine q72 (by assumption) rfl rfl rfl rfl ?_|refine z0r eqK rfl rfl rfl ?_);exact hzz.h)):p:=h ⟨k⟩
def zK8(k:q)(h:HB q→p:=by(intro hzz;(first|refine q4n xk rfl rfl ?_|refine q7h xk rfl rfl ?_|refine JL.M0 xk rfl ?_|refine q73 mpP rfl rfl rfl rfl ?_|refine z2p mpP rfl rfl rfl rfl ?_|refine q57 mpP rfl ?_|refine q72 (by assumption) rfl rfl rfl rfl ?_|refine z0r eqP rfl rfl rfl ?_|refine z9j rfl (h75) rfl trivial rfl ?_|refine z9k rfl (h75) rfl (fun r hr=>?_);subst hr);exact hzz.h)):p:=h ⟨k⟩
def zK9(k:q)(h:HB q→p:=by(intro hzz;(repeat (first|refine zs rfl ?_|refine zg rfl rfl rfl ?_|refine zd ?_|refine j6 ?_|refine j5 ?_|refine zc rfl (c61) rfl rfl ?_|refine ze rfl (c61) rfl ?_|refine zk rfl rfl (fun _=>c61) rfl rfl ?_));exact hzz.h)):p:=h ⟨k⟩
def zK10(k:q)(h:HB q→p:=by(intro hzz;(repeat (first|refine zs rfl ?_|refine zg rfl rfl rfl ?_|refine j6 ?_|refine j5 ?_|refine zmo mpW rfl rfl rfl rfl ?_|refine zmi mpW rfl rfl rfl rfl ?_|refine zmu mpW rfl rfl rfl rfl ?_|refine zmd mpW rfl rfl rfl ?_|refine zmr mpW rfl rfl rfl ?_|refine zmm mpW rfl ?_|refine zeq eqK rfl rfl rfl ?_|refine zne eqK rfl rfl rfl ?_));exact hzz.h)):p:=h ⟨k⟩
def zK11(k:q)(h:HB q→p:=by(intro hzz;(repeat (first|refine zs rfl ?_|refine zg rfl rfl rfl ?_|refine zd ?_|refine j6 ?_|refine j5 ?_|refine zc rfl (hx) rfl rfl ?_|refine ze rfl (hx) rfl ?_|refine zk rfl rfl (fun _=>hx) rfl rfl ?_));exact hzz.h)):p:=h ⟨k⟩
def zK12(k:q)(h:HB q→p:=by(intro hzz;(repeat (first|refine zs rfl ?_|refine zg rfl rfl rfl ?_|refine j6 ?_|refine j5 ?_|refine zlf u5 rfl rfl rfl ?_|refine zdf u5 rfl rfl ?_));exact hzz.h)):p:=h ⟨k⟩
def zK13(k:q)(h:HB q→p:=by(intro hzz;(repeat (first|refine zs rfl ?_|refine zg rfl rfl rfl ?_|refine zd ?_|refine j6 ?_|refine j5 ?_|refine zc rfl (h55) rfl rfl ?_|refine ze rfl (h55) rfl ?_|refine zk rfl rfl (fun _=>h55) rfl rfl ?_));exact hzz.h)):p:=h ⟨k⟩
def zK14(k:q)(h:HB q→p:=by(intro hzz;(repeat (first|refine zs rfl ?_|refine zg rfl rfl rfl ?_|refine zd ?_|refine j6 ?_|refine j5 ?_|refine zmo mpW rfl rfl rfl rfl ?_|refine zmi mpW rfl rfl rfl rfl ?_|refine zmu mpW rfl rfl rfl rfl ?_|refine zmd mpW rfl rfl rfl ?_|refine zmr mpW rfl rfl rfl ?_|refine zmm mpW rfl ?_|refine zeq eqK rfl rfl rfl ?_|refine zne eqK rfl rfl rfl ?_|refine zc rfl (c77) rfl rfl ?_|refine ze rfl (c77) rfl ?_|refine zk rfl rfl (fun _=>c77) rfl rfl ?_));exact hzz.h)):p:=h ⟨k⟩
def zK15(k:q)(h:HB q→p:=by(intro hzz;(repeat (first|refine zs rfl ?_|refine zg rfl rfl rfl ?_|refine zd ?_|refine j6 ?_|refine j5 ?_|refine zlf u5 rfl rfl rfl ?_|refine zdf u5 rfl rfl ?_|refine zc rfl (h86) rfl rfl ?_|refine ze rfl (h86) rfl ?_|refine zk rfl rfl (fun _=>h86) rfl rfl ?_|refine zc rfl (h87) rfl rfl ?_|refine ze rfl (h87) rfl ?_|refine zk rfl rfl (fun _=>h87) rfl rfl ?_));exact hzz.h)):p:=h ⟨k⟩
def zK16(k:q)(h:HB q→p:=by(intro hzz;(repeat (first|refine zs rfl ?_|refine zg rfl rfl rfl ?_|refine zd ?_|refine j6 ?_|refine j5 ?_|refine zc rfl (fn222 xs p h) rfl rfl ?_|refine ze rfl (fn222 xs p h) rfl ?_|refine zk rfl rfl (fun _=>fn222 xs p h) rfl rfl ?_));exact hzz.h)):p:=h ⟨k⟩
def zK17(k:q)(h:HB q→p:=by(intro hzz;(repeat (first|refine zs rfl ?_|refine zg rfl rfl rfl ?_|refine zd ?_|refine j6 ?_|refine j5 ?_|refine zc rfl (h1) rfl rfl ?_|refine ze rfl (h1) rfl ?_|refine zk rfl rfl (fun _=>h1) rfl rfl ?_));exact hzz.h)):p:=h ⟨k⟩
def zK18(k:q)(h:HB q→p:=by(intro hzz;(first|refine q4n xk rfl rfl ?_|refine q7h xk rfl rfl ?_|refine JL.M0 xk rfl ?_|refine z0r eqA rfl rfl rfl ?_);exact hzz.h)):p:=h ⟨k⟩
def zK19(k:q)(h:HB q→p:=by(intro hzz;(first|refine q4n xk rfl rfl ?_|refine q7h xk rfl rfl ?_|refine JL.M0 xk rfl ?_|refine z0r eqA rfl rfl rfl ?_|refine z9j rfl (c106) rfl trivial rfl ?_|refine z9k rfl (c106) rfl (fun r hr=>?_);subst hr);exact hzz.h)):p:=h ⟨k⟩
def zK20(k:q)(h:HB q→p:=by(intro hzz;(repeat (first|refine zs rfl ?_|refine zg rfl rfl rfl ?_|refine zd ?_|refine j6 ?_|refine j5 ?_|refine zc rfl (c91) rfl rfl ?_|refine ze rfl (c91) rfl ?_|refine zk rfl rfl (fun _=>c91) rfl rfl ?_));exact hzz.h)):p:=h ⟨k⟩
def zK21(k:q)(h:HB q→p:=by(intro hzz;(first|refine q4n xk rfl rfl ?_|refine q7h xk rfl rfl ?_|refine JL.M0 xk rfl ?_|refine q73 mpW rfl rfl rfl rfl ?_|refine z2p mpW rfl rfl rfl rfl ?_|refine q57 mpW rfl ?_|refine q72 (by assumption) rfl rfl rfl rfl ?_|refine z0r eqK rfl rfl rfl ?_|refine z9j rfl (c95) rfl trivial rfl ?_|refine z9k rfl (c95) rfl (fun r hr=>?_);subst hr);exact hzz.h)):p:=h ⟨k⟩
def zK22(k:q)(h:HB q→p:=by(intro hzz;(repeat (first|refine zs rfl ?_|refine zg rfl rfl rfl ?_|refine zd ?_|refine j6 ?_|refine j5 ?_|refine zc rfl (h52) rfl rfl ?_|refine ze rfl (h52) rfl ?_|refine zk rfl rfl (fun _=>h52) rfl rfl ?_));exact hzz.h)):p:=h ⟨k⟩
def zK23(k:q)(h:HB q→p:=by(intro hzz;(repeat (first|refine zs rfl ?_|refine zg rfl rfl rfl ?_|refine zd ?_|refine j6 ?_|refine j5 ?_|refine zc rfl (fn21 l) rfl rfl ?_|refine ze rfl (fn21 l) rfl ?_|refine zk rfl rfl (fun _=>fn21 l) rfl rfl ?_));exact hzz.h)):p:=h ⟨k⟩
def zK24(k:q)(h:HB q→p:=by(intro hzz;(repeat (first|refine zs rfl ?_|refine zg rfl rfl rfl ?_|refine zd ?_|refine j6 ?_|refine j5 ?_|refine zc rfl (fn53 l xs) rfl rfl ?_|refine ze rfl (fn53 l xs) rfl ?_|refine zk rfl rfl (fun _=>fn53 l xs) rfl rfl ?_));exact hzz.h)):p:=h ⟨k⟩
def zK25(k:q)(h:HB q→p:=by(intro hzz;(repeat (first|refine zs rfl ?_|refine zg rfl rfl rfl ?_|refine zd ?_|refine j6 ?_|refine j5 ?_|refine zc rfl (h47) rfl rfl ?_|refine ze rfl (h47) rfl ?_|refine zk rfl rfl (fun _=>h47) rfl rfl ?_));exact hzz.h)):p:=h ⟨k⟩
def zB0(h:p:=by(· refine zK18 ?_;refine w8 ?_;refine n8 xk StF.nil ?_;(exact zJ))):p:=h
def zB1(h:p:=by(· refine zK6 ?_;refine w8 ?_;refine n8 xk StF.nil ?_;(exact zJ))):p:=h
def zU{X:Ctx}{K:S→Prop}{ls fl fl2:List Nat}{fuel:Nat}{o:Oper}(i:Nat)(hX:XOK X)(ho:ops[i]?=some o)(hf:(fl.filter fun f=>!waits o f)=fl2)(h:JL X true ops (qN fun t=>JF X ops K fl2 fuel (i::ls) t) [o] s)(hst:StF X ops s fl:=by(focus (repeat (first|exact StF.nil|refine j4w rfl rfl rfl ?_))))(hc:ndB ops ls fl [i]=true:=by decide +kernel):JF X ops K fl (fuel+1) ls s:=q58 i [] hX hst (BrF.one ho hf h BrF.nil) hc
def zS(h:p:=by(focus (repeat (first|exact StF.nil|refine j4w rfl rfl rfl ?_)))):p:=h
def zC(a:p)(h:p→q:=by(intro hzz;simp only[↓cdL] at hzz;(try simp only[Ty.dflt,Int.toNat_natCast] at hzz);exact hzz)):q:=h a
def zJ(h:p:=by(exact JW.Auto (by conv=>lhs;reduce))):p:=h
end Go.Proofs.YtjmhhehhfeengaaGreatDoor
namespace Ox
open Go Go.RowKit
variable {X:Ctx}{s:S}{M:Mem}{ρ:Env}{a:Act}{w w':World}{QA:Exit→S→Prop}{all l:List Oper}{o:Oper}
section
variable {L:List (Nat×AV)}{H:List (Nat×HO)}{nx:Nat}{ty:TypeId}{ps:String}{af:Array Edge}{md:Bool}{c1:List Prop}
variable {kt:Ty}{t:TypeId}{om ok:Operand}{c2:List Prop}{x y:kt.den}{dd:Nat}{g:Bool}{gg:Nat×Bool}
end
end Ox
namespace Ox
open Go Go.RowKit Go.ChangeShapes Go.WideShapes Go.ChangeAt
section
variable {H:Type}{enc:TypeId×Value→H}{P:Program}{w:World}{base:Nat}{spare:Nat→Bool}{held:Bool}
def Ty.argB:Ty→Bool
 |.int _|.bool|.nil=>true
 |.slice e=>e.argB&&decide (0<e.size)
 |.arr _ e=>e.argB
 |.cons a b=>a.argB&&b.argB
 |.ptr _=>false
def q9a{b off n:Nat}{spot:Option Nat}{cs:List Value}(h:w.cells? base ⟨b,off,spot⟩ n=some cs)(hn:0<n) :
  spot=none∧∃ c ty fz,w.heap[b]?=some (.cells c ty fz)∧cs=(c.toList.drop off).take n:=by
 unfold World.cells? at h;split at h
 ·have hl:=mapM_some_length h;have hg:=fun i (hi:i<n)=>mapM_some_get h i i (by simp[hi]);have h0:=hg 0 hn;rw[List.length_range] at hl;rw[yyo (by omega)] at h0;simp only[Addr.add,if_true,World.cell?] at h0;split at h0
  ·rename_i c ty fz hb;split at h0
   ·cases h0
   ·rename_i hs;have hs:spot=none:=by simpa using hs
    subst hs;refine⟨rfl,c,ty,fz,hb,?_⟩;apply List.ext_getElem?;intro i;rw[yxo];by_cases hi:i<n
    ·rw[if_pos hi,← hg i hi,z7,u4 hb,List.getElem?_drop];simp
    ·rw[if_neg hi,yxe (by omega)]
  ·cases h0
 ·cases h
def Ty.fit:(t:Ty)→t.den→Prop
 |.int k,n=>inK k n
 |.bool,_=>True
 |.slice e,l=>∀ y∈l,e.fit y
 |.ptr _,_=>True
 |.arr _ e,l=>∀ y∈l,e.fit y
 |.nil,_=>True
 |.cons a b,y=>a.fit y.1∧b.fit y.2
def inK_wf{k:IntKind}{n:Int}(h:(Lit.int k n).wf=true):inK k n:=by simp only[Lit.wf,yyd,yyu] at h;cases k<;>exact h
def RepA(P:Program)(t:Ty):Prop:=∀ {H:Type} {enc:TypeId×Value→H} {w:World} {base:Nat} {spare:Nat→Bool} {held:Bool} (id:TypeId) (fuel:Nat) (cs:List Value) (x:DataW H×List MemPlace),
 TyOf P t id→t.argB=true→DataW.trod enc P w base spare held fuel id cs=some x→∃ y,Rep (fun b=>w.heap[b]?) t y cs∧t.fit y
def RepF(P:Program)(t:Ty):Prop:=∀ {H:Type} {enc:TypeId×Value→H} {w:World} {base:Nat} {spare:Nat→Bool} {held:Bool} (fs:List Field) (off fuel:Nat) (cs:List Value),
 TyOf.fields P t fs off→t.argB=true→cs.length=off+t.size→(∀ (i:Nat) (f:Field),fs[i]?=some f→∃ x,DataW.trod enc P w base spare held fuel f.type ((cs.drop f.offset).take (P.cellsOf f.type))=some x) →
  ∃ y,Rep (fun b=>w.heap[b]?) t y (cs.drop off)∧t.fit y
def j2f{p:Nat→α→Prop}(h:∀ i,i<n→∃ y,p i y):∃ l:List α,l.length=n∧∀ i (hi:i<l.length),p i (l.get ⟨i,hi⟩):=by
 induction n with
 |zero=>exact⟨[],rfl,fun i hi=>absurd hi (by simp)⟩
 |succ n ih=>
  obtain⟨l,h1,h2⟩:=ih fun i hi=>h i (by omega);obtain⟨y,hy⟩:=h n (by omega);refine⟨l++[y],by simp[h1],fun i hi=>?_⟩;simp only[List.get_eq_getElem];by_cases hl:i<l.length
  ·rw[List.getElem_append_left hl];exact h2 i hl
  ·have:i=l.length:=by simp at hi;omega
   subst this;rw[List.getElem_append_right (yyn _)];simp only[Nat.sub_self,List.getElem_cons_zero];rw[h1];exact hy
def rep_all(P:Program):∀ t:Ty,RepA P t∧RepF P t:=by
 intro t;induction t with
 |int k=>
  refine⟨fun id fuel cs x ht _ h=>?_,fun fs off fuel cs hf _ _ _=>by simp[TyOf.fields] at hf⟩;simp only[TyOf] at ht;have hu:=ht.under;cases fuel with
  |zero=>simp[DataW.trod] at h
  |succ n=>
   unfold DataW.trod at h;rw[hu] at h;split at h<;>try (simp_all;done)
   rename_i k' q n' he;split at h
   ·rename_i hk;injection he with he
    injection he with he
    subst he;exact⟨n',by simp only[Rep];rw[hk.1],inK_wf hk.2⟩
   ·cases h
 |bool=>
  refine⟨fun id fuel cs x ht _ h=>?_,fun fs off fuel cs hf _ _ _=>by simp[TyOf.fields] at hf⟩;simp only[TyOf] at ht;have hu:=ht.under;cases fuel with
  |zero=>simp[DataW.trod] at h
  |succ n=>
   unfold DataW.trod at h;rw[hu] at h;split at h<;>try (simp_all;done)
   rename_i b he;exact⟨b,by simp only[Rep],trivial⟩
 |slice e ih=>
  refine⟨@fun H enc w base spare held id fuel cs x ht hb h=>?_,fun fs off fuel cs hf _ _ _=>by simp[TyOf.fields] at hf⟩;simp only[TyOf] at ht;obtain⟨eid,hi,he⟩:=ht;simp only[Ty.argB,yyd,yyu] at hb;have hsz:=q19 he;rcases DataW.trod_slice hi.under h with⟨h0,_⟩|⟨a,len,cap,elems,rest,n,_,rfl,_,_,hlc,hcm,hel,hg,_⟩
  ·exact⟨[],by simp only[Rep];exact⟨none,0,h0,yyn _,yy7 _,fun _=>rfl,.inl rfl⟩,fun y hy=>by cases hy⟩
  ·have each:∀ i,i<len→∃ y:e.den,∃ spot c ty fz,a=⟨a.block,a.off,spot⟩∧(spot=none∨i≠0)∧∃ _:w.heap[a.block]?=some (.cells c ty fz),Rep (fun b=>w.heap[b]?) e y ((c.toList.drop (a.off+i*e.size)).take e.size)∧e.fit y:=by
    intro i hi';have h1:=hg i hi';rw[yyo (by omega),yyr,hsz] at h1;obtain⟨ce,h2,h3⟩:=h1;obtain⟨blk,off,spot⟩:=a;by_cases h0:i*e.size=0
    ·have hi0:i=0:=by
      rcases Nat.mul_eq_zero.1 h0 with h0|h0
      ·exact h0
      ·omega
     subst hi0;simp only[Nat.zero_mul,Addr.add,if_true] at h2;obtain⟨hs,c,ty,fz,h4,rfl⟩:=q9a h2 hb.2;obtain⟨y,hy,hyf⟩:=ih.1 eid n _ _ he hb.1 h3;exact⟨y,spot,c,ty,fz,rfl,.inl hs,h4,by simpa using hy,hyf⟩
    ·have e1:(Addr.add ⟨blk,off,spot⟩ (i*e.size))=⟨blk,off+i*e.size,none⟩:=by simp only[Addr.add,if_neg h0]
     rw[e1] at h2;obtain⟨hs,c,ty,fz,h4,rfl⟩:=q9a h2 hb.2;obtain⟨y,hy,hyf⟩:=ih.1 eid n _ _ he hb.1 h3;exact⟨y,spot,c,ty,fz,rfl,.inr (fun hi0=>h0 (by rw[hi0,Nat.zero_mul])),h4,hy,hyf⟩
   by_cases hl0:len=0
   ·subst hl0;exact⟨[],by simp only[Rep];exact⟨some a,cap,rfl,yy7 _,hcm,(fun h=>by cases h),.inl rfl⟩,fun y hy=>by cases hy⟩
   ·obtain⟨y0,spot,c,ty,fz,ha,hs,hc,_⟩:=each 0 (by omega);have hs:spot=none:=hs.resolve_right (fun h=>h rfl);subst hs;obtain⟨l,hl,hr⟩:=j2f (p:=fun i (y:e.den)=>Rep (fun b=>w.heap[b]?) e y ((c.toList.drop (a.off+i*e.size)).take e.size)∧e.fit y) (n:=len) (fun i hi'=>by
     obtain⟨y,_,c',ty',fz',_,_,hc',hy⟩:=each i hi';rw[hc] at hc';injection hc' with hc'
     injection hc' with hc' _ _
     subst hc';exact⟨y,hy⟩)
    refine⟨l,?_,fun y hy=>by obtain⟨i,hi,rfl⟩:=List.mem_iff_get.1 hy;exact(hr i.1 i.2).2⟩
    simp only[Rep];refine⟨some a,cap,by rw[hl],by rw[hl];exact hlc,hcm,(fun h=>by cases h),.inr ⟨a.block,a.off,c,ty,fz,by rw[ha],hc,fun i hi=>(hr i hi).1⟩⟩
 |ptr e ih=>exact⟨fun id fuel cs x _ hb _=>by simp[Ty.argB] at hb,fun fs off fuel cs hf _ _ _=>by simp[TyOf.fields] at hf⟩
 |arr n e ih=>
  refine⟨@fun H enc w base spare held id fuel cs x ht hb h=>?_,fun fs off fuel cs hf _ _ _=>by simp[TyOf.fields] at hf⟩;simp only[TyOf] at ht;obtain⟨eid,hi,he⟩:=ht;simp only[Ty.argB] at hb;have hsz:=q19 he;have hsa:P.cellsOf id=n*e.size:=q19 (t:=.arr n e) ⟨eid,hi,he⟩;obtain⟨xs,m,_,_,hl,hxl,hg⟩:=DataW.trod_array hi.under h;obtain⟨l,h1,h2⟩:=j2f (p:=fun i (y:e.den)=>Rep (fun b=>w.heap[b]?) e y ((cs.drop (i*e.size)).take e.size)∧e.fit y) (n:=n) (fun i hi'=>by have h3:=hg i hi';rw[hsz,yyo (by omega)] at h3;exact ih.1 eid m _ _ he hb h3)
  exact⟨l,by simp only[Rep];exact⟨h1,by rw[hl,hsa],fun i hi=>(h2 i hi).1⟩,fun y hy=>by obtain⟨i,hi,rfl⟩:=List.mem_iff_get.1 hy;exact(h2 i.1 i.2).2⟩
 |nil=>refine⟨fun id fuel cs x ht _ _=>by simp[TyOf] at ht,fun fs off fuel cs hf _ hl _=>⟨(),?_,trivial⟩⟩;simp only[Rep,Ty.size] at hl ⊢;exact List.drop_of_length_le (by omega)
 |cons a b iha ihb=>
  have hF:RepF P (.cons a b):=by
   intro H enc w base spare held fs off fuel cs hf hb hl hg;cases fs with
   |nil=>simp[TyOf.fields] at hf
   |cons f r=>simp only[TyOf.fields] at hf;obtain⟨h1,h2,h3,h4⟩:=hf;simp only[Ty.argB,yyd] at hb;simp only[Ty.size] at hl;obtain⟨x,hx⟩:=hg 0 f rfl;rw[h1,q19 h2] at hx;obtain⟨y1,hy1,hf1⟩:=iha.1 _ _ _ _ h2 hb.1 hx;obtain⟨y2,hy2,hf2⟩:=ihb.2 r (off+a.size) fuel cs h4 hb.2 (by omega) fun i f hf=>hg (i+1) f (by simpa using hf);refine⟨(y1,y2),?_,hf1,hf2⟩;simp only[Rep];refine⟨_,_,?_,hy1,hy2⟩;rw[← List.drop_drop,List.take_append_drop]
  refine⟨@fun H enc w base spare held id fuel cs x ht hb h=>?_,hF⟩;have hct:=q19 ht;simp only[TyOf] at ht;obtain⟨fs,hi,hm⟩:=ht;obtain⟨xs,n,_,_,hl,hxl,hg⟩:=DataW.trod_struct hi.under h;have hff:TyOf.fields P (.cons a b) fs.toList 0:=by
   split at hm
   ·rename_i f r hfr;rw[hfr];simp only[TyOf.fields];simpa using hm
   ·exact hm.elim
  have:=hF fs.toList 0 n cs hff hb (by rw[hl,hct];omega) (held:=held) (enc:=enc) (w:=w) (base:=base) (spare:=spare) fun i f hf=>by
   have h1:=hg i f (by simpa using hf);have hlt:i<xs.length:=by rw[hxl];have:=(yxc.1 hf).1;simpa using this
   rw[yyo hlt] at h1;exact⟨_,h1⟩
  simpa using this
def Dat:List Ty→Type
 |[]=>Unit
 |t::ts=>t.den×Dat ts
def Dat.av:{ts:List Ty}→Dat ts→AV
 |[],_=>.anil
 |t::_,x=>.acons (.val t x.1) (Dat.av x.2)
def Dat.fit:{ts:List Ty}→Dat ts→Prop
 |[],_=>True
 |t::_,x=>t.fit x.1∧Dat.fit x.2
def tysB(P:Program):List Ty→List TypeId→Bool
 |[],[]=>true
 |t::ts,i::is=>(tyB P t i&&t.argB)&&(P.readableRec i&&decide (i<P.types.size))&&tysB P ts is
 |_,_=>false
variable{t:Ty}
def agg_of{id:TypeId}(ht:TyOf P t id)(hb:t.argB=true):(t.agg=true∧((∃ fs,P.underlying id=some (.struct fs))∨∃ n e,P.underlying id=some (.array n e))) ∨
  (t.agg=false∧((∃ k,P.underlying id=some (.int k))∨P.underlying id=some .bool∨∃ e,P.underlying id=some (.slice e))):=by
 cases t with
 |int k=>simp only[TyOf] at ht;exact .inr ⟨rfl,.inl ⟨k,ht.under⟩⟩
 |bool=>simp only[TyOf] at ht;exact .inr ⟨rfl,.inr (.inl ht.under)⟩
 |slice e=>simp only[TyOf] at ht;obtain⟨eid,h,_⟩:=ht;exact .inr ⟨rfl,.inr (.inr ⟨eid,h.under⟩)⟩
 |ptr e=>simp[Ty.argB] at hb
 |arr n e=>simp only[TyOf] at ht;obtain⟨eid,h,_⟩:=ht;exact .inl ⟨rfl,.inr ⟨n,eid,h.under⟩⟩
 |nil=>simp[TyOf] at ht
 |cons a b=>simp only[TyOf] at ht;obtain⟨fs,h,_⟩:=ht;exact .inl ⟨rfl,.inl ⟨fs,h.under⟩⟩
def arg_rv{ρ:Env}{id:TypeId}{v:Value}{d:DataW H}{ps:List MemPlace}(ht:TyOf P t id)(hb:t.argB=true)(hv:Value.okWide P w .any base id v){b0:Nat}
  (h:DataW.Trod enc P w b0 spare held id v d ps):∃ y,(AV.val t y).rv (fun b=>w.heap[b]?) ρ v∧t.fit y:=by
 obtain⟨fuel,h⟩:=h;obtain⟨y,hy,hyf⟩:=(rep_all P t).1 id fuel _ _ ht hb h;refine⟨y,?_,hyf⟩;simp only[AV.rv];refine⟨_,hy,?_⟩;unfold Value.okWide at hv;rcases agg_of ht hb with⟨hag,hu⟩|⟨hag,hu⟩
 ·have:∃ cs,v=.agg cs:=by rcases hu with⟨fs,hu⟩|⟨n,e,hu⟩<;>· rw[hu] at hv;obtain⟨cs,h1,_⟩:=hv;exact⟨cs,h1⟩
  obtain⟨cs,rfl⟩:=this;rw[x4 hag];simp[Value.cells]
 ·have hone:v.oneCell'=true:=by rcases hu with⟨k,hu⟩|hu|⟨e,hu⟩<;>rw[hu] at hv<;>simp only[Cell.okWide,hu,Cell.ok] at hv<;>(split at hv<;>first|rfl|(exact hv.elim)|(split at hv<;>first|rfl|exact hv.elim))
  rw[q02 hone];simp[Ty.wrap,hag]
variable{ts:List Ty}
def q79{i:TypeId}{is:List TypeId}(h:tysB P (t::ts) (i::is)=true):TyOf P t i∧t.argB=true∧P.readableRec i=true∧i<P.types.size∧tysB P ts is=true:=by simp only[tysB,yyd,yyu] at h;exact⟨s9 h.1.1.1,h.1.1.2,h.1.2.1,h.1.2.2,h.2⟩
def j4q{ρ:Env}{b0:Nat}:∀ {ts:List Ty} {is:List TypeId} {vs:List Value} {ds:List (DataW H)} {ps:List MemPlace},tysB P ts is=true→(∀ (j:Nat) t v,is[j]?=some t→vs[j]?=some v→Value.okWide P w .any base t v) →
  DataW.TrodAll enc P w b0 spare held is vs ds ps→∃ ys:Dat ts,ys.av.rvs (fun b=>w.heap[b]?) ρ vs∧ys.fit
 |[],[],vs,ds,ps,_,_,h=>by
  cases vs with
  |nil=>exact⟨(),by simp only[Dat.av,AV.rvs],trivial⟩
  |cons v vs=>cases ds<;>simp[DataW.TrodAll] at h
 |t::ts,i::is,vs,ds,ps,hb,hv,h=>by
  obtain⟨h1,h2,_,_,h5⟩:=q79 hb;cases vs with
  |nil=>cases ds<;>simp[DataW.TrodAll] at h
  |cons v vs=>
   cases ds with
   |nil=>simp[DataW.TrodAll] at h
   |cons d ds=>obtain⟨p,q,h6,h7,_⟩:=h;obtain⟨y,hy,hyf⟩:=arg_rv (ρ:=ρ) h1 h2 (hv 0 i v rfl rfl) h6;obtain⟨ys,hys,hysf⟩:=j4q (ρ:=ρ) h5 (fun j t v hj hjv=>hv (j+1) t v (by simpa using hj) (by simpa using hjv)) h7;exact⟨(y,ys),by simp only[Dat.av,AV.rvs];exact⟨v,vs,hy,hys,rfl⟩,hyf,hysf⟩
 |[],_::_,_,_,_,hb,_,_=>by simp[tysB] at hb
 |_::_,[],_,_,_,hb,_,_=>by simp[tysB] at hb
def Dat.bd:∀ {ts:List Ty} (ys:Dat ts) (n:Nat),ys.av.bd n
 |[],_,_=>trivial
 |_::_,x,n=>⟨trivial,Dat.bd x.2 n⟩
def z0m{W W':World}(hl:laidOutB P=true)(hbl:Below W.heap.size W W'){sp:Nat→Bool}:∀ {ts:List Ty} {is:List TypeId} {vs:List Value} {ds:List (DataW H)} {ps:List MemPlace},tysB P ts is=true →
  DataW.TrodAll enc P W 0 (fun _=>true) true is vs ds ps→(∀ p∈ps,p.block<W.heap.size)→(∀ p∈ps,sp p.block=true)→DataW.TrodAll enc P W' 0 sp true is vs ds ps
 |[],[],vs,ds,ps,_,h,_,_=>by cases vs<;>cases ds<;>simp_all[DataW.TrodAll]
 |t::ts,i::is,vs,ds,ps,hb,h,hlt,hsp=>by
  obtain⟨_,_,h3,h4,h5⟩:=q79 hb;cases vs with
  |nil=>cases ds<;>simp[DataW.TrodAll] at h
  |cons v vs=>
   cases ds with
   |nil=>simp[DataW.TrodAll] at h
   |cons d ds=>obtain⟨p,q,h6,h7,rfl⟩:=h;refine⟨p,q,WideElems.Trod_stays hl h3 h4 h6 (fun x hx=>hbl.same (hlt x (yxm _ hx))) (fun x hx=>hsp x (yxm _ hx)),?_,rfl⟩;exact z0m hl hbl h5 h7 (fun x hx=>hlt x (List.mem_append_right _ hx)) (fun x hx=>hsp x (List.mem_append_right _ hx))
 |[],_::_,_,_,_,hb,_,_,_=>by simp[tysB] at hb
 |_::_,[],_,_,_,hb,_,_,_=>by simp[tysB] at hb
def z83{Z:Mem→Prop}{s:ChangeSpec}{W:World}{args:Array Value}{ds gs:List (DataW H)}{before:List MemPlace}{fresh handsOn:Bool}
  (hz:Z (fun b=>W.heap[b]?)) (hfn:∀ ys:Dat ts,ys.fit→FnL Z P f ys.av (·=.val .bool true)) (hts:tysB P ts fn.params.toList=true) (hl:laidOutB P=true) (hvars:s.vars=[])
  (hspec:∀ ds:List (DataW H),ds.length=ts.length→(s.fn H ds).results=[.lit (.bool true)]∧(s.fn H ds).args=ds∧(s.fn H ds).vars=[]) {rt:TypeId} (hres:fn.resultTypes=#[rt]) (hrt:P.underlying rt=some .bool)
  (hval:∀ (j:Nat) t v,fn.params[j]?=some t→args[j]?=some v→Value.okWide P W .any base t v) (hW:DataW.Whole enc P fn.params.toList s.vars false W args.toList ds gs before) :
  Calls P f args W fun e W'=>∃ v,e=.returned v∧s.post enc P fn false fresh handsOn false W args v W':=by
 have hW':=hW;obtain⟨p,q,hA,hV,rfl,hfz,_⟩:=hW;rw[hvars] at hV;obtain⟨rfl,rfl⟩:=trodVars_none hV;rw[yxv] at hW';obtain⟨ys,hys,hysf⟩:=j4q (ρ:=⟨fun _=>0,fun _=>.nil,fun _=>Go.undef⟩) hts (fun j t v hj hv=>hval j t v (by simpa using hj) (by simpa using hv)) hA;have hlen:∀ {ts:List Ty} {is:List TypeId} {vs:List Value} {ds:List (DataW H)} {ps:List MemPlace},tysB P ts is=true→DataW.TrodAll enc P W 0 (fun _=>true) true is vs ds ps→ds.length=ts.length:=by
  intro ts;induction ts with
  |nil=>intro is vs ds ps hb h;cases is<;>cases vs<;>cases ds<;>simp_all[DataW.TrodAll,tysB]
  |cons t ts ih=>
   intro is vs ds ps hb h;cases is with
   |nil=>simp[tysB] at hb
   |cons i is=>
    cases vs<;>cases ds<;>try (simp[DataW.TrodAll] at h;done)
    obtain⟨p,q,_,h7,_⟩:=h;simp[ih (q79 hb).2.2.2.2 h7]
 have hdl:=hlen hts hA;have hrun:=(hfn ys hysf).run (fun b=>W.heap[b]?) ⟨fun _=>0,fun _=>.nil,fun _=>Go.undef⟩ W args.toList hz (fun _ _ h=>h) hys (Dat.bd ys 0);rw[Array.toArray_toList] at hrun;refine hrun.mono fun e W'=>?_;rintro⟨v,r,M',rfl,rfl,_,hrv,hbl,_⟩;rw[m9] at hrv;subst hrv;obtain⟨hs1,hs2,hs3⟩:=hspec ds hdl;have hlt:=fun x hx=>hW'.lt x hx;refine⟨_,rfl,ds,[],p,[],p,[],hW',?_,?_,?_,World.keptBut_mono (fun x hx=>⟨hx,.inr (.inl hx)⟩) (hbl.frame (·∈p)),fun h=>by cases h⟩
 ·rw[yxv,hs1,hres];exact trodAll_cons_mk (shut_bool hrt _) trodAll_mk0
 ·rw[yxv,hs2];exact z0m hl hbl hts hA hlt fun x hx=>by simpa using hlt x hx
 ·rw[yxv,hs3,hvars];rfl
end
end Ox
namespace Ox
open Go Go.RowKit
noncomputable section
def z1k{P:Program}{w:World}{name:String}{k:IntKind}{xs:List Int}{g:Nat}{t e:TypeId}(hg:P.globalNamed name=some g)(ht:(P.globals[g]?).map (·.type)=some t)(hu:P.underlying t=some (.array xs.length e))(he:P.underlying e=some (.int k))(hc:P.cellsOf e=1) :
  ∀ {laid:List (String×DataW Unit)} {ps:List MemPlace},DataW.LaidVars P w laid ps→(name,DataW.agg (xs.map fun z=>DataW.lit (.int k z)))∈laid →
  ∃ (cs:Array Value) (ty:TypeId) (fz:Nat×Nat),w.heap[g]?=some (.cells cs ty fz)∧xs.length≤cs.size∧∀ i,i<xs.length→cs[i]?=some (.int k (xs.getD i 0))
 |[],_,_,hm=>absurd hm yxz
 |(n,d)::r,ps,h,hm=>by
  obtain⟨g',t',cs,fuel,p,q,h1,h2,h3,h4,h5,_⟩:=h;rcases yyk.1 hm with hm|hm
  ·injection hm with e1 e2
   subst e1;subst e2;obtain rfl:=Option.some.inj (hg.symm.trans h1);obtain rfl:=Option.some.inj (ht.symm.trans h2);obtain⟨ys,m,_,hx,hl,hyl,hcell⟩:=DataW.trod_array hu h4;have hy:ys.map (·.1)=xs.map fun z=>DataW.lit (.int k z):=by
    injection hx with hx _
    injection hx with hx
    exact hx.symm
   have hblk:∃ ty fz,w.heap[g]?=some (.cells cs ty fz):=by
    unfold World.var? at h3;rw[hg] at h3;simp only[Option.bind_some] at h3;split at h3
    ·rename_i cs' ty fz hh;injection h3 with h3
     exact⟨ty,fz,by rw[hh,h3]⟩
    ·cases h3
   obtain⟨ty,fz,hh⟩:=hblk;have key:∀ i,i<xs.length→cs[i]?=some (.int k (xs.getD i 0)):=fun i hi=>by
    have h6:=hcell i hi;rw[hc,Nat.mul_one] at h6;have hi':i<ys.length:=by rw[hyl];exact hi
    rw[yyo hi'] at h6;obtain⟨z,h7,h8,_⟩:=DataW.trod_int he h6;have h9:(ys[i]).1=DataW.lit (.int k (xs.getD i 0)):=by have:=congrArg (fun l=>l[i]?) hy;simp only[List.getElem?_map,yyo hi',yyo hi,yxg,yya] at this;rw[this,yyj,yyo hi];rfl
    rw[h8] at h9;injection h9 with h9
    injection h9 with _ h9
    subst h9;have hlt:i<cs.toList.length:=by refine Nat.lt_of_not_le fun hc'=>?_;rw[List.drop_of_length_le hc'] at h7;cases h7
    rw[yy8 hlt] at h7;injection h7 with h7 _
    rw[← yxs,yyo hlt,h7]
   refine⟨cs,ty,fz,hh,?_,key⟩;refine Nat.le_of_not_lt fun hc'=>?_;have:=key cs.size hc';simp at this
  ·exact z1k hg ht hu he hc h5 hm
end
end Ox
namespace Ox
open Go Go.RowKit Ox.Rn
variable {X:Ctx}{M:Mem}{ρ:Env}{a:Act}{w w':World}{QA:Exit→S→Prop}{all l:List Oper}{L:List (Nat×AV)}{H:List (Nat×HO)}{nx d:Nat}{ty:TypeId}{ps:String}{af:Array Edge}{s:S}{o:Oper}{md:Bool}
variable{gs:List Gt}
def z51{M N:Mem}(h:Laid gs M)(k:∀ b o,M b=some o→N b=some o):Laid gs N:=fun q hq=>by obtain⟨cs,ty,fz,e1,e2⟩:=h q hq;exact⟨cs,ty,fz,k _ _ e1,e2⟩
variable{r:AV}
def z32(h:callA X.T o.op s=some (cs,f,.anil))(hf:FnZ (Laid gs) X.P f r.toV)(hz:Laid gs X.M0)(hc:allP cs)(h1:SAT X M ρ s w)(h2:REG X M ρ s a)(hw:Below w.heap.size w w1) :
  ∃ az,(execOp a.eval o).run X.P w1=.ok (.enter f az) w1∧Calls X.P f az w1 (fun e w'=>e=.returned r.toV∧Below w.heap.size w w'):=by
 obtain⟨hb,vs,hvs,hrun⟩:=q01 h1 (q7l h1) h2 h hc;simp only[AV.rvs] at hvs;subst hvs;refine⟨#[],by rw[hrun,hf.call],(hf.run _ w1 (z51 hz fun b o e=>h1.mem b o (h1.msub b o e)) (q7k hw)).mono ?_⟩;rintro e w' ⟨rfl,hbl⟩;exact⟨rfl,hw.trans (hbl.mono hw.size)⟩
def JL.callZ(hg:o.guard=none)(h:callA X.T o.op s=some (cs,f,.anil))(hf:FnZ (Laid gs) X.P f r.toV)(hz:Laid gs X.M0)(hr:r.scal=true)(hrb:r.bd 0)(hd:dstOk X.n o.dst)(hc:allP cs)
  (k:JL X true all QA l (putS o.dst r s)):JL X true all QA (o::l) s:=by
 intro M ρ a w h1 h2;obtain⟨az,e1,e2⟩:=z32 h hf hz hc h1 h2 (Below.refl w.heap.size w);refine j7 (w6 hg) (m5 (q2a h) e1 e2 ?_);rintro e w' ⟨rfl,hbl⟩;exact⟨_,rfl,k M ρ _ w' (j9 (h1.later hbl)) (h2.putO hd.spec (w5 (yy7 _) hrb) ((x6 hr).2 rfl))⟩
variable{g b:Bool}
def j5d(hg:gOf all s.L o.guard=some g)(hgt:g=true)(h:callA X.T o.op s=some (cs,f,.anil))(hf:FnZ (Laid gs) X.P f r.toV)(hz:Laid gs X.M0)(hr:r.scal=true)(hrb:r.bd 0)(hd:dstOk X.n o.dst)(hc:allP cs)
  (k:JL X true all QA l (putS o.dst r s)):JL X true all QA (o::l) s:=by
 subst hgt;intro M ρ a w h1 h2;have hw:=q0j hg h2;obtain⟨az,e1,e2⟩:=z32 h hf hz hc h1 h2 (Below.refl w.heap.size w);refine j7 hw (m5 (q2a h) e1 e2 ?_);rintro e w' ⟨rfl,hbl⟩;exact⟨_,rfl,k M ρ _ w' (j9 (h1.later hbl)) (h2.putO hd.spec (w5 (yy7 _) hrb) ((x6 hr).2 rfl))⟩
variable {op:Op}
variable{fr:List Fr}
def q74(h:callA X.T op ⟨L,H,nx⟩=some (cs,f,.anil))(hf:FnZ (Laid gs) X.P f (.bool b))(hz:Laid gs X.M0)(hd:ltB d X.n=true)(hc:allP cs)
  (k:JK X (.ops true all l::fr) QA ⟨(d,(.val .bool b))::L,H,nx⟩):JK X (.ops true all (⟨some d,op,ty,ps,af,none⟩::l)::fr) QA ⟨L,H,nx⟩:=
 JL.callZ (r:=(.val .bool b)) rfl h hf hz rfl trivial (y6 hd) hc k
def q3o(hg:gOf all L (some gg)=some g)(hgt:g=true)(h:callA X.T op ⟨L,H,nx⟩=some (cs,f,.anil))(hf:FnZ (Laid gs) X.P f (.bool b))(hz:Laid gs X.M0)(hd:ltB d X.n=true)(hc:allP cs)
  (k:JK X (.ops true all l::fr) QA ⟨(d,(.val .bool b))::L,H,nx⟩):JK X (.ops true all (⟨some d,op,ty,ps,af,some gg⟩::l)::fr) QA ⟨L,H,nx⟩:=
 j5d (r:=(.val .bool b)) (s:=⟨L,H,nx⟩) hg hgt h hf hz rfl trivial (y6 hd) hc k
def LaidW(gs:List Gt)(w:World):Prop:=Laid gs fun b=>w.heap[b]?
def LaidW.later{E w:World}(h:LaidW gs E)(hb:Below E.heap.size E w):LaidW gs w:=z51 h fun b o e=>by show w.heap[b]?=some o;rw[hb.block b (yym.1 e).1];exact e
abbrev FnE(gs:List Gt):=FnX fun _ w=>LaidW gs w
def FnE.toL{P:Program}{args:AV}{R:AV→Prop}(h:FnE gs P f args R):FnL (Laid gs) P f args R:=⟨h.call,fun M ρ w vs hz hM=>h.run M ρ w vs (z51 hz hM) hM⟩
def z9b(h:callA X.T o.op s=some (cs,f,.anil))(hf:FnZ (Laid gs) X.P f r.toV)(hz:LaidW gs X.E)(hc:allP cs)(h1:SAT X M ρ s w)(h2:REG X M ρ s a)(hw:Below w.heap.size w w1) :
  ∃ az,(execOp a.eval o).run X.P w1=.ok (.enter f az) w1∧Calls X.P f az w1 (fun e w'=>e=.returned r.toV∧Below w.heap.size w w'):=by
 obtain⟨hb,vs,hvs,hrun⟩:=q01 h1 (q7l h1) h2 h hc;simp only[AV.rvs] at hvs;subst hvs;refine⟨#[],by rw[hrun,hf.call],(hf.run (fun b=>w1.heap[b]?) w1 ((hz.later h1.below).later hw) (fun b o e=>e)).mono ?_⟩;rintro e w' ⟨rfl,hbl⟩;exact⟨rfl,hw.trans (hbl.mono hw.size)⟩
def z4d{g:Option Bool}(hg:match g with|none=>o.guard=none|some g=>gOf all s.L o.guard=some g∧g=true)(h:callA X.T o.op s=some (cs,f,.anil))(hf:FnZ (Laid gs) X.P f r.toV)(hz:LaidW gs X.E)(hr:r.scal=true)(hrb:r.bd 0)(hd:dstOk X.n o.dst)(hc:allP cs)
  (k:JL X true all QA l (putS o.dst r s)):JL X true all QA (o::l) s:=by
 intro M ρ a w h1 h2;have hw:Region.wanted o (yielded all.toArray a.tmps)=true:=by
  cases g with
  |none=>exact w6 hg
  |some g=>obtain⟨hg,rfl⟩:=hg;exact q0j hg h2
 obtain⟨az,e1,e2⟩:=z9b h hf hz hc h1 h2 (Below.refl w.heap.size w);refine j7 hw (m5 (q2a h) e1 e2 ?_);rintro e w' ⟨rfl,hbl⟩;exact⟨_,rfl,k M ρ _ w' (j9 (h1.later hbl)) (h2.putO hd.spec (w5 (yy7 _) hrb) ((x6 hr).2 rfl))⟩
section
variable {op:Op}{L:List (Nat×AV)}{H:List (Nat×HO)}{nx d:Nat}{ty:TypeId}{ps:String}{af:Array Edge}{fr:List Fr}
variable{gs:List Gt}{b:Bool}
def q9q(h:callA X.T op ⟨L,H,nx⟩=some (cs,f,.anil))(hf:FnZ (Laid gs) X.P f (.bool b))(hz:LaidW gs X.E)(hd:ltB d X.n=true)(hc:allP cs)
  (k:JK X (.ops true all l::fr) QA ⟨(d,(.val .bool b))::L,H,nx⟩):JK X (.ops true all (⟨some d,op,ty,ps,af,none⟩::l)::fr) QA ⟨L,H,nx⟩:=
 z4d (g:=none) (r:=(.val .bool b)) (s:=⟨L,H,nx⟩) rfl h hf hz rfl trivial (y6 hd) hc k
def z9m(hg:gOf all L (some gg)=some g)(hgt:g=true)(h:callA X.T op ⟨L,H,nx⟩=some (cs,f,.anil))(hf:FnZ (Laid gs) X.P f (.bool b))(hz:LaidW gs X.E)(hd:ltB d X.n=true)(hc:allP cs)
  (k:JK X (.ops true all l::fr) QA ⟨(d,(.val .bool b))::L,H,nx⟩):JK X (.ops true all (⟨some d,op,ty,ps,af,some gg⟩::l)::fr) QA ⟨L,H,nx⟩:=
 z4d (g:=some g) (r:=(.val .bool b)) (s:=⟨L,H,nx⟩) ⟨hg,hgt⟩ h hf hz rfl trivial (y6 hd) hc k
end
end Ox
namespace Ox
open Go Go.RowKit
section
variable {X:Ctx}{s:S}{M:Mem}{ρ:Env}{a:Act}{w:World}{QA:Exit→S→Prop}{all l:List Oper}{md:Bool}{o:Oper}
end
section
variable {X:Ctx}{QA:Exit→S→Prop}{all l:List Oper}{md:Bool}{op:Op}{L:List (Nat×AV)}{H:List (Nat×HO)}{nx d:Nat}{cs:List Prop}{ty:TypeId}{ps:String}{af:Array Edge}{g:Bool}{gg:Nat×Bool}{rr:List Fr}{f:FuncId}{args r:AV}
end
section
variable {X:Ctx}{s:S}{QA:Exit→S→Prop}{all l:List Oper}{o:Oper}
end
end Ox
namespace Ox.Sh
def j3m{l l':List Sh}{δ:Nat→Int}(h:∀ n,da (l.getD n z0)=da (l'.getD n z0)+δ n∧0≤δ n∧dr (l.getD n z0)=dr (l'.getD n z0)∧dp (l.getD n z0)=dp (l'.getD n z0)) :
  ∀ (o:List Nat) (p q:Int×Int) (c:Int),(p.1≤q.1∧q.1≤p.1+c)→(p.2≤q.2∧q.2≤p.2+c) →
   ((endP l' p o).1≤(endP l q o).1∧(endP l q o).1≤(endP l' p o).1+(c+sm δ o))∧(endP l' p o).2≤(endP l q o).2∧(endP l q o).2≤(endP l' p o).2+(c+sm δ o)
 |[],p,q,c,h1,h2=>by simp[endP,sm];exact⟨h1,h2⟩
 |n::o,p,q,c,h1,h2=>by
  obtain⟨k1,k2,k3,k4⟩:=h n;have ih:=j3m h o (nx l' p n) (nx l q n) (c+δ n) (by
   show p.1+da (l'.getD n z0)≤q.1+da (l.getD n z0)∧q.1+da (l.getD n z0)≤p.1+da (l'.getD n z0)+(c+δ n);omega) (by
   show Max.max (p.1+da (l'.getD n z0)+dr (l'.getD n z0)) p.2+dp (l'.getD n z0)≤Max.max (q.1+da (l.getD n z0)+dr (l.getD n z0)) q.2+dp (l.getD n z0)∧Max.max (q.1+da (l.getD n z0)+dr (l.getD n z0)) q.2+dp (l.getD n z0)≤Max.max (p.1+da (l'.getD n z0)+dr (l'.getD n z0)) p.2+dp (l'.getD n z0)+(c+δ n);omega)
  rw[q0k,q0k,v9];omega
variable{l l':List Sh}
def z14(h:∀ n,da (l.getD n z0)=da (l'.getD n z0)+δ n∧0≤δ n∧dr (l.getD n z0)=dr (l'.getD n z0)∧dp (l.getD n z0)=dp (l'.getD n z0))(o:List Nat) :
  endS l' (0,0) o≤endS l (0,0) o∧endS l (0,0) o≤endS l' (0,0) o+sm δ o:=by
 have:=(j3m h o (0,0) (0,0) 0 (by simp) (by simp)).2;unfold endS;omega
def best_lip(h:∀ n,da (l.getD n z0)=da (l'.getD n z0)+δ n∧0≤δ n∧dr (l.getD n z0)=dr (l'.getD n z0)∧dp (l.getD n z0)=dp (l'.getD n z0)){O:List Nat→Prop}{m m' s:Int}
  (hs:∀ o,O o→sm δ o=s) (h1:∃ o,O o∧endS l (0,0) o=m) (h2:∀ o,O o→m≤endS l (0,0) o) (h3:∃ o,O o∧endS l' (0,0) o=m') (h4:∀ o,O o→m'≤endS l' (0,0) o):m'≤m∧m≤m'+s:=by
 obtain⟨o,o1,o2⟩:=h1;obtain⟨u,u1,u2⟩:=h3;have a1:=(z14 h o).1;have a2:=h4 o o1;have a3:=(z14 h u).2;have a4:=h2 u u1;have a5:=hs u u1;omega
def dayL(xs:List Int)(mo:List (List Int)):List Sh:=(List.range xs.length).map fun i=>(xs.getD i 0,(mo.getD i []).getD 0 0,(mo.getD i []).getD 1 0,())
def q7w(xs:List Int)(mo:List (List Int)):(dayL xs mo).length=xs.length:=by simp[dayL]
def z7o(h:n<xs.length):(dayL xs mo).getD n z0=(xs.getD n 0,(mo.getD n []).getD 0 0,(mo.getD n []).getD 1 0,()):=by simp[dayL,List.getD,h]
def z7n(h:¬ n<xs.length):(dayL xs mo).getD n z0=z0:=by rw[yyj,yxe (by rw[q7w];omega)];rfl
def dayL_ok(hx:∀ n,n<xs.length→0≤xs.getD n 0∧xs.getD n 0≤1000)(hm:∀ n,0≤(mo.getD n []).getD 0 0∧(mo.getD n []).getD 0 0≤255∧0≤(mo.getD n []).getD 1 0∧(mo.getD n []).getD 1 0≤255):okD (dayL xs mo):=fun s hs=>by obtain⟨n,hn,rfl⟩:=yy0.1 hs;have h1:=hx n (yys.1 hn);have h2:=hm n;show 0≤xs.getD n 0∧xs.getD n 0≤1000∧0≤(mo.getD n []).getD 0 0∧(mo.getD n []).getD 0 0≤1000∧0≤(mo.getD n []).getD 1 0∧(mo.getD n []).getD 1 0≤1000;omega
def gapL(xs ys:List Int)(n:Nat):Int:=xs.getD n 0-ys.getD n 0
def day_lip(hl:xs.length=ys.length)(h:∀ n,n<xs.length→ys.getD n 0≤xs.getD n 0)(n:Nat) :
  da ((dayL xs mo).getD n z0)=da ((dayL ys mo).getD n z0)+gapL xs ys n∧0≤gapL xs ys n∧dr ((dayL xs mo).getD n z0)=dr ((dayL ys mo).getD n z0)∧dp ((dayL xs mo).getD n z0)=dp ((dayL ys mo).getD n z0):=by
 by_cases hn:n<xs.length
 ·rw[z7o hn,z7o (by omega)];have:=h n hn;show xs.getD n 0=ys.getD n 0+(xs.getD n 0-ys.getD n 0)∧0≤xs.getD n 0-ys.getD n 0∧_∧_;exact⟨by omega,by omega,rfl,rfl⟩
 ·rw[z7n hn,z7n (by omega)];unfold gapL;rw[yyj,yyj,yxe (by omega),yxe (by omega)];exact⟨rfl,Int.le_refl _,rfl,rfl⟩
def j21(ho:o.Perm (List.range xs.length)):sm (gapL xs ys) o=sm (gapL xs ys) (List.range xs.length):=q6f ho
def gap_snoc(hl:xs.length=ys.length):sm (gapL (xs++[x]) (ys++[y])) (List.range (xs++[x]).length)=sm (gapL xs ys) (List.range xs.length)+(x-y):=by
 rw[yyw,List.length_singleton,List.range_succ,q92];have h1:sm (gapL (xs++[x]) (ys++[y])) (List.range xs.length)=sm (gapL xs ys) (List.range xs.length):=by unfold sm;refine congrArg List.sum (List.map_congr_left fun n hn=>?_);have hn:=yys.1 hn;unfold gapL;rw[yyj,yyj,List.getElem?_append_left hn,List.getElem?_append_left (by omega),← yyj,← yyj]
 have h2:gapL (xs++[x]) (ys++[y]) xs.length=x-y:=by unfold gapL;rw[yyj,yyj,List.getElem?_append_right (yyn _),List.getElem?_append_right (by omega),hl];simp
 rw[h1,v9,h2];simp[sm]
end Ox.Sh
namespace Ox
open Go Go.RowKit
variable {X:Ctx}{s:S}{M:Mem}{ρ:Env}{a:Act}{w w':World}{QA:Exit→S→Prop}{all l:List Oper}{o:Oper}
structure FnRow(P:Program)(f:FuncId)(args:AV)(eid:TypeId)(e:Ty)(xs:List e.den):Prop where
 call:∀ az w,(callFunc f az).run P w=.ok (.enter f az) w
 run:∀ M ρ w vs,MemIn M w→args.rvs M ρ vs→args.bd 0→Calls P f vs.toArray w fun en w'=>∃ v cs M',en=Ending.returned v∧w'.ownsRow w.heap.size eid e.size v xs.length cs∧RL M' e xs cs∧Below w.heap.size w w'∧M.le M'∧MemIn M' w'∧(∀ b,b<w.heap.size→M' b=M b)∧∀ b,v.ownBlock=some b→M' b=none
def rowQ(fn:Func)(eid:TypeId)(e:Ty)(xs:List e.den)(ex:Exit)(s:S):Prop:=(ex=.ret∨ex=.normal)∧∃ d m,fn.results.toList=[.tmp d]∧lk s.L d=some (.lf (.osl m))∧lk s.H m=some (.sl eid e xs)
variable{P:Program}{args:AV}
def FnRow.intro{T:List (Nat×Ty)}{ET:List (Nat×Nat)}{MT:List (Nat×(Nat×Nat))}{f:FuncId}{c:Code}{eid:TypeId}{e:Ty}{xs:List e.den}(hf:P.funcs[f]?=some fn)(hb:fn.body=some c)
  (hcall:∀ az w,(callFunc f az).run P w=.ok (.enter f az) w) (hn:argN args≤fn.ntmps) (h:∀ E M0 up,JC ⟨P,T,ET,MT,E,M0,fn.ntmps,none,up,0⟩ c (rowQ fn eid e xs) ⟨argL args 0,[],0⟩):FnRow P f args eid e xs:=by
 refine⟨hcall,fun M ρ w vs hM hvs hbd=>(callsIn_wide (n:=0)).1 (callsIn_of_wp_marks hf hb trivial ?_ rfl)⟩
 let up0:Nat→Nat→Value:=fun _ _=>Go.undef
 have hsat:SAT ⟨P,T,ET,MT,w,M,fn.ntmps,none,up0,0⟩ M ρ ⟨argL args 0,[],0⟩ w:=⟨Below.refl _ _,fun _ _ h=>h,fun _ _=>rfl,hM,fun l o h=>by simp[lk] at h,fun l l' o o' b h=>by simp[lk] at h,fun l o b h=>by simp[lk] at h⟩
 have hreg:REG ⟨P,T,ET,MT,w,M,fn.ntmps,none,up0,0⟩ M ρ ⟨argL args 0,[],0⟩ {tmps:=vs.toArray++Array.replicate (fn.ntmps-vs.toArray.size) Go.undef,defers:=[]}:=REG.args hvs hbd rfl hn;refine wpIn_mono (h w M up0 M ρ _ w hsat hreg) ?_;rintro ex a1 w1 ⟨M2,ρ1,s1,k1',k2',hex,d,m,hr1,hr2,hr3⟩;obtain⟨Ds,hds,hnd,hDs,_⟩:=k2'.defers;have fin:LeavesInM Fence.wide 0 P fn a1.tmps (fun en w'=>∃ v cs M',en=Ending.returned v∧w'.ownsRow w.heap.size eid e.size v xs.length cs∧RL M' e xs cs∧Below w.heap.size w w'∧M.le M'∧MemIn M' w'∧(∀ b,b<w.heap.size→M' b=M b)∧∀ b,v.ownBlock=some b→M' b=none) a1.defers .returning w1:=by
  rw[hds];refine q4u hnd (fun D hD=>k1'.mem _ _ (hDs D hD).2) fun w' hbel hkeep=>?_;obtain⟨hle,k1⟩:=k1'.taken (fun D hD=>by
   show M D=none;cases hMD:M D with
   |none=>rfl
   |some o=>have h1:=(yym.1 (hM D o hMD)).1;have h2:w.heap.size≤D:=(hDs D hD).1;omega) hDs hbel hkeep
  have hown:=(k1.own m _ hr3).2.2;simp only[HO.ok] at hown;obtain⟨_,cs,hrow,hrl⟩:=hown;have hv:=(k2'.reg d _ hr2).2;rw[y7] at hv;simp only[Leaf.at,yya] at hv;refine⟨ρ1.sv m,?_,ρ1.sv m,cs,M2.without Ds,rfl,hrow,hrl,k1.below,fun b c ty fz hm=>k1.msub b _ hm,k1.mem,fun b hlt=>k1.mnew b hlt,fun b hb=>k1.notM m _ b hr3 hb⟩;have hrs:(fn.results.toList.mapM (resOne a1.tmps)).run P w'=.ok [ρ1.sv m] w':=by rw[hr1];simp only[List.mapM_cons,List.mapM_nil,resOne,yye,yyf,yyb,hv.1]
  have:=q14 hrs;simpa using this
 rcases hex with rfl|rfl
 ·exact fin
 ·exact fin
variable {md:Bool}
variable {L:List (Nat×AV)}{H:List (Nat×HO)}{nx m lo hi:Nat}{t:TypeId}{e:Ty}{eid:TypeId}{xs:List e.den}{c1:List Prop}{x:Operand}{ty:TypeId}{ps:String}{af:Array Edge}{f:Bool}
def q96{ad:Option Addr}{cap:Nat}(hs:P.underlying t=some (.slice eid)):(Builtin.clear_ #[t] ty #[.slice ad 0 cap]).run P w=.ok (.tuple #[]) w:=by cases ad<;>simp[Builtin.clear_,run_underlying hs]
def j5c(hX:XOK X)(hu:opd L x=some (c1,.lf (.ovw m lo hi f)))(hl:lk H m=some (.sl eid e xs))(ht:lk X.T t=some (.slice e))(hhi:hi=xs.length)(hlo:lo≤xs.length)(hc:allP c1)
  (k:JL X true all QA l ⟨L,updH H m (.sl eid e (xs.take lo++List.replicate (hi-lo) e.dflt)),nx⟩) :
  JL X true all QA (⟨none,.call {callee:=.builtin .clear,args:=#[x],argTypes:=#[t]},ty,ps,af,none⟩::l) ⟨L,H,nx⟩:=by
 refine q3n rfl rfl trivial (v:=.tup .anil) (s':=⟨L,updH H m (.sl eid e (xs.take lo++List.replicate (hi-lo) e.dflt)),nx⟩) (fun M ρ a w h1 h2=>?_) k;have eu:=z6 hu hc h2;rw[y7] at eu;simp only[Leaf.at,yya] at eu;have hok:=p5 h1 hl;simp only[HO.ok] at hok;obtain⟨hty,cs0,hrow,hrl⟩:=hok;have hto:=hX.t _ _ ht;simp only[TyOf] at hto;obtain⟨eid',hs,he⟩:=hto;obtain⟨d,hi',_⟩:=he.info;subst hhi;have hexec:∀ v' w',(Builtin.clear_ #[t] ty #[a.eval x]).run X.P w=.ok v' w' →
   (execOp a.eval {dst:=none,op:=.call {callee:=.builtin .clear,args:=#[x],argTypes:=#[t]},type:=ty,pos:=ps,after:=af,guard:=none}).run X.P w=.ok (.value v') w':=by
  intro v' w' hr;simp only[execOp,resolve,invoke,builtin,yye,yyf,yyb,List.map_toArray,yy4,List.map_nil,hr]
 have hrlz:RL M e (List.replicate (xs.length-lo) e.dflt) (List.replicate (xs.length-lo) e.zc).flatten:=RL.replicate (w7 M e) _;have hrl2:=(hrl.take lo).append hrlz;have hlen2:(xs.take lo++List.replicate (xs.length-lo) e.dflt).length=xs.length:=by simp;omega
 rcases hrow.2 with⟨e1,hn⟩|⟨g,cap,cur,hsv,hg1,hg2,hg3,hg4,hg5,hg6⟩
 ·have hx:xs=[]:=yxn hn;subst hx;refine⟨ρ,w,.value (.tuple #[]),hexec _ _ ?_,Env.upTo.refl _ _,yyn _,rfl,?_,trivial,.inl ⟨_,rfl,by simp only[AV.rv,AV.rvs];exact⟨[],rfl,rfl⟩⟩⟩
  ·rw[← eu.2.1,e1];simp only[sview,List.length_nil,Nat.zero_sub];exact q96 hs.under
  ·refine h1.upd hl (q09 w _) rfl trivial ?_;simp only[HO.ok];simp only[List.take_nil,List.length_nil,Nat.zero_sub,List.replicate_zero,yxv];exact⟨hty,cs0,hrow,hrl⟩
 ·by_cases hz:lo=xs.length
  ·have hxs:xs.take lo++List.replicate (xs.length-lo) e.dflt=xs:=by rw[hz];simp
   refine⟨ρ,w,.value (.tuple #[]),hexec _ _ ?_,Env.upTo.refl _ _,yyn _,rfl,?_,trivial,.inl ⟨_,rfl,by simp only[AV.rv,AV.rvs];exact⟨[],rfl,rfl⟩⟩⟩
   ·rw[← eu.2.1,hsv];simp only[sview,hz,Nat.sub_self];exact q96 hs.under
   ·refine h1.upd hl (q09 w _) rfl trivial ?_;rw[hxs];simp only[HO.ok];exact⟨hty,cs0,hrow,hrl⟩
  ·have hlt:lo<xs.length:=by omega
   have hzl:(List.replicate (xs.length-lo) e.zc).flatten.length=(xs.length-lo)*e.size:=by have:=hrlz.1;simpa using this
   have hcl:cs0.length=xs.length*e.size:=hrl.1;have hm1:lo*e.size+(xs.length-lo)*e.size=xs.length*e.size:=by rw[← yxa];congr 1;omega
   have hm2:xs.length*e.size≤cap*e.size:=yyz _ hg3;have hst:=run_storeCells_at X.P g (lo*e.size) eid (List.replicate (xs.length-lo) e.zc).flatten 0 cur w hg2 (by rw[hzl,hg5];omega) hrlz.one;have hzz:(Builtin.zeroCells (e.wrap e.zc).cells (xs.length-lo)).toList=(List.replicate (xs.length-lo) e.zc).flatten:=by rw[y4 (s8 e) (w7 (fun _=>none) e).one];unfold Builtin.zeroCells;exact q0v _ e.zc
   refine⟨ρ,w.setRow g (splice cur.toList (lo*e.size) (List.replicate (xs.length-lo) e.zc).flatten).toArray,.value (.tuple #[]),hexec _ _ ?_,Env.upTo.refl _ _,yyn _,rfl,?_,trivial,.inl ⟨_,rfl,by simp only[AV.rv,AV.rvs];exact⟨[],rfl,rfl⟩⟩⟩
   ·have hst2:(storeCells ⟨g,lo*e.size,none⟩ (List.replicate (xs.length-lo) e.zc).flatten).run X.P w=.ok () (w.setRow g (splice cur.toList (lo*e.size) (List.replicate (xs.length-lo) e.zc).flatten).toArray):=by simpa[splice] using hst
    have hsw:∃ cp,sview (.slice (some ⟨g,0,none⟩) xs.length cap) e.size lo xs.length f=.slice (some ⟨g,lo*e.size,none⟩) (xs.length-lo) cp:=by
     refine⟨(if f=true then xs.length else cap)-lo,?_⟩;have hne:¬ (if f=true then xs.length else cap)=lo:=by split<;>omega
     simp only[sview,if_neg hne];simp[z7]
    obtain⟨cp,hsw⟩:=hsw;rw[← eu.2.1,hsv,hty,hsw];obtain⟨q,hq⟩:∃ q,xs.length-lo=q+1:=⟨xs.length-lo-1,by omega⟩;rw[hq] at hst2 hzz ⊢;simp[Builtin.clear_,run_underlying hs.under,hi'.run_zero,hzz,hst2]
   ·refine h1.upd hl (by rw[HO.at,hsv];exact e8 _ _ _) rfl trivial ?_;simp only[HO.ok];refine⟨hty,_,?_,hrl2⟩;have hln:(splice cur.toList (lo*e.size) (List.replicate (xs.length-lo) e.zc).flatten).length=cap*e.size:=by rw[t5 _ _ _ (by rw[hzl];simp;omega)];simpa using hg5
    have:=q42 (new:=splice cur.toList (lo*e.size) (List.replicate (xs.length-lo) e.zc).flatten) (size:=e.size) hsv hg1 hg2 hg3 hg4 hln (by rw[yy3,hln];omega);have e5:splice (List.take (xs.length*e.size) cur.toList) (lo*e.size) (List.replicate (xs.length-lo) e.zc).flatten=cs0.take (lo*e.size)++(List.replicate (xs.length-lo) e.zc).flatten:=by rw[hg6,splice,List.drop_eq_nil_of_le (by rw[hzl,hcl];omega),yxv]
    rw[q4y _ _ _ _ (by rw[hzl];omega) (by simp;omega),e5] at this;rw[hlen2];exact this
variable{r:List Fr}
def j5i(hX:XOK X)(hu:opd L x=some (c1,.lf (.ovw m lo hi f)))(hl:lk H m=some (.sl eid e xs))(ht:lk X.T t=some (.slice e))(hhi:hi=xs.length)(hlo:lo≤xs.length)(hc:allP c1)
  (k:JK X (.ops true all l::r) QA ⟨L,updH H m (.sl eid e (xs.take lo++List.replicate (hi-lo) e.dflt)),nx⟩) :
  JK X (.ops true all (⟨none,.call {callee:=.builtin .clear,args:=#[x],argTypes:=#[t]},ty,ps,af,none⟩::l)::r) QA ⟨L,H,nx⟩:=j5c hX hu hl ht hhi hlo hc k
variable{L':List (Nat×AV)}{H':List (Nat×HO)}
def j44(hd:lk L d=some (.lf (.ovw m 0 hi false)))(hl:lk H m=some (.sl eid e xs))(hhi:hi≤xs.length)(hL:∀ d v,lk L' d=some v→lk L d=some v)(hH:subH H H')(hm:lk H' m=none) :
  JW X ⟨(d,.lf (.osl nx))::L',(nx,.sl eid e (xs.take hi))::H',nx+1⟩ ⟨L,H,nx⟩:=by
 intro M ρ a w h1 h2;have hok:=p5 h1 hl;simp only[HO.ok] at hok;obtain⟨hty,cs0,hrow,hrl⟩:=hok;have hdv:=(h2.reg d _ hd).2;rw[y7] at hdv;simp only[Leaf.at,yya] at hdv;obtain⟨hdv,_⟩:=hdv;have hlen:(xs.take hi).length=hi:=by simp;omega
 have key:∃ v,sview (ρ.sv m) (ρ.ty m).size 0 hi false=v∧w.ownsRow X.E.heap.size eid e.size v (xs.take hi).length (cs0.take (hi*e.size))∧(∀ b,v.ownBlock=some b→(ρ.sv m).ownBlock=some b):=by
  rcases hrow.2 with⟨e1,hn⟩|⟨g,cap,cur,hsv,hg1,hg2,hg3,hg4,hg5,hg6⟩
  ·have h0:hi=0:=by omega
   subst h0;refine⟨.slice none 0 0,by rw[e1];rfl,⟨by simp,.inl ⟨rfl,by simp⟩⟩,fun b hb=>by simp[Value.ownBlock] at hb⟩
  ·refine⟨.slice (some ⟨g,0,none⟩) hi cap,?_,⟨?_,.inr ⟨g,cap,cur,by rw[hlen],hg1,hg2,by rw[hlen];omega,hg4,hg5,?_⟩⟩,fun b hb=>by rw[hsv];exact hb⟩
   ·rw[hsv];simp[sview,Addr.add]
   ·rw[hlen,yy3,hrl.1];exact yxu (yyz _ hhi)
   ·rw[hlen,← hg6,List.take_take,yxu (yyz _ hhi)]
 obtain⟨v,hv1,hv2,hv3⟩:=key;have hrow1:∀ b,(ρ.sv m).ownBlock=some b→X.E.heap.size≤b∧M b=none:=h1.row hl;have hs:SAT X M (ρ.with nx 0 e v) ⟨L,(nx,.sl eid e (xs.take hi))::H',nx+1⟩ w:=by refine SAT.newRow (s:=⟨L,H,nx⟩) h1 (row:=(ρ.sv m).ownBlock) (q09 w _) (fun b hb=>hrow1 b hb) (fun k o hk=>⟨hH k o hk,fun b hb heq=>?_⟩) hv2 (hrl.take hi) (fun b hb=>.inl (hv3 b hb));have:=h1.apart k m o _ b (hH k o hk) hl hb heq;subst this;rw[hm] at hk;cases hk
 refine⟨ρ.with nx 0 e v,hs.regs _,h2.size,h2.defers,fun d' v' hd'=>?_⟩;simp only[lk] at hd';by_cases he:d=d'
 ·subst he;rw[if_pos rfl] at hd';injection hd' with hd';subst hd'
  refine⟨yxf _,?_⟩;rw[y7];refine⟨?_,?_⟩
  ·simp only[Leaf.at,Env.with,if_true];rw[← hdv,hv1]
  ·rw[← hdv,hv1];rcases hv2.2 with⟨e1,_⟩|⟨g,cap,cur,e1,_⟩<;>rw[e1]<;>rfl
 ·rw[if_neg he] at hd';obtain⟨f1,f2⟩:=h2.reg d' v' (hL d' v' hd');exact⟨w5 (yxp _) f1,w9 (Mem.le_refl M) (k9 _ _ _ _ _) f1 f2⟩
def JW.short(hd:lk L d=some (.lf (.ovw m 0 hi false)))(hl:lk H m=some (.sl eid e xs))(hhi:hi≤xs.length)(hL:subL L L')(hH:subH H H')(hm:lk H' m=none) :
  JW X ⟨(d,.lf (.osl nx))::L',(nx,.sl eid e (xs.take hi))::H',nx+1⟩ ⟨L,H,nx⟩:=j44 hd hl hhi (z2x hL) hH hm
variable{k:IntKind}
def RL.ints{M M':Mem}{xs:List Int}{cs:List Value}(h:RL M (.int k) xs cs):RL M' (.int k) xs cs:=⟨h.1,fun i hi=>by have:=h.2 i hi;simp only[Rep] at this ⊢;exact this⟩
def q9p{f:FuncId}(hg:o.guard=none)(h:callA X.T o.op s=some (cs,f,args))(hf:FnRow X.P f args eid (.int k) ys)(hd:dstOk X.n o.dst)(hc:allP cs)
  (kk:JL X true all QA l (putS o.dst (.lf (.osl s.nx)) ⟨s.L,(s.nx,.sl eid (.int k) ys)::s.H,s.nx+1⟩)):JL X true all QA (o::l) s:=by
 intro M ρ a w h1 h2;obtain⟨hb,vs,hvs,hrun⟩:=q01 h1 (q7l h1) h2 h hc;refine j7 (w6 hg) (m5 (q2a h) (by rw[hrun,hf.call]) (hf.run _ ρ w vs (q7k (Below.refl _ _)) hvs hb) ?_);rintro en w' ⟨v,cs',M',rfl,hrow,hrl,hbl,hm,hin,hnew,hno⟩;have h3:=h1.later hbl;have hv1:v.oneCell'=true:=by rcases hrow.2 with⟨e1,_⟩|⟨g,cap,cur,e1,_⟩<;>rw[e1]<;>rfl
 have hge:∀ b,v.ownBlock=some b→w.heap.size≤b:=fun b hb=>by
  rcases hrow.2 with⟨e1,_⟩|⟨g,cap,cur,e1,e2,_⟩
  ·rw[e1] at hb;cases hb
  ·rw[e1] at hb;simp only[Value.ownBlock,yya] at hb;subst hb;exact e2
 have h5:SAT X M (ρ.with s.nx 0 (.int k) v) ⟨s.L,(s.nx,.sl eid (.int k) ys)::s.H,s.nx+1⟩ w':=by
  refine h3.add (row:=none) ⟨rfl,rfl,rfl,yyn _,fun _ _ _=>rfl⟩ (fun b hb=>by cases hb) (fun l o hl=>⟨hl,fun b _ e=>by cases e⟩) (k9 _ _ _ _ _) trivial ?_ ?_
  ·simp only[HO.ok,Env.with,if_true];refine⟨trivial,cs',⟨hrow.1,?_⟩,hrl.ints⟩;rcases hrow.2 with e1|⟨g,cap,cur,e1,e2,e3⟩
   ·exact .inl e1
   ·exact .inr ⟨g,cap,cur,e1,Nat.le_trans h1.below.size e2,e3⟩
  ·intro b hbb;simp only[HO.at,Env.with,if_true] at hbb;have hb2:=hge b hbb;refine⟨?_,fun l o1 hl hat=>?_⟩
   ·cases hM:M b with
    |none=>rfl
    |some o=>have:=(yym.1 (h1.mem b o hM)).1;omega
   ·have:=(g9 (h1.own l o1 hl).2.2 hat).2;omega
 have h4:REG X M (ρ.with s.nx 0 (.int k) v) ⟨s.L,(s.nx,.sl eid (.int k) ys)::s.H,s.nx+1⟩ a:=h2.grow (Mem.le_refl M) (k9 _ _ _ _ _) (yxp _) (n5 M);refine⟨_,rfl,kk M _ _ w' (j9 h5) (h4.putO hd.spec (yxf _) ?_)⟩;rw[y7];exact⟨by simp[Leaf.at,Env.with],hv1⟩
variable{op:Op}{g:FuncId}
def z52(h:callA X.T op ⟨L,H,nx⟩=some (cs,g,args))(hf:FnRow X.P g args eid (.int k) ys)(hd:ltB d X.n=true)(hc:allP cs)
  (kk:JK X (.ops true all l::r) QA ⟨(d,.lf (.osl nx))::L,(nx,.sl eid (.int k) ys)::H,nx+1⟩):JK X (.ops true all (⟨some d,op,ty,ps,af,none⟩::l)::r) QA ⟨L,H,nx⟩:=q9p (s:=⟨L,H,nx⟩) rfl h hf (y6 hd) hc kk
def JL.CRI(h:callA X.T op ⟨L,H,nx⟩=some (cs,g,args))(hf:FnRow X.P g args eid (.int k) ys)(hd:ltB d X.n=true)
  (kk:JL X true all QA l ⟨(d,.lf (.osl nx))::L,(nx,.sl eid (.int k) ys)::H,nx+1⟩) (hc:allP cs):JL X true all QA (⟨some d,op,ty,ps,af,none⟩::l) ⟨L,H,nx⟩:=q9p (s:=⟨L,H,nx⟩) rfl h hf (y6 hd) hc kk
variable{p:Operand}
def j46{y:List e.den}(hX:XOK X)(hu:opd L p=some (c1,.val (.ptr (.arr n e)) (some y)))(ht:lk X.T t=some (.arr n e))(hn:n≤maxLen)(hd:ltB d X.n=true)(hc:allP c1)
  (k:JL X md all QA l ⟨(d,.val (.slice e) y)::L,H,nx⟩):JL X md all QA (⟨some d,.slice t p none none none,ty,ps,af,none⟩::l) ⟨L,H,nx⟩:=by
 refine JL.vq (s:=⟨L,H,nx⟩) (v:=.val (.slice e) y) rfl rfl (y6 hd) trivial (fun M ρ a w h1 h2=>?_) k;have eu:=(z6 hu hc h2).2;simp only[AV.rv] at eu;obtain⟨cs,hr,he⟩:=eu;simp only[Rep] at hr;obtain⟨b,off,c,tt,fz,rfl,hM,hrep⟩:=hr;obtain⟨hly,hrl⟩:=hrep;have hto:=hX.t _ _ ht;simp only[TyOf] at hto;obtain⟨eid,t1,t2⟩:=hto;obtain⟨dd,hi',_⟩:=t2.info;refine⟨.slice (some ⟨b,off,none⟩) n n,?_,fun w1=>?_⟩
 ·simp only[AV.rv];refine⟨[.slice (some ⟨b,off,none⟩) n n],?_,by simp[Ty.wrap,Ty.agg]⟩;simp only[Rep];refine⟨some ⟨b,off,none⟩,n,by rw[hly],Nat.le_of_eq hly,hn,(fun h=>by cases h),.inr ⟨b,off,c,tt,fz,rfl,hM,fun i hi=>?_⟩⟩;have h3:=hrl.2 i hi;have hle:(i+1)*e.size≤n*e.size:=yyz _ (by rw[← hly];exact hi);rw[yxa,Nat.one_mul] at hle;simp only[Ty.size] at h3;rw[List.drop_take,List.take_take,List.drop_drop,yxu (by omega)] at h3;exact h3
 ·have he':a.eval p=.pointer (some ⟨b,off,none⟩):=by rw[he];simp[Ty.wrap,Ty.agg]
  simp only[execOp,he',Instr.sliceAt,yye,run_underlying t1.under,yyb,Instr.sureAddr,yyf,Instr.sliceBounds,hi'.run_size,Nat.zero_mul,Nat.sub_zero,z7,Nat.add_zero,ite_self,Option.map]
def j5e{y:List e.den}(hX:XOK X)(hu:opd L p=some (c1,.val (.ptr (.arr n e)) (some y)))(ht:lk X.T t=some (.arr n e))(hn:n≤maxLen)(hd:ltB d X.n=true)(hc:allP c1)
  (k:JK X (.ops md all l::r) QA ⟨(d,.val (.slice e) y)::L,H,nx⟩):JK X (.ops md all (⟨some d,.slice t p none none none,ty,ps,af,none⟩::l)::r) QA ⟨L,H,nx⟩:=j46 hX hu ht hn hd hc k
end Ox
namespace Ox
open Go Go.RowKit Ox.Rn
def z2r{Z:Mem→Prop}{P:Program}{r:AV}(hr:r.scal=true)(h:FnL Z P f .anil (·=r)):FnZ Z P f r.toV where
 call:=h.call
 run:=fun M w hz hM=>by
  let ρ:Env:=⟨fun _=>0,fun _=>.bool,fun _=>Go.undef⟩
  refine(h.run M ρ w [] hz hM (by simp only[AV.rvs]) trivial).mono ?_;rintro e w' ⟨v,r',M',rfl,rfl,_,hv,hbl,_⟩;exact⟨by rw[(x6 hr).1 hv],hbl⟩
end Ox
namespace Go.Proofs.YtjmhhehhfeengaaGreatDoor
open Go Go.RowKit Ox Ox.Sh Ox.Rn
attribute [local irreducible] JC JL JK JW
abbrev vI'(n:Int):AV:=.val (.int .i64) n
abbrev vL'(xs:List Int):AV:=.val (.slice (.int .i64)) xs
abbrev vU'(xs:List Int):AV:=.val (.slice (.int .u8)) xs
abbrev daT:Ty:=.cons (.int .i64) (.cons (.int .i64) (.cons (.int .i64) .nil))
abbrev vDay(l:List Sh):AV:=.val (.slice daT) l
abbrev muT:Ty:=.arr 2 (.int .u8)
def gD(xs:List α)(h:i<xs.length)(d:α):xs.getD i d=xs[i]:=by simp[yyj,yyo h]
def dayK(xs:List Int)(mo:List (List Int))(k:Nat):List Sh:=(List.range k).map fun i=>(xs.getD i 0,(mo.getD i []).getD 0 0,(mo.getD i []).getD 1 0,())
def fn10(xs:List Int)(mo:List (List Int))(hl:xs.length≤5)(hm:mo.length=xs.length)(hmo:∀ u∈mo,∀ y∈u,0≤y∧y≤255):Ox.Fn Tryz.prog 10 (.acons (vL' xs) (.acons (.val (.slice muT) mo) .anil)) (·=vDay (dayL xs mo)):=by
 refine Ox.Fn.intro xok Tryz.func10 rfl Tryz.call10 (yyc rfl) (fun E M0 up=>?_);refine z5 ?_;refine JK.lenOf 1 rfl fun hlen=>?_;have h2:∀ i,i<mo.length→(mo.getD i []).length=2:=fun i hi=>by have h2:(mo.get ⟨i,hi⟩).length=2:=(hlen.2 i hi).1;rw[gD mo hi];exact h2
 clear hlen;refine zK0 ?_;refine JK.ghost 5 68 daT rfl ?_;refine JK.loop (fun i:Nat=>⟨[(0,vL' xs),(1,.val (.slice muT) mo),(5,.lf (.osl 0)),(6,vI' (i:Int))],[(0,.sl 68 daT (dayK xs mo i))],1⟩) (fun i=>i≤xs.length) (fun i=>xs.length-i) 0 (yy7 _) (by exact zJ) fun i hi=>?_;have hsn:dayK xs mo (i+1)=dayK xs mo i++[(xs.getD i 0,(mo.getD i []).getD 0 0,(mo.getD i []).getD 1 0,())]:=by unfold dayK;rw[List.range_succ,yx5];rfl
 have hln:(dayK xs mo i).length=i:=by simp[dayK]
 have hfin:i=xs.length→dayK xs mo i=dayL xs mo:=fun e=>by rw[e];rfl
 generalize dayK xs mo i=D at hsn hln hfin ⊢;refine zK0 ?_;refine q7 rfl (fun hc=>?_) (fun hc=>?_)
 ·replace hc:=zC hc;have hi':i<xs.length:=by omega
  have h2:=h2 i (by omega);have hb:∀ j,0≤(mo.getD i []).getD j 0∧(mo.getD i []).getD j 0≤255:=fun j=>by
   by_cases hj:j<(mo.getD i []).length
   ·rw[gD _ hj];exact hmo (mo.getD i []) (by rw[gD mo (by omega)];exact yyv (by omega)) _ (yyv hj)
   ·rw[yyj,yxe (by omega)];exact⟨Int.le_refl _,by decide⟩
  have e0:mo.getD (Int.toNat (i:Int)) muT.dflt=mo.getD i []:=by show mo.getD i muT.dflt=mo.getD i [];rw[gD mo (by omega),gD mo (by omega)]
  have hb0:=hb 0;have hb1:=hb 1;have q0:(mo.getD (Int.toNat (i:Int)) muT.dflt).getD (Int.toNat 0) (Ty.int .u8).dflt=(mo.getD i []).getD 0 0:=by rw[e0];rfl
  have q1:(mo.getD (Int.toNat (i:Int)) muT.dflt).getD (Int.toNat 1) (Ty.int .u8).dflt=(mo.getD i []).getD 1 0:=by rw[e0];rfl
  rw[← q0] at hb0;rw[← q1] at hb1;rw[← e0] at h2;rw[← q0,← q1] at hsn
  (repeat (first|refine zs rfl ?_|refine zg rfl rfl rfl ?_|refine j6 ?_|refine j5 ?_))
  refine q37 xk (Tryz.f10.body.getD .skip) ⟨[(0,vL' xs),(1,.val (.slice muT) mo),(5,.lf (.osl 0)),(6,vI' (i:Int))],[(0,.sl 68 daT (D++[(xs.getD (Int.toNat (i:Int)) (Ty.int .i64).dflt,(mo.getD (Int.toNat (i:Int)) muT.dflt).getD (Int.toNat 0) (Ty.int .u8).dflt,(mo.getD (Int.toNat (i:Int)) muT.dflt).getD (Int.toNat 1) (Ty.int .u8).dflt,())]))],1⟩ rfl 21 rfl ?_ ?_
  ·(refine q9 0 xk rfl rfl (q9 1 xk rfl rfl (q9 2 xk rfl rfl (q9 3 xk rfl rfl (q9 5 xk rfl rfl (q9 6 xk rfl rfl (q9 7 xk rfl rfl (q9 8 xk rfl rfl (q9 11 xk rfl rfl (q9 12 xk rfl rfl (q9 13 xk rfl rfl (q9 14 xk rfl rfl (z8 4 xk rfl rfl (z8 9 xk rfl rfl (z8 10 xk rfl rfl (z8 15 xk rfl rfl (z8 16 xk rfl rfl (zU 17 xk rfl rfl ?_)))))))))))))))));(first|refine q4n xk rfl rfl ?_|refine q7h xk rfl rfl ?_);refine w8 ?_;refine zU 18 xk rfl rfl ?_;(refine q7h xk rfl rfl ?_);refine w8 ?_;refine zU 19 xk rfl rfl ?_;(first|refine q7h xk rfl rfl ?_|refine JL.M0 xk rfl ?_|refine q4n xk rfl rfl ?_);refine w8 ?_;refine z8 20 xk rfl rfl ?_;refine n8 xk ?_ ?_;exact zS;(exact zJ))
  rw[show xs.getD (Int.toNat (i:Int)) (Ty.int .i64).dflt=xs.getD i 0 from rfl,← hsn];refine zK0 ?_;exact⟨i+1,by exact zJ,by omega,by omega⟩
 ·replace hc:=zC hc;rw[hfin (by omega)]
  (refine q9x [0] [5] rfl ?_)
  refine zK0 ?_;refine⟨.inl rfl,_,_,rfl,trivial,?_⟩;rfl
abbrev vB'(b:Bool):AV:=.val .bool b
abbrev vT2'(a b:Int):AV:=.tup (.acons (vI' a) (.acons (vI' b) .anil))
abbrev vTL'(l:List Int)(e:Int):AV:=.tup (.acons (vL' l) (.acons (vI' e) .anil))
abbrev vT3'(a b c:Int):AV:=.tup (.acons (vI' a) (.acons (vI' b) (.acons (vI' c) .anil)))
abbrev vTLI(l:List Int)(m e:Int):AV:=.tup (.acons (vL' l) (.acons (vI' m) (.acons (vI' e) .anil)))
abbrev vTnm(n m:Int)(b:Bool):AV:=.tup (.acons (vI' n) (.acons (vI' m) (.acons (vB' b) .anil)))
def fn9{l:List Sh}{u o bo:List Int}{n m e:Int}(he:e=0)(c21:Ox.Fn Tryz.prog 21 (.acons (vDay l) .anil) (·=vI' e))(c23:Ox.Fn Tryz.prog 23 (.acons (vDay l) (.acons (vU' u) .anil)) (·=vL' o))
  (c22:Ox.Fn Tryz.prog 22 (.acons (vDay l) (.acons (vL' o) .anil)) (·=vT2' n 0)) (c24:Ox.Fn Tryz.prog 24 (.acons (vDay l) .anil) (·=vTLI bo m 0))
  (c25:Ox.Fn Tryz.prog 25 (.acons (vDay l) (.acons (vL' bo) .anil)) (·=vT2' m 0)) (hmn:m≤n):Ox.Fn Tryz.prog 9 (.acons (vDay l) (.acons (vU' u) .anil)) (·=vTnm n m true):=by
 refine Ox.Fn.intro xok Tryz.func9 rfl Tryz.call9 (yyc rfl) (fun E M0 up=>?_);refine z5 ?_
 (repeat (first|refine zs rfl ?_|refine zg rfl rfl rfl ?_|refine zd ?_|refine j6 ?_|refine j5 ?_|refine zc rfl (c21) rfl rfl ?_|refine ze rfl (c21) rfl ?_|refine zk rfl rfl (fun _=>c21) rfl rfl ?_))
 refine q7 rfl (fun h=>absurd h (by simp[he])) (fun _=>?_)
 (repeat (first|refine zs rfl ?_|refine zg rfl rfl rfl ?_|refine zd ?_|refine j6 ?_|refine j5 ?_|refine zc rfl (c23) rfl rfl ?_|refine ze rfl (c23) rfl ?_|refine zk rfl rfl (fun _=>c23) rfl rfl ?_|refine zc rfl (c22) rfl rfl ?_|refine ze rfl (c22) rfl ?_|refine zk rfl rfl (fun _=>c22) rfl rfl ?_|refine zc rfl (c24) rfl rfl ?_|refine ze rfl (c24) rfl ?_|refine zk rfl rfl (fun _=>c24) rfl rfl ?_|refine zc rfl (c25) rfl rfl ?_|refine ze rfl (c25) rfl ?_|refine zk rfl rfl (fun _=>c25) rfl rfl ?_))
 refine⟨.inl rfl,_,_,rfl,trivial,?_⟩;have h1:decide (m≤n)=true:=decide_eq_true hmn;simp[h1]
abbrev PtD:=Int×Int×Unit
abbrev ptK:Ty:=.cons (.int .i64) (.cons (.int .i64) .nil)
abbrev seK:Ty:=.cons (.int .i64) (.cons (.slice ptK) .nil)
abbrev SeD:=Int×List PtD×Unit
abbrev vSeK(z:SeD):AV:=.val seK z
structure SeamK(seE lst pk pa ape:SeD→Int)(bst api:SeD→List Int):Prop where
 c5:∀ z,Ox.Fn Tryz.prog 5 (.acons (vSeK z) .anil) (·=vI' (seE z))
 c6:∀ z,Ox.Fn Tryz.prog 6 (.acons (vSeK z) .anil) (·=vTLI (bst z) (lst z) (seE z))
 c7:∀ z,Ox.Fn Tryz.prog 7 (.acons (vSeK z) .anil) (·=vT3' (pk z) (pa z) (seE z))
 c8:∀ z,Ox.Fn Tryz.prog 8 (.acons (vSeK z) .anil) (·=vTL' (api z) (ape z))
 fact:∀ z,seE z=0→0≤pk z∧((ape z=0∧lst z=pk z+1)∨(ape z=5∧lst z=pk z))
def bdL(xs:List Int):Prop:=∀ n,n<xs.length→0≤xs.getD n 0∧xs.getD n 0≤1000
def leL(ys xs:List Int):Prop:=∀ n,n<xs.length→ys.getD n 0≤xs.getD n 0
def z7w(h:bdL xs)(h0:0≤x∧x≤1000):bdL (xs++[x]):=fun n hn=>by
 rw[yyw,List.length_singleton] at hn;rw[yyj];by_cases e:n<xs.length
 ·rw[List.getElem?_append_left e,← yyj];exact h n e
 ·rw[List.getElem?_append_right (by omega),show n-xs.length=0 by omega];exact h0
def leL_snoc(hl:xs.length=ys.length)(h:leL ys xs)(h0:y≤x):leL (ys++[y]) (xs++[x]):=fun n hn=>by
 rw[yyw,List.length_singleton] at hn;rw[yyj,yyj];by_cases e:n<xs.length
 ·rw[List.getElem?_append_left e,List.getElem?_append_left (by omega),← yyj,← yyj];exact h n e
 ·rw[List.getElem?_append_right (by omega),List.getElem?_append_right (by omega),show n-xs.length=0 by omega,show n-ys.length=0 by omega];exact h0
def gapS(xs ys:List Int):Int:=sm (gapL xs ys) (List.range xs.length)
variable {gs:List Gt}
abbrev L3(ss:List SeD)(mo:List (List Int))(u:List Int)(A:Int)(i:Nat):List (Nat×AV):=[(0,.val (.slice seK) ss),(1,.val (.slice muT) mo),(2,vU' u),(6,vB' false),(7,.lf (.osl 0)),(8,.lf (.osl 1)),(9,vI' A),(10,vI' (i:Int))]
abbrev H3(xs ys:List Int):List (Nat×HO):=[(0,.sl 2 (.int .i64) xs),(1,.sl 2 (.int .i64) ys)]
set_option maxHeartbeats 4000000 in
def fn3(h4:FnZ (Laid gs) Tryz.prog 4 (.bool true)){seE lst pk pa ape:SeD→Int}{bst api:SeD→List Int}(hS:SeamK seE lst pk pa ape bst api)(ss:List SeD)(mo:List (List Int))(hmo:∀ m∈mo,∀ y∈m,0≤y∧y≤255)(u:List Int)
  {EN LE:List Int→Int} (hE:u.length≤30→∀ xs,1≤xs.length→xs.length≤5→mo.length=xs.length→bdL xs→Ox.Fn Tryz.prog 9 (.acons (vDay (dayL xs mo)) (.acons (vU' u) .anil)) (·=vTnm (EN xs) (LE xs) true))
  (hB:∀ xs,xs.length≤5→bdL xs→(0≤EN xs∧EN xs≤1000000)∧0≤LE xs∧LE xs≤1000000)
  (hF:∀ xs ys,1≤xs.length→xs.length=ys.length→bdL xs→bdL ys→leL ys xs→(EN ys≤EN xs∧EN xs≤EN ys+gapS xs ys)∧LE ys≤LE xs∧LE xs≤LE ys+gapS xs ys) :
  FnE gs Tryz.prog 3 (.acons (.val (.slice seK) ss) (.acons (.val (.slice muT) mo) (.acons (vU' u) .anil))) (·=vB' true):=by
 refine Ox.FnX.intro xok Tryz.func3 rfl Tryz.call3 (yyc rfl) (fun E M0 up hz=>?_);refine z5 ?_;refine JK.lenOf 0 rfl fun hlen=>?_;replace hlen:ss.length≤9223372036854775807:=hlen.1;refine JK.lenOf 1 rfl fun hlen2=>?_;replace hlen2:mo.length≤9223372036854775807:=hlen2.1;refine JK.lenOf 2 rfl fun hlen3=>?_;replace hlen3:u.length≤9223372036854775807:=hlen3.1;refine zK0 ?_;refine q7 rfl (fun hc=>?_) (fun hc=>?_)
 ·refine zK0 ?_;refine q9q rfl h4 hz rfl trivial ?_;refine zK0 ?_;refine⟨.inl rfl,_,_,rfl,trivial,?_⟩;rfl
 have hcc:(1≤ss.length∧ss.length≤5)∧mo.length=ss.length∧u.length≤30:=by
  by_cases h1:(ss.length:Int)<1
  ·simp[h1] at hc
  ·by_cases h2:(5:Int)<ss.length
   ·simp[h1,h2] at hc
   ·by_cases h3:(mo.length:Int)=ss.length
    ·by_cases h5:(30:Int)<u.length
     ·simp[h1,h2,h3,h5] at hc
     ·omega
    ·simp[h1,h2,h3] at hc
 obtain⟨⟨s1,s5⟩,hms,hu⟩:=hcc;clear hc hlen hlen2 hlen3;replace hE:=hE hu;refine zK0 ?_;refine JK.ghost 7 2 (.int .i64) rfl ?_;refine JK.ghost 8 2 (.int .i64) rfl ?_;refine JK.loop (σ:=List Int×List Int) (fun q=>⟨L3 ss mo u (gapS q.1 q.2) q.1.length,H3 q.1 q.2,2⟩) (fun q=>q.1.length≤ss.length∧q.1.length=q.2.length∧bdL q.1∧bdL q.2∧leL q.2 q.1∧0≤gapS q.1 q.2∧gapS q.1 q.2≤q.1.length) (fun q=>ss.length-q.1.length) ([],[])
  ⟨yy7 _,rfl,fun n h=>absurd h (Nat.not_lt_zero n),fun n h=>absurd h (Nat.not_lt_zero n),fun n h=>absurd h (Nat.not_lt_zero n),by simp[gapS,sm],by simp[gapS,sm]⟩ (by rw[show gapS ([],[]).1 ([],[]).2=0 from rfl];exact zJ) fun⟨xs,ys⟩ ⟨hi,hxy,bx,b_y,hle,hg0,hg1⟩=>?_
 dsimp only at hi hxy bx b_y hle hg0 hg1 ⊢;have hsn:=fun x y=>gap_snoc (xs:=xs) (ys:=ys) (x:=x) (y:=y) hxy;obtain⟨A,hA⟩:∃ A,gapS xs ys=A:=⟨_,rfl⟩;rw[hA] at hg0 hg1 ⊢;refine zK0 ?_;refine q7 rfl (fun hc=>?_) (fun hc=>?_)
 ·replace hc:=zC hc;have hi':xs.length<ss.length:=by omega
  have c5:=hS.c5 (ss.getD (Int.toNat (xs.length:Int)) seK.dflt);have c6:=hS.c6 (ss.getD (Int.toNat (xs.length:Int)) seK.dflt);have c7:=hS.c7 (ss.getD (Int.toNat (xs.length:Int)) seK.dflt);have c8:=hS.c8 (ss.getD (Int.toNat (xs.length:Int)) seK.dflt);have hf:=hS.fact (ss.getD (Int.toNat (xs.length:Int)) seK.dflt);generalize hse:seE (ss.getD (Int.toNat (xs.length:Int)) seK.dflt)=se at c5 c6 c7 hf;generalize lst (ss.getD (Int.toNat (xs.length:Int)) seK.dflt)=r at c6 hf;generalize pk (ss.getD (Int.toNat (xs.length:Int)) seK.dflt)=p at c7 hf;generalize ape (ss.getD (Int.toNat (xs.length:Int)) seK.dflt)=ap at c8 hf
  (repeat (first|refine zs rfl ?_|refine zg rfl rfl rfl ?_|refine zd ?_|refine j6 ?_|refine j5 ?_|refine zc rfl (c5) rfl rfl ?_|refine ze rfl (c5) rfl ?_|refine zk rfl rfl (fun _=>c5) rfl rfl ?_))
  refine q7 rfl (fun hd=>?_) (fun hd=>?_)
  ·refine zK0 ?_;refine q9q rfl h4 hz rfl trivial ?_;refine zK0 ?_;refine⟨.inl rfl,_,_,rfl,trivial,?_⟩;rfl
  have hse0:se=0:=by simp at hd;exact hd.2
  clear hd;have hf:=hf hse0
  (repeat (first|refine zs rfl ?_|refine zg rfl rfl rfl ?_|refine zd ?_|refine j6 ?_|refine j5 ?_|refine zc rfl (c6) rfl rfl ?_|refine ze rfl (c6) rfl ?_|refine zk rfl rfl (fun _=>c6) rfl rfl ?_|refine zc rfl (c7) rfl rfl ?_|refine ze rfl (c7) rfl ?_|refine zk rfl rfl (fun _=>c7) rfl rfl ?_|refine zc rfl (c8) rfl rfl ?_|refine ze rfl (c8) rfl ?_|refine zk rfl rfl (fun _=>c8) rfl rfl ?_))
  refine q7 rfl (fun hd=>absurd hd ?_) (fun _=>?_)
  ·rcases hf.2 with⟨k1,_⟩|⟨k1,_⟩<;>simp[hse0,k1]
  refine zK0 ?_;refine q7 rfl (fun hd=>?_) (fun hd=>?_)
  ·refine zK0 ?_;refine q9q rfl h4 hz rfl trivial ?_;refine zK0 ?_;refine⟨.inl rfl,_,_,rfl,trivial,?_⟩;rfl
  have hrp:r≤1000∧p≤1000:=by
   by_cases h1:(1000:Int)<r
   ·simp[h1] at hd
   ·by_cases h2:(1000:Int)<p
    ·simp[h1,h2] at hd
    ·omega
  clear hd;have hg:gapS (xs++[r]) (ys++[p])=A+(r-p):=by rw[← hA];exact hsn r p
  have hll:((xs++[r]).length:Int)=xs.length+1:=by simp
  have hl2:(xs++[r]).length=xs.length+1:=by simp
  have hin:∀ B,B=A+(r-p)→(0≤r∧p≤r)→(r≤p+1)→(xs++[r]).length≤ss.length∧(xs++[r]).length=(ys++[p]).length∧bdL (xs++[r])∧bdL (ys++[p])∧leL (ys++[p]) (xs++[r])∧0≤gapS (xs++[r]) (ys++[p])∧gapS (xs++[r]) (ys++[p])≤(xs++[r]).length:=fun B hb k1 k2=>⟨by omega,by simp[hxy],z7w bx (by omega),z7w b_y (by omega),leL_snoc hxy hle k1.2,by rw[hg];omega,by rw[hg,hll];omega⟩
  refine zK0 ?_;refine q7 rfl (fun hd=>?_) (fun hd=>?_)
  ·have hap:ap=0:=by simpa using hd
   have hr:r=p+1:=by
    rcases hf.2 with⟨_,k2⟩|⟨k1,_⟩
    ·exact k2
    ·rw[hap] at k1;cases k1
   refine zK0 ?_;refine⟨(xs++[r],ys++[p]),?_,hin _ rfl (by omega) (by omega),by dsimp only;omega⟩;dsimp only;rw[hg,show A+(r-p)=A+1 by omega,hl2];exact zJ
  ·have hap:ap≠0:=by simpa using hd
   have hr:r=p:=by
    rcases hf.2 with⟨k1,_⟩|⟨_,k2⟩
    ·exact absurd k1 hap
    ·exact k2
   refine zK0 ?_;refine⟨(xs++[r],ys++[p]),?_,hin _ rfl (by omega) (by omega),by dsimp only;omega⟩;dsimp only;rw[hg,show A+(r-p)=A by omega,hl2];exact zJ
 ·replace hc:=zC hc;have hxl:xs.length=ss.length:=by omega
  have hxm:mo.length=xs.length:=by omega
  have hym:mo.length=ys.length:=by omega
  have x10:=fn10 xs mo (by omega) hxm hmo;have y10:=fn10 ys mo (by omega) hym hmo;have x9:=hE xs (by omega) (by omega) hxm bx;have y9:=hE ys (by omega) (by omega) hym b_y;obtain⟨⟨f1,f2⟩,f3,f4⟩:=hF xs ys (by omega) hxy bx b_y hle;rw[hA] at f2 f4;have b1:=hB xs (by omega) bx;have b2:=hB ys (by omega) b_y;have hA5:A≤5:=by omega
  generalize dayL xs mo=dx at x10 x9;generalize dayL ys mo=dy at y10 y9;generalize EN xs=a at x9 f1 f2 b1;generalize LE xs=k at x9 f3 f4 b1;generalize EN ys=c at y9 f1 f2 b2;generalize LE ys=m at y9 f3 f4 b2;clear hE hB hF hS hA hsn hle bx b_y;obtain⟨t,ht⟩:∃ t,t=true:=⟨true,rfl⟩;rw[← ht] at x9 y9
  (refine q9x [0,1] [1,2,6,7,8,9] rfl ?_)
  (repeat (first|refine zs rfl ?_|refine zg rfl rfl rfl ?_|refine zd ?_|refine j6 ?_|refine j5 ?_|refine zc rfl (x10) rfl rfl ?_|refine ze rfl (x10) rfl ?_|refine zk rfl rfl (fun _=>x10) rfl rfl ?_|refine zc rfl (x9) rfl rfl ?_|refine ze rfl (x9) rfl ?_|refine zk rfl rfl (fun _=>x9) rfl rfl ?_|refine zc rfl (y10) rfl rfl ?_|refine ze rfl (y10) rfl ?_|refine zk rfl rfl (fun _=>y10) rfl rfl ?_|refine zc rfl (y9) rfl rfl ?_|refine ze rfl (y9) rfl ?_|refine zk rfl rfl (fun _=>y9) rfl rfl ?_))
  have d1:decide (c≤a)=true:=decide_eq_true f1;have d2:decide (a≤c+A)=true:=decide_eq_true f2;have d3:decide (m≤k)=true:=decide_eq_true f3;have d4:decide (k≤m+A)=true:=decide_eq_true f4;refine z9m rfl ?_ rfl h4 hz rfl trivial ?_
  ·simp[wantB,ht,d1,d2,d3,d4]
  refine zK0 ?_;refine⟨.inl rfl,_,_,rfl,trivial,?_⟩;simp[ht,d1,d2,d3,d4]
end Go.Proofs.YtjmhhehhfeengaaGreatDoor
namespace Go.Proofs.YtjmhhehhfeengaaGreatDoor
open Go Go.RowKit Ox Ox.Rn
attribute [local irreducible] JC JL JK JW
variable {gs:List Gt}
def works03(h1:FnZ (Laid gs) Tryz.prog 98 (.bool true))(h2:FnZ (Laid gs) Tryz.prog 99 (.bool true))(h3:FnZ (Laid gs) Tryz.prog 100 (.bool true)):FnZ (Laid gs) Tryz.prog 55 (.bool true):=by refine z2r (r:=vB' true) rfl (Ox.FnX.intro xok Tryz.func55 rfl Tryz.call55 (yyc rfl) (fun E M0 up hz=>?_));refine z5 ?_;refine zK0 ?_;refine q74 rfl h1 hz rfl trivial ?_;refine zK0 ?_;refine q3o rfl rfl rfl h2 hz rfl trivial ?_;refine zK0 ?_;refine q3o rfl rfl rfl h3 hz rfl trivial ?_;refine zK0 ?_;refine⟨.inl rfl,_,_,rfl,trivial,?_⟩;rfl
def works04(h1:FnZ (Laid gs) Tryz.prog 55 (.bool true))(h2:FnZ (Laid gs) Tryz.prog 56 (.bool true)):FnZ (Laid gs) Tryz.prog 26 (.bool true):=by refine z2r (r:=vB' true) rfl (Ox.FnX.intro xok Tryz.func26 rfl Tryz.call26 (yyc rfl) (fun E M0 up hz=>?_));refine z5 ?_;refine zK0 ?_;refine q74 rfl h1 hz rfl trivial ?_;refine zK0 ?_;refine q3o rfl rfl rfl h2 hz rfl trivial ?_;refine zK0 ?_;refine⟨.inl rfl,_,_,rfl,trivial,?_⟩;rfl
def works05(h1:FnZ (Laid gs) Tryz.prog 26 (.bool true))(h2:FnZ (Laid gs) Tryz.prog 27 (.bool true)):FnZ (Laid gs) Tryz.prog 11 (.bool true):=by refine z2r (r:=vB' true) rfl (Ox.FnX.intro xok Tryz.func11 rfl Tryz.call11 (yyc rfl) (fun E M0 up hz=>?_));refine z5 ?_;refine zK0 ?_;refine q74 rfl h1 hz rfl trivial ?_;refine zK0 ?_;refine q3o rfl rfl rfl h2 hz rfl trivial ?_;refine zK0 ?_;refine⟨.inl rfl,_,_,rfl,trivial,?_⟩;rfl
def works06(h1:FnZ (Laid gs) Tryz.prog 11 (.bool true))(h2:FnZ (Laid gs) Tryz.prog 12 (.bool true)):FnZ (Laid gs) Tryz.prog 4 (.bool true):=by refine z2r (r:=vB' true) rfl (Ox.FnX.intro xok Tryz.func4 rfl Tryz.call4 (yyc rfl) (fun E M0 up hz=>?_));refine z5 ?_;refine zK0 ?_;refine q74 rfl h1 hz rfl trivial ?_;refine zK0 ?_;refine q3o rfl rfl rfl h2 hz rfl trivial ?_;refine zK0 ?_;refine⟨.inl rfl,_,_,rfl,trivial,?_⟩;rfl
end Go.Proofs.YtjmhhehhfeengaaGreatDoor
namespace Go.Proofs.YtjmhhehhfeengaaGreatDoor
open Go Go.RowKit Ox Ox.Sh Ox.Se
attribute [local irreducible] JC JL JK JW
abbrev vI(n:Int):AV:=.val (.int .i64) n
abbrev vB(b:Bool):AV:=.val .bool b
abbrev vL(xs:List Int):AV:=.val (.slice (.int .i64)) xs
abbrev ptT:Ty:=.cons (.int .i64) (.cons (.int .i64) .nil)
abbrev vP(z:Pt):AV:=.val ptT z
abbrev vD(l:List Pt):AV:=.val (.slice ptT) l
abbrev seT:Ty:=.cons (.int .i64) (.cons (.slice ptT) .nil)
abbrev mkS(P:Int)(l:List Pt):seT.den:=(P,l,())
abbrev vS(P:Int)(l:List Pt):AV:=.val seT (mkS P l)
abbrev pI(n:Int):AV:=.val (.ptr (.int .i64)) (some n)
abbrev vT2(a b:Int):AV:=.tup (.acons (vI a) (.acons (vI b) .anil))
def z9(xs:List α)(h:i<xs.length)(d:α):xs.getD i d=xs[i]:=by simp[yyj,yyo h]
def fn223(x lo hi:Int):Ox.Fn Tryz.prog 223 (.acons (vI x) (.acons (pI lo) (.acons (pI hi) .anil))) (·=vB (decide (x<lo∨x>hi))):=by refine Ox.Fn.intro xok Tryz.func223 rfl Tryz.call223 (yyc rfl) (fun E M0 up=>?_);refine z5 ?_;refine zK0 ?_;refine⟨.inl rfl,_,_,rfl,trivial,?_⟩;by_cases h:x<lo<;>simp[h]
def idxB{α:Type}(p:α→Bool):List α→Nat→Int
 |[],_=>-1
 |x::r,i=>if p x then(i:Int) else idxB p r (i+1)
def p8{α:Type}{p:α→Bool}:∀ {xs:List α} {i:Nat},(0≤idxB p xs i)↔xs.any p=true
 |[],i=>by simp[idxB]
 |x::r,i=>by
  simp only[idxB,List.any_cons,yy1];by_cases h:p x=true
  ·simp[h]
  ·rw[if_neg h,p8];simp[h]
variable{t1 t2:Ty}
def fn222{x1:t1.den}{x2:t2.den}(xs:List Int)(p:Int→Bool)(h:∀ x∈xs,Ox.Fn Tryz.prog f (.acons (vI x) (.acons (.val t1 x1) (.acons (.val t2 x2) .anil))) (·=vB (p x))) :
  Ox.Fn Tryz.prog 222 (.acons (vL xs) (.acons (.fn f .anil (.acons (.val t1 x1) (.acons (.val t2 x2) .anil))) .anil)) (·=vI (idxB p xs 0)):=by
 refine Ox.Fn.intro xok Tryz.func222 rfl Tryz.call222 (yyc rfl) (fun E M0 up=>?_);refine z5 ?_;refine JK.lenOf 0 rfl fun hlen=>?_;replace hlen:xs.length≤9223372036854775807:=hlen.1;refine zK0 ?_;refine JK.loop (fun i:Nat=>⟨[(0,vL xs),(1,.fn f .anil (.acons (.val t1 x1) (.acons (.val t2 x2) .anil))),(7,vI xs.length),(8,vI (i:Int))],[],0⟩) (fun i=>i≤xs.length∧idxB p xs 0=idxB p (xs.drop i) i) (fun i=>xs.length-i) 0 (by simp) (by exact zJ) fun i ⟨hi,hn⟩=>?_;refine zK0 ?_;refine q7 rfl (fun hc=>?_) (fun hc=>?_)
 ·replace hc:=zC hc;have hi':i<xs.length:=by omega
  have hx:=h (xs.getD i 0) (by rw[z9 xs hi'];exact yyv hi');refine zK11 ?_;refine q7 rfl (fun hd=>?_) (fun hd=>?_)
  ·refine zK0 ?_;refine⟨.inl rfl,_,_,rfl,trivial,?_⟩;rw[z9 xs hi'] at hd;rw[hn,yy8 hi',idxB,if_pos hd]
  ·refine zK0 ?_;rw[z9 xs hi'] at hd;refine⟨i+1,by exact zJ,⟨by omega,?_⟩,by omega⟩;rw[hn,yy8 hi',idxB,if_neg (by rw[hd];simp)]
 ·replace hc:=zC hc;refine zK0 ?_;refine⟨.inl rfl,_,_,rfl,trivial,?_⟩;obtain rfl:i=xs.length:=by omega
  rw[hn,List.drop_length];rfl
def fn138{x1:t1.den}{x2:t2.den}(xs:List Int)(p:Int→Bool)(h:∀ x∈xs,Ox.Fn Tryz.prog f (.acons (vI x) (.acons (.val t1 x1) (.acons (.val t2 x2) .anil))) (·=vB (p x))) :
  Ox.Fn Tryz.prog 138 (.acons (vL xs) (.acons (.fn f .anil (.acons (.val t1 x1) (.acons (.val t2 x2) .anil))) .anil)) (·=vB (xs.any p)):=by
 refine Ox.Fn.intro xok Tryz.func138 rfl Tryz.call138 (yyc rfl) (fun E M0 up=>?_);refine z5 ?_;refine zK16 ?_;refine⟨.inl rfl,_,_,rfl,trivial,?_⟩;refine congrArg vB ?_;rw[yy5,← p8 (p:=p) (i:=0)];simp
def fn143(lo hi:Int)(xs:List Int):Ox.Fn Tryz.prog 143 (.acons (vI lo) (.acons (vI hi) (.acons (vL xs) .anil))) (·=vB (decide (∀ x∈xs,lo≤x∧x≤hi))):=by
 refine Ox.Fn.intro xok Tryz.func143 rfl Tryz.call143 (yyc rfl) (fun E M0 up=>?_);refine z5 ?_
 (repeat (first|refine zs rfl ?_|refine zg rfl rfl rfl ?_|refine zd ?_|refine j6 ?_|refine j5 ?_|refine zc rfl (fn138 xs (fun x=>decide (x<lo∨x>hi)) (fun x _=>fn223 x lo hi)) rfl rfl ?_|refine ze rfl (fn138 xs (fun x=>decide (x<lo∨x>hi)) (fun x _=>fn223 x lo hi)) rfl ?_|refine zk rfl rfl (fun _=>fn138 xs (fun x=>decide (x<lo∨x>hi)) (fun x _=>fn223 x lo hi)) rfl rfl ?_))
 refine⟨.inl rfl,_,_,rfl,trivial,?_⟩;refine congrArg vB ?_;rw[yy5];simp only[yy6,List.any_eq_false,yyu];refine⟨fun h x hx=>?_,fun h x hx=>?_⟩
 ·have:=h x hx;omega
 ·have:=h x hx;omega
def maxL:List Int→Int
 |[]=>0
 |x::r=>r.foldl Max.max x
def q5o(h:xs≠[])(x:Int):maxL (xs++[x])=Max.max (maxL xs) x:=by
 cases xs with
 |nil=>exact absurd rfl h
 |cons y r=>rw[List.cons_append,maxL,maxL,List.foldl_append];rfl
def fn145(xs:List Int)(h:1≤xs.length):Ox.Fn Tryz.prog 145 (.acons (vL xs) .anil) (·=vI (maxL xs)):=by
 refine Ox.Fn.intro xok Tryz.func145 rfl Tryz.call145 (yyc rfl) (fun E M0 up=>?_);refine z5 ?_;refine JK.lenOf 0 rfl fun hlen=>?_;replace hlen:xs.length≤9223372036854775807:=hlen.1;refine zK0 ?_;refine q7 rfl (fun hc=>?_) (fun hc=>?_)
 ·replace hc:=zC hc;omega
 ·refine zK0 ?_;refine JK.loop (fun k:Nat=>⟨[(0,vL xs),(3,vI (maxL (xs.take k))),(4,vI (k:Int))],[],0⟩) (fun k=>1≤k∧k≤xs.length) (fun k=>xs.length-k) 1 ⟨yyn _,h⟩ ?_ fun k ⟨hk1,hk⟩=>?_
  ·have e:maxL (xs.take 1)=xs.getD 0 0:=by
    cases xs with
    |nil=>simp at h
    |cons x r=>rfl
   rw[e];exact zJ
  ·have hnx:k<xs.length→maxL (xs.take (k+1))=Max.max (maxL (xs.take k)) (xs.getD k 0):=fun hlt=>by rw[List.take_succ,yyo hlt,z9 xs hlt];exact q5o (by intro e;have:=congrArg List.length e;rw[yy3,List.length_nil] at this;omega) _
   refine zK0 ?_;refine q7 rfl (fun hd=>?_) (fun hd=>?_)
   ·replace hd:=zC hd;refine zK0 ?_;refine⟨k+1,?_,⟨by omega,by omega⟩,by omega⟩;rw[hnx (by omega)];exact zJ
   ·replace hd:=zC hd;refine zK0 ?_;refine⟨.inl rfl,_,_,rfl,trivial,?_⟩;rw[yxt (by omega)]
def fn85(xs:List Int)(h:1≤xs.length):Ox.Fn Tryz.prog 85 (.acons (vL xs) .anil) (·=vI (maxL xs)):=by
 refine Ox.Fn.intro xok Tryz.func85 rfl Tryz.call85 (yyc rfl) (fun E M0 up=>?_);refine z5 ?_;refine JK.lenOf 0 rfl fun hlen=>?_;replace hlen:xs.length≤9223372036854775807:=hlen.1;refine zK0 ?_;refine q7 rfl (fun hc=>?_) (fun hc=>?_)
 ·replace hc:=zC hc;omega
 ·refine zK0 ?_;refine JK.loop (fun k:Nat=>⟨[(0,vL xs),(3,vI (maxL (xs.take k))),(4,vI (k:Int))],[],0⟩) (fun k=>1≤k∧k≤xs.length) (fun k=>xs.length-k) 1 ⟨yyn _,h⟩ ?_ fun k ⟨hk1,hk⟩=>?_
  ·have e:maxL (xs.take 1)=xs.getD 0 0:=by
    cases xs with
    |nil=>simp at h
    |cons x r=>rfl
   rw[e];exact zJ
  ·have hnx:k<xs.length→maxL (xs.take (k+1))=Max.max (maxL (xs.take k)) (xs.getD k 0):=fun hlt=>by rw[List.take_succ,yyo hlt,z9 xs hlt];exact q5o (by intro e;have:=congrArg List.length e;rw[yy3,List.length_nil] at this;omega) _
   refine zK0 ?_;refine q7 rfl (fun hd=>?_) (fun hd=>?_)
   ·replace hd:=zC hd;refine zK0 ?_;refine⟨k+1,?_,⟨by omega,by omega⟩,by omega⟩;rw[hnx (by omega)];exact zJ
   ·replace hd:=zC hd;refine zK0 ?_;refine⟨.inl rfl,_,_,rfl,trivial,?_⟩;rw[yxt (by omega)]
def okPt(P:Int)(s:Pt):Prop:=(0≤s.1∧s.1<P)∧1≤s.2.1∧s.2.1≤10000
instance (P:Int):DecidablePred (okPt P):=fun s=>by unfold okPt;infer_instance
def fn142(s:Pt)(P:Int)(hP:1≤P∧P≤1000):Ox.Fn Tryz.prog 142 (.acons (vP s) (.acons (pI P) .anil)) (·=vB (!decide (okPt P s))):=by
 obtain⟨a,b,_⟩:=s;refine Ox.Fn.intro xok Tryz.func142 rfl Tryz.call142 (yyc rfl) (fun E M0 up=>?_);refine z5 ?_;have h1:=fn143 0 (P-1) (a::List.nil);have h2:=fn143 1 10000 (b::List.nil);have e1:(∀ x∈[a],0≤x∧x≤P-1)↔(0≤a∧a<P):=by simp;omega
 have e2:(∀ x∈[b],1≤x∧x≤10000)↔(1≤b∧b≤10000):=by simp
 rw[decide_eq_decide.2 e1] at h1;rw[decide_eq_decide.2 e2] at h2;have e3:okPt P (a,b,())↔(0≤a∧a<P)∧1≤b∧b≤10000:=Iff.rfl;by_cases c1:0≤a∧a<P
 ·rw[decide_eq_true c1] at h1
  (repeat (first|refine zt rfl rfl ?_|refine zs rfl ?_|refine zg rfl rfl rfl ?_|refine zd ?_|refine j6 ?_|refine j5 ?_|refine zc rfl (h1) rfl rfl ?_|refine ze rfl (h1) rfl ?_|refine zk rfl rfl (fun _=>h1) rfl rfl ?_|refine zc rfl (h2) rfl rfl ?_|refine ze rfl (h2) rfl ?_|refine zk rfl rfl (fun _=>h2) rfl rfl ?_))
  refine⟨.inl rfl,_,_,rfl,trivial,?_⟩;refine congrArg vB ?_;by_cases c2:1≤b∧b≤10000
  ·have:okPt P (a,b,()):=⟨c1,c2⟩;rw[decide_eq_true this,decide_eq_true c2];rfl
  ·have:¬ okPt P (a,b,()):=fun h=>c2 h.2;rw[decide_eq_false this,decide_eq_false c2];rfl
 ·rw[decide_eq_false c1] at h1;refine zK17 ?_
  (repeat (first|refine zfl rfl rfl rfl ?_|refine z77 rfl rfl rfl rfl (by(exact zD)) (by(exact zD)) ?_|refine zs rfl ?_|refine j5 ?_))
  refine⟨.inl rfl,_,_,rfl,trivial,?_⟩;refine congrArg vB ?_;have:¬ okPt P (a,b,()):=fun h=>c1 h.1;rw[decide_eq_false this];rfl
def fn224{x1:t1.den}(xs:List Pt)(p:Pt→Bool)(h:∀ x∈xs,Ox.Fn Tryz.prog f (.acons (vP x) (.acons (.val t1 x1) .anil)) (·=vB (p x))) :
  Ox.Fn Tryz.prog 224 (.acons (vD xs) (.acons (.fn f .anil (.acons (.val t1 x1) .anil)) .anil)) (·=vI (idxB p xs 0)):=by
 refine Ox.Fn.intro xok Tryz.func224 rfl Tryz.call224 (yyc rfl) (fun E M0 up=>?_);refine z5 ?_;refine JK.lenOf 0 rfl fun hlen=>?_;replace hlen:xs.length≤9223372036854775807:=hlen.1;refine zK0 ?_;refine JK.loop (fun i:Nat=>⟨[(0,vD xs),(1,.fn f .anil (.acons (.val t1 x1) .anil)),(7,vI xs.length),(8,vI (i:Int))],[],0⟩) (fun i=>i≤xs.length∧idxB p xs 0=idxB p (xs.drop i) i) (fun i=>xs.length-i) 0 (by simp) (by exact zJ) fun i ⟨hi,hn⟩=>?_;refine zK0 ?_;refine q7 rfl (fun hc=>?_) (fun hc=>?_)
 ·replace hc:=zC hc;have hi':i<xs.length:=by omega
  have hx:=h (xs.getD i zP) (by rw[z9 xs hi'];exact yyv hi');refine zK11 ?_;refine q7 rfl (fun hd=>?_) (fun hd=>?_)
  ·refine zK0 ?_;refine⟨.inl rfl,_,_,rfl,trivial,?_⟩;rw[z9 xs hi'] at hd;rw[hn,yy8 hi',idxB,if_pos hd]
  ·refine zK0 ?_;rw[z9 xs hi'] at hd;refine⟨i+1,by exact zJ,⟨by omega,?_⟩,by omega⟩;rw[hn,yy8 hi',idxB,if_neg (by rw[hd];simp)]
 ·replace hc:=zC hc;refine zK0 ?_;refine⟨.inl rfl,_,_,rfl,trivial,?_⟩;obtain rfl:i=xs.length:=by omega
  rw[hn,List.drop_length];rfl
def fn144{x1:t1.den}(xs:List Pt)(p:Pt→Bool)(h:∀ x∈xs,Ox.Fn Tryz.prog f (.acons (vP x) (.acons (.val t1 x1) .anil)) (·=vB (p x))) :
  Ox.Fn Tryz.prog 144 (.acons (vD xs) (.acons (.fn f .anil (.acons (.val t1 x1) .anil)) .anil)) (·=vB (xs.any p)):=by
 refine Ox.Fn.intro xok Tryz.func144 rfl Tryz.call144 (yyc rfl) (fun E M0 up=>?_);refine z5 ?_
 (repeat (first|refine zs rfl ?_|refine zg rfl rfl rfl ?_|refine zd ?_|refine j6 ?_|refine j5 ?_|refine zc rfl (fn224 xs p h) rfl rfl ?_|refine ze rfl (fn224 xs p h) rfl ?_|refine zk rfl rfl (fun _=>fn224 xs p h) rfl rfl ?_))
 refine⟨.inl rfl,_,_,rfl,trivial,?_⟩;refine congrArg vB ?_;rw[yy5,← p8 (p:=p) (i:=0)];simp
def seE(P:Int)(l:List Pt):Int:=if ¬ (1≤P∧P≤1000) then 2 else if l.length<1∨l.length>8 then 6 else if l.any (fun s=>!decide (okPt P s))=true then 3 else 0
variable{l:List Pt}
def q4l:seE P l=0↔(1≤P∧P≤1000)∧1≤l.length∧l.length≤8∧okP P l:=by
 have e:l.any (fun s=>!decide (okPt P s))=true↔¬ okP P l:=by
  rw[List.any_eq_true];constructor
  ·rintro⟨s,hs,h⟩ ho;have:=ho s hs;have:okPt P s:=this;simp[this] at h
  ·intro h;refine yxq fun hn=>h fun s hs=>?_;refine yxq fun hb=>hn ⟨s,hs,?_⟩;have:¬ okPt P s:=hb;simp[this]
 unfold seE;split
 ·rename_i h;exact⟨fun h'=>absurd h' (by decide),fun h'=>absurd h'.1 h⟩
 ·rename_i h;split
  ·rename_i h2;exact⟨fun h'=>absurd h' (by decide),fun h'=>absurd h2 (by omega)⟩
  ·rename_i h2;split
   ·rename_i h3;exact⟨fun h'=>absurd h' (by decide),fun h'=>absurd h'.2.2.2 (e.1 h3)⟩
   ·rename_i h3;refine⟨fun _=>⟨Classical.not_not.1 h,by omega,by omega,yxq fun hb=>h3 (e.2 hb)⟩,fun _=>rfl⟩
def fn83(P:Int)(l:List Pt):Ox.Fn Tryz.prog 83 (.acons (vI P) (.acons (vD l) .anil)) (·=vI (seE P l)):=by
 refine Ox.Fn.intro xok Tryz.func83 rfl Tryz.call83 (yyc rfl) (fun E M0 up=>?_);refine z5 ?_;refine JK.lenOf 1 rfl fun hlen=>?_;replace hlen:l.length≤9223372036854775807:=hlen.1;have h1:=fn143 1 1000 (P::List.nil);have e1:decide (∀ x∈(P::List.nil),1≤x∧x≤1000)=decide (1≤P∧P≤1000):=decide_eq_decide.2 (by simp);rw[e1] at h1;refine zK17 ?_;refine q7 rfl (fun hc=>?_) (fun hc=>?_)
 ·replace hc:=zC hc;refine zK0 ?_;refine⟨.inl rfl,_,_,rfl,trivial,?_⟩;unfold seE;rw[if_pos hc]
 ·replace hc:=zC hc;have hP:1≤P∧P≤1000:=hc;refine zK0 ?_;refine q7 rfl (fun hd=>?_) (fun hd=>?_)
  ·replace hd:=zC hd;refine zK0 ?_;refine⟨.inl rfl,_,_,rfl,trivial,?_⟩;unfold seE;rw[if_neg (by omega),if_pos (by omega)]
  ·replace hd:=zC hd;have h2:=fn144 l (fun s=>!decide (okPt P s)) (fun s _=>fn142 s P hP)
   (repeat (first|refine zs rfl ?_|refine zg rfl rfl rfl ?_|refine zd ?_|refine j6 ?_|refine j5 ?_|refine zc rfl (h2) rfl rfl ?_|refine ze rfl (h2) rfl ?_|refine zk rfl rfl (fun _=>h2) rfl rfl ?_))
   refine q7 rfl (fun he=>?_) (fun he=>?_)
   ·refine zK0 ?_;refine⟨.inl rfl,_,_,rfl,trivial,?_⟩;unfold seE;rw[if_neg (by omega),if_neg (by omega),if_pos he]
   ·refine zK0 ?_;refine⟨.inl rfl,_,_,rfl,trivial,?_⟩;unfold seE;rw[if_neg (by omega),if_neg (by omega),if_neg (by rw[he];simp)]
def fn41(P:Int)(l:List Pt):Ox.Fn Tryz.prog 41 (.acons (vS P l) .anil) (·=vI (seE P l)):=by
 refine Ox.Fn.intro xok Tryz.func41 rfl Tryz.call41 (yyc rfl) (fun E M0 up=>?_);refine z5 ?_
 (repeat (first|refine zs rfl ?_|refine zg rfl rfl rfl ?_|refine zd ?_|refine j6 ?_|refine j5 ?_|refine zc rfl (fn83 P l) rfl rfl ?_|refine ze rfl (fn83 P l) rfl ?_|refine zk rfl rfl (fun _=>fn83 P l) rfl rfl ?_))
 refine⟨.inl rfl,_,_,rfl,trivial,?_⟩;rfl
def fn13(P:Int)(s:Pt):Ox.Fn Tryz.prog 13 (.acons (vI P) (.acons (vP s) .anil)) (·=vB (decide (okPt P s))):=by obtain⟨a,b,_⟩:=s;refine Ox.Fn.intro xok Tryz.func13 rfl Tryz.call13 (yyc rfl) (fun E M0 up=>?_);refine z5 ?_;refine zK0 ?_;refine⟨.inl rfl,_,_,rfl,trivial,?_⟩;refine congrArg vB ?_;unfold okPt;by_cases c1:0≤a<;>by_cases c2:a<P<;>by_cases c3:1≤b<;>by_cases c4:b≤10000<;>simp[c1,c2,c3,c4]
def fn5(P:Int)(l:List Pt):Ox.Fn Tryz.prog 5 (.acons (vS P l) .anil) (·=vI (seE P l)):=by
 refine Ox.Fn.intro xok Tryz.func5 rfl Tryz.call5 (yyc rfl) (fun E M0 up=>?_);refine z5 ?_;refine JK.lenOf 0 rfl fun hlen=>?_;replace hlen:l.length≤9223372036854775807:=hlen.2.1.1;refine zK0 ?_;refine q7 rfl (fun hc=>?_) (fun hc=>?_)
 ·replace hc:=zC hc;refine zK0 ?_;refine⟨.inl rfl,_,_,rfl,trivial,?_⟩;unfold seE;rw[if_pos (by omega)]
 ·replace hc:=zC hc;refine zK0 ?_;refine q7 rfl (fun hc2=>?_) (fun hc2=>?_)
  ·replace hc2:=zC hc2;refine zK0 ?_;refine⟨.inl rfl,_,_,rfl,trivial,?_⟩;unfold seE;rw[if_neg (by omega),if_pos (by omega)]
  ·replace hc2:=zC hc2;refine zK0 ?_;refine JK.loop (fun i:Nat=>⟨[(1,.lf (.optr 0 [])),(3,vI (i:Int))],[(0,.cell seT (vS P l))],1⟩) (fun i=>i≤l.length∧∀ s∈l.take i,okPt P s) (fun i=>l.length-i) 0 (by simp) (by exact zJ) fun i ⟨hi,hn⟩=>?_;refine zK0 ?_;refine q7 rfl (fun hd=>?_) (fun hd=>?_)
   ·replace hd:=zC hd;have hi':i<l.length:=by omega
    have e1:=fn13 P (l.getD i zP);have hmem:l.getD i zP∈l:=by rw[z9 l hi'];exact yyv hi'
    have htk:l.take (i+1)=l.take i++[l.getD i zP]:=by rw[List.take_succ,yyo hi',z9 l hi'];rfl
    (repeat (first|refine zs rfl ?_|refine zg rfl rfl rfl ?_|refine zd ?_|refine j6 ?_|refine j5 ?_|refine zc rfl (e1) rfl rfl ?_|refine ze rfl (e1) rfl ?_|refine zk rfl rfl (fun _=>e1) rfl rfl ?_))
    refine q7 rfl (fun he=>?_) (fun he=>?_)
    ·replace he:=zC he;refine zK0 ?_;refine⟨.inl rfl,_,_,rfl,trivial,?_⟩;unfold seE;rw[if_neg (by omega),if_neg (by omega),if_pos];rw[List.any_eq_true];exact⟨_,hmem,by simpa using he⟩
    ·replace he:=zC he;refine zK0 ?_;refine⟨i+1,by exact zJ,⟨by omega,fun s hs=>?_⟩,by omega⟩;rw[htk] at hs;rcases yy2.1 hs with hs|hs
     ·exact hn s hs
     ·rw[yyl.1 hs];exact he
   ·replace hd:=zC hd;refine zK0 ?_;refine⟨.inl rfl,_,_,rfl,trivial,?_⟩;obtain rfl:i=l.length:=by omega
    rw[yxj] at hn;exact congrArg vI (q4l.2 ⟨by omega,by omega,by omega,hn⟩).symm
def z8n(hl:okP P l)(hn:n<l.length):(0≤(l.getD n (0,0,())).1∧(l.getD n (0,0,())).1<P)∧1≤(l.getD n (0,0,())).2.1∧(l.getD n (0,0,())).2.1≤10000:=hl.get hn
def fn347(P:Int)(l:List Pt)(n:Nat)(hP:1≤P∧P≤1000)(hl:okP P l)(hn:n<l.length):Ox.Fn Tryz.prog 347 (.acons (vS P l) (.acons (vI n) .anil)) (·=vI (eN P l n)):=by obtain⟨h1,h2⟩:=z8n hl hn;refine Ox.Fn.intro xok Tryz.func347 rfl Tryz.call347 (yyc rfl) (fun E M0 up=>?_);refine z5 ?_;refine zK0 ?_;refine⟨.inl rfl,_,_,rfl,trivial,?_⟩;rfl
end Go.Proofs.YtjmhhehhfeengaaGreatDoor
namespace Go.Proofs.YtjmhhehhfeengaaGreatDoor
open Go Go.RowKit Ox Ox.Sh Ox.Se
abbrev arT:Ty:=.arr 1000 (.int .i64)
abbrev shT:Ty:=.cons seT (.cons arT (.cons (.int .i64) (.cons arT .nil)))
abbrev shW(P:Int)(l:List Pt)(ov:List Int)(pk:Int)(st:List Int):shT.den:=(mkS P l,ov,pk,st,())
abbrev vHo(P:Int)(l:List Pt)(ov:List Int)(pk:Int)(st:List Int):AV:=.val (.ptr shT) (some (shW P l ov pk st))
abbrev ZA:List Int:=arT.dflt
def ZA_eq:ZA=List.replicate 1000 0:=rfl
def tabL(f:Nat→Int):List Int:=(List.range 1000).map f
def q4w(f:Nat→Int):(tabL f).length=1000:=by simp[tabL]
def q6c(f:Nat→Int)(h:k<1000):(tabL f).getD k 0=f k:=by unfold tabL;rw[yyj,List.getElem?_map,List.getElem?_range h];rfl
variable{f:Nat→Int}
def t3(h:∀ k,k<1000→f k=g k):tabL f=tabL g:=by unfold tabL;exact List.map_congr_left fun k hk=>h k (yys.1 hk)
def q4v(f:Nat→Int)(k:Nat)(x:Int):(tabL f).set k x=tabL fun v=>if v=k then x else f v:=by
 refine List.ext_getElem (by simp[tabL]) fun n h1 h2=>?_;rw[List.getElem_set];simp only[tabL,List.getElem_map,List.getElem_range];by_cases e:n=k
 ·subst e;simp
 ·rw[if_neg e,if_neg (fun h=>e h.symm)]
def map_zero(N:Nat):(List.range N).map (fun _=>(0:Int))=List.replicate N 0:=by refine List.ext_getElem (by simp) fun n h1 h2=>?_;simp
def q06:tabL (fun _=>0)=ZA:=(map_zero 1000).trans ZA_eq.symm
def tab_ne:tabL f=ZA↔∀ k,k<1000→f k=0:=by
 constructor
 ·intro h k hk;have h2:tabL f=tabL fun _=>0:=h.trans q06.symm;have:=congrArg (fun l=>l.getD k 0) h2;simp only[q6c _ hk] at this;exact this
 ·exact fun h=>(t3 h).trans q06
def j20{t:List Int}(hi:i<t.length)(x:Int)(k:Nat):(t.set i x).getD k 0=if k=i then x else t.getD k 0:=by
 rw[yyj,yyj,List.getElem?_set];by_cases h:k=i
 ·subst h;rw[if_pos rfl,if_pos rfl,if_pos hi];rfl
 ·rw[if_neg (fun e=>h e.symm),if_neg h]
def tab_take(f:Nat→Int){P:Nat}(hP:P≤1000):(tabL f).take P=(List.range P).map f:=by unfold tabL;rw[← List.map_take,List.take_range,yxu hP]
section
variable {P:Int}{l:List Pt}
def cg(P:Int)(l:List Pt)(i:Nat)(v:Nat):Int:=if lO l i % P=0 then 0 else(if aT l i=v then 1 else 0)-if eN P l i=v then 1 else 0
def chg(P:Int)(l:List Pt)(k:Nat)(v:Nat):Int:=sm (fun i=>cg P l i v) (List.range k)
def o0(P:Int)(l:List Pt)(k:Nat):Int:=sm (pW P l (-1)) (List.range k)
def f7(g:Nat→Int)(k:Nat):sm g (List.range (k+1))=sm g (List.range k)+g k:=by rw[List.range_succ,q92];simp[sm]
def z2f(k v:Nat):chg P l (k+1) v=chg P l k v+cg P l k v:=f7 _ _
def j1j(k:Nat):o0 P l (k+1)=o0 P l k+pW P l (-1) k:=f7 _ _
def cg_bd(i v:Nat):-1≤cg P l i v∧cg P l i v≤1:=by
 unfold cg;split
 ·omega
 ·split<;>split<;>omega
def j35(v:Nat):∀ k:Nat,-(k:Int)≤chg P l k v∧chg P l k v≤k
 |0=>by have:chg P l 0 v=0:=rfl;omega
 |k+1=>by
  have h1:=j35 v k;have h2:=cg_bd (P:=P) (l:=l) k v;rw[z2f]
  push_cast
  omega
def LA1(hP:1≤P)(hl:okP P l)(hi:i<l.length):LA P l (-1) i=aT l i:=by have:=(hl.get hi).1;unfold LA;rw[show aT l i - -1-1=aT l i by omega,Int.emod_eq_of_lt (by omega) (by omega)]
def LE1(hP:1≤P)(i:Nat):Se.LE P l (-1) i=eN P l i:=by have:0≤eN P l i∧eN P l i<P:=n3 hP _;unfold Se.LE;rw[show eN P l i - -1-1=eN P l i by omega,Int.emod_eq_of_lt (by omega) (by omega)]
def pW1(hP:1≤P)(hl:okP P l)(hi:i<l.length):pW P l (-1) i=lO l i / P+if lO l i % P≠0∧eN P l i<aT l i then 1 else 0:=by
 have ha:=(hl.get hi).1;have h1:=Int.emod_add_mul_ediv (lO l i) P;have h2:=n3 hP (lO l i);unfold pW eN;rw[LA1 hP hl hi];generalize aT l i=A at *;generalize lO l i / P=q at *;generalize lO l i % P=r at *;have h3:A+lO l i=(A+r)+P*q:=by omega
 rw[h3,Int.add_mul_ediv_left _ _ (by omega:P≠0),Int.add_mul_emod_self_left];by_cases h:A+r<P
 ·rw[Int.ediv_eq_zero_of_lt (by omega) h,Int.emod_eq_of_lt (by omega) h,if_neg (by omega)];omega
 ·have e1:(A+r) % P=A+r-P:=by rw[← Int.sub_emod_right,Int.emod_eq_of_lt (by omega) (by omega)]
  have e2:(A+r) / P=1:=by
   have:A+r=(A+r-P)+P*1:=by omega
   rw[this,Int.add_mul_ediv_left _ _ (by omega:P≠0),Int.ediv_eq_zero_of_lt (by omega) (by omega)];rfl
  rw[e1,e2,if_pos (by omega)];omega
def same_end(hP:1≤P)(hl:okP P l)(hi:i<l.length)(h:lO l i % P=0):eN P l i=aT l i:=by have ha:=(hl.get hi).1;unfold eN;rw[Int.add_emod,h,Int.add_zero,Int.emod_emod_of_dvd _ (Int.dvd_refl P),Int.emod_eq_of_lt ha.1 ha.2]
def pW_bd(hP:1≤P)(hl:okP P l)(hi:i<l.length):0≤pW P l (-1) i∧pW P l (-1) i≤10001:=by rw[pW1 hP hl hi];have h1:=(hl.get hi).2;have h2:0≤lO l i / P:=Int.ediv_nonneg (by omega) (by omega);have h3:lO l i / P≤lO l i:=Int.ediv_le_self _ (by omega);split<;>omega
def o0_bd(hP:1≤P)(hl:okP P l):∀ k:Nat,k≤l.length→0≤o0 P l k∧o0 P l k≤10001*k
 |0,_=>by have:o0 P l 0=0:=rfl;omega
 |k+1,h=>by
  have h1:=o0_bd hP hl k (by omega);have h2:=pW_bd hP hl (i:=k) (by omega);rw[j1j]
  push_cast
  omega
def nw(P:Int)(l:List Pt)(u:Nat):Int:=o0 P l l.length+sm (fun i=>(if aT l i<u then 1 else 0)-if eN P l i<u then 1 else 0) (List.range l.length)
def q8b(h:∀ n∈o,f n=g n):sm f o=sm g o:=by unfold sm;rw[List.map_congr_left h]
def j1m(hP:1≤P)(hl:okP P l):nw P l 0=o0 P l l.length:=by
 unfold nw;have e:sm (fun i=>(if aT l i<((0:Nat):Int) then(1:Int) else 0)-if eN P l i<((0:Nat):Int) then 1 else 0) (List.range l.length)=sm (fun _=>0) (List.range l.length):=q8b fun i hi=>by have h1:=(hl.get (yys.1 hi)).1;have h2:0≤eN P l i∧eN P l i<P:=n3 hP _;rw[if_neg (by omega),if_neg (by omega)];rfl
 rw[e];have:∀ o:List Nat,sm (fun _=>0) o=0:=fun o=>by induction o with
  |nil=>rfl
  |cons a o ih=>rw[v9,ih];rfl
 rw[this];omega
def nw_succ(hP:1≤P)(hl:okP P l)(u:Nat):nw P l (u+1)=nw P l u+chg P l l.length u:=by
 unfold nw chg;rw[Int.add_assoc,← z2y];congr 1;refine q8b fun i hi=>?_;unfold cg;by_cases hr:lO l i % P=0
 ·rw[if_pos hr,same_end hP hl (yys.1 hi) hr];split<;>split<;>omega
 ·rw[if_neg hr]
  push_cast
  split<;>split<;>split<;>split<;>(try split)<;>(try split)<;>omega
def nw_ov(hP:1≤P)(hl:okP P l)(hu:(u:Int)<P):nw P l (u+1)=ov P l (u:Int):=by
 rw[z6p (c:=-1) hP,show(u:Int) - -1-1=u by omega,Int.emod_eq_of_lt (by omega) hu,← j39,← j39];unfold nw o0;rw[m6];have e1:sm (fun i=>if aT l i<((u+1:Nat):Int) then(1:Int) else 0) (List.range l.length)=sm (fun n=>if LA P l (-1) n≤(u:Int) then 1 else 0) (List.range l.length):=q8b fun i hi=>by
  rw[LA1 hP hl (yys.1 hi)]
  push_cast
  split<;>split<;>omega
 have e2:sm (fun i=>if eN P l i<((u+1:Nat):Int) then(1:Int) else 0) (List.range l.length)=sm (fun n=>if Se.LE P l (-1) n≤(u:Int) then 1 else 0) (List.range l.length):=q8b fun i hi=>by
  rw[LE1 hP]
  push_cast
  split<;>split<;>omega
 rw[e1,e2];omega
def ov_bd(hP:1≤P)(hl:okP P l)(u:Int):0≤ov P l u∧ov P l u≤10001*l.length:=by
 have key:∀ k:Nat,k≤l.length→0≤sm (ov1 P l u) (List.range k)∧sm (ov1 P l u) (List.range k)≤10001*k:=by
  intro k;induction k with
  |zero=>intro _;have:sm (ov1 P l u) (List.range 0)=0:=rfl;omega
  |succ k ih=>
   intro h;have h0:=ih (by omega);have h1:=(hl.get (n:=k) (by omega)).2;have h2:0≤lO l k / P:=Int.ediv_nonneg (by omega) (by omega);have h3:lO l k / P≤lO l k:=Int.ediv_le_self _ (by omega);rw[f7];unfold ov1 at h0 ⊢
   push_cast
   split<;>omega
 exact key l.length (yyn _)
def nw_bd(hP:1≤P)(hl:okP P l)(hu:(u:Int)≤P):0≤nw P l u∧nw P l u≤10001*l.length:=by
 cases u with
 |zero=>rw[j1m hP hl];exact o0_bd hP hl _ (yyn _)
 |succ u=>rw[nw_ov hP hl (by omega)];exact ov_bd hP hl _
def ovS(P:Int)(l:List Pt)(u:Nat):List Int:=tabL fun v=>if v<u then ov P l (v:Int) else if v=0 then o0 P l l.length else 0
def ovA(P:Int)(l:List Pt):List Int:=tabL fun v=>if (v:Int)<P then ov P l (v:Int) else 0
def ovS_zero:ovS P l 0=ZA.set 0 (o0 P l l.length):=by have h:(tabL fun _=>0).set 0 (o0 P l l.length)=ZA.set 0 (o0 P l l.length):=congrArg (fun L=>List.set L 0 (o0 P l l.length)) q06;refine Eq.trans ?_ h;rw[q4v];exact t3 fun k _=>by simp
def ovS_succ(hP:1≤P)(hl:okP P l)(hu:(u:Int)<P):ovS P l (u+1)=(ovS P l u).set u (nw P l (u+1)):=by
 unfold ovS;rw[q4v,nw_ov hP hl hu];refine t3 fun k _=>?_;by_cases e:k=u
 ·subst e;rw[if_pos (by omega),if_pos rfl]
 ·rw[if_neg e];by_cases h:k<u
  ·rw[if_pos (by omega),if_pos h]
  ·rw[if_neg (by omega),if_neg h]
def ovS_end(hP:1≤P):ovS P l P.toNat=ovA P l:=t3 fun k _=>by
 by_cases h:(k:Int)<P
 ·rw[if_pos (by omega),if_pos h]
 ·rw[if_neg (by omega),if_neg h,if_neg (by omega)]
def chgL(P:Int)(l:List Pt)(k:Nat):List Int:=tabL (chg P l k)
def j36:chgL P l 0=ZA:=(t3 fun k _=>rfl).trans q06
def j37(hP:1≤P)(hP2:P≤1000)(hl:okP P l)(hi:i<l.length)(hr:lO l i % P≠0){X:List Int}(hX:X=(chgL P l i).set (aT l i).toNat (chg P l i (aT l i).toNat+1)) :
  X.set (eN P l i).toNat (X.getD (eN P l i).toNat 0-1)=chgL P l (i+1):=by
 have ha:=(hl.get hi).1;have he:0≤eN P l i∧eN P l i<P:=n3 hP _;rw[hX];unfold chgL;rw[q4v,q6c _ (by omega),q4v];refine t3 fun k hk=>?_;rw[z2f];unfold cg;rw[if_neg hr];by_cases h1:k=(eN P l i).toNat
 ·rw[if_pos h1];by_cases h2:(eN P l i).toNat=(aT l i).toNat
  ·rw[if_pos h2,if_pos (by omega),if_pos (by omega),h1,h2];omega
  ·rw[if_neg h2,if_neg (by omega),if_pos (by omega),h1];omega
 ·rw[if_neg h1];by_cases h2:k=(aT l i).toNat
  ·rw[if_pos h2,if_pos (by omega),if_neg (by omega),h2];omega
  ·rw[if_neg h2,if_neg (by omega),if_neg (by omega)];omega
def j38(hr:lO l i % P=0):chgL P l (i+1)=chgL P l i:=t3 fun k _=>by rw[z2f];unfold cg;rw[if_pos hr];omega
def z7g:∀ (L:List Int) (a:Int),a≤L.foldl Max.max a∧(∀ x∈L,x≤L.foldl Max.max a)∧(L.foldl Max.max a=a∨L.foldl Max.max a∈L)
 |[],a=>⟨Int.le_refl _,(fun x h=>by cases h),Or.inl rfl⟩
 |y::L,a=>by
  rw[List.foldl_cons];obtain⟨h1,h2,h3⟩:=z7g L (Max.max a y);generalize L.foldl Max.max (Max.max a y)=m at *;refine⟨by omega,fun x hx=>?_,?_⟩
  ·rcases yyk.1 hx with rfl|hx
   ·omega
   ·exact h2 x hx
  ·rcases h3 with h3|h3
   ·rcases Int.le_total a y with h|h
    ·exact Or.inr (yyk.2 (Or.inl (by omega)))
    ·exact Or.inl (by omega)
   ·exact Or.inr (yyh _ h3)
def j1w(h:xs≠[]):maxL xs∈xs∧∀ x∈xs,x≤maxL xs:=by
 cases xs with
 |nil=>exact absurd rfl h
 |cons a r=>
  obtain⟨h1,h2,h3⟩:=z7g r a;refine⟨?_,fun x hx=>?_⟩
  ·rcases h3 with h3|h3
   ·exact yyk.2 (Or.inl h3)
   ·exact yyh _ h3
  ·rcases yyk.1 hx with rfl|hx
   ·exact h1
   ·exact h2 x hx
def peak_eq(hP:1≤P)(hP2:P≤1000):maxL ((ovA P l).take P.toNat)=pkV P l:=by
 unfold ovA;rw[tab_take _ (by omega)];have hne:(List.range P.toNat).map (fun v:Nat=>if (v:Int)<P then ov P l (v:Int) else 0)≠[]:=by intro h;have:=congrArg List.length h;simp at this;omega
 obtain⟨h1,h2⟩:=j1w hne;generalize maxL ((List.range P.toNat).map (fun v:Nat=>if (v:Int)<P then ov P l (v:Int) else 0))=m at h1 h2 ⊢;obtain⟨v,hv,rfl⟩:=yy0.1 h1;have hv':=yys.1 hv;rw[if_pos (by omega)] at h2 ⊢;have hf:=q41 (l:=l) hP;have h3:=h2 (ov P l (pkA P l:Int)) (yy0.2 ⟨pkA P l,yys.2 (by have:=hf.1;omega),by rw[if_pos hf.1.2]⟩);have h4:=hf.2 v (by omega) (by omega);unfold pkV;omega
def j09(hP:1≤P)(hP2:P≤1000)(h:ovA P l=ZA):pkV P l=0:=by have hf:=(q41 (l:=l) hP).1;have:=tab_ne.1 h (pkA P l) (by omega);rwa[if_pos hf.2] at this
def stS(P:Int)(l:List Pt)(u:Nat):List Int:=tabL fun v=>if v<u then(fcn P l v:Int) else 0
def stT(P:Int)(l:List Pt)(u:Nat):List Int:=tabL fun v=>if (v:Int)<P then(if v<u then(stN P l v:Int) else fcn P l v) else 0
def stA(P:Int)(l:List Pt):List Int:=tabL fun v=>if (v:Int)<P then(stN P l v:Int) else 0
def stS_zero:stS P l 0=ZA:=(t3 fun k _=>by simp).trans q06
def stS_succ(u:Nat):stS P l (u+1)=(stS P l u).set u (fcn P l u:Int):=by
 unfold stS;rw[q4v];refine t3 fun k _=>?_;by_cases e:k=u
 ·subst e;rw[if_pos (by omega),if_pos rfl]
 ·rw[if_neg e];by_cases h:k<u
  ·rw[if_pos (by omega),if_pos h]
  ·rw[if_neg (by omega),if_neg h]
def stT_zero(hP:1≤P):stS P l P.toNat=stT P l 0:=t3 fun k _=>by
 by_cases h:(k:Int)<P
 ·rw[if_pos (by omega),if_pos h,if_neg (by omega)]
 ·rw[if_neg (by omega),if_neg h]
def stT_get(hu:(u:Int)<P)(hP2:P≤1000):(stT P l u).getD u 0=fcn P l u:=by unfold stT;rw[q6c _ (by omega),if_pos hu,if_neg (by omega)]
def stT_hit(hu:(u:Int)<P)(h:fcn P l u=fcn P l P.toNat):stT P l (u+1)=(stT P l u).set u 0:=by
 unfold stT;rw[q4v];refine t3 fun k _=>?_;by_cases e:k=u
 ·subst e;rw[if_pos hu,if_pos (by omega),if_pos rfl];unfold stN;rw[if_pos h];rfl
 ·rw[if_neg e];by_cases h:(k:Int)<P
  ·rw[if_pos h,if_pos h];by_cases h2:k<u
   ·rw[if_pos (by omega),if_pos h2]
   ·rw[if_neg (by omega),if_neg h2]
  ·rw[if_neg h,if_neg h]
def stT_miss(h:fcn P l u≠fcn P l P.toNat):stT P l (u+1)=stT P l u:=t3 fun k _=>by
 by_cases h1:(k:Int)<P
 ·rw[if_pos h1,if_pos h1];by_cases e:k=u
  ·subst e;rw[if_pos (by omega),if_neg (by omega)];unfold stN;rw[if_neg h]
  ·by_cases h2:k<u
   ·rw[if_pos (by omega),if_pos h2]
   ·rw[if_neg (by omega),if_neg h2]
 ·rw[if_neg h1,if_neg h1]
def stT_end(hP:1≤P):stT P l P.toNat=stA P l:=t3 fun k _=>by
 by_cases h:(k:Int)<P
 ·rw[if_pos h,if_pos h,if_pos (by omega)]
 ·rw[if_neg h,if_neg h]
def j3b(u:Nat):fcn P l u≤u:=by have:=List.countP_le_length (p:=flB P l) (l:=List.range u);rw[List.length_range] at this;exact this
def pkV_def:ov P l (pkA P l:Int)=pkV P l:=rfl
def o0_zero:o0 P l 0=0:=rfl
def z7s(k:Nat)(h:v<1000):(chgL P l k).getD v 0=chg P l k v:=q6c _ h
def z7r(k:Nat):(chgL P l k).length=1000:=q4w _
def ovS_len(u:Nat):(ovS P l u).length=1000:=q4w _
def z1a:(ovA P l).length=1000:=q4w _
def z41(h:v<1000):(ovA P l).getD v 0=if (v:Int)<P then ov P l (v:Int) else 0:=q6c _ h
def stS_len(u:Nat):(stS P l u).length=1000:=q4w _
def stT_len(u:Nat):(stT P l u).length=1000:=q4w _
def stA_len:(stA P l).length=1000:=q4w _
def j0e(h:v<1000):(stA P l).getD v 0=if (v:Int)<P then(stN P l v:Int) else 0:=q6c _ h
abbrev shV(P:Int)(l:List Pt):shT.den:=shW P l (ovA P l) (pkV P l) (stA P l)
abbrev vH(P:Int)(l:List Pt):AV:=.val (.ptr shT) (some (shV P l))
end
end Go.Proofs.YtjmhhehhfeengaaGreatDoor
namespace Go.Proofs.YtjmhhehhfeengaaGreatDoor
open Go Go.RowKit Ox Ox.Sh Ox.Se
attribute [local irreducible] JC JL JK JW
attribute [local irreducible] ovS ovA chgL stS stT stA tabL nw o0 chg
def eqA:EqT Tryz.prog arT 53:=.of (by decide +kernel)
def fn84(P:Int)(l:List Pt)(ov:List Int)(pk:Int)(st:List Int)(n:Nat)(hP:1≤P∧P≤1000)(hl:okP P l)(hn:n<l.length):Ox.Fn Tryz.prog 84 (.acons (vHo P l ov pk st) (.acons (vI n) .anil)) (·=vI (eN P l n)):=by obtain⟨h1,h2⟩:=z8n hl hn;refine Ox.Fn.intro xok Tryz.func84 rfl Tryz.call84 (yyc rfl) (fun E M0 up=>?_);refine z5 ?_;refine zK5 ?_;refine⟨.inl rfl,_,_,rfl,trivial,?_⟩;rfl
set_option maxHeartbeats 4000000 in
def fn42(P:Int)(l:List Pt)(hz:seE P l=0):Ox.Fn Tryz.prog 42 (.acons (vS P l) .anil) (·=vH P l):=by
 obtain⟨hP,h1,h8,hl⟩:=q4l.1 hz;refine Ox.Fn.intro xok Tryz.func42 rfl Tryz.call42 (yyc rfl) (fun E M0 up=>?_);refine z5 ?_;refine zK5 ?_;refine JK.loop (fun i:Nat=>⟨[(1,.lf (.optr 0 [])),(3,.lf (.optr 1 [])),(4,.lf (.optr 2 [])),(5,.lf (.optr 3 [])),(19,vD l),(20,vI l.length),(21,vI (i:Int))],[(0,.cell seT (vS P l)),(1,.cell shT (.val shT (shW P l (ZA.set 0 (o0 P l i)) 0 ZA))),(2,.cell arT (.val arT ZA)),(3,.cell arT (.val arT (chgL P l i)))],4⟩)
  (fun i=>i≤l.length) (fun i=>l.length-i) 0 (yy7 _) ?_ fun i hi=>?_
 ·have e1:ZA.set 0 (o0 P l 0)=ZA:=(congrArg (fun z=>ZA.set 0 z) o0_zero).trans<|(congrArg (fun L=>List.set L 0 (0:Int)) q06.symm).trans ((q4v _ _ _).trans ((t3 fun k _=>by simp).trans q06))
  rw[e1,j36];exact zJ
 ·have hob:=o0_bd hP.1 hl i hi;have hcb:=fun v=>j35 (P:=P) (l:=l) v i;have hg:∀ v:Nat,v<1000→(chgL P l i).getD v 0=chg P l i v:=fun v hv=>z7s i hv;have hcl:(chgL P l i).length=1000:=z7r i;have hz0:(ZA.set 0 (o0 P l i)).getD 0 0=o0 P l i:=rfl;have hz0b:(ZA.set 0 (o0 P l i)).getD (Int.toNat 0) 0=o0 P l i:=rfl;have hstep:=fun(h:i<l.length) (hr:lO l i % P≠0)=>j37 (X:=(chgL P l i).set (aT l i).toNat (chg P l i (aT l i).toNat+1)) hP.1 hP.2 hl h hr rfl;have hsame:=fun(hr:lO l i % P=0)=>j38 (P:=P) (l:=l) (i:=i) hr;have hos:=fun(h:i<l.length)=>(j1j (P:=P) (l:=l) i).trans (congrArg (fun z=>o0 P l i+z) (pW1 hP.1 hl h));refine zK5 ?_;refine q7 rfl (fun hc=>?_) (fun hc=>?_)
  ·replace hc:=zC hc;have hi':i<l.length:=by omega
   obtain⟨b1,b2⟩:=z8n hl hi';have c91:=fn84 P l (ZA.set 0 (o0 P l i)) 0 ZA i hP hl hi';have hre:eN P l i=((l.getD i (0,0,())).1+(l.getD i (0,0,())).2.1) % P:=rfl;have heb:0≤eN P l i∧eN P l i<P:=n3 hP.1 _;have hzs:∀ y,(ZA.set 0 (o0 P l i)).set 0 y=ZA.set 0 y:=fun y=>List.set_set ..;have hzl:(ZA.set 0 (o0 P l i)).length=1000:=by rw[List.length_set];exact(congrArg List.length q06.symm).trans (q4w _)
   generalize ZA.set 0 (o0 P l i)=X at c91 hz0 hz0b hzs hzl ⊢;generalize chgL P l i=C at hg hcl hstep hsame ⊢;replace hos:=hos hi';replace hstep:=hstep hi';have ea:aT l i=(l.getD i (0,0,())).1:=rfl;have eb:lO l i=(l.getD i (0,0,())).2.1:=rfl;rw[ea,eb] at hstep hos;rw[eb] at hsame
   (repeat (first|refine zs rfl ?_|refine zg rfl rfl rfl ?_|refine j6 ?_|refine j5 ?_|refine zeq eqA rfl rfl rfl ?_|refine zne eqA rfl rfl rfl ?_|refine zc rfl (c91) rfl rfl ?_|refine ze rfl (c91) rfl ?_|refine zk rfl rfl (fun _=>c91) rfl rfl ?_))
   refine q0m (s':=⟨[(1,.lf (.optr 0 [])),(3,.lf (.optr 1 [])),(4,.lf (.optr 2 [])),(5,.lf (.optr 3 [])),(7,.lf (.optr 4 [])),(8,vI (eN P l i)),(19,vD l),(20,vI l.length),(21,vI (i:Int))],[(0,.cell seT (vS P l)),(1,.cell shT (.val shT (shW P l X 0 ZA))),(2,.cell arT (.val arT ZA)),(3,.cell arT (.val arT C)),(4,.cell ptT (vP (l.getD i (0,0,()))))],5⟩) (by exact zJ) ?_;generalize l.getD i (0,0,())=s at b1 b2 hre hstep hsame hos ⊢;obtain⟨a,b,_⟩:=s;dsimp only at b1 b2 hre hstep hsame hos ⊢;have hbp:0≤b / P:=Int.ediv_nonneg (by omega) (by omega);have hbp2:b / P≤b:=Int.ediv_le_self _ (by omega);refine q05 xk (Tryz.f42.body.getD .skip) ⟨[(1,.lf (.optr 0 [])),(3,.lf (.optr 1 [])),(4,.lf (.optr 2 [])),(5,.lf (.optr 3 [])),(7,.lf (.optr 4 [])),(8,vI (eN P l i)),(19,vD l),(20,vI l.length),(21,vI (i:Int))],[(0,.cell seT (vS P l)),(1,.cell shT (.val shT (shW P l (X.set 0 (X.getD 0 0+b / P)) 0 ZA))),(2,.cell arT (.val arT ZA)),(3,.cell arT (.val arT C)),(4,.cell ptT (vP (a,b,())))],5⟩ rfl 15 rfl ?_ ?_
   ·(refine q9 0 xk rfl rfl (q9 1 xk rfl rfl (q9 2 xk rfl rfl (q9 3 xk rfl rfl (q9 5 xk rfl rfl (q9 7 xk rfl rfl (q9 11 xk rfl rfl (q9 12 xk rfl rfl (z8 4 xk rfl rfl (z8 6 xk rfl rfl (z8 8 xk rfl rfl (z8 9 xk rfl rfl (z8 10 xk rfl rfl (z8 13 xk rfl rfl (zU 14 xk rfl rfl ?_))))))))))))));exact zB0)
   ·rw[hzs,hz0];refine zK5 ?_;refine q7 rfl (fun hr=>?_) (fun hr=>?_)
    ·replace hr:=zC hr;refine zK5 ?_;refine⟨i+1,?_,by omega,by omega⟩;rw[hsame hr,hos,if_neg (by omega),Int.add_zero];exact zJ
    ·replace hr:=zC hr;replace hstep:=hstep hr;rw[← hg _ (by omega)] at hstep;have hga:=hg a.toNat (by omega);have hba:=hcb a.toNat;have hbe:=hcb (eN P l i).toNat;have hge:((C.set a.toNat (C.getD a.toNat 0+1)).getD (eN P l i).toNat 0)=if (eN P l i).toNat=a.toNat then chg P l i a.toNat+1 else chg P l i (eN P l i).toNat:=by rw[j20 (by omega),hga,hg _ (by omega)]
     have hle:(C.set a.toNat (C.getD a.toNat 0+1)).length=1000:=by rw[List.length_set];exact hcl
     have hgb:-9≤(C.set a.toNat (C.getD a.toNat 0+1)).getD (eN P l i).toNat 0∧(C.set a.toNat (C.getD a.toNat 0+1)).getD (eN P l i).toNat 0≤9:=by rw[hge];split<;>omega
     clear hge;generalize eN P l i=e at *;refine zK5 ?_;refine q7 rfl (fun he=>?_) (fun he=>?_)
     ·replace he:=zC he;rw[if_pos ⟨hr,he⟩] at hos;refine q0m (s':=⟨[(1,.lf (.optr 0 [])),(3,.lf (.optr 1 [])),(4,.lf (.optr 2 [])),(5,.lf (.optr 3 [])),(19,vD l),(20,vI l.length),(21,vI (i:Int))],[(0,.cell seT (vS P l)),(1,.cell shT (.val shT (shW P l (ZA.set 0 (o0 P l i+b / P)) 0 ZA))),(2,.cell arT (.val arT ZA)),(3,.cell arT (.val arT ((C.set a.toNat (C.getD a.toNat 0+1)).set e.toNat ((C.set a.toNat (C.getD a.toNat 0+1)).getD e.toNat 0-1))))],4⟩) (by exact zJ) ?_;rw[hstep];have hy0:(ZA.set 0 (o0 P l i+b / P)).getD (Int.toNat 0) 0=o0 P l i+b / P:=rfl;have hys:∀ y,(ZA.set 0 (o0 P l i+b / P)).set 0 y=ZA.set 0 y:=fun y=>List.set_set ..;have hyl:(ZA.set 0 (o0 P l i+b / P)).length=1000:=by rw[← hzs];rw[List.length_set];exact hzl
      generalize ZA.set 0 (o0 P l i+b / P)=Y at hy0 hys hyl ⊢;refine q37 xk (Tryz.f42.body.getD .skip) ⟨[(1,.lf (.optr 0 [])),(3,.lf (.optr 1 [])),(4,.lf (.optr 2 [])),(5,.lf (.optr 3 [])),(19,vD l),(20,vI l.length),(21,vI (i:Int))],[(0,.cell seT (vS P l)),(1,.cell shT (.val shT (shW P l (Y.set 0 (Y.getD 0 0+1)) 0 ZA))),(2,.cell arT (.val arT ZA)),(3,.cell arT (.val arT (chgL P l (i+1))))],4⟩ rfl 10 rfl ?_ ?_
      ·(refine q9 0 xk rfl rfl (q9 1 xk rfl rfl (q9 2 xk rfl rfl (q9 3 xk rfl rfl (q9 6 xk rfl rfl (q9 7 xk rfl rfl (z8 4 xk rfl rfl (z8 5 xk rfl rfl (z8 8 xk rfl rfl (zU 9 xk rfl rfl ?_)))))))));exact zB0)
      ·have e2:Y.getD 0 0=o0 P l i+b / P:=hy0;rw[hys,e2,Int.add_assoc,← hos];refine zK5 ?_;exact⟨i+1,by exact zJ,by omega,by omega⟩
     ·replace he:=zC he;rw[if_neg (fun h=>he h.2),Int.add_zero] at hos;refine q0m (s':=⟨[(1,.lf (.optr 0 [])),(3,.lf (.optr 1 [])),(4,.lf (.optr 2 [])),(5,.lf (.optr 3 [])),(19,vD l),(20,vI l.length),(21,vI (i:Int))],[(0,.cell seT (vS P l)),(1,.cell shT (.val shT (shW P l (ZA.set 0 (o0 P l i+b / P)) 0 ZA))),(2,.cell arT (.val arT ZA)),(3,.cell arT (.val arT ((C.set a.toNat (C.getD a.toNat 0+1)).set e.toNat ((C.set a.toNat (C.getD a.toNat 0+1)).getD e.toNat 0-1))))],4⟩) (by exact zJ) ?_;rw[hstep,← hos];refine zK5 ?_;exact⟨i+1,by exact zJ,by omega,by omega⟩
  ·replace hc:=zC hc;have hil:i=l.length:=by omega
   clear hg hcl hz0 hz0b hstep hsame hos hcb hc;rw[hil];have hz1:ZA.set 0 (o0 P l l.length)=ovS P l 0:=ovS_zero.symm;have hz2:(ZA.set 0 (o0 P l l.length)).getD 0 0=nw P l 0:=(j1m hP.1 hl).symm;rw[hz1] at hz2 ⊢;refine zK5 ?_;refine JK.loop (fun u:Nat=>⟨[(1,.lf (.optr 0 [])),(3,.lf (.optr 1 [])),(4,.lf (.optr 2 [])),(5,.lf (.optr 3 [])),(9,vI (nw P l u)),(80,vI P),(81,vI (u:Int))],[(0,.cell seT (vS P l)),(1,.cell shT (.val shT (shW P l (ovS P l u) 0 ZA))),(2,.cell arT (.val arT ZA)),(3,.cell arT (.val arT (chgL P l l.length)))],4⟩)
    (fun u=>(u:Int)≤P) (fun u=>P.toNat-u) 0 (by omega) ?_ fun u hu=>?_
   ·rw[← hz2];exact zJ
   ·have hb1:=nw_bd hP.1 hl hu;have hb2:=j35 (P:=P) (l:=l) u l.length;have hg:u<1000→(chgL P l l.length).getD u 0=chg P l l.length u:=fun hv=>z7s _ hv;have hcl:(chgL P l l.length).length=1000:=z7r _;have hol:(ovS P l u).length=1000:=ovS_len u;have hns:=nw_succ hP.1 hl u;have hos:=fun h=>ovS_succ hP.1 hl (u:=u) h;refine zK5 ?_;refine q7 rfl (fun hd=>?_) (fun hd=>?_)
    ·replace hd:=zC hd;have hgu:=hg (by omega);replace hos:=hos hd;rw[hns,← hgu] at hos;rw[← hgu] at hns hb2;refine zK5 ?_;refine⟨u+1,?_,by push_cast;omega,by omega⟩;rw[hos,hns];exact zJ
    ·replace hd:=zC hd;have hup:u=P.toNat:=by omega
     rw[hup,ovS_end hP.1];clear hg hcl hns hos hb1 hb2 hol;refine q0m (s':=⟨[(1,.lf (.optr 0 [])),(3,.lf (.optr 1 [])),(4,.lf (.optr 2 [])),(80,vI P)],[(0,.cell seT (vS P l)),(1,.cell shT (.val shT (shW P l (ovA P l) 0 ZA))),(2,.cell arT (.val arT ZA))],3⟩) (by exact zJ) ?_
     (repeat (first|refine zu rfl ?_|refine zg rfl rfl rfl ?_|refine zd ?_|refine j6 ?_|refine j5 ?_|refine zeq eqA rfl rfl rfl ?_|refine zne eqA rfl rfl rfl ?_))
     refine JK.cut (σ:=Unit) (fun _=>⟨[(1,.lf (.optr 0 [])),(3,.lf (.optr 1 []))],[(0,.cell seT (vS P l)),(1,.cell shT (.val shT (shW P l (ovA P l) (pkV P l) ZA)))],2⟩) (fun _=>True) ?_ (fun _ _=>?_)
     ·have c106:=fn85 ((ovA P l).take P.toNat) (by rw[yy3,z1a];omega);rw[peak_eq hP.1 hP.2] at c106;refine zK5 ?_;refine q7 rfl (fun hf=>?_) (fun hf=>?_)
      ·refine z79 xk (Tryz.f42.body.getD .skip) rfl 11 rfl ?_
       (refine q9 0 xk rfl rfl (q9 1 xk rfl rfl (q9 2 xk rfl rfl (q9 3 xk rfl rfl (q9 4 xk rfl rfl (z8 5 xk rfl rfl (z8 6 xk rfl rfl (zU 7 xk rfl rfl ?_)))))));refine zK19 ?_;refine w8 ?_;refine z8 8 xk rfl rfl (z8 9 xk rfl rfl (zU 10 xk rfl rfl ?_));refine zK19 ?_;refine w8 ?_;refine n8 xk ?_ ?_;exact zS;((refine j6 ?_;exact⟨(),by exact zJ,trivial⟩)))
      ·have hz:ovA P l=ZA:=by
        have h2:arT.eqB (ovA P l) ZA=true:=by simpa using hf
        exact x3.1 h2
       rw[j09 hP.1 hP.2 hz];refine zK5 ?_;exact⟨(),by exact zJ,trivial⟩
     ·have hol:=z1a (P:=P) (l:=l);refine zK5 ?_;refine JK.loop (fun u:Nat=>⟨[(1,.lf (.optr 0 [])),(3,.lf (.optr 1 [])),(11,vI (fcn P l u:Nat)),(113,vI P),(114,vI (u:Int))],[(0,.cell seT (vS P l)),(1,.cell shT (.val shT (shW P l (ovA P l) (pkV P l) (stS P l u))))],2⟩)
       (fun u=>(u:Int)≤P) (fun u=>P.toNat-u) 0 (by omega) ?_ fun u hu=>?_
      ·rw[stS_zero,show fcn P l 0=0 from rfl];exact zJ
      ·have hsl:=stS_len (P:=P) (l:=l) u;have hfb:=j3b (P:=P) (l:=l) u;have hss:=stS_succ (P:=P) (l:=l) u;have hfs:=q7v (P:=P) (l:=l) u;have hog:=fun h=>z41 (P:=P) (l:=l) (v:=u) h;refine zK5 ?_;refine q7 rfl (fun hd=>?_) (fun hd=>?_)
       ·replace hd:=zC hd;replace hog:=hog (by omega);rw[if_pos hd] at hog;have hfl:flB P l u=decide ((ovA P l).getD u 0=pkV P l):=by rw[hog];rfl
        refine zK5 ?_;refine q7 rfl (fun hf=>?_) (fun hf=>?_)
        ·replace hf:=zC hf;rw[hfl,if_pos (decide_eq_true hf)] at hfs;refine zK5 ?_;refine⟨u+1,?_,by push_cast;omega,by omega⟩;rw[hss,hfs];exact zJ
        ·replace hf:=zC hf;rw[hfl,decide_eq_false hf,if_neg (by decide),Nat.add_zero] at hfs;refine zK5 ?_;refine⟨u+1,?_,by push_cast;omega,by omega⟩;rw[hss,hfs];exact zJ
       ·replace hd:=zC hd;have hup2:u=P.toNat:=by omega
        rw[hup2,stT_zero hP.1];clear hsl hfb hss hfs hog;have hN:=j3b (P:=P) (l:=l) P.toNat;refine zK5 ?_;refine JK.loop (fun u:Nat=>⟨[(1,.lf (.optr 0 [])),(3,.lf (.optr 1 [])),(11,vI (fcn P l P.toNat:Nat)),(138,vI P),(139,vI (u:Int))],[(0,.cell seT (vS P l)),(1,.cell shT (.val shT (shW P l (ovA P l) (pkV P l) (stT P l u))))],2⟩)
         (fun u=>(u:Int)≤P) (fun u=>P.toNat-u) 0 (by omega) (by exact zJ) fun u hu=>?_
        have hsl:=stT_len (P:=P) (l:=l) u;have hfb:=j3b (P:=P) (l:=l) u;have hsg:=fun h=>stT_get (P:=P) (l:=l) (u:=u) h hP.2;have hst:=fun h=>stT_hit (P:=P) (l:=l) (u:=u) h;have hsm:=fun h=>stT_miss (P:=P) (l:=l) (u:=u) h;refine zK5 ?_;refine q7 rfl (fun hd=>?_) (fun hd=>?_)
        ·replace hd:=zC hd;replace hsg:=hsg hd;have hsgb:-1≤(stT P l u).getD u 0:=by rw[hsg];omega
         refine zK5 ?_;refine q7 rfl (fun hf=>?_) (fun hf=>?_)
         ·replace hf:=zC hf;rw[hsg] at hf;refine zK5 ?_;refine⟨u+1,?_,by push_cast;omega,by omega⟩;rw[hst hd (by omega)];exact zJ
         ·replace hf:=zC hf;rw[hsg] at hf;refine zK5 ?_;refine⟨u+1,?_,by push_cast;omega,by omega⟩;rw[hsm (by omega)];exact zJ
        ·replace hd:=zC hd;have hup3:u=P.toNat:=by omega
         rw[hup3,stT_end hP.1];refine zK5 ?_;refine⟨.inl rfl,_,_,rfl,trivial,?_⟩;rfl
end Go.Proofs.YtjmhhehhfeengaaGreatDoor
namespace Go.Proofs.YtjmhhehhfeengaaGreatDoor
open Go Go.RowKit Ox Ox.Sh Ox.Se
attribute [local irreducible] JC JL JK JW
attribute [local irreducible] ovA stA pkV
abbrev vOp(P:Int)(l:List Pt):AV:=.tup (.acons (.val (.ptr shT) (if seE P l=0 then some (shV P l) else none)) (.acons (vI (seE P l)) .anil))
def fn14(P:Int)(l:List Pt):Ox.Fn Tryz.prog 14 (.acons (vS P l) .anil) (·=vOp P l):=by
 refine Ox.Fn.intro xok Tryz.func14 rfl Tryz.call14 (yyc rfl) (fun E M0 up=>?_);refine z5 ?_
 (repeat (first|refine zs rfl ?_|refine zg rfl rfl rfl ?_|refine zd ?_|refine j6 ?_|refine j5 ?_|refine zc rfl (fn41 P l) rfl rfl ?_|refine ze rfl (fn41 P l) rfl ?_|refine zk rfl rfl (fun _=>fn41 P l) rfl rfl ?_))
 refine q7 rfl (fun hc=>?_) (fun hc=>?_)
 ·replace hc:=zC hc;refine zK0 ?_;refine⟨.inl rfl,_,_,rfl,trivial,?_⟩;unfold vOp;rw[if_neg hc]
 ·replace hc:=zC hc;have hz:seE P l=0:=by omega
  (repeat (first|refine zs rfl ?_|refine zg rfl rfl rfl ?_|refine zd ?_|refine j6 ?_|refine j5 ?_|refine zc rfl (fn42 P l hz) rfl rfl ?_|refine ze rfl (fn42 P l hz) rfl ?_|refine zk rfl rfl (fun _=>fn42 P l hz) rfl rfl ?_))
  refine⟨.inl rfl,_,_,rfl,trivial,?_⟩;unfold vOp;rw[if_pos hz,hz]
variable{l:List Pt}
def gp_cases(hP:1≤P)(hl:okP P l)(hj:j<l.length):gp P l i j=if (l.getD j (0,0,())).1-eN P l i<0 then(l.getD j (0,0,())).1-eN P l i+P else(l.getD j (0,0,())).1-eN P l i:=by have h:=gp_eq (c:=-1) (l:=l) hP i j;rw[LA1 hP hl hj,LE1 hP] at h;rw[h];have e:aT l j=(l.getD j (0,0,())).1:=rfl;rw[e];split<;>split<;>omega
def fn47(P:Int)(l:List Pt)(i j:Nat)(hP:1≤P∧P≤1000)(hl:okP P l)(hi:i<l.length)(hj:j<l.length):Ox.Fn Tryz.prog 47 (.acons (vH P l) (.acons (vI i) (.acons (vI j) .anil))) (·=vI (gp P l i j)):=by
 refine Ox.Fn.intro xok Tryz.func47 rfl Tryz.call47 (yyc rfl) (fun E M0 up=>?_);refine z5 ?_;have c91:=fn84 P l (ovA P l) (pkV P l) (stA P l) i hP hl hi;have hb:=(z8n hl hj).1;have he:0≤eN P l i∧eN P l i<P:=n3 hP.1 _;have hg:=gp_cases hP.1 hl (i:=i) hj;generalize eN P l i=e at *;refine zK20 ?_;refine q7 rfl (fun hc=>?_) (fun hc=>?_)
 ·replace hc:=zC hc;refine zK0 ?_;refine⟨.inl rfl,_,_,rfl,trivial,?_⟩;rw[hg,if_pos hc];rfl
 ·replace hc:=zC hc;refine zK0 ?_;refine⟨.inl rfl,_,_,rfl,trivial,?_⟩;rw[hg,if_neg hc];rfl
def fn19(P:Int)(l:List Pt)(h8:l.length≤8):Ox.Fn Tryz.prog 19 (.acons (vH P l) .anil) (·=vI ((2 ^ l.length-1:Nat):Int)):=by
 refine Ox.Fn.intro xok Tryz.func19 rfl Tryz.call19 (yyc rfl) (fun E M0 up=>?_);refine z5 ?_;have hpl:1≤2 ^ l.length∧2 ^ l.length≤256:=⟨Nat.one_le_two_pow,yyy (n:=2) (by omega) (by omega:l.length≤8)⟩;have hpw:(2:Int) ^ l.length=((2 ^ l.length:Nat):Int):=by push_cast;rfl
 have hpb:1≤(2:Int) ^ l.length∧(2:Int) ^ l.length≤256:=by rw[hpw];omega
 refine zK0 ?_;refine⟨.inl rfl,_,_,rfl,trivial,?_⟩;refine congrArg vI ?_;rw[Int.one_mul,Int.toNat_natCast,hpw];omega
def fn89(P:Int)(l:List Pt)(n:Nat)(k:Int)(hP:1≤P∧P≤1000)(hl:okP P l)(hn:n<l.length):Ox.Fn Tryz.prog 89 (.acons (vH P l) (.acons (vI n) (.acons (vI k) .anil))) (·=vI (if k=0 then sA P l n else sE P l n:Nat)):=by
 refine Ox.Fn.intro xok Tryz.func89 rfl Tryz.call89 (yyc rfl) (fun E M0 up=>?_);refine z5 ?_;have hb:=(z8n hl hn).1;have he:0≤eN P l n∧eN P l n<P:=n3 hP.1 _;have c91:=fn84 P l (ovA P l) (pkV P l) (stA P l) n hP hl hn;have hlen:=stA_len (P:=P) (l:=l);refine zK0 ?_;refine q7 rfl (fun hc=>?_) (fun hc=>?_)
 ·replace hc:=zC hc;refine zK0 ?_;refine⟨.inl rfl,_,_,rfl,trivial,?_⟩;rw[if_pos hc];refine congrArg vI ?_;have:=j0e (P:=P) (l:=l) (v:=(aT l n).toNat) (by unfold aT;show(l.getD n (0,0,())).1.toNat<1000;omega);rw[if_pos (by unfold aT;show(((l.getD n (0,0,())).1.toNat:Nat):Int)<P;omega)] at this;exact this
 ·replace hc:=zC hc;have hg:=j0e (P:=P) (l:=l) (v:=(eN P l n).toNat) (by omega);rw[if_pos (by omega)] at hg;refine zK20 ?_;refine⟨.inl rfl,_,_,rfl,trivial,?_⟩;rw[if_neg hc];exact congrArg vI hg
def fn86(P:Int)(l:List Pt)(n:Nat)(s:Int)(hP:1≤P∧P≤1000)(hl:okP P l)(hn:n<l.length):Ox.Fn Tryz.prog 86 (.acons (vH P l) (.acons (vI n) (.acons (vI s) .anil))) (·=vB (decide ((sA P l n:Int)=s∨(sE P l n:Int)=s))):=by
 refine Ox.Fn.intro xok Tryz.func86 rfl Tryz.call86 (yyc rfl) (fun E M0 up=>?_);refine z5 ?_;have c0:=fn89 P l n 0 hP hl hn;have c1:=fn89 P l n 1 hP hl hn;rw[if_pos rfl] at c0;rw[if_neg (by decide)] at c1
 (repeat (first|refine zs rfl ?_|refine zg rfl rfl rfl ?_|refine zd ?_|refine j6 ?_|refine j5 ?_|refine zc rfl (c0) rfl rfl ?_|refine ze rfl (c0) rfl ?_|refine zk rfl rfl (fun _=>c0) rfl rfl ?_|refine zc rfl (c1) rfl rfl ?_|refine ze rfl (c1) rfl ?_|refine zk rfl rfl (fun _=>c1) rfl rfl ?_))
 refine⟨.inl rfl,_,_,rfl,trivial,?_⟩;refine congrArg vB ?_;by_cases h:(sA P l n:Int)=s
 ·rw[decide_eq_true (Or.inl h),beq_iff_eq.2 h];rfl
 ·have e:decide ((sA P l n:Int)=s∨(sE P l n:Int)=s)=((sE P l n:Int)==s):=by rw[yy5,decide_eq_true_iff,beq_iff_eq];exact⟨fun h'=>h'.resolve_left h,Or.inr⟩
  rw[e,beq_eq_false_iff_ne.2 h];rfl
def fn17(P:Int)(l:List Pt)(hP:1≤P∧P≤1000):Ox.Fn Tryz.prog 17 (.acons (vH P l) .anil) (·=vI (pkA P l:Nat)):=by
 refine Ox.Fn.intro xok Tryz.func17 rfl Tryz.call17 (yyc rfl) (fun E M0 up=>?_);refine z5 ?_;have hlen:=z1a (P:=P) (l:=l);have hf:=(q41 (l:=l) hP.1).1;refine zK0 ?_;refine z2q (σ:=Nat) (τ:=Unit) (fun u:Nat=>⟨[(0,vH P l),(3,vI (-1)),(9,vI P),(10,vI (u:Int))],[],0⟩) (fun u=>u≤pkA P l) (fun u=>P.toNat-u) 0 (yy7 _) (by exact zJ) (fun _=>⟨[(3,vI (pkA P l:Nat))],[],0⟩) (fun _=>True) (fun _ _=>?_) fun u hu=>?_
 ·refine zK0 ?_;refine⟨.inl rfl,_,_,rfl,trivial,?_⟩;rfl
 ·have hog:=fun h=>z41 (P:=P) (l:=l) (v:=u) h;refine zK0 ?_;refine q7 rfl (fun hd=>?_) (fun hd=>?_)
  ·replace hd:=zC hd;replace hog:=hog (by omega);rw[if_pos hd] at hog;refine zK0 ?_;refine q7 rfl (fun he=>?_) (fun he=>?_)
   ·replace he:=zC he;rw[hog] at he;have hup:u=pkA P l:=by
     rcases Nat.lt_or_ge u (pkA P l) with h|h
     ·have:=q7n (P:=P) (l:=l) u h;rw[he] at this;omega
     ·omega
    refine zK0 ?_;exact⟨(),by rw[← hup];exact zJ,trivial⟩
   ·replace he:=zC he;rw[hog] at he;have hlt:u<pkA P l:=by
     rcases Nat.lt_or_ge u (pkA P l) with h|h
     ·exact h
     ·have:u=pkA P l:=by omega
      exact absurd (by rw[this];exact pkV_def) he
    refine zK0 ?_;exact⟨u+1,by exact zJ,by omega,by omega⟩
  ·replace hd:=zC hd;omega
abbrev iL(o:List Nat):List Int:=o.map (fun n:Nat=>(n:Int))
def q44(o:List Nat)(k:Nat):iL (o++[k])=iL o++[(k:Int)]:=by simp
def q1g(o:List Nat)(i:Nat):(iL o).getD i 0=((o.getD i 0:Nat):Int):=by rw[yyj,List.getElem?_map,yyj];cases o[i]?<;>rfl
def q4r(o:List Nat):(iL o).length=o.length:=yxy _
def orN(t:Nat)(o:List Nat):Nat:=o.foldl (fun t n=>t ||| 2 ^ n) t
def q3u(t:Nat)(o:List Nat)(n:Nat):orN t (o++[n])=orN t o ||| 2 ^ n:=by unfold orN;rw[List.foldl_append];rfl
def q6k(k:Nat):∀ (o:List Nat) (t:Nat),(orN t o).testBit k=(t.testBit k||decide (k∈o))
 |[],t=>by simp[orN]
 |n::o,t=>by
  have e:orN t (n::o)=orN (t ||| 2 ^ n) o:=rfl;rw[e,q6k k o,Nat.testBit_or,Nat.testBit_two_pow];by_cases h:n=k
  ·subst h;simp
  ·have h':¬ k=n:=fun e=>h e.symm;simp[h,h']
def q8i{M:Nat}:∀ {o:List Nat} {t:Nat},t<2 ^ M→(∀ n∈o,n<M)→orN t o<2 ^ M
 |[],_,ht,_=>ht
 |n::o,t,ht,h=>q8i (o:=o) (Nat.or_lt_two_pow ht (Nat.pow_lt_pow_right (by omega) (h n yyg))) fun k hk=>h k (yyh _ hk)
def z50(b k:Nat):(b / 2 ^ k) &&& 1=1↔b.testBit k=true:=by rw[Nat.testBit_eq_decide_div_mod_eq,Nat.and_one_is_mod,decide_eq_true_iff]
def q5z(t k:Nat):((((t:Int) / 2 ^ ((k:Int)).toNat).toNat &&& ((1:Int)).toNat:Nat):Int)=(((t / 2 ^ k) &&& 1:Nat):Int):=by rw[Int.toNat_natCast,show((t:Int) / 2 ^ k)=((t / 2 ^ k:Nat):Int) by push_cast;rfl,Int.toNat_natCast];rfl
def j4f(t k:Nat):(((((t:Int) / 2 ^ ((k:Int)).toNat).toNat &&& ((1:Int)).toNat:Nat):Int)=1)↔t.testBit k=true:=by rw[q5z,← z50];omega
def div_bd(b k:Nat)(hb:b<65536):0≤(b:Int) / 2 ^ k∧(b:Int) / 2 ^ k≤65536:=by
 have e:(b:Int) / 2 ^ k=((b / 2 ^ k:Nat):Int):=by push_cast;rfl
 rw[e];have:=Nat.div_le_self b (2 ^ k);generalize b / 2 ^ k=z at this ⊢;omega
def bitsK(b k:Nat):List Nat:=(List.range k).filter fun i=>b.testBit i
abbrev bitsL(b:Nat):List Nat:=bitsK b 8
def x5:i∈bitsK b k↔i<k∧b.testBit i=true:=by unfold bitsK;rw[yxl,yys]
def z9c(b k:Nat):bitsK b (k+1)=bitsK b k++if b.testBit k=true then [k] else []:=by unfold bitsK;rw[List.range_succ,List.filter_append];congr 1;cases h:b.testBit k<;>simp[h]
def q9c(b k:Nat):(bitsK b k).length≤k:=by have:=yx8 (fun i=>b.testBit i) (List.range k);rw[List.length_range] at this;exact this
set_option maxHeartbeats 1000000 in
def fn20(b:Nat)(hb:b<256):Ox.Fn Tryz.prog 20 (.acons (vI b) .anil) (·=vL (iL (bitsL b))):=by
 refine Ox.Fn.intro xok Tryz.func20 rfl Tryz.call20 (yyc rfl) (fun E M0 up=>?_);refine z5 ?_;refine zK4 ?_;refine JK.ghost 3 3 (.int .i64) rfl ?_
 (refine q9x [0] [0,3,5] rfl ?_)
 refine JK.loop (fun k:Nat=>⟨[(0,vI b),(3,vL (iL (bitsK b k))),(5,vI (k:Int))],[],1⟩) (fun k=>k≤8) (fun k=>8-k) 0 (yy7 _) (by exact zJ) fun k hk=>?_;have hs:=z9c b k;have hl:=q9c b k;have hl1:(iL (bitsK b k)).length≤8:=by rw[q4r];omega
 have hfin:k=8→bitsK b k=bitsK b 8:=fun e=>by rw[e]
 have hbi:=j4f b k;have hdv:=div_bd b k (by omega);generalize bitsK b k=o at hs hl hl1 hfin ⊢;refine zK4 ?_;refine q7 rfl (fun hc=>?_) (fun hc=>?_)
 ·replace hc:=zC hc;refine zK4 ?_;refine q7 rfl (fun hd=>?_) (fun hd=>?_)
  ·rw[if_pos (hbi.1 (beq_iff_eq.1 hd))] at hs;have htk:(List.take (iL o).length (iL o)).length=o.length:=by rw[yxj,q4r]
   have ht:List.take ((iL o).length:Int).toNat (iL o)++[(k:Int)]=iL (bitsK b (k+1)):=by rw[hs,Int.toNat_natCast,yxj,q44]
   iterate 11 (refine zs rfl ?_)
   (refine JK.fzL [2] [0,3,5] rfl ?_)
   refine zK4 ?_;exact⟨k+1,by(refine q1i (by conv=>lhs;reduce) ?_ ?_ ?_ ?_ rfl<;>(repeat' (first|exact trivial|exact rfl|refine And.intro ?_ ?_|exact yyc rfl|refine q1x ?_|(refine congrArg (fun z:Int=>some (AV.val (.int .i64) z)) ?_;push_cast;omega)|exact congrArg (fun z:List Int=>some (vL z)) ht))),by omega,by omega⟩
  ·rw[if_neg (fun h=>by rw[hbi.2 h] at hd;simp at hd),yxv] at hs;refine zK4 ?_;refine⟨k+1,?_,by omega,by omega⟩;rw[hs];exact zJ
 ·replace hc:=zC hc;refine zK4 ?_;refine⟨.inl rfl,_,_,rfl,trivial,?_⟩;rw[hfin (by omega)]
def sdE(P:Int)(l:List Pt)(e:Nat):Nat:=if e % 2=0 then sA P l (e / 2) else sE P l (e / 2)
def toB(P:Int)(l:List Pt)(m e:Nat):Bool:=decide (sA P l m=sdE P l e∨sE P l m=sdE P l e)
abbrev ppH(P:Int)(l:List Pt):AV:=.val (.ptr (.ptr shT)) (some (some (shV P l)))
abbrev meT(P:Int)(l:List Pt):AV:=.fn 86 (.acons (vH P l) .anil) .anil
abbrev tF(P:Int)(l:List Pt)(n k:Int):AV:=.fn 88 .anil (.acons (.pfn (meT P l)) (.acons (ppH P l) (.acons (pI n) (.acons (pI k) .anil))))
def sd_eq(P:Int)(l:List Pt)(n k:Nat)(hk:k<2):sdE P l (2*n+k)=if (k:Int)=0 then sA P l n else sE P l n:=by
 unfold sdE;have h1:(2*n+k) / 2=n:=by omega
 have h2:(2*n+k) % 2=k:=by omega
 rw[h1,h2];by_cases h:k=0
 ·rw[if_pos h,if_pos (by omega)]
 ·rw[if_neg h,if_neg (by omega)]
def fn88(P:Int)(l:List Pt)(m n k:Nat)(hP:1≤P∧P≤1000)(hl:okP P l)(hm:m<l.length)(hn:n<l.length)(hk:k<2) :
  Ox.Fn Tryz.prog 88 (.acons (vI m) (.acons (.pfn (meT P l)) (.acons (ppH P l) (.acons (pI n) (.acons (pI k) .anil))))) (·=vB (toB P l m (2*n+k))):=by
 refine Ox.Fn.intro xok Tryz.func88 rfl Tryz.call88 (yyc rfl) (fun E M0 up=>?_);refine z5 ?_;have c1:=fn89 P l n k hP hl hn;have c2:=fn86 P l m (if (k:Int)=0 then sA P l n else sE P l n:Nat) hP hl hm;have e:toB P l m (2*n+k)=decide ((sA P l m:Int)=((if (k:Int)=0 then sA P l n else sE P l n:Nat):Int)∨(sE P l m:Int)=((if (k:Int)=0 then sA P l n else sE P l n:Nat):Int)):=by unfold toB;rw[sd_eq P l n k hk];refine decide_eq_decide.2 ?_;rw[Int.ofNat_inj,Int.ofNat_inj]
 rw[e];generalize (if (k:Int)=0 then sA P l n else sE P l n:Nat)=w at c1 c2 ⊢
 (repeat (first|refine zs rfl ?_|refine zg rfl rfl rfl ?_|refine zd ?_|refine j6 ?_|refine j5 ?_|refine zlf q4s rfl rfl rfl ?_|refine zdf q4s rfl rfl ?_|refine zc rfl (c1) rfl rfl ?_|refine ze rfl (c1) rfl ?_|refine zk rfl rfl (fun _=>c1) rfl rfl ?_|refine zc rfl (c2) rfl rfl ?_|refine ze rfl (c2) rfl ?_|refine zk rfl rfl (fun _=>c2) rfl rfl ?_))
 refine⟨.inl rfl,_,_,rfl,trivial,?_⟩;rfl
def fn87(P:Int)(l:List Pt)(xs:List Nat)(n k:Nat)(hP:1≤P∧P≤1000)(hl:okP P l)(hx:∀ m∈xs,m<l.length)(hn:n<l.length)(hk:k<2) :
  Ox.Fn Tryz.prog 87 (.acons (vL (iL xs)) (.acons (tF P l n k) .anil)) (·=vI (idxB (fun m=>toB P l m (2*n+k)) xs 0)):=by
 refine Ox.Fn.intro xok Tryz.func87 rfl Tryz.call87 (yyc rfl) (fun E M0 up=>?_);refine z5 ?_;refine JK.lenOf 0 rfl fun hlen=>?_;replace hlen:(iL xs).length≤9223372036854775807:=hlen.1;have hil:(iL xs).length=xs.length:=q4r xs;refine zK4 ?_;refine JK.loop (fun i:Nat=>⟨[(1,tF P l n k),(7,vL (iL xs)),(8,vI (iL xs).length),(9,vI (i:Int))],[],0⟩) (fun i=>i≤xs.length∧idxB (fun m=>toB P l m (2*n+k)) xs 0=idxB (fun m=>toB P l m (2*n+k)) (xs.drop i) i) (fun i=>xs.length-i) 0 (by simp) (by exact zJ) fun i ⟨hi,hd⟩=>?_;refine zK4 ?_;refine q7 rfl (fun hc=>?_) (fun hc=>?_)
 ·replace hc:=zC hc;have hi':i<xs.length:=by omega
  have e1:(iL xs).getD i 0=((xs.getD i 0:Nat):Int):=q1g xs i;have hm:xs.getD i 0<l.length:=by rw[z9 xs hi'];exact hx _ (yyv hi')
  have c:=fn88 P l (xs.getD i 0) n k hP hl hm hn hk;rw[← e1] at c
  (repeat (first|refine zs rfl ?_|refine zg rfl rfl rfl ?_|refine zd ?_|refine j6 ?_|refine j5 ?_|refine zlf q4s rfl rfl rfl ?_|refine zdf q4s rfl rfl ?_|refine zc rfl (c) rfl rfl ?_|refine ze rfl (c) rfl ?_|refine zk rfl rfl (fun _=>c) rfl rfl ?_))
  refine q7 rfl (fun hb=>?_) (fun hb=>?_)
  ·refine zK4 ?_;refine⟨.inl rfl,_,_,rfl,trivial,?_⟩;rw[z9 xs hi'] at hb;rw[hd,yy8 hi',idxB,if_pos hb]
  ·refine zK4 ?_;rw[z9 xs hi'] at hb;refine⟨i+1,by exact zJ,⟨by omega,?_⟩,by omega⟩;rw[hd,yy8 hi',idxB,if_neg (by rw[hb];simp)]
 ·replace hc:=zC hc;refine zK4 ?_;refine⟨.inl rfl,_,_,rfl,trivial,?_⟩;obtain rfl:i=xs.length:=by omega
  rw[hd,List.drop_length];rfl
def tcB(P:Int)(l:List Pt)(p e:Nat):Bool:=(bitsL p).any fun m=>toB P l m e
def tcN(P:Int)(l:List Pt)(p k:Nat):Nat:=orN 0 ((List.range k).filter (tcB P l p))
def tcN_succ(P:Int)(l:List Pt)(p k:Nat):tcN P l p (k+1)=if tcB P l p k=true then tcN P l p k ||| 2 ^ k else tcN P l p k:=by
 unfold tcN;rw[List.range_succ,List.filter_append];by_cases h:tcB P l p k=true
 ·rw[List.filter_cons_of_pos h,if_pos h];exact q3u _ _ _
 ·rw[yx7 h,if_neg h];simp
def tcN_bit(P:Int)(l:List Pt)(p k e:Nat):(tcN P l p k).testBit e=(decide (e<k)&&tcB P l p e):=by unfold tcN;rw[q6k,Nat.zero_testBit,Bool.false_or,yy5,decide_eq_true_iff,yxl,yys,yyd,decide_eq_true_iff]
def tcN_lt(P:Int)(l:List Pt)(p:Nat)(hk:k≤16):tcN P l p k<65536:=by unfold tcN;refine q8i (M:=16) (by decide) fun n hn=>?_;have:=yys.1 (yxl.1 hn).1;omega
set_option maxHeartbeats 4000000 in
def fn48(P:Int)(l:List Pt)(p:Nat)(hP:1≤P∧P≤1000)(hl:okP P l)(h8:l.length≤8)(hp:p<2 ^ l.length) :
  Ox.Fn Tryz.prog 48 (.acons (vH P l) (.acons (vI p) .anil)) (·=vI (tcN P l p (2*l.length):Nat)):=by
 refine Ox.Fn.intro xok Tryz.func48 rfl Tryz.call48 (yyc rfl) (fun E M0 up=>?_);refine z5 ?_;have hp256:p<256:=yxd hp (yyy (n:=2) (by omega) h8);have hbm:∀ m∈bitsL p,m<l.length:=fun m hm=>by have h1:=(x5.1 hm).2;refine Nat.lt_of_not_le fun hle=>?_;rw[Nat.testBit_lt_two_pow (yxd hp (yyy (by omega) hle))] at h1;cases h1
 have c78:=fn20 p hp256;refine zK4 ?_;refine JK.loop (fun n:Nat=>⟨[(1,vI p),(2,.lf (.optr 0 [])),(5,vI (tcN P l p (2*n):Nat)),(6,.pfn (meT P l)),(17,vI l.length),(18,vI (n:Int))],[(0,.cell (.ptr shT) (vH P l))],1⟩)
  (fun n=>n≤l.length) (fun n=>l.length-n) 0 (yy7 _) (by exact zJ) fun n hn=>?_
 have hfin:n=l.length→tcN P l p (2*n)=tcN P l p (2*l.length):=fun e=>by rw[e]
 refine zK4 ?_;refine q7 rfl (fun hc=>?_) (fun hc=>?_)
 ·replace hc:=zC hc;have hn':n<l.length:=by omega
  refine zK4 ?_;refine JK.loop (fun k:Nat=>⟨[(1,vI p),(2,.lf (.optr 0 [])),(5,vI (tcN P l p (2*n+k):Nat)),(6,.pfn (meT P l)),(7,.lf (.optr 1 [])),(17,vI l.length),(18,vI (n:Int)),(21,vI (k:Int))],[(0,.cell (.ptr shT) (vH P l)),(1,.cell (.int .i64) (vI (n:Int)))],2⟩)
   (fun k=>k≤2) (fun k=>2-k) 0 (yy7 _) (by exact zJ) fun k hk=>?_
  have hts:=tcN_succ P l p (2*n+k);have htl:=tcN_lt P l p (k:=2*n+k) (by omega);have hfk:k=2→tcN P l p (2*n+k)=tcN P l p (2*(n+1)):=fun e=>by rw[e];rfl
  generalize tcN P l p (2*n+k)=T at hts htl hfk ⊢;refine zK4 ?_;refine q7 rfl (fun hd=>?_) (fun hd=>?_)
  ·replace hd:=zC hd;have c98:=fn87 P l (bitsL p) n k hP hl hbm hn' (by omega);have hid:(0≤idxB (fun m=>toB P l m (2*n+k)) (bitsL p) 0)↔tcB P l p (2*n+k)=true:=p8;generalize idxB (fun m=>toB P l m (2*n+k)) (bitsL p) 0=ix at c98 hid;have he:(2*(n:Int)+(k:Int)).toNat=2*n+k:=by omega
   have hpl:2 ^ (2*n+k)<65536:=Nat.pow_lt_pow_right (a:=2) (by omega) (by omega:2*n+k<16);have hpw:(2:Int) ^ (2*(n:Int)+(k:Int)).toNat=((2 ^ (2*n+k):Nat):Int):=by rw[he];push_cast;rfl
   have hpb:0≤(2:Int) ^ (2*(n:Int)+(k:Int)).toNat∧(2:Int) ^ (2*(n:Int)+(k:Int)).toNat≤65536:=by rw[hpw];exact⟨Int.natCast_nonneg _,Int.ofNat_le.2 (Nat.le_of_lt hpl)⟩
   have hor:(((T:Int).toNat ||| ((1:Int)*2 ^ (2*(n:Int)+(k:Int)).toNat).toNat:Nat):Int)=((T ||| 2 ^ (2*n+k):Nat):Int):=by rw[Int.toNat_natCast,Int.one_mul,hpw,Int.toNat_natCast]
   have hol:T ||| 2 ^ (2*n+k)<65536:=Nat.or_lt_two_pow (n:=16) htl hpl
   clear hpw
   (repeat (first|refine zs rfl ?_|refine zg rfl rfl rfl ?_|refine zd ?_|refine j6 ?_|refine j5 ?_|refine zlf q4s rfl rfl rfl ?_|refine zdf q4s rfl rfl ?_|refine zc rfl (c78) rfl rfl ?_|refine ze rfl (c78) rfl ?_|refine zk rfl rfl (fun _=>c78) rfl rfl ?_|refine zc rfl (c98) rfl rfl ?_|refine ze rfl (c98) rfl ?_|refine zk rfl rfl (fun _=>c98) rfl rfl ?_))
   refine q7 rfl (fun hg=>?_) (fun hg=>?_)
   ·replace hg:=zC hg;rw[if_pos (hid.1 hg)] at hts;refine zK4 ?_;refine⟨k+1,?_,by omega,by omega⟩;rw[show 2*n+(k+1)=2*n+k+1 by omega,hts,← hor];exact zJ
   ·replace hg:=zC hg;rw[if_neg (fun h=>hg (hid.2 h))] at hts;refine zK4 ?_;refine⟨k+1,?_,by omega,by omega⟩;rw[show 2*n+(k+1)=2*n+k+1 by omega,hts];exact zJ
  ·replace hd:=zC hd;rw[hfk (by omega)];refine zK4 ?_;exact⟨n+1,by exact zJ,by omega,by omega⟩
 ·replace hc:=zC hc;refine zK4 ?_;refine⟨.inl rfl,_,_,rfl,trivial,?_⟩;rw[hfin (by omega)]
def tM(P:Int)(l:List Pt)(p m:Nat):Bool:=tcB P l p (2*m)||tcB P l p (2*m+1)
def grN(P:Int)(l:List Pt)(p k:Nat):Nat:=orN p ((List.range k).filter (tM P l p))
def grN_succ(P:Int)(l:List Pt)(p k:Nat):grN P l p (k+1)=if tM P l p k=true then grN P l p k ||| 2 ^ k else grN P l p k:=by
 unfold grN;rw[List.range_succ,List.filter_append];by_cases h:tM P l p k=true
 ·rw[List.filter_cons_of_pos h,if_pos h];exact q3u _ _ _
 ·rw[yx7 h,if_neg h];simp
def z1p(P:Int)(l:List Pt)(p k m:Nat):(grN P l p k).testBit m=(p.testBit m||(decide (m<k)&&tM P l p m)):=by unfold grN;rw[q6k];congr 1;rw[yy5,decide_eq_true_iff,yxl,yys,yyd,decide_eq_true_iff]
def j2y{p k M:Nat}(hp:p<2 ^ M)(hk:k≤M):grN P l p k<2 ^ M:=by unfold grN;refine q8i hp fun n hn=>?_;have:=yys.1 (yxl.1 hn).1;omega
def grN_ge(P:Int)(l:List Pt)(p k:Nat):p≤grN P l p k:=by
 have h:p ||| grN P l p k=grN P l p k:=Nat.eq_of_testBit_eq fun i=>by rw[Nat.testBit_or,z1p];cases p.testBit i<;>simp
 rw[← h];exact Nat.left_le_or
def z94(t m:Nat):t &&& (3*2 ^ (2*m))=0↔(t.testBit (2*m)||t.testBit (2*m+1))=false:=by
 have e:(3*2 ^ (2*m))=2 ^ (2*m) ||| 2 ^ (2*m+1):=by
  refine Nat.eq_of_testBit_eq fun i=>?_;rw[Nat.testBit_or,Nat.testBit_two_pow,Nat.testBit_two_pow,Nat.mul_comm,Nat.testBit_two_pow_mul];rcases Nat.lt_or_ge i (2*m) with h|h
  ·have h1:¬ 2*m=i:=by omega
   have h2:¬ 2*m+1=i:=by omega
   simp[h1,h2,Nat.not_le.2 h]
  ·obtain⟨j,rfl⟩:∃ j,i=2*m+j:=⟨i-2*m,by omega⟩;have h3:2*m+j-2*m=j:=by omega
   rw[h3]
   match j with
   |0=>simp
   |1=>
    have h4:Nat.testBit 3 1=true:=by decide
    simp[h4]
   |j+2=>
    have h1:¬ 2*m=2*m+(j+2):=by omega
    have h2:¬ 2*m+1=2*m+(j+2):=by omega
    have h4:Nat.testBit 3 (j+2)=false:=Nat.testBit_lt_two_pow (yxd (by decide:3<2 ^ 2) (yyy (by omega) (by omega)));simp[h1,h2,h4]
 rw[e];constructor
 ·intro h;have a:=congrArg (fun z=>z.testBit (2*m)) h;have b:=congrArg (fun z=>z.testBit (2*m+1)) h;simp only[yx3,Nat.testBit_or,Nat.testBit_two_pow,Nat.zero_testBit] at a b;simp at a b;rw[a,b];rfl
 ·intro h;rw[Bool.or_eq_false_iff] at h;refine Nat.eq_of_testBit_eq fun i=>?_;rw[yx3,Nat.testBit_or,Nat.testBit_two_pow,Nat.testBit_two_pow,Nat.zero_testBit];by_cases h1:2*m=i
  ·rw[← h1,h.1];rfl
  ·by_cases h2:2*m+1=i
   ·rw[← h2,h.2];rfl
   ·simp[h1,h2]
def grF(P:Int)(l:List Pt):Nat→Nat→Nat
 |0,p=>p
 |f+1,p=>if grN P l p l.length=p then p else grF P l f (grN P l p l.length)
def grp(P:Int)(l:List Pt)(n:Nat):Nat:=grF P l 256 (2 ^ n)
set_option maxHeartbeats 4000000 in
def fn18(P:Int)(l:List Pt)(n:Nat)(hP:1≤P∧P≤1000)(hl:okP P l)(h8:l.length≤8)(hn:n<l.length) :
  Ox.Fn Tryz.prog 18 (.acons (vH P l) (.acons (vI n) .anil)) (·=vI (grp P l n:Nat)):=by
 refine Ox.Fn.intro xok Tryz.func18 rfl Tryz.call18 (yyc rfl) (fun E M0 up=>?_);refine z5 ?_;have hlp:2 ^ l.length≤256:=yyy (n:=2) (by omega) h8;have hnp:2 ^ n<2 ^ l.length:=Nat.pow_lt_pow_right (by omega) hn;have hnw:(2:Int) ^ n=((2 ^ n:Nat):Int):=by push_cast;rfl
 have hnb:0≤(2:Int) ^ n∧(2:Int) ^ n≤65536:=by rw[hnw];exact⟨Int.natCast_nonneg _,Int.ofNat_le.2 (show 2 ^ n≤65536 from Nat.le_trans (Nat.le_of_lt hnp) (Nat.le_trans hlp (by decide)))⟩
 have e0:((2 ^ n:Nat):Int)=1*2 ^ ((n:Int)).toNat:=by rw[Int.one_mul,Int.toNat_natCast,hnw]
 refine q0m (s':=⟨[(0,vH P l),(1,vI n)],[],0⟩) (by exact zJ) ?_;refine zK4 ?_;refine JK.loop (σ:=Nat×Nat) (fun q=>⟨[(0,vH P l),(5,vI (q.2:Nat))],[],0⟩)
  (fun q=>grp P l n=grF P l q.1 q.2∧q.2<2 ^ l.length∧256≤q.1+q.2) (fun q=>q.1) (256,2 ^ n) ⟨rfl,hnp,by omega⟩ ?_ fun q hq=>?_
 ·dsimp only;rw[e0];exact zJ
 obtain⟨f,p⟩:=q;obtain⟨q1,q2,q3⟩:=hq;dsimp only at q1 q2 q3 ⊢;have hp256:p<256:=by omega
 have c80:=fn48 P l p hP hl h8 q2;have htl:=tcN_lt P l p (k:=2*l.length) (by omega);have htb:=fun e=>tcN_bit P l p (2*l.length) e;refine zK4 ?_;refine JK.loop (fun k:Nat=>⟨[(0,vH P l),(5,vI (p:Nat)),(6,vI (grN P l p k:Nat)),(16,vI l.length),(17,vI (k:Int))],[],0⟩)
  (fun k=>k≤l.length) (fun k=>l.length-k) 0 (yy7 _) (by exact zJ) fun k hk=>?_
 have hgs:=grN_succ P l p k;have hgl:=j2y (P:=P) (l:=l) (k:=k) q2 hk;have hgf:k=l.length→grN P l p k=grN P l p l.length:=fun e=>by rw[e]
 generalize grN P l p k=G at hgs hgl hgf ⊢;refine zK4 ?_;refine q7 rfl (fun hc=>?_) (fun hc=>?_)
 ·replace hc:=zC hc;have hk8:k<l.length:=by omega
  have e1:(2*(k:Int)).toNat=2*k:=by omega
  have hpl:3*2 ^ (2*k)<65536:=by
   have:2 ^ (2*k)≤2 ^ 14:=yyy (by omega) (by omega);have e:(2:Nat) ^ 14=16384:=by decide
   omega
  have hpw:(3:Int)*2 ^ (2*(k:Int)).toNat=((3*2 ^ (2*k):Nat):Int):=by rw[e1];push_cast;rfl
  have hpb:0≤(3:Int)*2 ^ (2*(k:Int)).toNat∧(3:Int)*2 ^ (2*(k:Int)).toNat≤65536:=by rw[hpw];exact⟨Int.natCast_nonneg _,Int.ofNat_le.2 (Nat.le_of_lt hpl)⟩
  have hqb:0≤(2:Int) ^ (2*(k:Int)).toNat∧(2:Int) ^ (2*(k:Int)).toNat≤65536:=by omega
  have hwp:2 ^ k<2 ^ l.length:=Nat.pow_lt_pow_right (by omega) hk8;have hww:(2:Int) ^ k=((2 ^ k:Nat):Int):=by push_cast;rfl
  have hwb:0≤(2:Int) ^ k∧(2:Int) ^ k≤65536:=by rw[hww];exact⟨Int.natCast_nonneg _,Int.ofNat_le.2 (show 2 ^ k≤65536 from Nat.le_trans (Nat.le_of_lt hwp) (Nat.le_trans hlp (by decide)))⟩
  have hor:(((G:Int).toNat ||| ((1:Int)*2 ^ ((k:Int)).toNat).toNat:Nat):Int)=((G ||| 2 ^ k:Nat):Int):=by rw[Int.toNat_natCast,Int.toNat_natCast,Int.one_mul,hww,Int.toNat_natCast]
  have hgo:G ||| 2 ^ k<2 ^ l.length:=Nat.or_lt_two_pow hgl hwp
  have hcnd:((((tcN P l p (2*l.length):Nat):Int).toNat &&& ((3:Int)*2 ^ (2*(k:Int)).toNat).toNat:Nat):Int)≠0↔tM P l p k=true:=by rw[Int.toNat_natCast,hpw,Int.toNat_natCast];have h3:=z94 (tcN P l p (2*l.length)) k;rw[htb,htb,decide_eq_true (by omega),decide_eq_true (by omega),Bool.true_and,Bool.true_and] at h3;show((tcN P l p (2*l.length) &&& 3*2 ^ (2*k):Nat):Int)≠((0:Nat):Int)↔_;rw[ne_eq,Int.ofNat_inj,h3];unfold tM;rw[Bool.not_eq_false]
  have hgG:G<256:=by omega
  clear hww hpw;generalize tcN P l p (2*l.length)=T at c80 htl hcnd
  (repeat (first|refine zs rfl ?_|refine zg rfl rfl rfl ?_|refine zd ?_|refine j6 ?_|refine j5 ?_|refine zlf q4s rfl rfl rfl ?_|refine zdf q4s rfl rfl ?_|refine zc rfl (c80) rfl rfl ?_|refine ze rfl (c80) rfl ?_|refine zk rfl rfl (fun _=>c80) rfl rfl ?_))
  refine q7 rfl (fun hd=>?_) (fun hd=>?_)
  ·replace hd:=zC hd;rw[if_pos (hcnd.1 hd)] at hgs;refine zK4 ?_;refine⟨k+1,?_,by omega,by omega⟩;rw[hgs,← hor];exact zJ
  ·replace hd:=zC hd;rw[if_neg (fun h=>(hcnd.2 h) hd)] at hgs;refine zK4 ?_;refine⟨k+1,?_,by omega,by omega⟩;rw[hgs];exact zJ
 ·replace hc:=zC hc;rw[hgf (by omega)];have hge:=grN_ge P l p l.length;have hlt:=j2y (P:=P) (l:=l) (k:=l.length) q2 (yyn _);have hst:0<f:=by
   rcases Nat.eq_zero_or_pos f with e|e
   ·omega
   ·exact e
  obtain⟨f',rfl⟩:∃ f',f=f'+1:=⟨f-1,by omega⟩;rw[grF] at q1;generalize grN P l p l.length=Q at q1 hge hlt ⊢;refine zK4 ?_;refine q7 rfl (fun hd=>?_) (fun hd=>?_)
  ·replace hd:=zC hd;have hd':Q=p:=Int.ofNat_inj.1 hd;rw[if_pos hd'] at q1;refine zK4 ?_;refine⟨.inl rfl,_,_,rfl,trivial,?_⟩;rw[q1]
  ·replace hd:=zC hd;have hd':Q≠p:=fun h=>hd (by rw[h]);rw[if_neg hd'] at q1;refine zK4 ?_;exact⟨(f',Q),by dsimp only;exact zJ,⟨q1,hlt,by dsimp only;omega⟩,yxf _⟩
def fn297(P:Int)(l:List Pt)(i j:Nat)(hz:seE P l=0)(hi:i<l.length)(hj:j<l.length):Ox.Fn Tryz.prog 297 (.acons (vS P l) (.acons (vI i) (.acons (vI j) .anil))) (·=vI (gp P l i j)):=by
 obtain⟨hP,h1,h8,hl⟩:=q4l.1 hz;refine Ox.Fn.intro xok Tryz.func297 rfl Tryz.call297 (yyc rfl) (fun E M0 up=>?_);refine z5 ?_;have c54:=fn347 P l i hP hl hi;have hb:=(z8n hl hj).1;have he:0≤eN P l i∧eN P l i<P:=n3 hP.1 _;have hg:gp P l i j=((l.getD j (0,0,())).1+P-eN P l i) % P:=by show((l.getD j (0,0,())).1-eN P l i) % P=_;rw[← Int.add_emod_right];congr 1;omega
 generalize eN P l i=e at *
 (repeat (first|refine zs rfl ?_|refine zg rfl rfl rfl ?_|refine zd ?_|refine j6 ?_|refine j5 ?_|refine zc rfl (c54) rfl rfl ?_|refine ze rfl (c54) rfl ?_|refine zk rfl rfl (fun _=>c54) rfl rfl ?_))
 refine⟨.inl rfl,_,_,rfl,trivial,?_⟩;rw[hg];rfl
def overE(P:Int)(l:List Pt)(u:Int):Int:=if seE P l≠0 then seE P l else if 0≤u∧u<P then 0 else 3
def overI(P:Int)(l:List Pt)(u:Int):Int:=if overE P l u=0 then ov P l u else 0
def over_ok{u:Int}:overE P l u=0↔seE P l=0∧0≤u∧u<P:=by
 unfold overE;split
 ·rename_i h;exact⟨fun h'=>absurd h' h,fun h'=>absurd h'.1 h⟩
 ·rename_i h;split
  ·rename_i h';exact⟨fun _=>⟨Classical.not_not.1 h,h'⟩,fun _=>rfl⟩
  ·rename_i h';exact⟨fun e=>by omega,fun e=>absurd e.2 h'⟩
def fn102(P:Int)(l:List Pt)(u:Int):Ox.Fn Tryz.prog 102 (.acons (vS P l) (.acons (vI u) .anil)) (·=vT2 (overI P l u) (overE P l u)):=by
 refine Ox.Fn.intro xok Tryz.func102 rfl Tryz.call102 (yyc rfl) (fun E M0 up=>?_);refine z5 ?_;have c61:=fn14 P l;by_cases hz:seE P l=0
 ·obtain⟨hP,h1,h8,hl⟩:=q4l.1 hz;have c58:=fn143 0 (P-1) (u::List.nil);have e1:(∀ x∈(u::List.nil),0≤x∧x≤P-1)↔(0≤u∧u<P):=by simp;omega
  have e1':decide (∀ x∈(u::List.nil),0≤x∧x≤P-1)=decide (0≤u∧u<P):=decide_eq_decide.2 e1;rw[e1'] at c58;unfold vOp at c61;rw[if_pos hz,hz] at c61;have hlen:=z1a (P:=P) (l:=l)
  (repeat (first|refine zs rfl ?_|refine zg rfl rfl rfl ?_|refine zd ?_|refine j6 ?_|refine j5 ?_|refine zc rfl (c61) rfl rfl ?_|refine ze rfl (c61) rfl ?_|refine zk rfl rfl (fun _=>c61) rfl rfl ?_|refine zc rfl (c58) rfl rfl ?_|refine ze rfl (c58) rfl ?_|refine zk rfl rfl (fun _=>c58) rfl rfl ?_))
  refine q7 rfl (fun h=>absurd h (by decide)) (fun _=>?_)
  (repeat (first|refine zs rfl ?_|refine zg rfl rfl rfl ?_|refine zd ?_|refine j6 ?_|refine j5 ?_|refine zc rfl (c58) rfl rfl ?_|refine ze rfl (c58) rfl ?_|refine zk rfl rfl (fun _=>c58) rfl rfl ?_))
  refine q7 rfl (fun hd=>?_) (fun hd=>?_)
  ·replace hd:=zC hd;refine zK0 ?_;refine⟨.inl rfl,_,_,rfl,trivial,?_⟩;have e:overE P l u=3:=by unfold overE;rw[if_neg (by omega),if_neg hd]
   unfold overI;rw[e,if_neg (by decide)]
  ·replace hd:=zC hd;have hg:=z41 (P:=P) (l:=l) (v:=u.toNat) (by omega);rw[if_pos (by omega),Int.toNat_of_nonneg hd.1] at hg;have e:overE P l u=0:=over_ok.2 ⟨hz,hd⟩;have e2:overI P l u=(ovA P l).getD u.toNat 0:=by unfold overI;rw[e,if_pos rfl,hg]
   rw[e,e2];refine zK0 ?_;refine⟨.inl rfl,_,_,rfl,trivial,?_⟩;rfl
 ·unfold vOp at c61;rw[if_neg hz] at c61;refine zK9 ?_;refine q7 rfl (fun hc=>?_) (fun hc=>?_)
  ·refine zK0 ?_;refine⟨.inl rfl,_,_,rfl,trivial,?_⟩;have e:overE P l u=seE P l:=by unfold overE;rw[if_pos hz]
   unfold overI;rw[e,if_neg hz]
  ·replace hc:=zC hc;omega
def pkI(P:Int)(l:List Pt):Int:=if seE P l=0 then pkV P l else 0
def paI(P:Int)(l:List Pt):Int:=if seE P l=0 then(pkA P l:Nat) else 0
def fn7(P:Int)(l:List Pt):Ox.Fn Tryz.prog 7 (.acons (vS P l) .anil) (·=.tup (.acons (vI (pkI P l)) (.acons (vI (paI P l)) (.acons (vI (seE P l)) .anil)))):=by
 refine Ox.Fn.intro xok Tryz.func7 rfl Tryz.call7 (yyc rfl) (fun E M0 up=>?_);refine z5 ?_;have c61:=fn14 P l;unfold vOp at c61;by_cases hz:seE P l=0
 ·obtain⟨hP,h1,h8,hl⟩:=q4l.1 hz;have c68:=fn17 P l hP;rw[if_pos hz,hz] at c61
  (repeat (first|refine zs rfl ?_|refine zg rfl rfl rfl ?_|refine zd ?_|refine j6 ?_|refine j5 ?_|refine zc rfl (c61) rfl rfl ?_|refine ze rfl (c61) rfl ?_|refine zk rfl rfl (fun _=>c61) rfl rfl ?_|refine zc rfl (c68) rfl rfl ?_|refine ze rfl (c68) rfl ?_|refine zk rfl rfl (fun _=>c68) rfl rfl ?_))
  refine q7 rfl (fun h=>absurd h (by decide)) (fun _=>?_)
  (repeat (first|refine zs rfl ?_|refine zg rfl rfl rfl ?_|refine zd ?_|refine j6 ?_|refine j5 ?_|refine zc rfl (c68) rfl rfl ?_|refine ze rfl (c68) rfl ?_|refine zk rfl rfl (fun _=>c68) rfl rfl ?_))
  refine⟨.inl rfl,_,_,rfl,trivial,?_⟩;unfold pkI paI;rw[if_pos hz,if_pos hz,hz]
 ·rw[if_neg hz] at c61;refine zK9 ?_;refine q7 rfl (fun hc=>?_) (fun hc=>?_)
  ·refine zK0 ?_;refine⟨.inl rfl,_,_,rfl,trivial,?_⟩;unfold pkI paI;rw[if_neg hz,if_neg hz]
  ·replace hc:=zC hc;omega
def m7(xs:List α)(h:i<xs.length)(d:α):xs.take (i+1)=xs.take i++[xs.getD i d]:=by rw[List.take_succ,yyo h,z9 xs h];rfl
def Ord(N:Nat)(xs:List Int):Prop:=xs.length=N∧(∀ x∈xs,0≤x∧x<(N:Int))∧xs.Nodup
instance (N:Nat)(xs:List Int):Decidable (Ord N xs):=by unfold Ord;infer_instance
def seenR(xs:List Int):List Int:=(List.range 8).map fun k:Nat=>((xs.count (k:Int):Nat):Int)
def q0f(xs:List Int):(seenR xs).length=8:=by simp[seenR]
def q0y(xs:List Int)(hk:k<8):(seenR xs).getD k 0=((xs.count (k:Int):Nat):Int):=by unfold seenR;rw[yyj,List.getElem?_map,List.getElem?_range hk];rfl
def q08{α:Type}[BEq α][LawfulBEq α]:∀ {xs:List α},(∀ a,xs.count a≤1)↔xs.Nodup
 |[]=>by simp
 |x::r=>by
  rw[yxh,← q08];constructor
  ·intro h;refine⟨fun hx=>?_,fun a=>?_⟩
   ·have h1:=h x;rw[List.count_cons_self] at h1;have:=List.count_pos_iff.2 hx;omega
   ·have h1:=h a;rw[List.count_cons] at h1;omega
  ·rintro⟨h1,h2⟩ a;rw[List.count_cons];have:=h2 a;by_cases e:x=a
   ·subst e;rw[List.count_eq_zero.2 h1];simp
   ·have:(x==a)=false:=by simpa using e
    rw[this];simpa using h2 a
abbrev natL(xs:List Int):List Nat:=xs.map Int.toNat
def j2t(h:∀ x∈xs,0≤x):iL (natL xs)=xs:=by
 unfold iL natL;rw[List.map_map]
 conv=>rhs;rw[← List.map_id xs]
 refine List.map_congr_left fun x hx=>?_;have:=h x hx;show((x.toNat:Nat):Int)=x;omega
def nat_iL(o:List Nat):natL (iL o)=o:=by simp[Function.comp_def]
def Ord.iL{N:Nat}{xs:List Int}(h:Ord N xs):Go.Proofs.YtjmhhehhfeengaaGreatDoor.iL (natL xs)=xs:=j2t fun x hx=>(h.2.1 x hx).1
def Ord.len(h:Ord N xs):(natL xs).length=N:=by rw[yxy];exact h.1
abbrev vR(r:List Int):AV:=.val (.arr 8 (.int .i64)) r
def ordE(P:Int)(l:List Pt)(xs:List Int):Int:=if seE P l≠0 then seE P l else if Ord l.length xs then 0 else 15
def nx1(o:List Nat)(i:Nat):Nat:=o.getD ((i+1) % o.length) 0
def stp(P:Int)(l:List Pt)(o:List Nat)(i:Nat):Int:=lO l (o.getD i 0)+gp P l (o.getD i 0) (nx1 o i)
def totK(P:Int)(l:List Pt)(o:List Nat)(k:Nat):Int:=sm (stp P l o) (List.range k)
def q8a(P:Int)(l:List Pt)(o:List Nat)(k:Nat):totK P l o (k+1)=totK P l o k+stp P l o k:=f7 _ _
def z06(f:Nat→Int):∀ k:Nat,sm f (List.range (k+1))=f 0+sm (fun i=>f (i+1)) (List.range k)
 |0=>by simp[sm]
 |k+1=>by rw[f7,z06 f k,f7];omega
def z9x{P:Int}{l:List Pt}:∀ (s:List Nat) (h:Nat),wst P l h s=sm (fun i=>gp P l ((h::s).getD i 0) ((h::s).getD (i+1) 0)) (List.range s.length)
 |[],_=>rfl
 |j::r,h=>by rw[wst,z9x r j,List.length_cons,z06];rfl
def sm_idx(f:Nat→Int):∀ o:List Nat,sm f o=sm (fun i=>f (o.getD i 0)) (List.range o.length)
 |[]=>rfl
 |h::t=>by rw[v9,sm_idx f t,List.length_cons,z06];rfl
def totK_tot(h:Nat)(t:List Nat):totK P l (h::t) (h::t).length=tot P l h t:=by
 unfold totK tot;rw[z9x,sm_idx (lO l)];have e:(t++[h]).length=(h::t).length:=by simp
 rw[e,← z2y];refine q8b fun i hi=>?_;have hi':=yys.1 hi;unfold stp nx1;congr 2
 ·have:(h::(t++[h])).getD i 0=(h::t).getD i 0:=by have e2:h::(t++[h])=(h::t)++[h]:=rfl;rw[e2,yyj,yyj,List.getElem?_append_left hi']
  rw[this]
 ·have e2:h::(t++[h])=(h::t)++[h]:=rfl;rw[e2];by_cases hl:i+1<(h::t).length
  ·rw[Nat.mod_eq_of_lt hl,yyj,yyj,List.getElem?_append_left hl]
  ·have e3:i+1=(h::t).length:=by omega
   rw[e3,Nat.mod_self];have e4:((h::t)++[h]).getD (h::t).length 0=h:=by rw[yyj,List.getElem?_append_right (yyn _),Nat.sub_self];rfl
   rw[e4];rfl
def rdL_eq(hne:o≠[]):rdL P l o=totK P l o o.length / P:=by
 cases o with
 |nil=>exact absurd rfl hne
 |cons h t=>rw[totK_tot];rfl
def nx1_lt(ho:∀ n∈o,n<N)(hi:i<o.length):nx1 o i<N:=by have:(i+1) % o.length<o.length:=Nat.mod_lt _ (by omega);unfold nx1;rw[z9 o this];exact ho _ (yyv this)
def q8x(ho:∀ n∈o,n<N)(hi:i<o.length):o.getD i 0<N:=by rw[z9 o hi];exact ho _ (yyv hi)
def z6x(o:List Nat)(i:Nat):((nx1 o i:Nat):Int)=(iL o).getD (((i:Int)+1) % ((iL o).length:Int)).toNat 0:=by
 rw[q1g,q4r];unfold nx1;have:(((i:Int)+1) % (o.length:Int)).toNat=(i+1) % o.length:=by
  have e:((i:Int)+1) % (o.length:Int)=(((i+1) % o.length:Nat):Int):=by push_cast;rfl
  rw[e,Int.toNat_natCast]
 rw[this]
def stp_bd(hP:1≤P∧P≤1000)(hl:okP P l)(ho:∀ n∈o,n<l.length)(hi:i<o.length):0≤stp P l o i∧stp P l o i≤11000:=by have h1:=(hl.get (q8x ho hi)).2;have h2:=z1r (l:=l) hP.1 (o.getD i 0) (nx1 o i);unfold stp;omega
def z4l{P:Int}{l:List Pt}(hP:1≤P∧P≤1000)(hl:okP P l){o:List Nat}(ho:∀ n∈o,n<l.length):∀ k:Nat,k≤o.length→0≤totK P l o k∧totK P l o k≤11000*k
 |0,_=>by have:totK P l o 0=0:=rfl;omega
 |k+1,h=>by
  have h1:=z4l hP hl ho k (by omega);have h2:=stp_bd hP hl ho (i:=k) (by omega);rw[q8a]
  push_cast
  omega
section
variable {P:Int}{l:List Pt}{o:List Nat}
def mod_ix(h:i<n):0≤((i:Int)+1) % (n:Int)∧((i:Int)+1) % (n:Int)<(n:Int):=⟨Int.emod_nonneg _ (by omega),Int.emod_lt_of_pos _ (by omega)⟩
end
set_option maxHeartbeats 1000000 in
def fn208(P:Int)(l:List Pt)(o:List Nat)(hz:seE P l=0)(ho:∀ n∈o,n<l.length)(hol:o.length≤1000):Ox.Fn Tryz.prog 208 (.acons (vS P l) (.acons (vL (iL o)) .anil)) (·=vI (totK P l o o.length / P)):=by
 obtain⟨hP,h1,h8,hl⟩:=q4l.1 hz;refine Ox.Fn.intro xok Tryz.func208 rfl Tryz.call208 (yyc rfl) (fun E M0 up=>?_);refine z5 ?_;have hil:=q4r o;refine zK0 ?_;refine JK.loop (fun i:Nat=>⟨[(1,vL (iL o)),(2,.lf (.optr 0 [])),(5,vI (totK P l o i)),(6,vI (i:Int))],[(0,.cell seT (vS P l))],1⟩) (fun i=>i≤o.length) (fun i=>o.length-i) 0 (yy7 _) (by exact zJ) fun i hi=>?_;have hb:=z4l hP hl ho i hi;have hs:totK P l o (i+1)=totK P l o i+(lO l (o.getD i 0)+gp P l (o.getD i 0) (nx1 o i)):=q8a P l o i;have hfin:i=o.length→totK P l o i=totK P l o o.length:=fun e=>by rw[e]
 generalize totK P l o i=S at hb hs hfin ⊢;have e1:=q1g o i;have e2:=z6x o i;have c73:=fun h=>fn297 P l (o.getD i 0) (nx1 o i) hz (q8x ho h) (nx1_lt ho h);have hgb:=z1r (l:=l) hP.1 (o.getD i 0) (nx1 o i);have hmi:=fun h=>mod_ix (i:=i) (n:=o.length) h;rw[← hil] at hmi;have hgl:i<o.length→0≤(iL o).getD i 0∧(iL o).getD i 0<(l.length:Int):=fun h=>by rw[e1];have:=q8x ho h;omega
 have hlo:i<o.length→(1:Int)≤lO l (o.getD i 0)∧lO l (o.getD i 0)≤10000:=fun h=>(hl.get (q8x ho h)).2;have hle:lO l (o.getD i 0)=(l.getD ((iL o).getD i 0).toNat (0,0,())).2.1:=by rw[e1,Int.toNat_natCast];rfl
 rw[← e1,e2] at c73;generalize gp P l (o.getD i 0) (nx1 o i)=g at c73 hs hgb;rw[hle] at hs hlo;generalize iL o=X at *;refine zK0 ?_;refine q7 rfl (fun hc=>?_) (fun hc=>?_)
 ·replace hc:=zC hc;have hi':i<o.length:=by omega
  replace c73:=c73 hi';replace hmi:=hmi (by omega);replace hgl:=hgl hi';replace hlo:=hlo hi'
  (repeat (first|refine zs rfl ?_|refine zg rfl rfl rfl ?_|refine zd ?_|refine j6 ?_|refine j5 ?_|refine zc rfl (c73) rfl rfl ?_|refine ze rfl (c73) rfl ?_|refine zk rfl rfl (fun _=>c73) rfl rfl ?_))
  refine⟨i+1,?_,by omega,by omega⟩;rw[hs];exact zJ
 ·replace hc:=zC hc;rw[hfin (by omega)] at hb ⊢;have hq:0≤totK P l o o.length / P:=Int.ediv_nonneg hb.1 (by omega);refine zK0 ?_;refine⟨.inl rfl,_,_,rfl,trivial,?_⟩;rfl
set_option maxHeartbeats 1000000 in
def fn16(P:Int)(l:List Pt)(o:List Nat)(hz:seE P l=0)(ho:∀ n∈o,n<l.length)(hol:o.length≤1000):Ox.Fn Tryz.prog 16 (.acons (vH P l) (.acons (vL (iL o)) .anil)) (·=vI (totK P l o o.length / P)):=by
 obtain⟨hP,h1,h8,hl⟩:=q4l.1 hz;refine Ox.Fn.intro xok Tryz.func16 rfl Tryz.call16 (yyc rfl) (fun E M0 up=>?_);refine z5 ?_;have hil:=q4r o;refine zK0 ?_;refine JK.loop (fun i:Nat=>⟨[(0,vH P l),(1,vL (iL o)),(5,vI (totK P l o i)),(8,vL (iL o)),(9,vI (iL o).length),(10,vI (i:Int))],[],0⟩) (fun i=>i≤o.length) (fun i=>o.length-i) 0 (yy7 _) (by exact zJ) fun i hi=>?_;have hb:=z4l hP hl ho i hi;have hs:totK P l o (i+1)=totK P l o i+(lO l (o.getD i 0)+gp P l (o.getD i 0) (nx1 o i)):=q8a P l o i;have hfin:i=o.length→totK P l o i=totK P l o o.length:=fun e=>by rw[e]
 generalize totK P l o i=S at hb hs hfin ⊢;have e1:=q1g o i;have e2:=z6x o i;have c65:=fun h=>fn47 P l (o.getD i 0) (nx1 o i) hP hl (q8x ho h) (nx1_lt ho h);have hgb:=z1r (l:=l) hP.1 (o.getD i 0) (nx1 o i);have hmi:=fun h=>mod_ix (i:=i) (n:=o.length) h;rw[← hil] at hmi;have hgl:i<o.length→0≤(iL o).getD i 0∧(iL o).getD i 0<(l.length:Int):=fun h=>by rw[e1];have:=q8x ho h;omega
 have hlo:i<o.length→(1:Int)≤lO l (o.getD i 0)∧lO l (o.getD i 0)≤10000:=fun h=>(hl.get (q8x ho h)).2;have hle:lO l (o.getD i 0)=(l.getD ((iL o).getD i 0).toNat (0,0,())).2.1:=by rw[e1,Int.toNat_natCast];rfl
 rw[← e1,e2] at c65;generalize gp P l (o.getD i 0) (nx1 o i)=g at c65 hs hgb;rw[hle] at hs hlo;generalize iL o=X at *;refine zK0 ?_;refine q7 rfl (fun hc=>?_) (fun hc=>?_)
 ·replace hc:=zC hc;have hi':i<o.length:=by omega
  replace c65:=c65 hi';replace hmi:=hmi (by omega);replace hgl:=hgl hi';replace hlo:=hlo hi'
  (repeat (first|refine zs rfl ?_|refine zg rfl rfl rfl ?_|refine zd ?_|refine j6 ?_|refine j5 ?_|refine zc rfl (c65) rfl rfl ?_|refine ze rfl (c65) rfl ?_|refine zk rfl rfl (fun _=>c65) rfl rfl ?_))
  refine⟨i+1,?_,by omega,by omega⟩;rw[hs];exact zJ
 ·replace hc:=zC hc;rw[hfin (by omega)] at hb ⊢;have hq:0≤totK P l o o.length / P:=Int.ediv_nonneg hb.1 (by omega);refine zK0 ?_;refine⟨.inl rfl,_,_,rfl,trivial,?_⟩;rfl
def rdI(P:Int)(l:List Pt)(xs:List Int):Int:=if ordE P l xs=0 then rdL P l (natL xs) else 0
abbrev vTL(xs:List Int)(b:Int):AV:=.tup (.acons (vL xs) (.acons (vI b) .anil))
end Go.Proofs.YtjmhhehhfeengaaGreatDoor
namespace Ox
open Go Go.RowKit
variable {X:Ctx}{s:S}{QA:Exit→S→Prop}
end Ox
namespace Go.Proofs.YtjmhhehhfeengaaGreatDoor
open Go Go.RowKit Ox Ox.Sh Ox.Se
attribute [local irreducible] JC JL JK JW
attribute [local irreducible] ovA stA pkV
abbrev vU(by_:List Int):AV:=.val (.slice (.int .u8)) by_
def kO(u:List Int)(n:Nat):Nat:=if u.length>0 then(u.getD (n % u.length) 0).toNat % (n+1) else n
def ordR(u:List Int):Nat→List Nat
 |0=>[]
 |n+1=>(ordR u n).take (kO u n)++[n]++(ordR u n).drop (kO u n)
def ordR_perm(u:List Int):∀ n,List.Perm (ordR u n) (List.range n)
 |0=>.nil
 |n+1=>by rw[ordR,List.range_succ,yxb,List.singleton_append];have h:=ordR_perm u n;have h2:List.Perm ((ordR u n).take (kO u n)++n::(ordR u n).drop (kO u n)) (n::((ordR u n).take (kO u n)++(ordR u n).drop (kO u n))):=List.perm_middle;rw[List.take_append_drop] at h2;refine h2.trans ?_;refine(h.cons n).trans ?_;have:=List.perm_append_comm (l₁:=[n]) (l₂:=List.range n);exact this
def ordR_len(u:List Int)(n:Nat):(ordR u n).length=n:=by rw[(ordR_perm u n).length_eq,List.length_range]
end Go.Proofs.YtjmhhehhfeengaaGreatDoor
namespace Go.Proofs.YtjmhhehhfeengaaGreatDoor
open Go Go.RowKit Ox Ox.Sh Ox.Se
variable {P:Int}{l:List Pt}
def tB(P:Int)(l:List Pt)(m i:Nat):Bool:=toB P l m (2*i)||toB P l m (2*i+1)
def sdE_0(i:Nat):sdE P l (2*i)=sA P l i:=by have:=sd_eq P l i 0 (by decide);simpa using this
def sdE_1(i:Nat):sdE P l (2*i+1)=sE P l i:=by have:=sd_eq P l i 1 (by decide);simpa using this
def tB_iff:tB P l m i=true↔(sA P l m=sA P l i∨sA P l m=sE P l i∨sE P l m=sA P l i∨sE P l m=sE P l i):=by
 unfold tB toB;rw[sdE_0,sdE_1,yy1,decide_eq_true_iff,decide_eq_true_iff];constructor
 ·rintro((h|h)|(h|h))<;>simp[h]
 ·rintro(h|h|h|h)<;>simp[h]
def z98(h:tB P l m i=true):tB P l i m=true:=by rw[tB_iff] at h ⊢;rcases h with h|h|h|h<;>simp[h]
def tM_iff{p m:Nat}:tM P l p m=true↔∃ j,j<8∧p.testBit j=true∧tB P l j m=true:=by
 unfold tM tcB tB;rw[yy1,List.any_eq_true,List.any_eq_true];constructor
 ·rintro(⟨j,hj,h⟩|⟨j,hj,h⟩)
  ·exact⟨j,(x5.1 hj).1,(x5.1 hj).2,by rw[h];rfl⟩
  ·exact⟨j,(x5.1 hj).1,(x5.1 hj).2,by rw[h,Bool.or_true]⟩
 ·rintro⟨j,h1,h2,h3⟩;rcases yy1 _ _▸h3 with h|h
  ·exact Or.inl ⟨j,x5.2 ⟨h1,h2⟩,h⟩
  ·exact Or.inr ⟨j,x5.2 ⟨h1,h2⟩,h⟩
inductive Conn(P:Int)(l:List Pt)(n:Nat):Nat→Prop
 |refl:Conn P l n n
 |step {j k:Nat}:Conn P l n j→k<l.length→tB P l j k=true→Conn P l n k
def Conn.lt(hn:n<l.length)(h:Conn P l n m):m<l.length:=by
 cases h with
 |refl=>exact hn
 |step _ h _=>exact h
def Conn.trans{a b c:Nat}(h1:Conn P l a b)(h2:Conn P l b c):Conn P l a c:=by
 induction h2 with
 |refl=>exact h1
 |step _ hk ht ih=>exact .step ih hk ht
def Conn.symm(ha:a<l.length)(h:Conn P l a b):Conn P l b a:=by
 induction h with
 |refl=>exact .refl
 |step hj hk ht ih=>exact Conn.trans (.step .refl (hj.lt ha) (z98 ht)) ih
def z1q(h8:l.length≤8){n:Nat}(hn:n<l.length):∀ (f p:Nat),p<2 ^ l.length→256≤f+p→p.testBit n=true→(∀ m,p.testBit m=true→Conn P l n m) →
  grF P l f p<2 ^ l.length∧(grF P l f p).testBit n=true∧(∀ m,(grF P l f p).testBit m=true→Conn P l n m)∧grN P l (grF P l f p) l.length=grF P l f p
 |0,p,h1,h2,_,_=>by have:2 ^ l.length≤256:=yyy (n:=2) (by omega) h8;omega
 |f+1,p,h1,h2,h3,h4=>by
  rw[grF];split
  ·rename_i e;exact⟨h1,h3,h4,e⟩
  ·rename_i e;have hge:=grN_ge P l p l.length;refine z1q h8 hn f _ (j2y h1 (yyn _)) (by omega) ?_ fun m hm=>?_
   ·rw[z1p,h3];rfl
   ·rw[z1p,yy1,yyd,decide_eq_true_iff] at hm;rcases hm with hm|⟨hm1,hm2⟩
    ·exact h4 m hm
    ·obtain⟨j,_,hj,ht⟩:=tM_iff.1 hm2;exact .step (h4 j hj) hm1 ht
def grp_lt(h8:l.length≤8)(hn:n<l.length):grp P l n<2 ^ l.length:=by have hp:=Nat.one_le_two_pow (n:=n);exact(z1q (P:=P) h8 hn 256 (2 ^ n) (Nat.pow_lt_pow_right (by omega) hn) (by omega) (by rw[Nat.testBit_two_pow];simp) (fun m hm=>by rw[Nat.testBit_two_pow] at hm;have:=of_decide_eq_true hm;subst this;exact .refl)).1
def z5l(h8:l.length≤8)(hn:n<l.length):(grp P l n).testBit m=true↔Conn P l n m:=by
 have hp:=Nat.one_le_two_pow (n:=n);obtain⟨g1,g2,g3,g4⟩:=z1q (P:=P) h8 hn 256 (2 ^ n) (Nat.pow_lt_pow_right (by omega) hn) (by omega) (by rw[Nat.testBit_two_pow];simp) (fun m hm=>by rw[Nat.testBit_two_pow] at hm;have:=of_decide_eq_true hm;subst this;exact .refl);refine⟨g3 m,fun h=>?_⟩;show(grF P l 256 (2 ^ n)).testBit m=true;induction h with
 |refl=>exact g2
 |step hj hk ht ih=>rw[← g4,z1p];have hj8:_<8:=yxd (hj.lt hn) h8;have:tM P l (grF P l 256 (2 ^ n)) _=true:=tM_iff.2 ⟨_,hj8,ih,ht⟩;rw[this,decide_eq_true hk];simp
def cmpL(P:Int)(l:List Pt)(n:Nat):List Nat:=bitsL (grp P l n)
def z45(h8:l.length≤8)(hn:n<l.length):m∈cmpL P l n↔Conn P l n m:=by unfold cmpL;rw[x5,z5l h8 hn];exact⟨fun h=>h.2,fun h=>⟨yxd (h.lt hn) h8,h⟩⟩
def j2x(hP:1≤P)(hl:okP P l)(hne:1≤l.length):held P l (pkA P l:Int)↔∀ m,m<l.length→Conn P l 0 m:=by
 have ht:∀ {i k},i<l.length→k<l.length→(tch P l (pkA P l:Int) i k↔tB P l i k=true):=fun {i k} hi hk=>by rw[tch_st hP hl hi hk,tB_iff]
 constructor
 ·intro h m hm;refine yxq fun hn=>?_;obtain⟨i,k,hi,hk,si,sk,hik⟩:=h (Conn P l 0) ⟨0,by omega,.refl⟩ ⟨m,hm,hn⟩;exact sk (.step si hk ((ht hi hk).1 hik))
 ·intro h S ⟨i,hi,si⟩ ⟨k,hk,sk⟩;refine yxq fun hno=>?_;have hcl:∀ a b,a<l.length→b<l.length→tB P l a b=true→(S a↔S b):=fun a b ha hb hab=>by
   constructor
   ·intro sa;exact yxq fun sb=>hno ⟨a,b,ha,hb,sa,sb,(ht ha hb).2 hab⟩
   ·intro sb;exact yxq fun sa=>hno ⟨b,a,hb,ha,sb,sa,(ht hb ha).2 (z98 hab)⟩
  have h0:∀ m,Conn P l 0 m→(S 0↔S m):=fun m hm=>by
   induction hm with
   |refl=>exact Iff.rfl
   |step hj hk ht ih=>exact ih.trans (hcl _ _ (hj.lt (by omega)) hk ht)
  exact sk ((h0 k (h k hk)).1 ((h0 i (h i hi)).2 si))
end Go.Proofs.YtjmhhehhfeengaaGreatDoor
namespace Go.Proofs.YtjmhhehhfeengaaGreatDoor
open Go Go.RowKit Ox Ox.Sh Ox.Se
attribute [local irreducible] JC JL JK JW
attribute [local irreducible] ovA stA pkV
def z3c(h:o.Nodup)(hb:∀ x∈o,x<N):o.length≤N:=by have:=(perm_sub' (N:=N) h hb);exact this
where
 perm_sub' {o:List Nat} {N:Nat} (h:o.Nodup) (hb:∀ x∈o,x<N):o.length≤N:=by
  have key:∀ (N:Nat) (o:List Nat),o.Nodup→(∀ x∈o,x<N)→o.length≤N:=by
   intro N;induction N with
   |zero=>intro o _ hb;cases o with
    |nil=>exact yyn _
    |cons a r=>exact absurd (hb a yyg) (Nat.not_lt_zero _)
   |succ N ih=>
    intro o hn hb;have h1:=ih (o.erase N) (hn.erase N) fun x hx=>by
     have hx2:=List.mem_of_mem_erase hx;have:=hb x hx2;have hne:x≠N:=fun e=>by rw[e] at hx;exact(hn.not_mem_erase) hx
     omega
    have:=List.length_erase_le (a:=N) (l:=o);by_cases hm:N∈o
    ·rw[List.length_erase_of_mem hm] at h1;omega
    ·rw[List.erase_of_not_mem hm] at h1;omega
  exact key N o h hb
structure Seen(P:Int)(l:List Pt)(n:Nat)(o:List Nat)(i:Nat):Prop where
 nd:o.Nodup
 cn:∀ m∈o,Conn P l n m
 me:n∈o
 cl:∀ j,j<i→∀ k,k<l.length→tB P l (o.getD j 0) k=true→k∈o
variable{l:List Pt}
def Seen.all(h:Seen P l n o o.length)(m:Nat):m∈o↔Conn P l n m:=by
 refine⟨h.cn m,fun hc=>?_⟩;induction hc with
 |refl=>exact h.me
 |step hj hk ht ih=>obtain⟨i,hi,e⟩:=yx1.1 ih;exact h.cl i hi _ hk (by rw[z9 o hi,e];exact ht)
def cmp_nd(P:Int)(l:List Pt)(n:Nat):(cmpL P l n).Nodup:=List.nodup_range.filter _
def cmp_lt(h8:l.length≤8)(hn:n<l.length):∀ m∈cmpL P l n,m<l.length:=fun m hm=>((z45 h8 hn).1 hm).lt hn
def z5f{α:Type}[DecidableEq α]:∀ {z a:List α},z.Nodup→(∀ x∈z,x∈a)→z.length≤a.length
 |[],_,_,_=>yy7 _
 |x::z,a,hn,hs=>by
  obtain⟨h1,h2⟩:=yxh.1 hn;have hx:=hs x yyg;have h3:=z5f (z:=z) (a:=a.erase x) h2 fun y hy=>by have:y≠x:=fun e=>h1 (e▸hy);exact(List.mem_erase_of_ne this).2 (hs y (yyh _ hy))
  rw[List.length_erase_of_mem hx] at h3;have:=List.length_pos_of_mem hx;rw[List.length_cons];omega
def full_len(hn:o.Nodup)(hb:∀ m∈o,m<N):o.length=N↔∀ m,m<N→m∈o:=by
 constructor
 ·intro h m hm;have hp:=q5j hn (List.nodup_range (n:=N)) (fun x hx=>yys.2 (hb x hx)) (by rw[List.length_range];omega);exact hp.mem_iff.2 (yys.2 hm)
 ·intro h;have h1:=z3c hn hb;have h2:(List.range N).length≤o.length:=z5f List.nodup_range fun x hx=>h x (yys.1 hx);rw[List.length_range] at h2;omega
def j33(h8:l.length≤8)(hn:n<l.length):(cmpL P l n).length=l.length↔∀ m,m<l.length→Conn P l n m:=by rw[full_len (cmp_nd P l n) (cmp_lt h8 hn)];exact⟨fun h m hm=>(z45 h8 hn).1 (h m hm),fun h m hm=>(z45 h8 hn).2 (h m hm)⟩
def grp_all(h8:l.length≤8)(hn:n<l.length):grp P l n=2 ^ l.length-1↔(cmpL P l n).length=l.length:=by
 rw[j33 h8 hn];constructor
 ·intro h m hm;rw[← z5l h8 hn,h,Nat.testBit_two_pow_sub_one];exact decide_eq_true hm
 ·intro h;refine Nat.eq_of_testBit_eq fun i=>?_;rw[Nat.testBit_two_pow_sub_one,yy5,z5l h8 hn,decide_eq_true_iff];exact⟨fun h=>h.lt hn,h i⟩
def apE(P:Int)(l:List Pt):Int:=if seE P l≠0 then seE P l else if (cmpL P l 0).length=l.length then 5 else 0
def apI(P:Int)(l:List Pt):List Int:=if apE P l=0 then iL (cmpL P l 0) else []
def fn8(P:Int)(l:List Pt):Ox.Fn Tryz.prog 8 (.acons (vS P l) .anil) (·=vTL (apI P l) (apE P l)):=by
 refine Ox.Fn.intro xok Tryz.func8 rfl Tryz.call8 (yyc rfl) (fun E M0 up=>?_);refine z5 ?_;have c61:=fn14 P l;unfold vOp at c61;by_cases hz:seE P l=0
 ·obtain⟨hP,h1,h8,hl⟩:=q4l.1 hz;have c76:=fn18 P l 0 hP hl h8 (by omega);have c77:=fn19 P l h8;have hg:=grp_all (P:=P) h8 (n:=0) (by omega);have hgl:=grp_lt (P:=P) h8 (n:=0) (by omega);have hlp:2 ^ l.length≤256:=yyy (n:=2) (by omega) h8;have c78:=fn20 (grp P l 0) (by omega);rw[if_pos hz,hz] at c61;have h5:(cmpL P l 0).length=l.length→apE P l=5:=fun h=>by unfold apE;rw[if_neg (by omega),if_pos h]
  have h0:¬ (cmpL P l 0).length=l.length→apE P l=0∧apI P l=iL (bitsL (grp P l 0)):=fun h=>by
   have e:apE P l=0:=by unfold apE;rw[if_neg (by omega),if_neg h]
   exact⟨e,by unfold apI;rw[if_pos e];rfl⟩
  generalize grp P l 0=G at c76 hg hgl c78 h0;generalize 2 ^ l.length-1=A at c77 hg
  (repeat (first|refine zs rfl ?_|refine zg rfl rfl rfl ?_|refine zd ?_|refine j6 ?_|refine j5 ?_|refine zc rfl (c61) rfl rfl ?_|refine ze rfl (c61) rfl ?_|refine zk rfl rfl (fun _=>c61) rfl rfl ?_|refine zc rfl (c76) rfl rfl ?_|refine ze rfl (c76) rfl ?_|refine zk rfl rfl (fun _=>c76) rfl rfl ?_|refine zc rfl (c77) rfl rfl ?_|refine ze rfl (c77) rfl ?_|refine zk rfl rfl (fun _=>c77) rfl rfl ?_))
  refine q7 rfl (fun h=>absurd h (by decide)) (fun _=>?_)
  (repeat (first|refine zs rfl ?_|refine zg rfl rfl rfl ?_|refine zd ?_|refine j6 ?_|refine j5 ?_|refine zc rfl (c76) rfl rfl ?_|refine ze rfl (c76) rfl ?_|refine zk rfl rfl (fun _=>c76) rfl rfl ?_|refine zc rfl (c77) rfl rfl ?_|refine ze rfl (c77) rfl ?_|refine zk rfl rfl (fun _=>c77) rfl rfl ?_))
  refine q7 rfl (fun hd=>?_) (fun hd=>?_)
  ·replace hd:=zC hd;refine zK0 ?_;refine⟨.inl rfl,_,_,rfl,trivial,?_⟩;have e:=h5 (hg.1 (Int.ofNat_inj.1 hd));unfold apI;rw[e,if_neg (by decide)]
  ·replace hd:=zC hd
   (repeat (first|refine zs rfl ?_|refine zg rfl rfl rfl ?_|refine zd ?_|refine j6 ?_|refine j5 ?_|refine zc rfl (c78) rfl rfl ?_|refine ze rfl (c78) rfl ?_|refine zk rfl rfl (fun _=>c78) rfl rfl ?_))
   refine⟨.inl rfl,_,_,rfl,trivial,?_⟩;obtain⟨e1,e2⟩:=h0 (fun h=>hd (by rw[hg.2 h]));rw[e1,e2]
 ·rw[if_neg hz] at c61;refine zK9 ?_;refine q7 rfl (fun hc=>?_) (fun hc=>?_)
  ·refine zK0 ?_;refine⟨.inl rfl,_,_,rfl,trivial,?_⟩;have h2:apE P l=seE P l:=by unfold apE;rw[if_pos hz]
   unfold apI;rw[h2,if_neg hz]
  ·replace hc:=zC hc;omega
def Inc(N:Nat)(xs:List Int):Prop:=(∀ x∈xs,0≤x∧x<(N:Int))∧xs.Pairwise (· < ·)
def Inc.nil(N:Nat):Inc N []:=⟨(fun x hx=>by cases hx),List.Pairwise.nil⟩
def Inc.take{N:Nat}{xs:List Int}(h:Inc N xs)(i:Nat):Inc N (xs.take i):=⟨fun x hx=>h.1 x (List.mem_of_mem_take hx),h.2.sublist (List.take_sublist _ _)⟩
def insI(n:α)(p:Nat)(X:List α):List α:=X.take p++[n]++X.drop p
def stepN(n:α)(m:Nat)(X:List α):List (List α):=(List.range m).map fun j=>insI n (j+1) X
def inO:Nat→List (List Nat)
 |0=>[[0]]
 |k+1=>(inO k).flatMap (stepN (k+1) (k+1))
def z3l(n:α)(p:Nat)(X:List α):(insI n p X).Perm (X++[n]):=by
 unfold insI;have h:(X.take p++X.drop p).Perm X:=by rw[List.take_append_drop]
 rw[yxb];have a:(X.take p++([n]++X.drop p)).Perm (X.take p++(X.drop p++[n])):=List.Perm.append_left _ List.perm_append_comm;refine a.trans ?_;rw[← yxb];exact h.append_right [n]
def q7s:∀ {k:Nat} {o:List Nat},o∈inO k↔∃ z,o=0::z∧(0::z).Perm (List.range (k+1))
 |0,o=>by
  rw[inO,yyl];constructor
  ·rintro rfl;exact⟨[],rfl,List.Perm.refl _⟩
  ·rintro⟨z,rfl,hp⟩;have:=hp.length_eq;rw[List.length_range,List.length_cons] at this;rw[List.length_eq_zero_iff.1 (show z.length=0 by omega)]
 |k+1,o=>by
  rw[inO,List.mem_flatMap];constructor
  ·rintro⟨x,hx,ho⟩;obtain⟨z,rfl,hp⟩:=q7s.1 hx;obtain⟨j,hj,rfl⟩:=yy0.1 ho;refine⟨insI (k+1) j z,rfl,?_⟩;have h1:=z3l (k+1) (j+1) (0::z);have h2:insI (k+1) (j+1) (0::z)=0::insI (k+1) j z:=rfl;rw[← h2];refine h1.trans ?_;rw[List.range_succ];exact hp.append_right _
  ·rintro⟨z,rfl,hp⟩;have hz:k+1∈(0::z):=hp.mem_iff.2 (yys.2 (by omega));have hz':k+1∈z:=(yyk.1 hz).resolve_left (by omega);obtain⟨u,v,rfl⟩:=List.append_of_mem hz';have hp2:(0::(u++v)).Perm (List.range (k+1)):=by
    have a:(0::(u++(k+1)::v)).Perm ((0::(u++v))++[k+1]):=by
     have:=z3l (k+1) (u.length+1) (0::(u++v));have e:insI (k+1) (u.length+1) (0::(u++v))=0::(u++(k+1)::v):=by unfold insI;simp
     rwa[e] at this
    have b:=a.symm.trans hp;rw[List.range_succ] at b;exact(List.perm_append_right_iff _).1 b
   have hl:=hp2.length_eq;rw[List.length_range,List.length_cons,yyw] at hl;refine⟨0::(u++v),q7s.2 ⟨_,rfl,hp2⟩,yy0.2 ⟨u.length,yys.2 (by omega),?_⟩⟩;unfold insI;simp
variable{p:Nat}
def q8s(h:n∉X):(insI n p X).filter (fun x=>decide (x≠n))=X:=by unfold insI;have:∀ Y:List Nat,(∀ y∈Y,y∈X)→Y.filter (fun x=>decide (x≠n))=Y:=fun Y hY=>List.filter_eq_self.2 fun y hy=>decide_eq_true fun e=>h (e▸hY y hy);rw[List.filter_append,List.filter_append,this _ (fun y hy=>List.mem_of_mem_take hy),this _ (fun y hy=>List.mem_of_mem_drop hy)];simp
def insI_inj{n p q:Nat}(h:n∉X)(hp:p≤X.length)(hq:q≤X.length)(e:insI n p X=insI n q X):p=q:=by
 have key:∀ p,p≤X.length→(insI n p X).idxOf n=p:=fun p hp=>by unfold insI;rw[yxb,List.idxOf_append,if_neg (fun h'=>h (List.mem_of_mem_take h'))];simp[yy3];omega
 rw[← key p hp,e,key q hq]
def z3o:∀ k,(inO k).Nodup
 |0=>by simp[inO]
 |k+1=>by
  have hf:∀ x∈inO k,k+1∉x∧x.length=k+1:=fun x hx=>by obtain⟨z,rfl,hp⟩:=q7s.1 hx;refine⟨fun h=>?_,by have:=hp.length_eq;rwa[List.length_range] at this⟩;have:=yys.1 (hp.mem_iff.1 h);omega
  show((inO k).flatMap (stepN (k+1) (k+1))).Pairwise (·≠·);rw[List.pairwise_flatMap];refine⟨fun x hx=>?_,?_⟩
  ·obtain⟨h1,h2⟩:=hf x hx;unfold stepN;rw[List.pairwise_map];refine List.nodup_range.imp_of_mem fun {a b} ha hb hab e=>hab ?_;have:=yys.1 ha;have:=yys.1 hb;have:=insI_inj h1 (by omega) (by omega) e;omega
  ·refine(z3o k).imp_of_mem fun {x y} hx hy hne a ha b hb e=>hne ?_;obtain⟨i,_,rfl⟩:=yy0.1 ha;obtain⟨j,_,rfl⟩:=yy0.1 hb;rw[← q8s (p:=i+1) (hf x hx).1,e,q8s (hf y hy).1]
def bstep(f:List Nat→Int)(q:List (List Nat)×Int)(o:List Nat):List (List Nat)×Int:=if q.2<0∨f o<q.2 then([o],f o) else if f o=q.2 then(q.1++[o],q.2) else q
def BI(f:List Nat→Int)(done:List (List Nat))(q:List (List Nat)×Int):Prop:=(done=[]∧q=([],-1))∨(0≤q.2∧(∃ o∈done,f o=q.2)∧(∀ o∈done,q.2≤f o)∧q.1=done.filter fun o=>decide (f o=q.2))
def BI.step{f:List Nat→Int}{done:List (List Nat)}{q:List (List Nat)×Int}(h:BI f done q)(o:List Nat)(hp:0≤f o):BI f (done++[o]) (bstep f q o):=by
 right;rcases h with⟨rfl,rfl⟩|⟨h1,h2,h3,h4⟩
 ·unfold bstep;rw[if_pos (.inl (by decide))];refine⟨hp,⟨o,by simp,rfl⟩,fun x hx=>?_,?_⟩
  ·rw[List.nil_append,yyl] at hx;rw[hx];exact Int.le_refl _
  ·simp
 ·unfold bstep;by_cases c1:f o<q.2
  ·rw[if_pos (.inr c1)];refine⟨hp,⟨o,by simp,rfl⟩,fun x hx=>?_,?_⟩
   ·dsimp only;rcases yy2.1 hx with hx|hx
    ·have:=h3 x hx;omega
    ·rw[yyl.1 hx];exact Int.le_refl _
   ·dsimp only;rw[List.filter_append];have:done.filter (fun x=>decide (f x=f o))=[]:=List.filter_eq_nil_iff.2 fun x hx=>by have:=h3 x hx;simp;omega
    rw[this];simp
  ·rw[if_neg (by omega)];by_cases c2:f o=q.2
   ·rw[if_pos c2];refine⟨h1,⟨o,by simp,c2⟩,fun x hx=>?_,?_⟩
    ·dsimp only;rcases yy2.1 hx with hx|hx
     ·exact h3 x hx
     ·rw[yyl.1 hx];omega
    ·dsimp only;rw[List.filter_append,h4];simp[c2]
   ·rw[if_neg c2];obtain⟨y,hy,hye⟩:=h2;refine⟨h1,⟨y,by simp[hy],hye⟩,fun x hx=>?_,?_⟩
    ·rcases yy2.1 hx with hx|hx
     ·exact h3 x hx
     ·rw[yyl.1 hx];omega
    ·rw[List.filter_append,h4];simp[c2]
def bestsL(P:Int)(l:List Pt):List (List Nat):=(inO (l.length-1)).filter fun o=>decide (rdL P l o=leR P l)
def z68(hN:1≤N):o∈inO (N-1)↔o∈allO N:=by rw[q7s,q16 hN,show N-1+1=N by omega]
def mem_bests(h1:1≤l.length):o∈bestsL P l↔o∈allO l.length∧rdL P l o=leR P l:=by unfold bestsL;rw[yxl,z68 h1,decide_eq_true_iff]
def allO_has(hN:1≤N)(h:o∈allO N):o.length=N∧(∀ n∈o,n<N)∧o≠[]∧o.Nodup:=by obtain⟨z,rfl,hp⟩:=(q16 hN).1 h;refine⟨by have:=hp.length_eq;rwa[List.length_range] at this,fun n hn=>yys.1 (hp.mem_iff.1 hn),(fun e=>by cases e),hp.nodup_iff.2 List.nodup_range⟩
def countI(P:Int)(l:List Pt):Int:=if seE P l=0 then((bestsL P l).length:Int) else 0
def folB(o:List Nat)(a b:Nat):Bool:=(List.range o.length).any fun i=>decide (o.getD i 0=a)&&decide (nx1 o i=b)
def kindE(P:Int)(l:List Pt)(one two:Int):Int:=if seE P l≠0 then seE P l else if (0≤one∧one<(l.length:Int))∧(0≤two∧two<(l.length:Int))∧one≠two then 0 else 2
def kindV(P:Int)(l:List Pt)(a b:Nat):Int:=if (bestsL P l).all (folB · a b)=true then 2 else if (bestsL P l).any (folB · a b)=true then 1 else 0
def kindI(P:Int)(l:List Pt)(one two:Int):Int:=if kindE P l one two=0 then kindV P l one.toNat two.toNat else 0
end Go.Proofs.YtjmhhehhfeengaaGreatDoor
namespace Go.Proofs.YtjmhhehhfeengaaGreatDoor
open Go Go.RowKit Ox Ox.Sh Ox.Se
abbrev kyT:Ty:=.cons (.int .i64) (.cons (.int .i64) .nil)
abbrev wyT:Ty:=.cons (.int .i64) (.cons (.int .i64) (.cons (.int .i64) .nil))
abbrev KD:=Int×Int×Unit
abbrev WD:=Int×Int×Int×Unit
abbrev EnW:=Ent kyT wyT
abbrev ky(q m:Nat):KD:=((q:Int),(m:Int),())
def gl(es:List EnW)(x:KD):Option WD:=if mHas (kt:=kyT) (vt:=wyT) es x=true then some (mGet (kt:=kyT) (vt:=wyT) es x wyT.dflt) else none
variable{es:List EnW}
def q8w{x:KD}:mHas (kt:=kyT) (vt:=wyT) es x=true↔∃ e∈es,e.1=x:=by
 unfold mHas;cases hi:mIdx (kt:=kyT) (vt:=wyT) es x with
 |none=>exact⟨(fun h=>by cases h),fun⟨e,he,hx⟩=>absurd hx (d9.1 hi e he)⟩
 |some j=>obtain⟨hl,hk⟩:=t7 hi;exact⟨fun _=>⟨_,yyv hl,hk⟩,fun _=>rfl⟩
def gl_put(h:MWF es clk)(x y:KD)(v:WD):gl (mPut (kt:=kyT) (vt:=wyT) es clk x v) y=if y=x then some v else gl es y:=by
 unfold gl;have hk:mHas (kt:=kyT) (vt:=wyT) (mPut (kt:=kyT) (vt:=wyT) es clk x v) y=true↔y=x∨mHas (kt:=kyT) (vt:=wyT) es y=true:=by rw[q8w,q8w];exact mPut_key h
 have hg:=z64 (kt:=kyT) (vt:=wyT) (v:=v) (d:=wyT.dflt) (x:=x) (y:=y) h (inferInstanceAs (Decidable ((y:KD)=x)));by_cases e:y=x
 ·rw[if_pos (hk.2 (.inl e)),if_pos e,hg,if_pos e]
 ·rw[if_neg e,hg,if_neg e];by_cases c:mHas (kt:=kyT) (vt:=wyT) es y=true
  ·rw[if_pos (hk.2 (.inr c)),if_pos c]
  ·rw[if_neg (fun h'=>c ((hk.1 h').resolve_left e)),if_neg c]
def gl_del(h:MWF es clk)(x y:KD):gl (mDel (kt:=kyT) (vt:=wyT) es x) y=if y=x then none else gl es y:=by
 unfold gl;have hk:mHas (kt:=kyT) (vt:=wyT) (mDel (kt:=kyT) (vt:=wyT) es x) y=true↔y≠x∧mHas (kt:=kyT) (vt:=wyT) es y=true:=by
  rw[q8w,q8w];constructor
  ·rintro⟨e,he,rfl⟩;have:=(q7p h).1 he;exact⟨this.2,e,this.1,rfl⟩
  ·rintro⟨h1,e,he,rfl⟩;exact⟨e,(q7p h).2 ⟨he,h1⟩,rfl⟩
 by_cases e:y=x
 ·rw[if_neg (fun h'=>(hk.1 h').1 e),if_pos e]
 ·rw[if_neg e];by_cases c:mHas (kt:=kyT) (vt:=wyT) es y=true
  ·rw[if_pos (hk.2 ⟨e,c⟩),if_pos c];obtain⟨a,ha,rfl⟩:=q8w.1 c;rw[f8 h ha,f8 h.del ((q7p h).2 ⟨ha,e⟩)]
  ·rw[if_neg (fun h'=>c (hk.1 h').2),if_neg c]
def j2q{a b c d:Nat}:ky a b=ky c d↔a=c∧b=d:=by
 constructor
 ·intro h;have h1:(a:Int)=c:=congrArg (fun z:KD=>z.1) h;have h2:(b:Int)=d:=congrArg (fun z:KD=>z.2.1) h;exact⟨Int.ofNat_inj.1 h1,Int.ofNat_inj.1 h2⟩
 ·rintro⟨rfl,rfl⟩;rfl
abbrev Tb:=Nat→Nat→Option WD
def upT(T:Tb)(a b:Nat)(v:Option WD):Tb:=fun q m=>if q=a∧m=b then v else T q m
structure TG(es:List EnW)(clk:Nat)(T:Tb):Prop where
 wf:MWF es clk
 eq:∀ q m,gl es (ky q m)=T q m
def TG.put{es:List EnW}{clk:Nat}{T:Tb}(h:TG es clk T)(a b:Nat)(v:WD):TG (mPut (kt:=kyT) (vt:=wyT) es clk (ky a b) v) (mClk (kt:=kyT) (vt:=wyT) es clk (ky a b)) (upT T a b (some v)):=by
 refine⟨h.wf.put,fun q m=>?_⟩;rw[gl_put h.wf];unfold upT;by_cases c:q=a∧m=b
 ·rw[if_pos (j2q.2 c),if_pos c]
 ·rw[if_neg (fun h'=>c (j2q.1 h')),if_neg c,h.eq]
def TG.del{es:List EnW}{clk:Nat}{T:Tb}(h:TG es clk T)(a b:Nat):TG (mDel (kt:=kyT) (vt:=wyT) es (ky a b)) clk (upT T a b none):=by
 refine⟨h.wf.del,fun q m=>?_⟩;rw[gl_del h.wf];unfold upT;by_cases c:q=a∧m=b
 ·rw[if_pos (j2q.2 c),if_pos c]
 ·rw[if_neg (fun h'=>c (j2q.1 h')),if_neg c,h.eq]
def TG.some{es:List EnW}{clk:Nat}{T:Tb}(h:TG es clk T){q m:Nat}{w:WD}(e:T q m=some w):mHas (kt:=kyT) (vt:=wyT) es (ky q m)=true∧mGet (kt:=kyT) (vt:=wyT) es (ky q m) wyT.dflt=w:=by
 have:=h.eq q m;rw[e] at this;unfold gl at this;split at this
 ·rename_i c;exact⟨c,Option.some.inj this⟩
 ·cases this
def TG.none{es:List EnW}{clk:Nat}{T:Tb}(h:TG es clk T){q m:Nat}(e:T q m=none):mHas (kt:=kyT) (vt:=wyT) es (ky q m)=false:=by
 have:=h.eq q m;rw[e] at this;unfold gl at this;split at this
 ·cases this
 ·rename_i c;exact Bool.eq_false_iff.2 c
variable{p q:Nat}
def or_xor(h:p.testBit k=false):(p ||| 2 ^ k) ^^^ 2 ^ k=p:=by
 refine Nat.eq_of_testBit_eq fun i=>?_;rw[Nat.testBit_xor,Nat.testBit_or,Nat.testBit_two_pow];by_cases e:k=i
 ·subst e;rw[h];simp
 ·rw[decide_eq_false e];simp
def xor_or(h:q.testBit m=true):(q ^^^ 2 ^ m) ||| 2 ^ m=q:=by
 refine Nat.eq_of_testBit_eq fun i=>?_;rw[Nat.testBit_or,Nat.testBit_xor,Nat.testBit_two_pow];by_cases e:m=i
 ·subst e;rw[h];simp
 ·rw[decide_eq_false e];simp
def z0x(h:q.testBit m=true):(q ^^^ 2 ^ m).testBit m=false:=by rw[Nat.testBit_xor,Nat.testBit_two_pow,h];simp
def j1e:(p ||| 2 ^ k).testBit k=true:=by rw[Nat.testBit_or,Nat.testBit_two_pow];simp
def or_gt(h:p.testBit k=false):p<p ||| 2 ^ k:=by refine Nat.lt_of_le_of_ne Nat.left_le_or fun e=>?_;have:=j1e (p:=p) (k:=k);rw[← e,h] at this;cases this
def q4o(h:q.testBit m=true):q ^^^ 2 ^ m<q:=by have:=or_gt (z0x h);rwa[xor_or h] at this
def q8j:q.testBit 0=true↔q % 2=1:=by rw[Nat.testBit_zero,decide_eq_true_iff]
def z0w(hm:m≠0):(q ^^^ 2 ^ m) % 2=1↔q % 2=1:=by rw[← q8j,← q8j,Nat.testBit_xor,Nat.testBit_two_pow,decide_eq_false hm,Bool.xor_false]
def or_odd(h:q % 2=1):(q ||| 2 ^ m) % 2=1:=by rw[← q8j] at h ⊢;rw[Nat.testBit_or,h];rfl
def z6n:(q.testBit m=true∧q ^^^ 2 ^ m=p)↔(p.testBit m=false∧q=p ||| 2 ^ m):=by
 constructor
 ·rintro⟨h,rfl⟩;exact⟨z0x h,(xor_or h).symm⟩
 ·rintro⟨h,rfl⟩;exact⟨j1e,or_xor h⟩
def q9d(hq:q<2 ^ N)(h:q.testBit m=true):m<N:=by refine Nat.lt_of_not_le fun hle=>?_;rw[Nat.testBit_lt_two_pow (yxd hq (yyy (by omega) hle))] at h;cases h
def pc(q:Nat):Nat:=(bitsL q).length
def pc_le(q:Nat):pc q≤8:=q9c q 8
def z2g(q:Nat):(bitsL q).Nodup:=List.nodup_range.filter _
def pc_step(h8:m<8)(h:q.testBit m=true):pc (q ^^^ 2 ^ m)+1≤pc q:=by
 have hb:=z0x h;have:=z5f (z:=m::bitsL (q ^^^ 2 ^ m)) (a:=bitsL q) (yxh.2 ⟨(fun h'=>by
  have:=(x5.1 h').2;rw[hb] at this;cases this),z2g _⟩) fun x hx=>by
   rcases yyk.1 hx with rfl|hx
   ·exact x5.2 ⟨h8,h⟩
   ·obtain⟨h1,h2⟩:=x5.1 hx;refine x5.2 ⟨h1,?_⟩;have hne:m≠x:=fun e=>by subst e;rw[hb] at h2;cases h2
    rw[Nat.testBit_xor,Nat.testBit_two_pow,decide_eq_false hne,Bool.xor_false] at h2;exact h2
 rw[List.length_cons] at this;exact this
def mrg(c:Option WD)(d:WD):WD:=match c with
 |none=>d
 |some c=>if c.1=d.1 then(d.1,d.2.1+c.2.1,c.2.2.1,()) else if c.1<d.1 then c else d
section
variable (P:Int)(l:List Pt)(most:Int)
def cst(e:Nat→Option WD)(m:Nat)(cur:Option WD)(i:Nat):Option WD:=match e i with
 |none=>cur
 |some w=>if w.1>most then cur else some (mrg cur (w.1+gp P l i m,w.2.1,(i:Int),()))
def foldC(e:Nat→Option WD)(m:Nat)(is:List Nat):Option WD:=is.foldl (cst P l most e m) none
def st0:WD:=(0,1,-1,())
def entA:Nat→Nat→Nat→Option WD
 |0,_,_=>none
 |f+1,q,m=>if q=1∧m=0 then some st0 else if m≠0∧q.testBit m=true then foldC P l most (entA f (q ^^^ 2 ^ m)) m (bitsL (q ^^^ 2 ^ m)) else none
def ent(q m:Nat):Option WD:=entA P l most 256 q m
def prn(o:Option WD):Option WD:=match o with|none=>none|some w=>if w.1>most then none else some w
end
section
variable {P:Int}{l:List Pt}{most:Int}
variable{e:Nat→Option WD}
def q6t:foldC P l most e m (is++[i])=cst P l most e m (foldC P l most e m is) i:=by unfold foldC;rw[List.foldl_append];rfl
def z3u:∀ (f q m:Nat),q<f→entA P l most f q m=entA P l most (f+1) q m
 |0,q,m,h=>by omega
 |f+1,q,m,h=>by
  rw[entA,entA];split
  ·rfl
  ·split
   ·rename_i c;have hlt:=q4o c.2;have:entA P l most f (q ^^^ 2 ^ m)=entA P l most (f+1) (q ^^^ 2 ^ m):=funext fun i=>z3u f _ i (by omega);rw[this]
   ·rfl
variable{q p:Nat}
def q87(m:Nat)(h:q<256):ent P l most q m=if q=1∧m=0 then some st0 else if m≠0∧q.testBit m=true then foldC P l most (ent P l most (q ^^^ 2 ^ m)) m (bitsL (q ^^^ 2 ^ m)) else none:=by unfold ent;rw[z3u 256 q m h,entA]
def wB(k:Nat)(n:Nat)(w:WD):Prop:=(0≤w.1∧w.1≤1000*k)∧(1≤w.2.1∧w.2.1≤n)∧-1≤w.2.2.1∧w.2.2.1<8
def mrg_bd{c:Option WD}{d:WD}{k n n':Nat}(hc:∀ w,c=some w→wB k n w)(hd:wB k n' d):wB k (n+n') (mrg c d):=by
 obtain⟨d1,d2,d3⟩:=hd;cases c with
 |none=>show wB k (n+n') d;exact⟨d1,⟨d2.1,by push_cast;omega⟩,d3⟩
 |some c=>
  obtain⟨c1,c2,c3⟩:=hc c rfl;show wB k (n+n') (if c.1=d.1 then(d.1,d.2.1+c.2.1,c.2.2.1,()) else if c.1<d.1 then c else d);split
  ·refine⟨d1,⟨?_,?_⟩,c3⟩
   ·dsimp only;omega
   ·dsimp only;push_cast;omega
  ·split
   ·exact⟨c1,⟨c2.1,by push_cast;omega⟩,c3⟩
   ·exact⟨d1,⟨d2.1,by push_cast;omega⟩,d3⟩
def z7f(hP:1≤P∧P≤1000){e:Nat→Option WD}{m k n:Nat}(he:∀ i w,e i=some w→wB k n w):∀ (is:List Nat) (cur:Option WD) (c:Nat),(∀ i∈is,i<8)→(∀ w,cur=some w→wB (k+1) c w)→∀ w,is.foldl (cst P l most e m) cur=some w→wB (k+1) (c+is.length*n) w
 |[],cur,c,_,hc,w,h=>by obtain⟨x,y,z⟩:=hc w h;exact⟨x,⟨y.1,by push_cast;have:(0:Int)≤((([]:List Nat).length*n:Nat):Int):=Int.natCast_nonneg _;push_cast at this;omega⟩,z⟩
 |i::is,cur,c,hi,hc,w,h=>by
  rw[List.foldl_cons] at h;have:=z7f hP he is (cst P l most e m cur i) (c+n) (fun x hx=>hi x (yyh _ hx)) (fun v hv=>by
   unfold cst at hv;split at hv
   ·obtain⟨x,y,z⟩:=hc v hv;exact⟨x,⟨y.1,by push_cast;omega⟩,z⟩
   ·rename_i u hu;split at hv
    ·obtain⟨x,y,z⟩:=hc v hv;exact⟨x,⟨y.1,by push_cast;omega⟩,z⟩
    ·rw[← Option.some.inj hv];refine mrg_bd hc ?_;obtain⟨x,y,z⟩:=he i u hu;have hg:=z1r (l:=l) hP.1 i m;have:=hi i (by simp);refine⟨⟨by dsimp only;omega,by dsimp only;push_cast;omega⟩,y,?_⟩;dsimp only;omega) w h
  rw[List.length_cons,yxa,Nat.one_mul];rwa[show c+(is.length*n+n)=c+n+is.length*n by omega]
def z7j(hP:1≤P∧P≤1000)(he:∀ i w,e i=some w→wB k n w)(hi:∀ i∈is,i<8)(w:WD)(h:foldC P l most e m is=some w):wB (k+1) (is.length*n) w:=by have:=z7f (l:=l) (most:=most) (m:=m) hP he is none 0 hi (fun w h=>by cases h) w h;rwa[yxw] at this
def ent_bd(hP:1≤P∧P≤1000):∀ (f q m:Nat),q<f→q<256→∀ w,ent P l most q m=some w→wB (pc q) (8 ^ pc q) w
 |0,q,m,h,_,_,_=>by omega
 |f+1,q,m,h,h2,w,hw=>by
  rw[q87 m h2] at hw;split at hw
  ·rw[← Option.some.inj hw];have:=Nat.one_le_two_pow (n:=0);refine⟨⟨by decide,by show(0:Int)≤_;omega⟩,⟨by decide,?_⟩,by decide,by decide⟩;have:1≤8 ^ pc q:=Nat.one_le_pow _ _ (by omega);show(1:Int)≤_;omega
  ·split at hw
   ·rename_i c;have hlt:=q4o c.2;have hm8:m<8:=q9d (N:=8) (by omega) c.2;have hs:=pc_step hm8 c.2;have hfb:=z7j (l:=l) (most:=most) (m:=m) hP (k:=pc (q ^^^ 2 ^ m)) (n:=8 ^ pc (q ^^^ 2 ^ m)) (fun i w hi=>ent_bd hP f (q ^^^ 2 ^ m) i (by omega) (by omega) w hi) (fun i hi=>(x5.1 hi).1) w hw;obtain⟨a,b,c⟩:=hfb;have h8:(bitsL (q ^^^ 2 ^ m)).length*8 ^ pc (q ^^^ 2 ^ m)≤8 ^ pc q:=by have h1:(bitsL (q ^^^ 2 ^ m)).length≤8:=pc_le _;have h2:8 ^ (pc (q ^^^ 2 ^ m)+1)≤8 ^ pc q:=yyy (by omega) hs;rw[Nat.pow_succ] at h2;have h3:=yyz (8 ^ pc (q ^^^ 2 ^ m)) h1;omega
    have h8':=Int.ofNat_le.2 h8;exact⟨⟨a.1,by omega⟩,⟨b.1,Int.le_trans b.2 h8'⟩,c⟩
   ·cases hw
def pc_pow(q:Nat):8 ^ pc q≤16777216:=Nat.le_trans (yyy (by omega) (pc_le q)) (by decide)
def z5u(hP:1≤P∧P≤1000)(h:q<256){w:WD}(hw:ent P l most q m=some w):wB 8 16777216 w:=by obtain⟨a,b,c⟩:=ent_bd hP 256 q m h h w hw;have h1:=pc_le q;have h2:=pc_pow q;exact⟨⟨a.1,by omega⟩,⟨b.1,by omega⟩,c⟩
def j25(hP:1≤P∧P≤1000)(h:p<256)(hi:∀ i∈is,i<8)(hl:is.length≤8){w:WD}(hw:foldC P l most (ent P l most p) m is=some w):wB 9 134217728 w:=by obtain⟨a,b,c⟩:=z7j hP (fun i w hw=>z5u hP h hw) hi w hw;have:is.length*16777216≤8*16777216:=yyz _ hl;exact⟨⟨a.1,by omega⟩,⟨b.1,by omega⟩,c⟩
def kLp(P:Int)(l:List Pt)(p j:Nat)(w:WD)(T:Tb):Nat→Tb
 |0=>T
 |k+1=>if p.testBit k=true then kLp P l p j w T k else upT (kLp P l p j w T k) (p ||| 2 ^ k) k (some (mrg (kLp P l p j w T k (p ||| 2 ^ k) k) (w.1+gp P l j k,w.2.1,(j:Int),())))
def q8r(p j:Nat)(w:WD)(T:Tb):∀ (n q m:Nat),kLp P l p j w T n q m=if m<n∧p.testBit m=false∧q=p ||| 2 ^ m then some (mrg (T q m) (w.1+gp P l j m,w.2.1,(j:Int),())) else T q m
 |0,q,m=>by rw[kLp,if_neg (by omega)]
 |k+1,q,m=>by
  rw[kLp];split
  ·rename_i h;rw[q8r p j w T k q m];by_cases c:m<k∧p.testBit m=false∧q=p ||| 2 ^ m
   ·rw[if_pos c,if_pos ⟨by omega,c.2⟩]
   ·rw[if_neg c,if_neg];rintro⟨c1,c2,c3⟩;have:m≠k:=fun e=>by subst e;rw[h] at c2;cases c2
    exact c ⟨by omega,c2,c3⟩
  ·rename_i h;have hf:p.testBit k=false:=Bool.eq_false_iff.2 h;unfold upT;by_cases e:q=p ||| 2 ^ k∧m=k
   ·obtain⟨rfl,rfl⟩:=e;rw[if_pos ⟨rfl,rfl⟩,if_pos ⟨by omega,hf,rfl⟩,q8r p j w T m,if_neg (by omega)]
   ·rw[if_neg e,q8r p j w T k q m];by_cases c:m<k∧p.testBit m=false∧q=p ||| 2 ^ m
    ·rw[if_pos c,if_pos ⟨by omega,c.2⟩]
    ·rw[if_neg c,if_neg];rintro⟨c1,c2,c3⟩;have:m≠k:=fun e'=>e ⟨by rw[c3,e'],e'⟩;exact c ⟨by omega,c2,c3⟩
def jSt(P:Int)(l:List Pt)(most:Int)(p:Nat)(T:Tb)(j:Nat):Tb:=match T p j with
 |none=>T
 |some w=>if w.1>most then upT T p j none else kLp P l p j w T l.length
structure TI(P:Int)(l:List Pt)(most:Int)(p:Nat)(is:List Nat)(T:Tb):Prop where
 lo:∀ q m,q % 2=1→q<p→q<2 ^ l.length→T q m=prn most (ent P l most q m)
 md:∀ m,p<2 ^ l.length→T p m=if m∈is then prn most (ent P l most p m) else ent P l most p m
 hi:∀ q m,q % 2=1→p<q→q<2 ^ l.length→T q m=if m≠0∧q.testBit m=true∧q ^^^ 2 ^ m=p then foldC P l most (ent P l most p) m is else if m≠0∧q.testBit m=true∧q ^^^ 2 ^ m<p then ent P l most q m else none
def T0:Tb:=fun q m=>if q=1∧m=0 then some st0 else none
def TI.start:TI P l most 1 [] T0:=by
 refine⟨fun q m h1 h2=>by omega,fun m _=>?_,fun q m h1 h2 h3=>?_⟩
 ·rw[if_neg (by simp),q87 m (by decide)];unfold T0;by_cases h:(1:Nat)=1∧m=0
  ·rw[if_pos h,if_pos h]
  ·rw[if_neg h,if_neg h,if_neg];rintro⟨a,b⟩;have h1:=Nat.testBit_two_pow (n:=0) (m:=m);rw[Nat.pow_zero,b] at h1;have:=of_decide_eq_true h1.symm;exact a this.symm
 ·unfold T0;rw[if_neg (by omega)];split
  ·rfl
  ·rw[if_neg];rintro⟨a,b,c⟩;have:=(z0w (q:=q) a).2 h1;omega
def TI.next{T:Tb}(h8:l.length≤8)(ho:p % 2=1)(h:TI P l most p (bitsL p) T)(hp:p<2 ^ l.length):TI P l most (p+2) [] T:=by
 have h256:2 ^ l.length≤256:=yyy (n:=2) (by omega) h8;refine⟨fun q m h1 h2 h3=>?_,fun m hm=>?_,fun q m h1 h2 h3=>?_⟩
 ·rcases Nat.lt_or_ge q p with c|c
  ·exact h.lo q m h1 c h3
  ·have:q=p:=by omega
   subst this;rw[h.md m hp];split
   ·rfl
   ·rename_i c;have hb:¬ q.testBit m=true:=fun hb=>c (x5.2 ⟨yxd (q9d hp hb) h8,hb⟩);have:ent P l most q m=none:=by rw[q87 m (by omega),if_neg,if_neg (fun e=>hb e.2)];rintro⟨rfl,rfl⟩;exact hb (by decide)
    rw[this];rfl
 ·rw[if_neg (by simp),h.hi (p+2) m (by omega) (by omega) hm,q87 m (by omega)];rw[if_neg (show ¬ (p+2=1∧m=0) by omega)];by_cases c:m≠0∧(p+2).testBit m=true
  ·have h4:=q4o c.2;have h5:=(z0w (q:=p+2) c.1).2 (by omega);rw[if_pos c];by_cases d:(p+2) ^^^ 2 ^ m=p
   ·rw[if_pos ⟨c.1,c.2,d⟩,d]
   ·rw[if_neg (fun e=>d e.2.2),if_pos ⟨c.1,c.2,by omega⟩]
  ·rw[if_neg c,if_neg (fun e=>c ⟨e.1,e.2.1⟩),if_neg (fun e=>c ⟨e.1,e.2.1⟩)]
 ·rw[h.hi q m h1 (by omega) h3];by_cases c:m≠0∧q.testBit m=true
  ·have h5:=(z0w (q:=q) c.1).2 h1;by_cases d:q ^^^ 2 ^ m=p
   ·rw[if_pos ⟨c.1,c.2,d⟩,if_neg (fun e=>by have:=e.2.2;omega),if_pos ⟨c.1,c.2,by omega⟩,q87 m (by omega),if_neg (show ¬ (q=1∧m=0) by omega),if_pos c,d]
   ·rw[if_neg (fun e=>d e.2.2)];by_cases d2:q ^^^ 2 ^ m<p
    ·rw[if_pos ⟨c.1,c.2,d2⟩,if_neg (fun e=>by have:=e.2.2;omega),if_pos ⟨c.1,c.2,by omega⟩]
    ·rw[if_neg (fun e=>d2 e.2.2)];by_cases d3:q ^^^ 2 ^ m=p+2
     ·rw[if_pos ⟨c.1,c.2,d3⟩];rfl
     ·rw[if_neg (fun e=>d3 e.2.2),if_neg (fun e=>by have:=e.2.2;omega)]
  ·rw[if_neg (fun e=>c ⟨e.1,e.2.1⟩),if_neg (fun e=>c ⟨e.1,e.2.1⟩),if_neg (fun e=>c ⟨e.1,e.2.1⟩),if_neg (fun e=>c ⟨e.1,e.2.1⟩)]
def TI.step{T:Tb}(h8:l.length≤8)(ho:p % 2=1)(h:TI P l most p is T)(hp:p<2 ^ l.length)(hj:j∉is):TI P l most p (is++[j]) (jSt P l most p T j):=by
 have hpj:T p j=ent P l most p j:=by rw[h.md j hp,if_neg hj]
 have hmem:∀ m,m∈is++[j]↔m∈is∨m=j:=fun m=>by simp
 unfold jSt;rw[hpj];cases hw:ent P l most p j with
 |none=>
  dsimp only;refine⟨h.lo,fun m hm=>?_,fun q m h1 h2 h3=>?_⟩
  ·rw[h.md m hm];by_cases c:m∈is
   ·rw[if_pos c,if_pos ((hmem m).2 (.inl c))]
   ·rw[if_neg c];by_cases d:m=j
    ·subst d;rw[if_pos ((hmem m).2 (.inr rfl)),hw];rfl
    ·rw[if_neg (fun e=>(hmem m).1 e |>.elim c d)]
  ·rw[h.hi q m h1 h2 h3,q6t];unfold cst;rw[hw]
 |some w=>
  dsimp only;by_cases hc:w.1>most
  ·rw[if_pos hc];unfold upT;refine⟨fun q m h1 h2 h3=>?_,fun m hm=>?_,fun q m h1 h2 h3=>?_⟩
   ·rw[if_neg (by omega)];exact h.lo q m h1 h2 h3
   ·by_cases d:m=j
    ·subst d;rw[if_pos ⟨rfl,rfl⟩,if_pos ((hmem m).2 (.inr rfl)),hw];unfold prn;dsimp only;rw[if_pos hc]
    ·rw[if_neg (fun e=>d e.2),h.md m hm];by_cases c:m∈is
     ·rw[if_pos c,if_pos ((hmem m).2 (.inl c))]
     ·rw[if_neg c,if_neg (fun e=>(hmem m).1 e |>.elim c d)]
   ·rw[if_neg (by omega),h.hi q m h1 h2 h3,q6t];unfold cst;rw[hw];dsimp only;rw[if_pos hc]
  ·rw[if_neg hc];refine⟨fun q m h1 h2 h3=>?_,fun m hm=>?_,fun q m h1 h2 h3=>?_⟩
   ·rw[q8r,if_neg (fun e=>by have:=or_gt e.2.1;have:=e.2.2;omega)];exact h.lo q m h1 h2 h3
   ·rw[q8r,if_neg (fun e=>by have:=or_gt e.2.1;have:=e.2.2;omega),h.md m hm];by_cases c:m∈is
    ·rw[if_pos c,if_pos ((hmem m).2 (.inl c))]
    ·rw[if_neg c];by_cases d:m=j
     ·subst d;rw[if_pos ((hmem m).2 (.inr rfl)),hw];unfold prn;dsimp only;rw[if_neg hc]
     ·rw[if_neg (fun e=>(hmem m).1 e |>.elim c d)]
   ·rw[q8r,h.hi q m h1 h2 h3,q6t];have hcst:cst P l most (ent P l most p) m (foldC P l most (ent P l most p) m is) j=some (mrg (foldC P l most (ent P l most p) m is) (w.1+gp P l j m,w.2.1,(j:Int),())):=by unfold cst;rw[hw];dsimp only;rw[if_neg hc]
    have hp0:p.testBit 0=true:=q8j.2 ho;by_cases c:m≠0∧q.testBit m=true∧q ^^^ 2 ^ m=p
    ·obtain⟨c1,c2⟩:=z6n.1 c.2;rw[if_pos ⟨q9d h3 c.2.1,c1,c2⟩,if_pos c,if_pos c,hcst]
    ·rw[if_neg,if_neg c,if_neg c];rintro⟨_,e1,e2⟩;obtain⟨c1,c2⟩:=z6n.2 ⟨e1,e2⟩;exact c ⟨(fun e=>by subst e;rw[hp0] at e1;cases e1),c1,c2⟩
def mLp(P:Int)(l:List Pt)(most:Int):Nat→Tb
 |0=>T0
 |i+1=>(bitsL (2*i+1)).foldl (jSt P l most (2*i+1)) (mLp P l most i)
def j4v{p:Nat}(h8:l.length≤8)(ho:p % 2=1)(hp:p<2 ^ l.length):∀ (js is:List Nat) (T:Tb),(is++js).Nodup→TI P l most p is T→TI P l most p (is++js) (js.foldl (jSt P l most p) T)
 |[],is,T,_,h=>by rw[yxv];exact h
 |j::js,is,T,hn,h=>by
  have e:is++j::js=(is++[j])++js:=by simp
  rw[e] at hn ⊢;rw[List.foldl_cons];have hj:j∉is:=fun hj=>by have:=(List.nodup_append.1 (List.nodup_append.1 hn).1).2.2 j hj j (by simp);exact this rfl
  exact j4v h8 ho hp js (is++[j]) _ hn (h.step h8 ho hp hj)
def TI.all(h8:l.length≤8):∀ i,2*i≤2 ^ l.length→TI P l most (2*i+1) [] (mLp P l most i)
 |0,_=>TI.start
 |i+1,h=>by have h1:=TI.all h8 i (by omega);have h2:=j4v h8 (by omega) (by omega) (bitsL (2*i+1)) [] _ (by rw[List.nil_append];exact z2g _) h1;rw[List.nil_append] at h2;have h3:=TI.next (p:=2*i+1) h8 (by omega) h2 (by omega);exact h3
def z96(h8:l.length≤8)(h1:1≤l.length)(m:Nat)(ho:q % 2=1)(hq:q<2 ^ l.length):mLp P l most (2 ^ (l.length-1)) q m=prn most (ent P l most q m):=by
 have e:2*2 ^ (l.length-1)=2 ^ l.length:=by rw[Nat.mul_comm,← Nat.pow_succ];congr 1;omega
 exact(TI.all (P:=P) (most:=most) h8 (2 ^ (l.length-1)) (by omega)).lo q m ho (by omega) hq
end
end Go.Proofs.YtjmhhehhfeengaaGreatDoor
namespace Go.Proofs.YtjmhhehhfeengaaGreatDoor
open Go Go.RowKit Ox Ox.Sh Ox.Se
attribute [local irreducible] JC JL JK JW
attribute [local irreducible] ovA stA pkV
def eqK:EqT Tryz.prog kyT 91:=.of (by decide +kernel)
set_option maxRecDepth 4096 in
def mpW:MapT Tryz.prog kyT wyT 86 91 94:=.of (by rfl) (by decide +kernel)
def fn45:Ox.Fn Tryz.prog 45 .anil (·=.val kyT (1,0,())):=by refine Ox.Fn.intro xok Tryz.func45 rfl Tryz.call45 (yyc rfl) (fun E M0 up=>?_);refine z5 ?_;refine zK2 ?_;refine⟨.inl rfl,_,_,rfl,trivial,?_⟩;rfl
def msK(P:Int)(l:List Pt)(i:Nat):Int:=(pkV P l+1)*P-sm (lO l) (List.range i)
def msK_succ(P:Int)(l:List Pt)(i:Nat):msK P l (i+1)=msK P l i-lO l i:=by unfold msK;rw[f7];omega
abbrev msT(P:Int)(l:List Pt):Int:=msK P l l.length
def j3z{X:Ctx}{c:Code}{Q:Exit→S→Prop}{s:S}(hb:fn.body=some c)(k:JK X [.code c] Q s):JK X [.code (fn.body.getD .skip)] Q s:=by rw[hb];exact k
def TG.zero:TG [] 0 (fun _ _=>Option.none):=⟨MWF.nil,fun q m=>rfl⟩
def tg_start:TG (mPut (kt:=kyT) (vt:=wyT) [] 0 (1,0,()) (0,1,-1,())) 1 T0:=TG.put TG.zero 1 0 st0
set_option maxHeartbeats 8000000 in
def j0p{l:List Pt}(hz:seE P l=0){E:World}{M0 M1:Mem}{up up1:Nat→Nat→Value}{rg:Nat}{R:AV→List (Nat×AV)→List (Nat×HO)→Nat→Prop}
  (hR:∀ es clk,TG es clk (mLp P l (msT P l) (2 ^ (l.length-1)))→R (.lf (.mp 1)) [(rg,vH P l),(0,vH P l)] [(1,.map kyT wyT es clk)] 2) :
  JK (Ctx.sub ⟨Tryz.prog,tys,ets,mts,E,M0,n,none,up,0⟩ M1 Tryz.f43.ntmps none up1) [.code (Tryz.f43.body.getD .skip)]
   (inlQ ⟨Tryz.prog,tys,ets,mts,E,M0,n,none,up,0⟩ Tryz.f43.results.toList R) ⟨[(0,vH P l)],[(0,.fr 0 [(rg,vH P l),(0,vH P l)])],1⟩:=by
 obtain⟨hP,h1,h8,hl⟩:=q4l.1 hz;refine j3z (fn:=Tryz.f43) rfl ?_;have c95:=fn45;have hpk:0≤pkV P l∧pkV P l≤100000:=by have:=ov_bd (P:=P) hP.1 hl (pkA P l:Int);unfold pkV;omega
 have hmb:0≤(pkV P l+1)*P∧(pkV P l+1)*P≤100001000:=by have h1:=Int.mul_nonneg (a:=pkV P l+1) (b:=P) (by omega) (by omega);have h2:=Int.mul_le_mul (a:=pkV P l+1) (b:=P) (c:=100001) (d:=1000) (by omega) hP.2 (by omega) (by omega);omega
 have hp8:2 ^ l.length≤256:=yyy (n:=2) (by omega) h8;have hp2:2*2 ^ (l.length-1)=2 ^ l.length:=by rw[Nat.mul_comm,← Nat.pow_succ];congr 1;omega
 have c77:=fn19 P l h8;refine zK2 ?_;refine j5h ?_
 (repeat (first|refine zs rfl ?_|refine zg rfl rfl rfl ?_|refine zd ?_|refine j6 ?_|refine j5 ?_|refine zmo mpW rfl rfl rfl rfl ?_|refine zmi mpW rfl rfl rfl rfl ?_|refine zmu mpW rfl rfl rfl rfl ?_|refine zmd mpW rfl rfl rfl ?_|refine zmr mpW rfl rfl rfl ?_|refine zmm mpW rfl ?_|refine zeq eqK rfl rfl rfl ?_|refine zne eqK rfl rfl rfl ?_|refine zc rfl (c95) rfl rfl ?_|refine ze rfl (c95) rfl ?_|refine zk rfl rfl (fun _=>c95) rfl rfl ?_))
 refine JK.loop (fun i:Nat=>⟨[(0,vH P l),(3,.lf (.mp 1)),(4,vI (msK P l i)),(36,.val (.slice ptT) l),(37,vI l.length),(38,vI (i:Int))],[(0,.fr 0 [(rg,vH P l),(0,vH P l)]),(1,.map kyT wyT (mPut [] 0 (1,0,()) (0,1,-1,())) 1)],2⟩)
  (fun i=>i≤l.length∧-10000*(i:Int)≤msK P l i∧msK P l i≤100001000) (fun i=>l.length-i) 0 ⟨yy7 _,?_⟩ ?_ fun i ⟨hi,hib⟩=>?_
 ·show(-10000:Int)*((0:Nat):Int)≤(pkV P l+1)*P-0∧(pkV P l+1)*P-0≤100001000;omega
 ·rw[show msK P l 0=(pkV P l+1)*P from Int.sub_zero _];exact zJ
 have hsu:=msK_succ P l i;have hfin:i=l.length→msK P l i=msT P l:=fun e=>by rw[e]
 have hlg:i<l.length→lO l i=(l.getD i (0,0,())).2.1∧0≤lO l i∧lO l i≤10000:=fun h=>by have:=(hl.get h).2;refine⟨rfl,?_,?_⟩<;>omega
 generalize msK P l i=mi at hib hsu hfin ⊢;refine zK2 ?_;refine q7 rfl (fun hc=>?_) (fun hc=>?_)
 ·replace hc:=zC hc;have hi':i<l.length:=by omega
  obtain⟨g1,g2,g3⟩:=hlg hi';refine zK2 ?_;refine⟨i+1,?_,⟨by omega,by push_cast;omega,by omega⟩,by omega⟩;rw[hsu,g1];exact zJ
 ·replace hc:=zC hc;rw[hfin (by omega)] at hib ⊢;clear hfin hsu hlg;generalize msT P l=most at hib hR ⊢;refine zK2 ?_;refine JK.loop (σ:=Nat×List EnW×Nat) (fun q=>⟨[(0,vH P l),(3,.lf (.mp 1)),(4,vI most),(7,vI ((2*q.1+1:Nat):Int))],[(0,.fr 0 [(rg,vH P l),(0,vH P l)]),(1,.map kyT wyT q.2.1 q.2.2)],2⟩)
   (fun q=>2*q.1≤2 ^ l.length∧TG q.2.1 q.2.2 (mLp P l most q.1)) (fun q=>256-q.1) (0,mPut [] 0 (1,0,()) (0,1,-1,()),1) ⟨by omega,?_⟩ (by exact zJ) fun q hq=>?_
  ·exact tg_start
  obtain⟨pi,es,clk⟩:=q;obtain⟨hpi,htg⟩:=hq;dsimp only at hpi htg ⊢;have hend:¬ 2*pi+1≤2 ^ l.length-1→mLp P l most pi=mLp P l most (2 ^ (l.length-1)):=fun h=>by have h0:=Nat.one_le_two_pow (n:=l.length);rw[show pi=2 ^ (l.length-1) by omega]
  have hti:=fun h=>TI.all (P:=P) (most:=most) h8 pi h;have hnx:mLp P l most (pi+1)=(bitsL (2*pi+1)).foldl (jSt P l most (2*pi+1)) (mLp P l most pi):=rfl;generalize mLp P l most pi=T0' at htg hend hti hnx;have hpo:(2*pi+1) % 2=1:=by omega
  generalize hpe:2*pi+1=p at hend hti hnx hpo ⊢;refine zK14 ?_;refine q7 rfl (fun hc=>?_) (fun hc=>?_)
  ·replace hc:=zC hc;have h0:=Nat.one_le_two_pow (n:=l.length);have hpl:p<2 ^ l.length:=by omega
   have hp256:p<256:=by omega
   have c78:=fn20 p hp256;have hti0:=hti (by omega);have hbl:(iL (bitsL p)).length=(bitsL p).length:=q4r _;have hb8:=q9c p 8;change (bitsL p).length≤8 at hb8
   (repeat (first|refine zs rfl ?_|refine zg rfl rfl rfl ?_|refine zd ?_|refine j6 ?_|refine j5 ?_|refine zmo mpW rfl rfl rfl rfl ?_|refine zmi mpW rfl rfl rfl rfl ?_|refine zmu mpW rfl rfl rfl rfl ?_|refine zmd mpW rfl rfl rfl ?_|refine zmr mpW rfl rfl rfl ?_|refine zmm mpW rfl ?_|refine zeq eqK rfl rfl rfl ?_|refine zne eqK rfl rfl rfl ?_|refine zc rfl (c78) rfl rfl ?_|refine ze rfl (c78) rfl ?_|refine zk rfl rfl (fun _=>c78) rfl rfl ?_))
   refine JK.loop (σ:=Nat×List EnW×Nat) (fun q=>⟨[(0,vH P l),(3,.lf (.mp 1)),(4,vI most),(7,vI (p:Nat)),(54,vL (iL (bitsL p))),(55,vI (iL (bitsL p)).length),(56,vI (q.1:Int))],[(0,.fr 0 [(rg,vH P l),(0,vH P l)]),(1,.map kyT wyT q.2.1 q.2.2)],2⟩)
    (fun q=>q.1≤(bitsL p).length∧∃ T,TG q.2.1 q.2.2 T∧TI P l most p ((bitsL p).take q.1) T∧T=((bitsL p).take q.1).foldl (jSt P l most p) T0') (fun q=>8-q.1) (0,es,clk) ⟨yy7 _,T0',htg,hti0,rfl⟩ (by exact zJ) fun q hq=>?_
   obtain⟨a,es1,clk1⟩:=q;obtain⟨ha,T,htg1,hti1,hT⟩:=hq;dsimp only at ha htg1 hti1 hT ⊢;refine zK2 ?_;refine q7 rfl (fun hd=>?_) (fun hd=>?_)
   ·replace hd:=zC hd;have ha':a<(bitsL p).length:=by omega
    obtain⟨j,hj⟩:∃ j,(bitsL p).getD a 0=j:=⟨_,rfl⟩;have hjm:j∈bitsL p:=by rw[← hj,z9 _ ha'];exact yyv ha'
    obtain⟨hj8,hjb⟩:=x5.1 hjm;have hjl:j<l.length:=q9d hpl hjb;have hts:(bitsL p).take (a+1)=(bitsL p).take a++[j]:=by rw[m7 _ ha' 0,hj]
    have hjn:j∉(bitsL p).take a:=fun h=>by have hn:=(List.take_sublist (a+1) (bitsL p)).nodup (z2g p);rw[hts] at hn;exact(List.nodup_append.1 hn).2.2 j h j (by simp) rfl
    have hTs:jSt P l most p T j=((bitsL p).take (a+1)).foldl (jSt P l most p) T0':=by rw[hts,List.foldl_append,← hT];rfl
    have htis:TI P l most p ((bitsL p).take (a+1)) (jSt P l most p T j):=by rw[hts];exact hti1.step h8 hpo hpl hjn
    have hTj:T p j=ent P l most p j:=by rw[hti1.md j hpl,if_neg hjn]
    have hX:(iL (bitsL p)).getD ((a:Int)).toNat (Ty.dflt (.int .i64))=(j:Int):=by show(iL (bitsL p)).getD a 0=(j:Int);rw[q1g,hj]
    generalize iL (bitsL p)=X at hbl hX ⊢;refine zK2 ?_;rw[hX];cases hTp:T p j with
    |none=>
     have hh:=htg1.none hTp;refine q7 rfl (fun _=>?_) (fun h=>?_)
     ·refine zK2 ?_;refine⟨(a+1,es1,clk1),by dsimp only;exact zJ,⟨by dsimp only;omega,T,htg1,?_,?_⟩,by dsimp only;omega⟩
      ·have e:jSt P l most p T j=T:=by unfold jSt;rw[hTp]
       rw[e] at htis;exact htis
      ·have e:jSt P l most p T j=T:=by unfold jSt;rw[hTp]
       rw[e] at hTs;exact hTs
     ·have h2:(!mHas (kt:=kyT) (vt:=wyT) es1 (ky p j))=false:=h;rw[hh] at h2;cases h2
    |some w=>
     obtain⟨hh,hg⟩:=htg1.some hTp;refine q7 rfl (fun h=>?_) (fun _=>?_)
     ·have h2:(!mHas (kt:=kyT) (vt:=wyT) es1 (ky p j))=true:=h;rw[hh] at h2;cases h2
     ·have hg':mGet (kt:=kyT) (vt:=wyT) es1 ((p:Int),(j:Int),Ty.dflt .nil) (Ty.dflt wyT)=w:=hg;rw[hg'];obtain⟨⟨b1,b2⟩,⟨b3,b4⟩,b5,b6⟩:=z5u (l:=l) (most:=most) hP hp256 (hTj.symm.trans hTp);obtain⟨w1,w2,w3,⟨⟩⟩:=w;dsimp only at b1 b2 b3 b4 b5 b6;refine zK2 ?_;refine q7 rfl (fun he=>?_) (fun he=>?_)
      ·replace he:=zC he;have e:jSt P l most p T j=upT T p j none:=by unfold jSt;rw[hTp];exact if_pos he
       refine zK2 ?_;refine⟨(a+1,mDel (kt:=kyT) (vt:=wyT) es1 (ky p j),clk1),by dsimp only;exact zJ,⟨by dsimp only;omega,_,htg1.del p j,?_,?_⟩,by dsimp only;omega⟩
       ·rw[e] at htis;exact htis
       ·rw[e] at hTs;exact hTs
      ·replace he:=zC he;have e:jSt P l most p T j=kLp P l p j (w1,w2,w3,()) T l.length:=by unfold jSt;rw[hTp];exact if_neg he
       refine zK2 ?_;refine JK.loop (σ:=Nat×List EnW×Nat) (fun q=>⟨[(0,vH P l),(3,.lf (.mp 1)),(4,vI most),(7,vI (p:Nat)),(9,vI (j:Int)),(10,.lf (.optr 2 [])),(54,vL X),(55,vI X.length),(56,vI (a:Int)),(82,.val (.slice ptT) l),(83,vI l.length),(84,vI (q.1:Int))],
         [(0,.fr 0 [(rg,vH P l),(0,vH P l)]),(1,.map kyT wyT q.2.1 q.2.2),(2,.cell wyT (.val wyT (w1,w2,w3,())))],3⟩)
        (fun q=>q.1≤l.length∧TG q.2.1 q.2.2 (kLp P l p j (w1,w2,w3,()) T q.1)) (fun q=>8-q.1) (0,es1,clk1) ⟨yy7 _,htg1⟩ (by exact zJ) fun q hq=>?_
       obtain⟨k,es2,clk2⟩:=q;obtain⟨hk,htg2⟩:=hq;dsimp only at hk htg2 ⊢;have hks:kLp P l p j (w1,w2,w3,()) T (k+1)=if p.testBit k=true then kLp P l p j (w1,w2,w3,()) T k else upT (kLp P l p j (w1,w2,w3,()) T k) (p ||| 2 ^ k) k (some (mrg (kLp P l p j (w1,w2,w3,()) T k (p ||| 2 ^ k) k) (w1+gp P l j k,w2,(j:Int),()))):=rfl;have hkl:kLp P l p j (w1,w2,w3,()) T k (p ||| 2 ^ k) k=T (p ||| 2 ^ k) k:=by rw[q8r,if_neg (by omega)]
       rw[hkl] at hks;have hkf:k=l.length→kLp P l p j (w1,w2,w3,()) T k=jSt P l most p T j:=fun h=>by rw[e,h]
       generalize kLp P l p j (w1,w2,w3,()) T k=Tk at htg2 hks hkl hkf;refine zK2 ?_;refine q7 rfl (fun hf=>?_) (fun hf=>?_)
       ·replace hf:=zC hf;have hk':k<l.length:=by omega
        have hbi:=j4f p k;have hdv:=div_bd p k (by omega);refine zK2 ?_;refine q7 rfl (fun hg=>?_) (fun hg=>?_)
        ·rw[if_pos (hbi.1 (beq_iff_eq.1 hg))] at hks;refine zK2 ?_;refine⟨(k+1,es2,clk2),by dsimp only;exact zJ,⟨by dsimp only;omega,by rw[hks];exact htg2⟩,by dsimp only;omega⟩
        ·have hbf:p.testBit k=false:=Bool.eq_false_iff.2 fun h=>by rw[hbi.2 h] at hg;simp at hg
         rw[if_neg (by rw[hbf];decide)] at hks;have hww:(2:Int) ^ k=((2 ^ k:Nat):Int):=by push_cast;rfl
         have hwp:2 ^ k<2 ^ l.length:=Nat.pow_lt_pow_right (by omega) hk';have hwb:0≤(2:Int) ^ ((k:Int)).toNat∧(2:Int) ^ ((k:Int)).toNat≤65536:=by rw[Int.toNat_natCast,hww];exact⟨Int.natCast_nonneg _,Int.ofNat_le.2 (show 2 ^ k≤65536 by omega)⟩
         have hor:(((p:Int).toNat ||| ((1:Int)*2 ^ ((k:Int)).toNat).toNat:Nat):Int)=((p ||| 2 ^ k:Nat):Int):=by rw[Int.toNat_natCast,Int.toNat_natCast,Int.one_mul,hww,Int.toNat_natCast]
         have hol:p ||| 2 ^ k<2 ^ l.length:=Nat.or_lt_two_pow hpl hwp
         have hTq:T (p ||| 2 ^ k) k=foldC P l most (ent P l most p) k ((bitsL p).take a):=by
          have hk0:k≠0:=fun h=>by rw[h,q8j.2 hpo] at hbf;cases hbf
          rw[hti1.hi _ k (or_odd hpo) (or_gt hbf) hol,if_pos ⟨hk0,j1e,or_xor hbf⟩]
         have hTb:∀ v,T (p ||| 2 ^ k) k=some v→wB 9 134217728 v:=fun v hv=>j25 hP hp256 (fun i hi=>(x5.1 (List.mem_of_mem_take hi)).1) (by rw[yy3];omega) (hTq.symm.trans hv);have c65:=fn47 P l j k hP hl hjl hk';have hgb:=z1r (l:=l) hP.1 j k;generalize gp P l j k=g at c65 hgb hks;refine zK10 ?_;rw[hor];refine q05 xk (Tryz.f43.body.getD .skip) ⟨[(0,vH P l),(3,.lf (.mp 1)),(4,vI most),(7,vI (p:Nat)),(9,vI (j:Int)),(10,.lf (.optr 2 [])),(13,.lf (.optr 3 [])),(14,.lf (.optr 4 [])),(54,vL X),(55,vI X.length),(56,vI (a:Int)),(82,.val (.slice ptT) l),(83,vI l.length),(84,vI (k:Int))],
         [(0,.fr 0 [(rg,vH P l),(0,vH P l)]),(1,.map kyT wyT es2 clk2),(2,.cell wyT (.val wyT (w1,w2,w3,()))),(3,.cell kyT (.val kyT (ky (p ||| 2 ^ k) k))),(4,.cell wyT (.val wyT (w1+g,w2,(j:Int),())))],5⟩ rfl 13 rfl ?_ ?_
         ·(refine q9 0 xk rfl rfl (q9 2 xk rfl rfl (q9 3 xk rfl rfl (q9 4 xk rfl rfl (q9 7 xk rfl rfl (q9 9 xk rfl rfl (z8 1 xk rfl rfl (z8 8 xk rfl rfl ?_)))))));refine q58 5 [11] xk ?_ ?_;exact zS;refine(BrF.one rfl rfl ?_ (BrF.one rfl rfl ?_ BrF.nil));(· refine zK6 ?_;refine w8 ?_;refine z8 6 xk rfl rfl ?_;refine q58 10 [11] xk ?_ ?_;exact zS;refine(BrF.one rfl rfl ?_ (BrF.one rfl rfl ?_ BrF.nil));(· refine zK6 ?_;refine w8 ?_;refine zU 11 xk rfl rfl ?_;refine zK6 ?_;refine w8 ?_;refine zU 12 xk rfl rfl ?_;refine zK6 ?_;refine w8 ?_;refine n8 xk StF.nil ?_;(exact zJ));(· refine zK6 ?_;refine w8 ?_;refine zU 10 xk rfl rfl ?_;refine zK6 ?_;refine w8 ?_;refine zU 12 xk rfl rfl ?_;exact zB1));(· refine zK6 ?_;refine w8 ?_;refine zU 5 xk rfl rfl ?_;refine zK6 ?_;refine w8 ?_;refine z8 6 xk rfl rfl (zU 10 xk rfl rfl ?_);refine zK6 ?_;refine w8 ?_;refine zU 12 xk rfl rfl ?_;exact zB1))
         refine zK2 ?_;rw[← hkl] at hTb hks;cases hTk:Tk (p ||| 2 ^ k) k with
         |none=>have hh:=htg2.none hTk;rw[hh];rw[hTk] at hks;refine q7 rfl (fun h=>by cases h) (fun _=>?_);refine zK2 ?_;refine q7 rfl (fun h=>by cases h) (fun _=>?_);refine zK2 ?_;refine⟨(k+1,mPut (kt:=kyT) (vt:=wyT) es2 clk2 (ky (p ||| 2 ^ k) k) (w1+g,w2,(j:Int),()),mClk (kt:=kyT) (vt:=wyT) es2 clk2 (ky (p ||| 2 ^ k) k)),by dsimp only;exact zJ,⟨by dsimp only;omega,?_⟩,by dsimp only;omega⟩;have:=htg2.put (p ||| 2 ^ k) k (w1+g,w2,(j:Int),());rw[hks];exact this
         |some c=>
          obtain⟨hh,hg2⟩:=htg2.some hTk;have hcb:=hTb c hTk;rw[hTk] at hks;rw[hh,hg2];obtain⟨c1,c2,c3,⟨⟩⟩:=c;obtain⟨⟨d1,d2⟩,⟨d3,d4⟩,d5,d6⟩:=hcb;dsimp only at d1 d2 d3 d4 d5 d6;refine q7 rfl (fun hm=>?_) (fun hm=>?_)
          ·have hm':c1=w1+g:=beq_iff_eq.1 hm;have hmr:mrg (some (c1,c2,c3,())) (w1+g,w2,(j:Int),())=(w1+g,w2+c2,c3,()):=by show(if c1=w1+g then(w1+g,w2+c2,c3,()) else _)=_;rw[if_pos hm']
           rw[hmr] at hks;refine zK10 ?_;refine q37 xk (Tryz.f43.body.getD .skip) ⟨[(0,vH P l),(3,.lf (.mp 1)),(4,vI most),(7,vI (p:Nat)),(9,vI (j:Int)),(10,.lf (.optr 2 [])),(13,.lf (.optr 3 [])),(14,.lf (.optr 4 [])),(54,vL X),(55,vI X.length),(56,vI (a:Int)),(82,.val (.slice ptT) l),(83,vI l.length),(84,vI (k:Int))],
            [(0,.fr 0 [(rg,vH P l),(0,vH P l)]),(1,.map kyT wyT es2 clk2),(2,.cell wyT (.val wyT (w1,w2,w3,()))),(3,.cell kyT (.val kyT (ky (p ||| 2 ^ k) k))),(4,.cell wyT (.val wyT (w1+g,w2+c2,c3,())))],5⟩ rfl 11 rfl ?_ ?_
           ·(refine q9 0 xk rfl rfl (q9 2 xk rfl rfl (q9 5 xk rfl rfl (z8 1 xk rfl rfl (z8 3 xk rfl rfl (z8 4 xk rfl rfl (z8 6 xk rfl rfl (z8 7 xk rfl rfl (zU 8 xk rfl rfl ?_))))))));refine zK7 ?_;refine w8 ?_;refine z8 9 xk rfl rfl (zU 10 xk rfl rfl ?_);refine zK7 ?_;refine w8 ?_;refine n8 xk StF.nil ?_;(exact zJ))
           refine zK2 ?_;refine⟨(k+1,mPut (kt:=kyT) (vt:=wyT) es2 clk2 (ky (p ||| 2 ^ k) k) (w1+g,w2+c2,c3,()),mClk (kt:=kyT) (vt:=wyT) es2 clk2 (ky (p ||| 2 ^ k) k)),by dsimp only;exact zJ,⟨by dsimp only;omega,?_⟩,by dsimp only;omega⟩;have:=htg2.put (p ||| 2 ^ k) k (w1+g,w2+c2,c3,());rw[hks];exact this
          ·have hm':¬ c1=w1+g:=beq_eq_false_iff_ne.1 hm;refine zK2 ?_;refine q7 rfl (fun hn=>?_) (fun hn=>?_)
           ·have hn':c1<w1+g:=of_decide_eq_true hn;have hmr:mrg (some (c1,c2,c3,())) (w1+g,w2,(j:Int),())=(c1,c2,c3,()):=by show(if c1=w1+g then(w1+g,w2+c2,c3,()) else if c1<w1+g then(c1,c2,c3,()) else _)=_;rw[if_neg hm',if_pos hn']
            rw[hmr] at hks;refine zK2 ?_;refine⟨(k+1,mPut (kt:=kyT) (vt:=wyT) es2 clk2 (ky (p ||| 2 ^ k) k) (c1,c2,c3,()),mClk (kt:=kyT) (vt:=wyT) es2 clk2 (ky (p ||| 2 ^ k) k)),by dsimp only;exact zJ,⟨by dsimp only;omega,?_⟩,by dsimp only;omega⟩;have:=htg2.put (p ||| 2 ^ k) k (c1,c2,c3,());rw[hks];exact this
           ·have hn':¬ c1<w1+g:=of_decide_eq_false hn;have hmr:mrg (some (c1,c2,c3,())) (w1+g,w2,(j:Int),())=(w1+g,w2,(j:Int),()):=by show(if c1=w1+g then(w1+g,w2+c2,c3,()) else if c1<w1+g then(c1,c2,c3,()) else(w1+g,w2,(j:Int),()))=_;rw[if_neg hm',if_neg hn']
            rw[hmr] at hks;refine zK2 ?_;refine⟨(k+1,mPut (kt:=kyT) (vt:=wyT) es2 clk2 (ky (p ||| 2 ^ k) k) (w1+g,w2,(j:Int),()),mClk (kt:=kyT) (vt:=wyT) es2 clk2 (ky (p ||| 2 ^ k) k)),by dsimp only;exact zJ,⟨by dsimp only;omega,?_⟩,by dsimp only;omega⟩;have:=htg2.put (p ||| 2 ^ k) k (w1+g,w2,(j:Int),());rw[hks];exact this
       ·replace hf:=zC hf;have hkk:=hkf (by omega);refine zK2 ?_;refine⟨(a+1,es2,clk2),by dsimp only;exact zJ,⟨by dsimp only;omega,Tk,htg2,?_,?_⟩,by dsimp only;omega⟩
        ·rw[hkk];exact htis
        ·rw[hkk];exact hTs
   ·replace hd:=zC hd;have hae:a=(bitsL p).length:=by omega
    rw[hae,yxj] at hT;rw[← hnx] at hT;subst hT;refine zK2 ?_;refine⟨(pi+1,es1,clk1),?_,⟨by dsimp only;omega,htg1⟩,by dsimp only;omega⟩;dsimp only;rw[show((2*(pi+1)+1:Nat):Int)=((p:Nat):Int)+2 by omega];exact zJ
  ·replace hc:=zC hc;rw[hend (by omega)] at htg;refine zK2 ?_;refine z1o rfl rfl rfl rfl ?_;exact hR es clk htg
end Go.Proofs.YtjmhhehhfeengaaGreatDoor
