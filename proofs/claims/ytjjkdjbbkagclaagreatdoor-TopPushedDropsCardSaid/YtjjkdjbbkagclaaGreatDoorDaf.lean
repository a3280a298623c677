/- Texts of the proof of the statement that the last text proves. -/
import Derived.Test.YtjjkdjbbkagclaaGreatDoorDae
import Derived.ProofKit
import Derived.OpenShut
import Derived.Carry
import Derived.JoinedOf
import Derived.FnData
import GoSem.ClaimJoined
set_option linter.all false
set_option maxHeartbeats 2000000
variable{fn:Go.Func}{a c i j m n x:Nat}{d hi lo s u v:Int}{p q:Prop}{k:Go.IntKind}{eid t t' tt:Go.TypeId}{c1 c2 cs cs1 cs2:List Prop}{ops:List Go.Oper}{b g:Bool}{bf:Nat→Nat}{P:Nat→Nat→Bool}{f:Go.FuncId}{α:Type}{l o rv xs:List Int}{fo y:Go.Operand}{args:Array Go.Operand}{R:Nat→List Int}{on:Nat→Bool}
namespace Ox
open Go Go.RowKit
variable {X:Ctx}{s:S}{M:Mem}{ρ:Env}{a:Act}{w w':World}{QA:Exit→S→Prop}{all l:List Oper}{P:Program}
variable {L:List (Nat×AV)}{H:List (Nat×HO)}{nx d n:Nat}{rr:List Fr}{c1 c2:List Prop}{ty ty2:TypeId}{ps ps2:String}{af af2:Array Edge}{md:Bool}
variable {m:Nat}
section
variable {x:Operand}{t:TypeId}{xs:List Int}{eid:TypeId}{e:Ty}
end
section
variable {kt vt:Ty}{t kid vid:TypeId}{es:List (Ent kt vt)}{clk n:Nat}{x:kt.den}{om ok ov:Operand}{c3:List Prop}{o:Oper}
end
end Ox
namespace Go.Proofs.YtjjkdjbbkagclaaGreatDoor
open Go Go.RowKit Ox
variable {E:World}{M0:Mem}{n:Nat}{rd:Option Nat}{up:Nat→Nat→Value}{dp:Nat}{QA:Exit→S→Prop}{st st' r:List Fr}{s s':S}{cs:List Prop}{md:Bool}{all l:List Oper}{d:Nat}{op:Op}{ty:TypeId}{ps:String}{af:Array Edge}{g:Bool}{gg:Nat×Bool}{v:AV}{f:FuncId}{args:AV}{L:List (Nat×AV)}{H:List (Nat×HO)}{nx:Nat}{kt vt:Ty}{t kid vid:TypeId}{es:List (Ent kt vt)}{clk m:Nat}{x y:kt.den}{c1 c2 c3:List Prop}{om ok ov:Operand}
def zs(h:stepC tys ets n false st s=some (cs,st',s'))(k:JK ⟨Tryz.prog,tys,ets,mts,E,M0,n,rd,up,dp⟩ st' QA s')(hc:allP cs:=by exact zD):JK ⟨Tryz.prog,tys,ets,mts,E,M0,n,rd,up,dp⟩ st QA s:=z9q xk h k hc
def zu(h:stepC tys ets n true st s=some (cs,st',s'))(k:JK ⟨Tryz.prog,tys,ets,mts,E,M0,n,rd,up,dp⟩ st' QA s')(hc:allP cs:=by exact zD):JK ⟨Tryz.prog,tys,ets,mts,E,M0,n,rd,up,dp⟩ st QA s:=z9q xk h k hc
def zg(hg:gOf all L (some gg)=some g)(h:evb tys op ⟨L,H,nx⟩=some (cs,v))(hd:ltB d n=true)(k:JK ⟨Tryz.prog,tys,ets,mts,E,M0,n,rd,up,dp⟩ (.ops md all l::r) QA ⟨(d,.gd g v)::L,H,nx⟩)
  (hc:g=true→allP cs:=by(first|(exact fun _=>trivial)|(exact fun hgd=>hgd)|(exact zE)|(exact fun hgd=>And.intro hgd (fun hpk=>Bool.and_eq_true_iff.2 ⟨hgd,by rw[hpk];rfl⟩))|(exact zF))) :
  JK ⟨Tryz.prog,tys,ets,mts,E,M0,n,rd,up,dp⟩ (.ops md all (⟨some d,op,ty,ps,af,some gg⟩::l)::r) QA ⟨L,H,nx⟩:=JK.gd xk hg h hd k hc
def zd{id:Nat}(k:JK ⟨Tryz.prog,tys,ets,mts,E,M0,n,rd,up,dp⟩ (.ops false ops ops::r) QA s)(hB:(Region.lexB .any ops.toArray&&ndAll ops)=true:=by decide +kernel):JK ⟨Tryz.prog,tys,ets,mts,E,M0,n,rd,up,dp⟩ (.code (.region id ⟨ops⟩ true)::r) QA s:=JK.draw xk k hB
def zc(h:callA tys op ⟨L,H,nx⟩=some (cs,f,args))(hf:Ox.Fn Tryz.prog f args (·=v))(hr:v.scal=true)(hd:ltB d n=true)(k:JK ⟨Tryz.prog,tys,ets,mts,E,M0,n,rd,up,dp⟩ (.ops md all l::r) QA ⟨(d,v)::L,H,nx⟩)(hc:allP cs:=by exact zD) :
  JK ⟨Tryz.prog,tys,ets,mts,E,M0,n,rd,up,dp⟩ (.ops md all (⟨some d,op,ty,ps,af,none⟩::l)::r) QA ⟨L,H,nx⟩:=JK.sc h hf hr hd k hc
def zk(hg:gOf all L (some gg)=some g)(h:callA tys op ⟨L,H,nx⟩=some (cs,f,args))(hf:g=true→Ox.Fn Tryz.prog f args (·=v))(hr:v.scal=true)(hd:ltB d n=true)(k:JK ⟨Tryz.prog,tys,ets,mts,E,M0,n,rd,up,dp⟩ (.ops md all l::r) QA ⟨(d,.gd g v)::L,H,nx⟩)
  (hc:g=true→allP cs:=by(first|(exact fun _=>trivial)|(exact fun hgd=>hgd)|(exact zE)|(exact zF))):JK ⟨Tryz.prog,tys,ets,mts,E,M0,n,rd,up,dp⟩ (.ops md all (⟨some d,op,ty,ps,af,some gg⟩::l)::r) QA ⟨L,H,nx⟩:=JK.scg hg h hf hr hd k hc
def ze(h:callA tys op ⟨L,[],nx⟩=some (cs,f,args))(hf:Ox.Fn Tryz.prog f args (·=v))(hd:ltB d n=true)(k:JK ⟨Tryz.prog,tys,ets,mts,E,M0,n,rd,up,dp⟩ (.ops true all l::r) QA ⟨(d,v)::L,H,nx⟩)(hc:allP cs:=by exact zD) :
  JK ⟨Tryz.prog,tys,ets,mts,E,M0,n,rd,up,dp⟩ (.ops true all (⟨some d,op,ty,ps,af,none⟩::l)::r) QA ⟨L,H,nx⟩:=JK.ce h hf hd k hc
def zt(hg:gOf all L (some gg)=some g)(hgt:g=true){dd:Option Nat}(k:JK ⟨Tryz.prog,tys,ets,mts,E,M0,n,rd,up,dp⟩ (.ops true all (⟨dd,op,ty,ps,af,none⟩::l)::r) QA ⟨L,H,nx⟩):JK ⟨Tryz.prog,tys,ets,mts,E,M0,n,rd,up,dp⟩ (.ops true all (⟨dd,op,ty,ps,af,some gg⟩::l)::r) QA ⟨L,H,nx⟩:=JK.gT hg hgt k
def zeq(hK:EqT Tryz.prog kt t)(hu:opd L om=some (c1,.val kt x))(hv:opd L ok=some (c2,.val kt y))(hd:ltB d n=true)
  (k:JK ⟨Tryz.prog,tys,ets,mts,E,M0,n,rd,up,dp⟩ (.ops md all l::r) QA ⟨(d,.val .bool (kt.eqB x y))::L,H,nx⟩) (hc:allP (c1++c2):=by exact zD):JK ⟨Tryz.prog,tys,ets,mts,E,M0,n,rd,up,dp⟩ (.ops md all (⟨some d,.binOp .eql t om ok tt,ty,ps,af,none⟩::l)::r) QA ⟨L,H,nx⟩:=JL.eqQ (X:=⟨Tryz.prog,tys,ets,mts,E,M0,n,rd,up,dp⟩)  hK.key hK.ag hK.gt hu hv hd hc k
def q9k{x y:kt.den}(hK:EqT Tryz.prog kt t)(hg:gOf all L (some gg)=some g)(hu:opd L om=some (c1,.val kt x))(hv:opd L ok=some (c2,.val kt y))(hd:ltB d n=true)
  (k:JK ⟨Tryz.prog,tys,ets,mts,E,M0,n,rd,up,dp⟩ (.ops md all l::r) QA ⟨(d,.gd g (.val .bool (kt.eqB x y)))::L,H,nx⟩) (hc:g=true→allP (c1++c2):=by(first|(exact fun _=>trivial)|(exact fun hgd=>hgd)|(exact zE)|(exact zF))):JK ⟨Tryz.prog,tys,ets,mts,E,M0,n,rd,up,dp⟩ (.ops md all (⟨some d,.binOp .eql t om ok tt,ty,ps,af,some gg⟩::l)::r) QA ⟨L,H,nx⟩:=JK.eqQg (X:=⟨Tryz.prog,tys,ets,mts,E,M0,n,rd,up,dp⟩) hK hg hu hv hd hc k
def q9j{x y:kt.den}(hK:EqT Tryz.prog kt t)(hg:gOf all L (some gg)=some g)(hu:opd L om=some (c1,.val kt x))(hv:opd L ok=some (c2,.val kt y))(hd:ltB d n=true)
  (k:JK ⟨Tryz.prog,tys,ets,mts,E,M0,n,rd,up,dp⟩ (.ops md all l::r) QA ⟨(d,.gd g (.val .bool (!kt.eqB x y)))::L,H,nx⟩) (hc:g=true→allP (c1++c2):=by(first|(exact fun _=>trivial)|(exact fun hgd=>hgd)|(exact zE)|(exact zF))):JK ⟨Tryz.prog,tys,ets,mts,E,M0,n,rd,up,dp⟩ (.ops md all (⟨some d,.binOp .neq t om ok tt,ty,ps,af,some gg⟩::l)::r) QA ⟨L,H,nx⟩:=JK.neQg (X:=⟨Tryz.prog,tys,ets,mts,E,M0,n,rd,up,dp⟩) hK hg hu hv hd hc k
structure HB(q:Prop):Prop where
 h:q
def zK0(k:q)(h:HB q→p:=by(intro hzz;(repeat (first|refine zs rfl ?_|refine zg rfl rfl rfl ?_|refine zd ?_|refine k9 ?_|refine k8 ?_));exact hzz.h)):p:=h ⟨k⟩
def zK1(k:q)(h:HB q→p:=by(intro hzz;(repeat (first|refine zs rfl ?_|refine zg rfl rfl rfl ?_|refine zd ?_|refine k9 ?_|refine k8 ?_|refine zeq q5x rfl rfl rfl ?_|refine q9k q5x rfl rfl rfl rfl ?_|refine q9j q5x rfl rfl rfl rfl ?_));exact hzz.h)):p:=h ⟨k⟩
def zK2(k:q)(h:HB q→p:=by(intro hzz;(first|refine JL.M0 xk rfl ?_);exact hzz.h)):p:=h ⟨k⟩
def zK3(k:q)(h:HB q→p:=by(intro hzz;(repeat (first|refine zs rfl ?_|refine zg rfl rfl rfl ?_|refine k9 ?_|refine k8 ?_));exact hzz.h)):p:=h ⟨k⟩
def zK4(k:q)(h:HB q→p:=by(intro hzz;(repeat (first|refine zs rfl ?_|refine zg rfl rfl rfl ?_|refine zd ?_|refine k9 ?_|refine k8 ?_|refine zeq q5a rfl rfl rfl ?_|refine q9k q5a rfl rfl rfl rfl ?_|refine q9j q5a rfl rfl rfl rfl ?_));exact hzz.h)):p:=h ⟨k⟩
def zK5(k:q)(h:HB q→p:=by(intro hzz;(first|refine q8a rfl rfl (fun hgd=>c4) rfl trivial rfl ?_|refine q8a rfl rfl (fun hgd=>c5) rfl trivial rfl ?_);exact hzz.h)):p:=h ⟨k⟩
def zK6(k:q)(h:HB q→p:=by(intro hzz;(repeat (first|refine zs rfl ?_|refine zg rfl rfl rfl ?_|refine zd ?_|refine k9 ?_|refine k8 ?_|refine zeq eqBf rfl rfl rfl ?_|refine q9k eqBf rfl rfl rfl rfl ?_|refine q9j eqBf rfl rfl rfl rfl ?_));exact hzz.h)):p:=h ⟨k⟩
def zK7(k:q)(h:HB q→p:=by(intro hzz;(first|refine z48 xk rfl rfl ?_|refine x9 xk rfl rfl rfl ?_|refine n9 xk rfl rfl ?_|refine JL.M0 xk rfl ?_|refine z38 q5a rfl rfl rfl ?_|refine q5h rfl (c11) rfl trivial rfl ?_|refine q5i rfl (c11) rfl (fun r hr=>?_);subst hr|refine q8a rfl rfl (fun hgd=>c11) rfl trivial rfl ?_);exact hzz.h)):p:=h ⟨k⟩
def zK8(k:q)(h:HB q→p:=by(intro hzz;(repeat (first|refine zs rfl ?_|refine zg rfl rfl rfl ?_|refine zd ?_|refine k9 ?_|refine k8 ?_|refine zc rfl (hx) rfl rfl ?_|refine ze rfl (hx) rfl ?_|refine zk rfl rfl (fun _=>hx) rfl rfl ?_));exact hzz.h)):p:=h ⟨k⟩
def zK9(k:q)(h:HB q→p:=by(intro hzz;(first|refine z48 xk rfl rfl ?_|refine n9 xk rfl rfl ?_);exact hzz.h)):p:=h ⟨k⟩
def zK10(k:q)(h:HB q→p:=by(intro hzz;(first|refine q5h rfl (c12) rfl trivial rfl ?_|(refine q5i rfl (c12) rfl (fun r hr=>?_);subst hr));exact hzz.h)):p:=h ⟨k⟩
def zK11(k:q)(h:HB q→p:=by(intro hzz;(repeat (first|refine zs rfl ?_|refine zg rfl rfl rfl ?_|refine k9 ?_|refine k8 ?_|refine zeq q5a rfl rfl rfl ?_|refine q9k q5a rfl rfl rfl rfl ?_|refine q9j q5a rfl rfl rfl rfl ?_));exact hzz.h)):p:=h ⟨k⟩
def zK12(k:q)(h:HB q→p:=by(intro hzz;(repeat (first|refine zs rfl ?_|refine zg rfl rfl rfl ?_|refine k9 ?_|refine k8 ?_|refine zeq q5x rfl rfl rfl ?_|refine q9k q5x rfl rfl rfl rfl ?_|refine q9j q5x rfl rfl rfl rfl ?_));exact hzz.h)):p:=h ⟨k⟩
def zK13(k:q)(h:HB q→p:=by(intro hzz;(repeat (first|refine zs rfl ?_|refine zg rfl rfl rfl ?_|refine zd ?_|refine k9 ?_|refine k8 ?_|refine zc rfl (c1) rfl rfl ?_|refine ze rfl (c1) rfl ?_|refine zk rfl rfl (fun _=>c1) rfl rfl ?_));exact hzz.h)):p:=h ⟨k⟩
def zK14(k:q)(h:HB q→p:=by(intro hzz;(first|refine z48 xk rfl rfl ?_|refine x9 xk rfl rfl rfl ?_|refine n9 xk rfl rfl ?_|refine JL.M0 xk rfl ?_);exact hzz.h)):p:=h ⟨k⟩
def zK15(k:q)(h:HB q→p:=by(intro hzz;(first|refine z48 xk rfl rfl ?_|refine x9 xk rfl rfl rfl ?_|refine n9 xk rfl rfl ?_|refine JL.M0 xk rfl ?_|refine z38 q5a rfl rfl rfl ?_);exact hzz.h)):p:=h ⟨k⟩
def zK16(k:q)(h:HB q→p:=by(intro hzz;(first|refine z48 xk rfl rfl ?_|refine x9 xk rfl rfl rfl ?_|refine n9 xk rfl rfl ?_|refine JL.M0 xk rfl ?_|refine z38 q5a rfl rfl rfl ?_|refine q5h rfl (c13) rfl trivial rfl ?_|refine q5i rfl (c13) rfl (fun r hr=>?_);subst hr|refine q8a rfl rfl (fun hgd=>c13) rfl trivial rfl ?_);exact hzz.h)):p:=h ⟨k⟩
def zK17(k:q)(h:HB q→p:=by(intro hzz;(repeat (first|refine zs rfl ?_|refine zg rfl rfl rfl ?_|refine zd ?_|refine k9 ?_|refine k8 ?_|refine zc rfl (c2) rfl rfl ?_|refine ze rfl (c2) rfl ?_|refine zk rfl rfl (fun _=>c2) rfl rfl ?_));exact hzz.h)):p:=h ⟨k⟩
def zK18(k:q)(h:HB q→p:=by(intro hzz;(first|refine z48 xk rfl rfl ?_|refine x9 xk rfl rfl rfl ?_|refine n9 xk rfl rfl ?_|refine JL.M0 xk rfl ?_|refine z38 q5x rfl rfl rfl ?_);exact hzz.h)):p:=h ⟨k⟩
def zK19(k:q)(h:HB q→p:=by(intro hzz;(first|refine q5h rfl (c1) rfl trivial rfl ?_|(refine q5i rfl (c1) rfl (fun r hr=>?_);subst hr)|refine q5h rfl (c2) rfl trivial rfl ?_|(refine q5i rfl (c2) rfl (fun r hr=>?_);subst hr));exact hzz.h)):p:=h ⟨k⟩
def zK20(k:q)(h:HB q→p:=by(intro hzz;(repeat (first|refine zs rfl ?_|refine zg rfl rfl rfl ?_|refine zd ?_|refine k9 ?_|refine k8 ?_|refine zc rfl (c26) rfl rfl ?_|refine ze rfl (c26) rfl ?_|refine zk rfl rfl (fun _=>c26) rfl rfl ?_));exact hzz.h)):p:=h ⟨k⟩
def zK21(k:q)(h:HB q→p:=by(intro hzz;(repeat (first|refine zs rfl ?_|refine zg rfl rfl rfl ?_|refine zd ?_|refine k9 ?_|refine k8 ?_|refine zc rfl (c) rfl rfl ?_|refine ze rfl (c) rfl ?_|refine zk rfl rfl (fun _=>c) rfl rfl ?_));exact hzz.h)):p:=h ⟨k⟩
def zK22(k:q)(h:HB q→p:=by(intro hzz;(repeat (first|refine zs rfl ?_|refine zg rfl rfl rfl ?_|refine zd ?_|refine k9 ?_|refine k8 ?_|refine zc rfl (c133) rfl rfl ?_|refine ze rfl (c133) rfl ?_|refine zk rfl rfl (fun _=>c133) rfl rfl ?_));exact hzz.h)):p:=h ⟨k⟩
def zK23(k:q)(h:HB q→p:=by(intro hzz;(repeat (first|refine zs rfl ?_|refine zg rfl rfl rfl ?_|refine zd ?_|refine k9 ?_|refine k8 ?_|refine zc rfl (c35) rfl rfl ?_|refine ze rfl (c35) rfl ?_|refine zk rfl rfl (fun _=>c35) rfl rfl ?_));exact hzz.h)):p:=h ⟨k⟩
def zB0(h:p:=by(· refine zK5 ?_;refine q9 ?_;refine q7 22 xk rfl rfl ?_;refine w7 xk ?_ ?_;exact zS;(exact zJ))):p:=h
def zB1(h:p:=by(· refine zK2 ?_;refine q9 ?_;refine w7 xk ?_ ?_;exact zS;(exact zJ))):p:=h
def zB2(h:p:=by(· refine zK15 ?_;refine q9 ?_;refine w7 xk StF.nil ?_;(exact zJ))):p:=h
def zB3(h:p:=by(· refine zK2 ?_;refine q9 ?_;refine w7 xk StF.nil ?_;(exact zJ))):p:=h
def zB4(h:p:=by(· (refine x9 xk rfl rfl rfl ?_);refine q9 ?_;refine zU 17 xk rfl rfl ?_;(refine x9 xk rfl rfl rfl ?_);refine q9 ?_;refine j4 19 xk rfl rfl rfl (zU 21 xk rfl rfl ?_);exact zB0)):p:=h
def zB5(h:p:=by(· refine zK5 ?_;refine q9 ?_;refine j4 13 xk rfl rfl rfl (q7 14 xk rfl rfl (q7 15 xk rfl rfl (j4 16 xk rfl rfl rfl (j4 18 xk rfl rfl rfl ?_))));refine v6 17 [20] xk ?_ ?_;exact zS;refine(BrF.one rfl rfl ?_ (BrF.one rfl rfl ?_ BrF.nil));(· (refine x9 xk rfl rfl rfl ?_);refine q9 ?_;refine j4 19 xk rfl rfl rfl (zU 20 xk rfl rfl ?_);(refine x9 xk rfl rfl rfl ?_);refine q9 ?_;refine zU 21 xk rfl rfl ?_;refine zK5 ?_;refine q9 ?_;refine q7 22 xk rfl rfl ?_;refine w7 xk ?_ ?_;exact zS;(exact zJ));exact zB4)):p:=h
def zU{X:Ctx}{K:S→Prop}{ls fl fl2:List Nat}{fuel:Nat}{o:Oper}(i:Nat)(hX:XOK X)(ho:ops[i]?=some o)(hf:(fl.filter fun f=>!waits o f)=fl2)(h:JL X true ops (qN fun t=>JF X ops K fl2 fuel (i::ls) t) [o] s)(hst:StF X ops s fl:=by(focus (repeat (first|exact StF.nil|refine z9b rfl rfl rfl ?_))))(hc:ndB ops ls fl [i]=true:=by decide +kernel):JF X ops K fl (fuel+1) ls s:=v6 i [] hX hst (BrF.one ho hf h BrF.nil) hc
def zS(h:p:=by(focus (repeat (first|exact StF.nil|refine z9b rfl rfl rfl ?_)))):p:=h
def zC(a:p)(h:p→q:=by(intro hzz;simp only[↓cdL] at hzz;(try simp only[Ty.dflt,Int.toNat_natCast] at hzz);exact hzz)):q:=h a
def zJ(h:p:=by(exact JW.Auto (by conv=>lhs;reduce))):p:=h
end Go.Proofs.YtjjkdjbbkagclaaGreatDoor
namespace Ox.Gl
def NB(P:Nat→Nat→Bool)(n:Nat):Prop:=∀ S:Nat→Prop,(∃ c,S c)→(∀ c,S c→c<n)→∃ c,S c∧∀ a,S a→P a c=false
def onB(P:Nat→Nat→Bool)(n:Nat):Nat→Nat→Bool
 |0,j=>decide (j<n)
 |k+1,j=>decide (j<n)&&(List.range n).any fun i=>onB P n k i&&P i j
def NB_of_on(h:∀ i,i<n→onB P n n i=false):NB P n:=by
 intro S h1 h2;refine yx4 fun hc=>?_;have h3:∀ c,S c→∃ a,S a∧P a c=true:=fun c hS=>yx4 fun hn=>hc ⟨c,hS,fun a ha=>by
  cases hp:P a c
  ·rfl
  ·exact absurd ⟨a,ha,hp⟩ hn⟩
 have h4:∀ k c,S c→onB P n k c=true:=by
  intro k;induction k with
  |zero=>intro c hS;simp[onB,h2 c hS]
  |succ k ih=>intro c hS;obtain⟨a,ha,hp⟩:=h3 c hS;simp only[onB,h2 c hS,decide_true,Bool.true_and,List.any_eq_true,yxc,yyb];exact⟨a,h2 a ha,ih a ha,hp⟩
 obtain⟨c,hS⟩:=h1;have:=h c (h2 c hS);rw[h4 n c hS] at this;cases this
def freeM(bf:Nat→Nat)(left:Nat):Nat→Nat
 |0=>0
 |m+1=>if left &&& 2 ^ m≠0∧bf m &&& left=0 then freeM bf left m ||| 2 ^ m else freeM bf left m
def z86:(x &&& 2 ^ m≠0)↔x.testBit m=true:=by
 constructor
 ·intro h;cases hb:x.testBit m
  ·refine absurd (Nat.eq_of_testBit_eq fun i=>?_) h;rw[yxj,Nat.testBit_two_pow,Nat.zero_testBit];by_cases he:m=i
   ·subst he;simp[hb]
   ·simp[he]
  ·rfl
 ·intro h hz;have h2:(x &&& 2 ^ m).testBit m=true:=by rw[yxj,Nat.testBit_two_pow,h];simp
  rw[hz] at h2;simp at h2
def q4c(bf:Nat→Nat)(left:Nat):∀ m c,(freeM bf left m).testBit c=(decide (c<m)&&left.testBit c&&(bf c &&& left==0))
 |0,c=>by simp[freeM]
 |m+1,c=>by
  unfold freeM;by_cases h:left &&& 2 ^ m≠0∧bf m &&& left=0
  ·rw[if_pos h,Nat.testBit_or,q4c bf left m,Nat.testBit_two_pow];by_cases he:m=c
   ·subst he;simp[z86.1 h.1,h.2]
   ·by_cases hl:c<m
    ·simp[he,hl,Nat.lt_succ_of_lt hl]
    ·simp[he,hl,show ¬ c<m+1 by omega]
  ·rw[if_neg h,q4c bf left m];by_cases he:c=m
   ·subst he;have:¬ (left.testBit c=true∧bf c &&& left=0):=fun k=>h ⟨z86.2 k.1,k.2⟩;cases h1:left.testBit c
    ·simp
    ·have h2:(bf c &&& left==0)=false:=by simp only[beq_eq_false_iff_ne];exact fun e=>this ⟨h1,e⟩
     simp[h2]
   ·by_cases hl:c<m
    ·simp[hl,Nat.lt_succ_of_lt hl]
    ·simp[hl,show ¬ c<m+1 by omega]
def z4y(h:x≠0):∃ c,x.testBit c=true:=Nat.exists_testBit_of_ne_zero h
def bit_lt(h:x<2 ^ n)(hb:x.testBit c=true):c<n:=by refine Nat.lt_of_not_le fun hc=>?_;rw[Nat.testBit_lt_two_pow (yxa h (yxy (by decide) hc))] at hb;cases hb
def free_ne{n left:Nat}(hn:NB P n)(hb:∀ c a,c<n→(bf c).testBit a=P a c)(h0:left≠0)(hl:left<2 ^ n):freeM bf left n≠0:=by
 obtain⟨c,h1,h2⟩:=hn (fun c=>left.testBit c=true) (z4y h0) fun c h=>bit_lt hl h;have hc:=bit_lt hl h1;have h3:bf c &&& left=0:=Nat.eq_of_testBit_eq fun a=>by
  rw[yxj,hb c a hc,Nat.zero_testBit];cases ha:left.testBit a
  ·simp
  ·simp[h2 a ha]
 intro hz;have h4:=q4c bf left n c;rw[hz] at h4;simp[hc,h1,h3] at h4
def free_sub(bf:Nat→Nat)(left n:Nat):left &&& freeM bf left n=freeM bf left n:=Nat.eq_of_testBit_eq fun c=>by rw[yxj,q4c];cases left.testBit c<;>simp
def xor_lt{a b:Nat}(hs:a &&& b=b)(hb:b≠0):a ^^^ (a &&& b)<a:=by
 have h1:a ^^^ b≤a:=Nat.le_of_testBit fun c h=>by
  rw[Nat.testBit_xor] at h;have:(a &&& b).testBit c=b.testBit c:=by rw[hs]
  rw[yxj] at this;cases ha:a.testBit c<;>simp_all
 rw[hs];refine Nat.lt_of_le_of_ne h1 fun he=>hb ?_;have h2:a ^^^ (a ^^^ b)=a ^^^ a:=by rw[he]
 rw[← Nat.xor_assoc,Nat.xor_self,Nat.zero_xor] at h2;exact h2
def peel_lt{n left:Nat}(hn:NB P n)(hb:∀ c a,c<n→(bf c).testBit a=P a c)(h0:left≠0)(hl:left<2 ^ n) :
  left ^^^ (left &&& freeM bf left n)<left:=xor_lt (free_sub bf left n) (free_ne hn hb h0 hl)
def z5n{lo hi least most drag n p:Int}(hd:0<drag)(h0:0≤p)(hn:p<n) :
  (max 0 (-((most-hi) / drag))≤p∧p≤min (n-1) ((lo-least) / drag))↔(least≤lo-p*drag∧hi-p*drag≤most):=by
 have e1:p≤(lo-least) / drag↔p*drag≤lo-least:=Int.le_ediv_iff_mul_le hd;have e2:-p≤(most-hi) / drag↔-p*drag≤most-hi:=Int.le_ediv_iff_mul_le hd;have e3:-p*drag=-(p*drag):=Int.neg_mul ..;constructor
 ·intro⟨h1,h2⟩;have:=e1.1 (by omega);have:=e2.1 (by omega);omega
 ·intro⟨h1,h2⟩;have:=e1.2 (by omega);have:=e2.2 (by omega);omega
def ruleP(bf:Nat→Nat):Nat→List Nat→Bool
 |_,[]=>true
 |lies,c::r=>(bf c ^^^ (bf c &&& lies)==0)&&ruleP bf (lies ||| 2 ^ c) r
def sub_bits{x y:Nat}:(x ^^^ (x &&& y)==0)=true↔∀ a,x.testBit a=true→y.testBit a=true:=by
 rw[beq_iff_eq];constructor
 ·intro h a ha;have:(x ^^^ (x &&& y)).testBit a=false:=by rw[h];simp
  rw[Nat.testBit_xor,yxj,ha] at this;cases hy:y.testBit a
  ·rw[hy] at this;simp at this
  ·rfl
 ·intro h;refine Nat.eq_of_testBit_eq fun a=>?_;rw[Nat.testBit_xor,yxj,Nat.zero_testBit];cases hx:x.testBit a
  ·simp
  ·simp[h a hx]
def q90{P:Nat→Nat→Bool}{n:Nat}{bf:Nat→Nat}(hb:∀ c a,c<n→(bf c).testBit a=P a c)(hp:∀ a c,P a c=true→a<n)(hi:∀ a,P a a=false) :
  ∀ (rest pre:List Nat) (lies:Nat),(pre++rest).Nodup→(∀ a,a∈pre++rest↔a<n)→(∀ a,lies.testBit a=decide (a∈pre)) →
  (ruleP bf lies rest=true↔rest.Pairwise fun x y=>P y x=false)
 |[],_,_,_,_,_=>by simp[ruleP]
 |c::r,pre,lies,h1,h2,h3=>by
  have hc:c<n:=(h2 c).1 (by simp);have h1':(pre++[c]++r).Nodup:=by simpa using h1
  have ih:=q90 hb hp hi r (pre++[c]) (lies ||| 2 ^ c) h1' (by simpa using h2) (fun a=>by
   rw[Nat.testBit_or,h3,Nat.testBit_two_pow];by_cases e:a=c
   ·simp[e]
   ·simp[e,show ¬ c=a from fun h=>e h.symm])
  unfold ruleP;rw[yyb,sub_bits,ih,List.pairwise_cons];refine and_congr ⟨fun h a ha=>?_,fun h a ha=>?_⟩ Iff.rfl
  ·cases hpa:P a c
   ·rfl
   ·have h4:=h a (by rw[hb c a hc];exact hpa);rw[h3] at h4;have h5:a∈pre:=of_decide_eq_true h4;exact absurd rfl ((List.nodup_append.1 h1).2.2 a h5 a (yyi _ ha))
  ·rw[hb c a hc] at ha;rw[h3];refine decide_eq_true ?_;have h4:=(h2 a).2 (hp a c ha);rcases yxd.1 h4 with h5|h5
   ·exact h5
   ·rcases yyn.1 h5 with h6|h6
    ·subst h6;rw[hi] at ha;cases ha
    ·rw[h a h6] at ha;cases ha
def swp[Inhabited α](l:List α)(i k:Nat):List α:=(l.set i (l.getD k default)).set k (l.getD i default)
def q8k{α:Type}{x:α}:∀ {l:List α} {i:Nat} (h:i<l.length),(l[i]::l.set i x).Perm (x::l)
 |a::r,0,_=>by simpa using List.Perm.swap x a r
 |a::r,i+1,h=>by have ih:=q8k (x:=x) (l:=r) (i:=i) (Nat.lt_of_succ_lt_succ h);simp only[List.getElem_cons_succ,List.set_cons_succ];exact(List.Perm.swap _ _ _).trans ((ih.cons a).trans (List.Perm.swap _ _ _))
def z2u[Inhabited α]{l:List α}{i k:Nat}(hi:i<l.length)(hk:k<l.length):(swp l i k).Perm l:=by
 unfold swp;have e1:l.getD k default=l[k]:=by simp[List.getD,hk]
 have e2:l.getD i default=l[i]:=by simp[List.getD,hi]
 rw[e1,e2];have p1:=q8k (x:=l[k]) hi;have hk':k<(l.set i l[k]).length:=by simpa using hk
 have p2:=q8k (l:=l.set i l[k]) (x:=l[i]) hk';have e3:(l.set i l[k])[k]=l[k]:=by rw[List.getElem_set];split<;>rfl
 rw[e3] at p2;exact(List.perm_cons _).1 (p2.trans p1)
def q6h[Inhabited α](l:List α)(i k:Nat):(swp l i k).length=l.length:=by simp[swp]
def shufF(by_:List Int)(n:Nat):Nat→List Int→List Int
 |0,l=>l
 |m+1,l=>let q:=shufF by_ n m l;swp q m ((by_.getD (m % by_.length) 0).toNat % n)
def q6l(u:List Int)(n:Nat):∀ (m:Nat) (l:List Int),(shufF u n m l).length=l.length
 |0,l=>rfl
 |m+1,l=>by simp only[shufF,q6h];exact q6l u n m l
def q7r(u:List Int){n:Nat}:∀ (m:Nat) (l:List Int),m≤n→l.length=n→(shufF u n m l).Perm l
 |0,l,_,_=>List.Perm.refl _
 |m+1,l,h,hl=>by
  have ih:=q7r u m l (by omega) hl;have hq:(shufF u n m l).length=n:=by rw[q6l,hl]
  exact(z2u (by omega) (by rw[hq];exact Nat.mod_lt _ (by omega))).trans ih
def sumI:List Int→Int:=fun l=>l.foldr (·+·) 0
def q1x(x:Int)(l:List Int):sumI (x::l)=x+sumI l:=rfl
def z2v:∀ (a b:List Int),sumI (a++b)=sumI a+sumI b
 |[],b=>by simp[sumI]
 |x::a,b=>by rw[List.cons_append,q1x,q1x,z2v a b];omega
def z5m{a b:List Int}(h:a.Perm b):sumI a=sumI b:=by
 induction h with
 |nil=>rfl
 |cons x _ ih=>rw[q1x,q1x,ih]
 |swap x y l=>simp only[q1x];omega
 |trans _ _ i1 i2=>exact i1.trans i2
def z8z:∀ {n:Nat} {l:List Int},l.Perm ((List.range n).map Int.ofNat)→l.Pairwise (·≤·)→l=(List.range n).map Int.ofNat:=by
 intro n l hp hs;have hr:((List.range n).map Int.ofNat).Pairwise (·≤·):=by rw[List.pairwise_map];exact List.pairwise_lt_range.imp fun h=>by show Int.ofNat _≤Int.ofNat _;simp only[Int.ofNat_eq_natCast];omega
 exact hp.eq_of_pairwise (fun a b _ _ h1 h2=>Int.le_antisymm h1 h2) hs hr
def okc(P:Nat→Nat→Bool)(n:Nat)(q:List Nat)(c:Nat):Bool:=!(q.contains c)&&(List.range n).all fun a=>!(P a c)||q.contains a
def okc_iff{q:List Nat}:okc P n q c=true↔c∉q∧∀ a,a<n→P a c=true→a∈q:=by
 unfold okc;rw[yyb,yyt,yyx];refine and_congr (by rw[← Bool.not_eq_true,List.contains_iff_mem]) ⟨fun h a ha hp=>?_,fun h a ha=>?_⟩
 ·have:=h a (yxc.2 ha);rw[hp] at this;simpa using this
 ·cases hp:P a c
  ·rfl
  ·simpa using h a (yxc.1 ha) hp
section
variable {P P':Nat→Nat→Bool}{n:Nat}{f:Nat→Nat}
end
end Ox.Gl
namespace Ox
open Go Go.RowKit
variable {X:Ctx}{s:S}{M:Mem}{ρ:Env}{a:Act}{w w':World}{QA:Exit→S→Prop}{all l:List Oper}{o:Oper}
structure FnRow(P:Program)(f:FuncId)(args:AV)(eid:TypeId)(e:Ty)(xs:List e.den):Prop where
 call:∀ az w,(callFunc f az).run P w=.ok (.enter f az) w
 run:∀ M ρ w vs,MemIn M w→args.rvs M ρ vs→args.bd 0→Calls P f vs.toArray w fun en w'=>∃ v cs M',en=Ending.returned v∧w'.ownsRow w.heap.size eid e.size v xs.length cs∧RL M' e xs cs∧Below w.heap.size w w'∧M.le M'∧MemIn M' w'∧(∀ b,b<w.heap.size→M' b=M b)∧∀ b,v.ownBlock=some b→M' b=none
def rowQ(fn:Func)(eid:TypeId)(e:Ty)(xs:List e.den)(ex:Exit)(s:S):Prop:=(ex=.ret∨ex=.normal)∧∃ d m,fn.results.toList=[.tmp d]∧lk s.L d=some (.lf (.osl m))∧lk s.H m=some (.sl eid e xs)
variable{c:Code}{args v v':AV}
def FnRow.intro{P:Program}{T:List (Nat×Ty)}{ET:List (Nat×Nat)}{MT:List (Nat×(Nat×Nat))}{f:FuncId}{eid:TypeId}{e:Ty}{xs:List e.den}(hf:P.funcs[f]?=some fn)(hb:fn.body=some c)
  (hcall:∀ az w,(callFunc f az).run P w=.ok (.enter f az) w) (hn:argN args≤fn.ntmps) (h:∀ E M0 up,JC ⟨P,T,ET,MT,E,M0,fn.ntmps,none,up,0⟩ c (rowQ fn eid e xs) ⟨argL args 0,[],0⟩):FnRow P f args eid e xs:=by
 refine⟨hcall,fun M ρ w vs hM hvs hbd=>(callsIn_wide (n:=0)).1 (callsIn_of_wp_marks hf hb trivial ?_ rfl)⟩
 let up0:Nat→Nat→Value:=fun _ _=>Go.undef
 have hsat:SAT ⟨P,T,ET,MT,w,M,fn.ntmps,none,up0,0⟩ M ρ ⟨argL args 0,[],0⟩ w:=⟨Below.refl _ _,fun _ _ h=>h,fun _ _=>rfl,hM,fun l o h=>by simp[lk] at h,fun l l' o o' b h=>by simp[lk] at h,fun l o b h=>by simp[lk] at h⟩
 have hreg:REG ⟨P,T,ET,MT,w,M,fn.ntmps,none,up0,0⟩ M ρ ⟨argL args 0,[],0⟩ {tmps:=vs.toArray++Array.replicate (fn.ntmps-vs.toArray.size) Go.undef,defers:=[]}:=REG.args hvs hbd rfl hn;refine wpIn_mono (h w M up0 M ρ _ w hsat hreg) ?_;rintro ex a1 w1 ⟨M2,ρ1,s1,k1',k2',hex,d,m,hr1,hr2,hr3⟩;obtain⟨Ds,hds,hnd,hDs,_⟩:=k2'.defers;have fin:LeavesInM Fence.wide 0 P fn a1.tmps (fun en w'=>∃ v cs M',en=Ending.returned v∧w'.ownsRow w.heap.size eid e.size v xs.length cs∧RL M' e xs cs∧Below w.heap.size w w'∧M.le M'∧MemIn M' w'∧(∀ b,b<w.heap.size→M' b=M b)∧∀ b,v.ownBlock=some b→M' b=none) a1.defers .returning w1:=by
  rw[hds];refine q1w hnd (fun D hD=>k1'.mem _ _ (hDs D hD).2) fun w' hbel hkeep=>?_;obtain⟨hle,k1⟩:=k1'.taken (fun D hD=>by
   show M D=none;cases hMD:M D with
   |none=>rfl
   |some o=>have h1:=(yyh.1 (hM D o hMD)).1;have h2:w.heap.size≤D:=(hDs D hD).1;omega) hDs hbel hkeep
  have hown:=(k1.own m _ hr3).2.2;simp only[HO.ok] at hown;obtain⟨_,cs,hrow,hrl⟩:=hown;have hv:=(k2'.reg d _ hr2).2;rw[y7] at hv;simp only[Leaf.at,yya] at hv;refine⟨ρ1.sv m,?_,ρ1.sv m,cs,M2.without Ds,rfl,hrow,hrl,k1.below,fun b c ty fz hm=>k1.msub b _ hm,k1.mem,fun b hlt=>k1.mnew b hlt,fun b hb=>k1.notM m _ b hr3 hb⟩;have hrs:(fn.results.toList.mapM (resOne a1.tmps)).run P w'=.ok [ρ1.sv m] w':=by rw[hr1];simp only[List.mapM_cons,List.mapM_nil,resOne,yye,yyf,yyc,hv.1]
  have:=q1j hrs;simpa using this
 rcases hex with rfl|rfl
 ·exact fin
 ·exact fin
def z47{f:FuncId}{eid:TypeId}{e:Ty}{xs:List e.den}(hg:o.guard=none)(h:callA X.T o.op ⟨s.L,[],s.nx⟩=some (cs,f,args))(hf:FnRow X.P f args eid e xs)(hd:dstOk X.n o.dst)(hc:allP cs)
  (k:JL X true all QA l (putS o.dst (.lf (.osl s.nx)) ⟨s.L,(s.nx,.sl eid e xs)::s.H,s.nx+1⟩)):JL X true all QA (o::l) s:=by
 intro M ρ a w h1 h2;have h1':SAT X M ρ ⟨s.L,[],s.nx⟩ w:=⟨h1.below,h1.msub,h1.mnew,h1.mem,fun l o h=>by simp[lk] at h,fun l l' o o' b h=>by simp[lk] at h,fun l o b h=>by simp[lk] at h⟩;have h2':REG X M ρ ⟨s.L,[],s.nx⟩ a:=⟨h2.size,h2.defers,h2.reg⟩;obtain⟨hb,vs,hvs,hrun⟩:=o0 h1' (Mx:=M) ⟨Mem.le_refl M,fun l o b h=>by simp[lk] at h⟩ h2' h hc;refine j6 (v4 hg) (u9 (q0x h) (by rw[hrun,hf.call]) (hf.run M ρ w vs h1.mem hvs hb) ?_);rintro en w' ⟨v,cs',M',rfl,hrow,hrl,hbl,hm,hin,hnew,hno⟩;have h3:=h1.ext hbl hm hin hnew;have hv1:v.oneCell'=true:=by rcases hrow.2 with⟨e1,_⟩|⟨g,cap,cur,e1,_⟩<;>rw[e1]<;>rfl
 have hge:∀ b,v.ownBlock=some b→w.heap.size≤b:=fun b hb=>by
  rcases hrow.2 with⟨e1,_⟩|⟨g,cap,cur,e1,e2,_⟩
  ·rw[e1] at hb;cases hb
  ·rw[e1] at hb;simp only[Value.ownBlock,yya] at hb;subst hb;exact e2
 have h5:SAT X M' (ρ.with s.nx 0 e v) ⟨s.L,(s.nx,.sl eid e xs)::s.H,s.nx+1⟩ w':=by
  refine h3.add (row:=none) ⟨rfl,rfl,rfl,yyo _,fun _ _ _=>rfl⟩ (fun b hb=>by cases hb) (fun l o hl=>⟨hl,fun b _ e=>by cases e⟩) (j8 _ _ _ _ _) trivial ?_ ?_
  ·simp only[HO.ok,Env.with,if_true];refine⟨trivial,cs',⟨hrow.1,?_⟩,hrl⟩;rcases hrow.2 with e1|⟨g,cap,cur,e1,e2,e3⟩
   ·exact .inl e1
   ·exact .inr ⟨g,cap,cur,e1,Nat.le_trans h1.below.size e2,e3⟩
  ·intro b hbb;simp only[HO.at,Env.with,if_true] at hbb;refine⟨hno b hbb,fun l o1 hl hat=>?_⟩;have:=(u6 (h1.own l o1 hl).2.2 hat).2;have:=hge b hbb;omega
 have h4:REG X M' (ρ.with s.nx 0 e v) ⟨s.L,(s.nx,.sl eid e xs)::s.H,s.nx+1⟩ a:=h2.grow hm (j8 _ _ _ _ _) (yy4 _) fun D hD=>by rw[hnew D (yyh.1 (h1.mem _ _ hD)).1];exact hD
 refine⟨_,rfl,k M' _ _ w' (j0 h5) (h4.putO hd.spec (yy6 _) ?_)⟩;rw[y7];exact⟨by simp[Leaf.at,Env.with],hv1⟩
variable{r:List Fr}
def z49{L:List (Nat×AV)}{H:List (Nat×HO)}{nx d:Nat}{op:Op}{ty:TypeId}{ps:String}{af:Array Edge}{f:FuncId}{eid:TypeId}{e:Ty}{xs:List e.den}(h:callA X.T op ⟨L,[],nx⟩=some (cs,f,args))(hf:FnRow X.P f args eid e xs)(hd:ltB d X.n=true)(hc:allP cs)
  (k:JK X (.ops true all l::r) QA ⟨(d,.lf (.osl nx))::L,(nx,.sl eid e xs)::H,nx+1⟩):JK X (.ops true all (⟨some d,op,ty,ps,af,none⟩::l)::r) QA ⟨L,H,nx⟩:=z47 (s:=⟨L,H,nx⟩) rfl h hf (y8 hd) hc k
variable {md:Bool}
variable {L:List (Nat×AV)}{H:List (Nat×HO)}{nx m lo hi:Nat}{t:TypeId}{e:Ty}{eid:TypeId}{xs:List e.den}{c1:List Prop}{x:Operand}{ty:TypeId}{ps:String}{af:Array Edge}{f:Bool}
variable {d:Nat}
def ghP(n:Nat):AV→List Bool→Option AV
 |.lf .nils,[]=>some (.lf (.osl n))
 |.mix a b,false::p=>(ghP n a p).map fun x=>.mix x b
 |.mix a b,true::p=>(ghP n b p).map fun x=>.mix a x
 |_,_=>none
def z7w:∀ {v:AV} {p:List Bool} {v':AV},ghP n v p=some v'→v.bd n→v'.bd (n+1)∧(∀ t,confB t v=true→confB t v'=true)∧∀ cs,v.rc M ρ cs→v'.rc M (ρ.nilAt n e) cs:=by
 intro v p v' h hb
 fun_induction ghP n v p generalizing v' with
 |case1=>
  injection h with h;subst h
  refine⟨yy6 _,fun t ht=>?_,fun cs hc=>?_⟩
  ·cases t<;>first|rfl|(simp[confB] at ht;done)
  ·simp only[AV.rc,Leaf.at] at hc ⊢;obtain⟨v,h1,h2,h3⟩:=hc;exact⟨v,by rw[← h1];simp[Env.nilAt],h2,h3⟩
 |case2 a b p ih=>
  simp only[yyk] at h;obtain⟨a',ha,rfl⟩:=h;obtain⟨e1,e2,e3⟩:=ih ha hb.1;refine⟨⟨e1,j3 (yy4 _) hb.2⟩,fun t ht=>?_,fun cs hc=>?_⟩
  ·cases t with
   |cons ta tb=>simp only[confB,yyb] at ht ⊢;exact⟨e2 _ ht.1,ht.2⟩
   |arr m e=>
    cases m with
    |zero=>simp[confB] at ht
    |succ m=>simp only[confB,yyb] at ht ⊢;exact⟨e2 _ ht.1,ht.2⟩
   |_=>simp[confB] at ht
  ·simp only[AV.rc] at hc ⊢;obtain⟨c1,c2,k1,k2,k3⟩:=hc;exact⟨c1,c2,e3 _ k1,y9 (Mem.le_refl M) (q0m ρ n e) hb.2 k2,k3⟩
 |case3 a b p ih=>
  simp only[yyk] at h;obtain⟨b',hb',rfl⟩:=h;obtain⟨e1,e2,e3⟩:=ih hb' hb.2;refine⟨⟨j3 (yy4 _) hb.1,e1⟩,fun t ht=>?_,fun cs hc=>?_⟩
  ·cases t with
   |cons ta tb=>simp only[confB,yyb] at ht ⊢;exact⟨ht.1,e2 _ ht.2⟩
   |arr m e=>
    cases m with
    |zero=>simp[confB] at ht
    |succ m=>simp only[confB,yyb] at ht ⊢;exact⟨ht.1,e2 _ ht.2⟩
   |_=>simp[confB] at ht
  ·simp only[AV.rc] at hc ⊢;obtain⟨c1,c2,k1,k2,k3⟩:=hc;exact⟨c1,c2,y9 (Mem.le_refl M) (q0m ρ n e) hb.1 k1,e3 _ k2,k3⟩
 |case4=>cases h
def z99(m:Nat)(p:List Bool)(eid:TypeId)(e:Ty){t:Ty}(hm:lk s.H m=some (.cell t v))(hv:ghP s.nx v p=some v')
  (k:JC X c QA ⟨s.L,updH ((s.nx,.sl eid e [])::s.H) m (.cell t v'),s.nx+1⟩):JC X c QA s:=fun M ρ a w h1 h2=>by
 have g1:=h1.ghost eid e;have hr:=q0m ρ s.nx e;have g2:REG X M (ρ.nilAt s.nx e) ⟨s.L,updH ((s.nx,.sl eid e [])::s.H) m (.cell t v'),s.nx+1⟩ a:=by have:=h2.grow (H':=updH ((s.nx,.sl eid e [])::s.H) m (.cell t v')) (nx':=s.nx+1) (Mem.le_refl M) hr (yy4 _) (x8 M);exact this
 obtain⟨o1,o2,o3⟩:=h1.own m _ hm;have hm':lk ((s.nx,HO.sl eid e [])::s.H) m=some (.cell t v):=by simp only[lk];rw[if_neg (by omega)];exact hm
 obtain⟨q1,q2,q3⟩:=g1.own m _ hm';obtain⟨b1,b2,b3⟩:=z7w (M:=M) (ρ:=ρ) (e:=e) hv o2;refine k M _ a w (g1.upd hm' (q0v w _) rfl b1 ?_) g2;simp only[HO.ok] at q3 o3 ⊢;obtain⟨r1,r2,r3,c,ty,r4,r5⟩:=q3;obtain⟨u1,u2,u3,c',ty',u4,u5⟩:=o3;refine⟨r1,b2 t r2,r3,c,ty,r4,?_⟩;have:w.heap[ρ.blk m]?=some (.cells c ty (0,0)):=by simpa[Env.nilAt] using r4
 rw[this] at u4;injection u4 with u4;injection u4 with u4 u4';subst u4
 exact b3 _ u5
def z9w(m:Nat)(p:List Bool)(eid:TypeId)(e:Ty){t:Ty}(hm:lk s.H m=some (.cell t v))(hv:ghP s.nx v p=some v')
  (k:JK X (.code c::r) QA ⟨s.L,updH ((s.nx,.sl eid e [])::s.H) m (.cell t v'),s.nx+1⟩):JK X (.code c::r) QA s:=z99 m p eid e hm hv k
def toV:(t:Ty)→AV→Option t.den
 |t,.val t' x=>if h:t'=t then some (h▸x) else none
 |.cons a b,.mix x y=>(toV a x).bind fun u=>(toV b y).map fun v=>(u,v)
 |.arr (n+1) e,.mix x y=>(toV e x).bind fun u=>(toV (.arr n e) y).map fun v=>(u::v:List e.den)
 |.slice _,.lf .nils=>some []
 |_,_=>none
def toV_rc:∀ {v:AV} {t:Ty} {x:t.den} {cs:List Value},toV t v=some x→v.rc M ρ cs→Rep M t x cs:=by
 intro v;induction v with
 |val t' y=>
  intro t x cs h hr;simp only[toV] at h;split at h
  ·rename_i e;subst e;injection h with h;subst h;simpa only[AV.rc] using hr
  ·cases h
 |mix a b iha ihb=>
  intro t x cs h hr;simp only[AV.rc] at hr;obtain⟨c1,c2,r1,r2,rfl⟩:=hr;cases t with
  |cons ta tb=>simp only[toV,yym,yyk] at h;obtain⟨u,hu,v,hv,rfl⟩:=h;simp only[Rep];exact⟨c1,c2,rfl,iha hu r1,ihb hv r2⟩
  |arr n e=>
   cases n with
   |zero=>simp[toV] at h
   |succ n=>simp only[toV,yym,yyk] at h;obtain⟨u,hu,v,hv,rfl⟩:=h;have e1:=iha hu r1;have e2:=ihb hv r2;rw[q1k] at e2 ⊢;obtain⟨f1,f2⟩:=e2;exact⟨by simp[f1],RL.append (l:=[u]) (m:=v) (q4r e1) f2⟩
  |_=>simp[toV] at h
 |lf y=>
  intro t x cs h hr;cases t<;>cases y<;>simp only[toV,reduceCtorEq,yya] at h
  subst h;simp only[AV.rc,Leaf.at] at hr;obtain⟨v,h1,_,rfl⟩:=hr;injection h1 with h1;subst h1
  exact w9 M (.slice _)
 |fn f a c _ _=>intro t x cs h hr;cases t<;>simp[toV] at h
 |_=>intro t x cs h hr;simp only[AV.rc] at hr
def JC.cellV(m:Nat){t:Ty}{x:t.den}(hm:lk s.H m=some (.cell t v))(hv:toV t v=some x)(k:JC X c QA ⟨s.L,updH s.H m (.cell t (.val t x)),s.nx⟩):JC X c QA s:=fun M ρ a w h1 h2=>by obtain⟨o1,o2,o3⟩:=h1.own m _ hm;refine k M ρ a w (h1.upd hm (q0v w _) rfl trivial ?_) ⟨h2.size,h2.defers,h2.reg⟩;simp only[HO.ok] at o3 ⊢;obtain⟨r1,r2,r3,c,ty,r4,r5⟩:=o3;exact⟨r1,by simp[confB],r3,c,ty,r4,by simp only[AV.rc];exact toV_rc hv r5⟩
def z39(m:Nat){t:Ty}{x:t.den}(hm:lk s.H m=some (.cell t v))(hv:toV t v=some x)(k:JK X (.code c::r) QA ⟨s.L,updH s.H m (.cell t (.val t x)),s.nx⟩):JK X (.code c::r) QA s:=JC.cellV m hm hv k
end Ox
namespace Ox.St
def lnS(s:Int):Nat:=s.natAbs-1
variable (X:Nat→Nat→Bool)
def ext(s:Int)(k:Nat):List Int:=if k=lnS s then [s] else if X (lnS s) k then [0] else []
def layR(R:Nat→List Int)(s:Int):Nat→List Int:=fun k=>
 if k≠lnS s∧X (lnS s) k=false then R k
 else if (R (lnS s)).getLast?=some (-s) then(R k).dropLast
 else if k=lnS s then R k++[s] else R k++[0]
def bld:List Int→Nat→List Int
 |[],_=>[]
 |t::r,k=>bld r k++ext X t k
variable {X:Nat→Nat→Bool}(hs:∀ i j,X i j=X j i)
def z19(s:Int):ext X s (lnS s)=[s]:=by simp[ext]
def q6s(s:Int):lnS (-s)=lnS s:=by simp[lnS]
def lay_no(h:(R (lnS s)).getLast?≠some (-s)):layR X R s=fun k=>R k++ext X s k:=by
 funext k;unfold layR ext;by_cases h1:k=lnS s
 ·rw[if_neg (by simp[h1]),if_neg h,if_pos h1,if_pos h1]
 ·cases h2:X (lnS s) k
  ·simp[h1]
  ·simp[h1,h]
def lay_of{R R':Nat→List Int}(h:∀ k,R k=R' k++ext X (-s) k):layR X R s=R':=by
 funext k;have hl:(R (lnS s)).getLast?=some (-s):=by rw[h,← q6s s,z19];simp
 unfold layR;by_cases h1:k=lnS s
 ·rw[if_neg (by simp[h1]),if_pos hl,h,h1,← q6s s,z19];simp
 ·cases h2:X (lnS s) k
  ·simp[h1,h,ext,q6s,h2]
  ·simp only[h1,ne_eq,not_false_eq_true,true_and,Bool.true_eq_false,if_false,hl,if_true];rw[h];simp[ext,q6s,h1,h2]
def Adj:List Int→Prop
 |x::y::r=>¬ (x≠0∧y=-x)∧Adj (y::r)
 |_=>True
def Adj.app:∀ {r:List Int} {y:Int},Adj r→(∀ x,r.getLast?=some x→¬ (x≠0∧y=-x))→Adj (r++[y])
 |[],_,_,_=>trivial
 |[x],y,_,h=>⟨h x rfl,trivial⟩
 |x::z::r,y,h,k=>⟨h.1,Adj.app (r:=z::r) h.2 fun w hw=>k w (by rw[List.getLast?_cons_cons];exact hw)⟩
def Adj.left:∀ {r q:List Int},Adj (r++q)→Adj r
 |[],_,_=>trivial
 |[x],_,_=>trivial
 |x::z::r,q,h=>⟨h.1,Adj.left (r:=z::r) (q:=q) h.2⟩
def Adj.last:∀ {r:List Int} {x y:Int},Adj (r++[y])→r.getLast?=some x→¬ (x≠0∧y=-x)
 |[],_,_,_,h=>by cases h
 |[z],x,y,h,hx=>by simp at hx;subst hx;exact h.1
 |z::w::r,x,y,h,hx=>Adj.last (r:=w::r) h.2 (by rw[List.getLast?_cons_cons] at hx;exact hx)
structure Pile(X:Nat→Nat→Bool)(rv:List Int)(R:Nat→List Int):Prop where
 eq:R=bld X rv
 nz:∀ t∈rv,t≠0
 adj:∀ k,Adj (R k)
def Pile.nil:Pile X [] (fun _=>[]):=⟨by funext k;rfl,fun _ h=>absurd h yxg,fun _=>trivial⟩
def z3w(hs:∀ i j,X i j=X j i){s:Int}(hs0:s≠0):∀ {rv:List Int},(∀ t∈rv,t≠0)→(bld X rv (lnS s)).getLast?=some (-s) →
  ∃ r1 r2,rv=r1++-s::r2∧(∀ t∈r1,lnS t≠lnS s∧X (lnS t) (lnS s)=false)∧∀ k,bld X rv k=bld X (r1++r2) k++ext X (-s) k
 |[],_,h=>by simp[bld] at h
 |t::r,hn,h=>by
  simp only[bld] at h;by_cases h1:lnS s=lnS t
  ·have:ext X t (lnS s)=[t]:=by simp[ext,h1]
   rw[this] at h;simp at h;subst h;exact⟨[],r,rfl,fun _ h=>absurd h yxg,fun k=>rfl⟩
  ·cases h2:X (lnS t) (lnS s)
   ·have:ext X t (lnS s)=[]:=by simp[ext,h1,h2]
    rw[this,yxw] at h;obtain⟨r1,r2,e1,e2,e3⟩:=z3w hs hs0 (fun x hx=>hn x (yyi _ hx)) h;refine⟨t::r1,r2,by rw[e1];rfl,fun x hx=>?_,fun k=>?_⟩
    ·rcases yyn.1 hx with rfl|hx
     ·exact⟨fun e=>h1 e.symm,h2⟩
     ·exact e2 x hx
    ·show bld X r k++ext X t k=(bld X (r1++r2) k++ext X t k)++ext X (-s) k;rw[e3 k,yxo,yxo];congr 1;unfold ext;rw[q6s];by_cases k1:k=lnS s
     ·rw[if_pos k1,k1,if_neg h1,h2];simp
     ·rw[if_neg k1];by_cases k2:k=lnS t
      ·rw[if_pos k2,k2,hs (lnS s) (lnS t),h2];simp
      ·rw[if_neg k2];cases X (lnS s) k<;>cases X (lnS t) k<;>rfl
   ·have:ext X t (lnS s)=[0]:=by simp[ext,h1,h2]
    rw[this] at h;simp at h;omega
def Pile.undo(hs:∀ i j,X i j=X j i)(h:Pile X rv R)(hs0:s≠0)(hu:(R (lnS s)).getLast?=some (-s)) :
  ∃ r1 r2,rv=r1++-s::r2∧(∀ t∈r1,lnS t≠lnS s∧X (lnS t) (lnS s)=false)∧Pile X (r1++r2) (layR X R s)∧∀ k,R k=layR X R s k++ext X (-s) k:=by
 obtain⟨r1,r2,e1,e2,e3⟩:=z3w hs hs0 h.nz (by rw[← h.eq];exact hu);have e4:∀ k,R k=bld X (r1++r2) k++ext X (-s) k:=fun k=>by rw[h.eq];exact e3 k
 have e5:=lay_of e4;refine⟨r1,r2,e1,e2,⟨e5,fun t ht=>h.nz t ?_,fun k=>?_⟩,fun k=>by rw[e5];exact e4 k⟩
 ·rw[e1];rcases yxd.1 ht with ht|ht
  ·exact yxz _ ht
  ·exact List.mem_append_right _ (yyi _ ht)
 ·rw[e5];have:=h.adj k;rw[e4 k] at this;exact this.left
def Pile.put(h:Pile X rv R)(hs0:s≠0)(hu:(R (lnS s)).getLast?≠some (-s)) :
  Pile X (s::rv) (layR X R s)∧∀ k,layR X R s k=R k++ext X s k:=by
 have e:=lay_no (X:=X) hu;refine⟨⟨?_,fun t ht=>?_,fun k=>?_⟩,fun k=>by rw[e]⟩
 ·rw[e,h.eq];rfl
 ·rcases yyn.1 ht with rfl|ht
  ·exact hs0
  ·exact h.nz t ht
 ·rw[e];show Adj (R k++ext X s k);have hk:=h.adj k;unfold ext;split
  ·rename_i h1;refine hk.app fun x hx ⟨_,hy⟩=>hu ?_;rw[← h1,hx,hy,Int.neg_neg]
  ·split
   ·exact hk.app fun x hx ⟨h1,hy⟩=>by omega
   ·rw[yxw];exact hk
def layL(R:Nat→List Int)(u:List Int):Nat→List Int:=u.foldl (layR X) R
def Pile.lay(hs:∀ i j,X i j=X j i)(h:Pile X rv R)(hs0:s≠0):∃ rv',Pile X rv' (layR X R s)∧rv'.length≤rv.length+1∧∀ t∈rv',t=s∨t∈rv:=by
 by_cases hu:(R (lnS s)).getLast?=some (-s)
 ·obtain⟨r1,r2,e1,_,e2,_⟩:=h.undo hs hs0 hu;refine⟨_,e2,by rw[e1];simp;omega,fun t ht=>.inr ?_⟩;rw[e1];rcases yxd.1 ht with ht|ht
  ·exact yxz _ ht
  ·exact List.mem_append_right _ (yyi _ ht)
 ·exact⟨_,(h.put hs0 hu).1,by simp,fun t ht=>yyn.1 ht⟩
def Pile.layL(hs:∀ i j,X i j=X j i):∀ {u rv:List Int} {R:Nat→List Int},Pile X rv R→(∀ s∈u,s≠0)→∃ rv',Pile X rv' (Ox.St.layL (X:=X) R u)∧rv'.length≤rv.length+u.length∧∀ t∈rv',t∈u∨t∈rv
 |[],rv,R,h,_=>⟨rv,h,by simp,fun t ht=>.inr ht⟩
 |s::u,rv,R,h,hn=>by
  obtain⟨rv1,h1,h2,h4⟩:=h.lay hs (hn s yyj);obtain⟨rv2,h3,h5,h6⟩:=Pile.layL hs (u:=u) h1 fun x hx=>hn x (yyi _ hx);refine⟨rv2,h3,by rw[List.length_cons];omega,fun t ht=>?_⟩;rcases h6 t ht with h|h
  ·exact .inl (yyi _ h)
  ·rcases h4 t h with h|h
   ·exact .inl (h▸yyj)
   ·exact .inr h
def Eqv(X:Nat→Nat→Bool)(u v:List Int):Prop:=∀ rv R,Pile X rv R→layL (X:=X) R u=layL (X:=X) R v
def Nz(u:List Int):Prop:=∀ s∈u,s≠0
def q56(R:Nat→List Int)(u v:List Int):layL (X:=X) R (u++v)=layL (X:=X) (layL (X:=X) R u) v:=List.foldl_append ..
def Eqv.trans{u v w:List Int}(h:Eqv X u v)(k:Eqv X v w):Eqv X u w:=fun rv R p=>(h rv R p).trans (k rv R p)
def Eqv.symm{u v:List Int}(h:Eqv X u v):Eqv X v u:=fun rv R p=>(h rv R p).symm
def Eqv.app(hs:∀ i j,X i j=X j i){u v:List Int}(h:Eqv X u v){x:List Int}(hx:Nz x)(y:List Int):Eqv X (x++u++y) (x++v++y):=fun rv R p=>by obtain⟨rv',p',_⟩:=p.layL hs hx;rw[q56,q56,q56,q56,h _ _ p']
def z8u(a b:List Int)(k:Nat):bld X (a++b) k=bld X b k++bld X a k:=by
 induction a with
 |nil=>simp[bld]
 |cons t a ih=>rw[List.cons_append];simp only[bld];rw[ih,yxo]
variable{k:Nat}
def z3y{y:Int}(h:y∈bld X rv k)(hy:y≠0):lnS y=k∧y∈rv:=by
 induction rv with
 |nil=>simp[bld] at h
 |cons t r ih=>
  simp only[bld,yxd] at h;rcases h with h|h
  ·exact⟨(ih h).1,yyi _ (ih h).2⟩
  ·unfold ext at h;split at h
   ·rename_i e;rw[yyv.1 h];exact⟨e.symm,yyj⟩
   ·split at h
    ·exact absurd (yyv.1 h) hy
    ·simp at h
def bld_off(h:bld X rv k=[]):∀ t∈rv,lnS t≠k∧X (lnS t) k=false:=by
 induction rv with
 |nil=>exact fun _ h=>absurd h yxg
 |cons t r ih=>
  simp only[bld,List.append_eq_nil_iff] at h;intro x hx;rcases yyn.1 hx with rfl|hx
  ·have h2:=h.2;unfold ext at h2;by_cases e:k=lnS x
   ·rw[if_pos e] at h2;simp at h2
   ·rw[if_neg e] at h2;refine⟨fun q=>e q.symm,?_⟩;cases hX:X (lnS x) k
    ·rfl
    ·rw[hX] at h2;simp at h2
  ·exact ih h.1 x hx
def q7m:∀ {l:List Int},(∀ y∈l,y=0)→l++[0]=0::l
 |[],_=>rfl
 |x::r,h=>by rw[h x yyj,List.cons_append,q7m fun y hy=>h y (yyi _ hy)]
def z0t(hs:∀ i j,X i j=X j i){s:Int}(hs0:s≠0):∀ {rv:List Int},(∀ t∈rv,t≠0)→(bld X rv (lnS s)).head?=some s →
  ∃ r1 r2,rv=r1++s::r2∧(∀ t∈r2,lnS t≠lnS s∧X (lnS t) (lnS s)=false)∧∀ k,bld X rv k=ext X s k++bld X (r1++r2) k
 |[],_,h=>by simp[bld] at h
 |t::r,hn,h=>by
  by_cases hr:bld X r (lnS s)=[]
  ·simp only[bld,hr,List.nil_append] at h;unfold ext at h;split at h
   ·simp at h;subst h;have ho:=bld_off hr;refine⟨[],r,rfl,ho,fun k=>?_⟩;simp only[bld,List.nil_append];unfold ext;by_cases h1:k=lnS t
    ·rw[if_pos h1,h1,hr];rfl
    ·rw[if_neg h1];cases h2:X (lnS t) k
     ·simp
     ·simp only[if_true];exact q7m fun y hy=>yx4 fun hy0=>by obtain⟨q1,q2⟩:=z3y hy hy0;have q3:=(ho y q2).2;rw[q1,hs,h2] at q3;cases q3
   ·split at h
    ·simp at h;omega
    ·simp at h
  ·have h':(bld X r (lnS s)).head?=some s:=by
    simp only[bld] at h;cases hb:bld X r (lnS s) with
    |nil=>exact absurd hb hr
    |cons x y=>rw[hb] at h;simpa using h
   obtain⟨r1,r2,e1,e2,e3⟩:=z0t hs hs0 (fun x hx=>hn x (yyi _ hx)) h';refine⟨t::r1,r2,by rw[e1];rfl,e2,fun k=>?_⟩;simp only[bld,List.cons_append];rw[e3 k,yxo]
def takeR(X:Nat→Nat→Bool)(R:Nat→List Int)(s:Int):Nat→List Int:=fun k=>if k=lnS s∨X (lnS s) k=true then(R k).drop 1 else R k
def Adj.tail{x:Int}{r:List Int}(h:Adj (x::r)):Adj r:=by
 cases r with
 |nil=>trivial
 |cons y r=>exact h.2
def Pile.take(hs:∀ i j,X i j=X j i)(h:Pile X rv R)(hs0:s≠0)(hf:(R (lnS s)).head?=some s) :
  ∃ r1 r2,rv=r1++s::r2∧(∀ t∈r2,lnS t≠lnS s∧X (lnS t) (lnS s)=false)∧Pile X (r1++r2) (takeR X R s)∧∀ k,R k=ext X s k++takeR X R s k:=by
 obtain⟨r1,r2,e1,e2,e3⟩:=z0t hs hs0 h.nz (by rw[← h.eq];exact hf);have e4:∀ k,R k=ext X s k++bld X (r1++r2) k:=fun k=>by rw[h.eq];exact e3 k
 have e5:takeR X R s=bld X (r1++r2):=by
  funext k;unfold takeR;by_cases h1:k=lnS s
  ·rw[if_pos (.inl h1),e4 k];simp[ext,h1]
  ·cases h2:X (lnS s) k
   ·rw[if_neg (by simp[h1]),e4 k];simp[ext,h1,h2]
   ·rw[if_pos (.inr rfl),e4 k];simp[ext,h1,h2]
 refine⟨r1,r2,e1,e2,⟨e5,fun t ht=>h.nz t ?_,fun k=>?_⟩,fun k=>by rw[e5];exact e4 k⟩
 ·rw[e1];rcases yxd.1 ht with ht|ht
  ·exact yxz _ ht
  ·exact List.mem_append_right _ (yyi _ ht)
 ·rw[e5];have:=h.adj k;rw[e4 k] at this;unfold ext at this;split at this
  ·exact this.tail
  ·split at this
   ·exact this.tail
   ·exact this
def frontK(r:List Int):List Int:=match r with
 |s::_=>if s=0 then [] else [s]
 |[]=>[]
def frontsN(R:Nat→List Int):Nat→List Int
 |0=>[]
 |n+1=>frontsN R n++frontK (R n)
def frontsR(R:Nat→List Int):List Int:=frontsN R 8
def q6z{R:Nat→List Int}{s:Int}:∀ {n:Nat},s∈frontsN R n↔∃ k,k<n∧s≠0∧(R k).head?=some s
 |0=>by simp[frontsN]
 |n+1=>by
  simp only[frontsN,yxd,q6z (n:=n)];constructor
  ·rintro(⟨k,h1,h2⟩|h)
   ·exact⟨k,by omega,h2⟩
   ·refine⟨n,yy6 n,?_⟩;unfold frontK at h;split at h
    ·rename_i x y e;split at h
     ·simp at h
     ·rename_i h0;rw[yyv.1 h];exact⟨h0,by rw[e];rfl⟩
    ·simp at h
  ·rintro⟨k,h1,h2,h3⟩;rcases Nat.lt_or_ge k n with h|h
   ·exact .inl ⟨k,h,h2,h3⟩
   ·obtain rfl:k=n:=by omega
    right;cases hR:R k with
    |nil=>rw[hR] at h3;simp at h3
    |cons x y=>rw[hR] at h3;simp at h3;subst h3;simp[frontK,h2]
def Pile.none(h:Pile X rv R)(hb:∀ t∈rv,lnS t<8)(hf:frontsR R=[]):rv=[]:=by
 rcases List.eq_nil_or_concat rv with h0|⟨r,t,h0⟩
 ·exact h0
 ·exfalso;have h0:rv=r++[t]:=by simpa using h0
  have ht:t∈rv:=by rw[h0];simp
  have h1:R (lnS t)=t::bld X r (lnS t):=by rw[h.eq,h0,z8u];simp[bld,ext]
  have:t∈frontsR R:=q6z.2 ⟨lnS t,hb t ht,h.nz t ht,by rw[h1];rfl⟩;rw[hf] at this;simp at this
end Ox.St
namespace Ox.Gl
open Ox.St
def stk(c:Nat):Int:=(c:Int)+1
def q0c(c:Nat):lnS (stk c)=c:=by unfold lnS stk;omega
def stk_of{t:Int}(h:0<t):t=stk (lnS t):=by unfold lnS stk;omega
variable {P:Nat→Nat→Bool}{n:Nat}
def crsP(P:Nat→Nat→Bool):Nat→Nat→Bool:=fun i j=>P i j||P j i
def z3s(i j:Nat):crsP P i j=crsP P j i:=by unfold crsP;rw[Bool.or_comm]
structure PQ(P:Nat→Nat→Bool)(n:Nat)(q:List Nat)(rv:List Int)(R:Nat→List Int):Prop where
 pile:Pile (crsP P) rv R
 pos:∀ t∈rv,0<t∧lnS t<n
 ne:rv.Pairwise fun x y=>lnS x≠lnS y
 lin:rv.Pairwise fun x y=>P (lnS x) (lnS y)=false
 mem:∀ c,c<n→(stk c∈rv↔c∉q)
def z3x{X:Nat→Nat→Bool}{k:Nat}:∀ {r:List Int},(∀ t∈r,lnS t≠k∧X (lnS t) k=false)→bld X r k=[]
 |[],_=>rfl
 |t::r,h=>by have h1:=h t yyj;simp only[bld,z3x fun y hy=>h y (yyi _ hy),List.nil_append,ext];rw[if_neg (fun e=>h1.1 e.symm),h1.2];rfl
def head_of{X:Nat→Nat→Bool}{r1 r2:List Int}(h:Pile X (r1++s::r2) R)(h2:∀ t∈r2,lnS t≠lnS s∧X (lnS t) (lnS s)=false):(R (lnS s)).head?=some s:=by rw[h.eq,z8u];simp only[bld,z3x h2,List.nil_append,z19];rfl
variable{q:List Nat}
def PQ.front_iff(hi:∀ a,P a a=false)(h:PQ P n q rv R)(hc:c<n) :
  (R c).head?=some (stk c)↔okc P n q c=true:=by
 rw[okc_iff];constructor
 ·intro hf;have hf':(R (lnS (stk c))).head?=some (stk c):=by rw[q0c];exact hf
  obtain⟨r1,r2,e1,e2,-,-⟩:=h.pile.take z3s (by unfold stk;omega) hf';have hm:stk c∈rv:=by rw[e1];simp
  refine⟨(h.mem c hc).1 hm,fun a ha hp=>yx4 fun hq=>?_⟩;have ha':=(h.mem a ha).2 hq;rw[e1] at ha';rcases yxd.1 ha' with h1|h1
  ·have hl:=h.lin;rw[e1,List.pairwise_append] at hl;have:=hl.2.2 _ h1 _ yyj;rw[q0c,q0c,hp] at this;cases this
  ·rcases yyn.1 h1 with h1|h1
   ·have:a=c:=by unfold stk at h1;omega
    subst this;rw[hi] at hp;cases hp
   ·have:=(e2 _ h1).2;rw[q0c,q0c] at this;unfold crsP at this;rw[hp] at this;simp at this
 ·intro⟨h1,h2⟩;have hm:=(h.mem c hc).2 h1;obtain⟨r1,r2,e⟩:=List.append_of_mem hm;have hp:=h.pile;have hne:=h.ne;have hl:=h.lin;rw[e] at hp hne hl;rw[List.pairwise_append] at hne hl;have:=head_of hp (fun t ht=>by
   have k1:=(List.pairwise_cons.1 hne.2.1).1 t ht;have k2:=(List.pairwise_cons.1 hl.2.1).1 t ht;have ht':t∈rv:=by rw[e];simp[ht]
   obtain⟨p1,p2⟩:=h.pos t ht';refine⟨fun e=>k1 e.symm,?_⟩;unfold crsP;rw[k2,Bool.or_false];cases hpt:P (lnS t) (lnS (stk c))
   ·rfl
   ·rw[q0c] at hpt;have:=h2 _ p2 hpt;exact absurd this ((h.mem _ p2).1 (by rw[← stk_of p1];exact ht')))
  rw[q0c] at this;exact this
def PQ.row(hi:∀ a,P a a=false)(h:PQ P n q rv R)(c:Nat) :
  frontK (R c)=if c<n∧okc P n q c=true then [stk c] else []:=by
 split
 ·rename_i k;have:=(h.front_iff hi k.1).2 k.2;cases hR:R c with
  |nil=>rw[hR] at this;cases this
  |cons x r=>rw[hR] at this;simp at this;subst this;simp[frontK,show stk c≠0 by unfold stk;omega]
 ·rename_i k;cases hR:R c with
  |nil=>rfl
  |cons x r=>
   by_cases h0:x=0
   ·simp[frontK,h0]
   ·exfalso;have hk:x∈bld (crsP P) rv c:=by rw[← h.pile.eq,hR];simp
    obtain⟨e1,e2⟩:=z3y hk h0;obtain⟨p1,p2⟩:=h.pos x e2;have e3:=stk_of p1;rw[e1] at e3 p2;exact k ⟨p2,(h.front_iff hi p2).1 (by rw[hR,e3];rfl)⟩
def z44(hi:∀ a,P a a=false){q:List Nat}{rv:List Int}{R:Nat→List Int}(h:PQ P n q rv R):∀ m,frontsN R m=((List.range m).filter fun c=>decide (c<n∧okc P n q c=true)).map stk
 |0=>rfl
 |m+1=>by
  rw[St.frontsN,z44 hi h m,h.row hi,List.range_succ,List.filter_append,yxv];congr 1;by_cases k:m<n∧okc P n q m=true
  ·simp[k]
  ·rw[if_neg k,List.filter_cons_of_neg (by simpa using k)];rfl
def PQ.take(hi:∀ a,P a a=false){q:List Nat}{rv:List Int}{R:Nat→List Int}(h:PQ P n q rv R){c:Nat}(hc:c<n)(ho:okc P n q c=true) :
  ∃ rv',PQ P n (q++[c]) rv' (takeR (crsP P) R (stk c)):=by
 have hf:=(h.front_iff hi hc).2 ho;have hf':(R (lnS (stk c))).head?=some (stk c):=by rw[q0c];exact hf
 obtain⟨r1,r2,e1,e2,e3,-⟩:=h.pile.take z3s (by unfold stk;omega) hf';have hsub:(r1++r2).Sublist rv:=by rw[e1];exact List.Sublist.append_left (List.sublist_cons_self _ _) _
 refine⟨r1++r2,e3,fun t ht=>h.pos t (hsub.subset ht),h.ne.sublist hsub,h.lin.sublist hsub,fun a ha=>?_⟩;have hne:=h.ne;rw[e1,List.pairwise_append] at hne;have hx:∀ t,t∈r1++r2↔t∈rv∧lnS t≠c:=by
  intro t;rw[e1];constructor
  ·intro ht;refine⟨?_,?_⟩
   ·rcases yxd.1 ht with k|k<;>simp[k]
   ·rcases yxd.1 ht with k|k
    ·have:=hne.2.2 t k _ yyj;rw[q0c] at this;exact this
    ·have:=(List.pairwise_cons.1 hne.2.1).1 t k;rw[q0c] at this;exact fun e=>this e.symm
  ·intro⟨ht,k⟩;rcases yxd.1 ht with j|j
   ·simp[j]
   ·rcases yyn.1 j with j|j
    ·subst j;rw[q0c] at k;exact absurd rfl k
    ·simp[j]
 rw[hx,h.mem a ha,q0c];simp
end Ox.Gl
namespace Ox.Gl
variable {P:Nat→Nat→Bool}{n:Nat}
structure Sch(P:Nat→Nat→Bool)(n:Nat)(p:Nat→Int):Prop where
 inj:∀ a c,a<n→c<n→p a=p c→a=c
 lt:∀ a c,a<n→c<n→P a c=true→p a+1≤p c
def Bnd(n:Nat)(p L U:Nat→Int):Prop:=∀ c,c<n→L c≤p c∧p c≤U c
def Bnd.step{p L U:Nat→Int}(h:Sch P n p)(hb:Bnd n p L U)(ha:a<n)(hc:c<n)(hp:P a c=true) :
  Bnd n p (fun x=>if x=c then max (L c) (L a+1) else L x) (fun x=>if x=a then min (U a) (U c-1) else U x):=fun x hx=>by
 have h1:=h.lt a c ha hc hp;have h2:=hb a ha;have h3:=hb c hc;have h4:=hb x hx;constructor
 ·show(if x=c then _ else _)≤_;split
  ·rename_i e;subst e;omega
  ·exact h4.1
 ·show _≤(if x=a then _ else _);split
  ·rename_i e;subst e;omega
  ·exact h4.2
variable {β:Type}(a0 a1:β→Nat)
def prB(B:List β)(a c:Nat):Bool:=B.any fun p=>decide (a0 p=a∧a1 p=c)
variable {a0 a1}
def prB_iff{B:List β}:prB a0 a1 B a c=true↔∃ p∈B,a0 p=a∧a1 p=c:=by unfold prB;rw[List.any_eq_true];simp
def get_set{x:Int}(hi:i<l.length):(l.set i x).getD a 0=if a=i then x else l.getD a 0:=by
 simp only[yyp,List.getElem?_set];by_cases h:i=a
 ·subst h;simp[hi]
 ·rw[if_neg h,if_neg fun e=>h e.symm]
def bitsQ(q:List Nat):Nat:=q.foldl (fun x c=>x ||| 2 ^ c) 0
def q74(q:List Nat)(c:Nat):bitsQ (q++[c])=bitsQ q ||| 2 ^ c:=by simp[bitsQ]
def z0u:∀ (q:List Nat) (x a:Nat),(q.foldl (fun x c=>x ||| 2 ^ c) x).testBit a=(x.testBit a||decide (a∈q))
 |[],x,a=>by simp
 |c::q,x,a=>by
  rw[List.foldl_cons,z0u q,Nat.testBit_or,Nat.testBit_two_pow,Bool.or_assoc];congr 1;by_cases h:c=a
  ·subst h;simp
  ·by_cases h2:a∈q
   ·simp[h2]
   ·simp[h,h2,show ¬ a=c from fun e=>h e.symm]
def z8w(q:List Nat)(a:Nat):(bitsQ q).testBit a=decide (a∈q):=by unfold bitsQ;rw[z0u];simp
def bitsQ_lt{q:List Nat}(h:∀ c∈q,c<n):bitsQ q<2 ^ n:=by refine Nat.lt_pow_two_of_testBit _ fun i hi=>?_;rw[z8w];refine decide_eq_false fun hm=>?_;have:=h i hm;omega
def okx(P:Nat→Nat→Bool)(n x c:Nat):Bool:=!(x.testBit c)&&(List.range n).all fun a=>!(P a c)||x.testBit a
def kb(P:Nat→Nat→Bool)(n:Nat):Nat→List Nat
 |0=>[0]
 |m+1=>(kb P n m).flatMap fun x=>((List.range n).filter (okx P n x)).map fun c=>x ||| 2 ^ c
end Ox.Gl
namespace Ox.Gl
open Ox.St
variable {P:Nat→Nat→Bool}{n:Nat}
def pick(u:List Int)(m:Nat)(cs:List Nat):Nat:=cs.getD (if 0<u.length then(u.getD (m % u.length) 0).toNat % cs.length else 0) 0
end Ox.Gl
namespace Ox.Gl
variable (P:Nat→Nat→Bool)(n:Nat)
def onL(k:Nat):List Int:=(List.range n).map fun j=>if onB P n k j=true then 1 else 0
def innB(on:Nat→Bool)(i m j:Nat):Bool:=(List.range i).any (fun x=>on x&&P x j)||(decide (j<m)&&(on i&&P i j))
def innL(on:Nat→Bool)(i m:Nat):List Int:=(List.range n).map fun j=>if innB P on i m j=true then 1 else 0
variable {P n}
def z3j:(innL P n on i m).length=n:=by simp[innL]
variable{k:Nat}
def z6q:(onL P n k).length=n:=by simp[onL]
def z6r(h:j<n):(onL P n k).getD j 0=if onB P n k j=true then 1 else 0:=by simp[onL,List.getD,h]
def z7r:innL P n on 0 0=List.replicate n 0:=by refine List.ext_getElem (by simp[innL]) fun i h1 h2=>?_;simp[innL,innB]
def innL_yes(h:on i=true∧P i m=true):(innL P n on i m).set m 1=innL P n on i (m+1):=by
 refine List.ext_getElem (by simp[innL]) fun j h1 h2=>?_;simp[innL] at h1;rw[List.getElem_set];by_cases e:m=j
 ·subst e;rw[if_pos rfl];simp[innL,innB,h.1,h.2]
 ·rw[if_neg e];have:decide (j<m+1)=decide (j<m):=by rw[decide_eq_decide];omega
  simp only[innL,innB,List.getElem_map,List.getElem_range,this]
def innL_no(h:¬ (on i=true∧P i m=true)):innL P n on i (m+1)=innL P n on i m:=by
 refine List.map_congr_left fun j _=>?_;unfold innB;by_cases e:j=m
 ·subst e;have:(on i&&P i j)=false:=by rw[Bool.eq_false_iff];intro k;rw[yyb] at k;exact h k
  rw[this];simp
 ·have:decide (j<m+1)=decide (j<m):=by rw[decide_eq_decide];omega
  rw[this]
def innL_row:innL P n on i n=innL P n on (i+1) 0:=by refine List.map_congr_left fun j hj=>?_;have:=yxc.1 hj;unfold innB;rw[List.range_succ,List.any_append];simp[this]
def innL_all:innL P n (onB P n k) n 0=onL P n (k+1):=by refine List.map_congr_left fun j hj=>?_;have:=yxc.1 hj;simp[innB,onB,this]
abbrev RgD:=Int×Int×Unit
def loR(R:List RgD)(i:Nat):Int:=(R.getD i (0,0,())).1
def hiR(R:List RgD)(i:Nat):Int:=(R.getD i (0,0,())).2.1
def rg_set{R:List RgD}{v:RgD}(hc:c<R.length):(R.set c v).getD x (0,0,())=if x=c then v else R.getD x (0,0,()):=by
 simp only[yyp,List.getElem?_set];by_cases h:c=x
 ·subst h;simp[hc]
 ·rw[if_neg h,if_neg fun e=>h e.symm]
variable {P:Nat→Nat→Bool}{n:Nat}
abbrev CoD:=RgD×Int×Int×Unit
def sLo(c:CoD):Int:=c.1.1
def sHi(c:CoD):Int:=c.1.2.1
def cLs(c:CoD):Int:=c.2.1
def cMs(c:CoD):Int:=c.2.2.1
def z0(p:List Int):Int:=p.getD 0 0
def z1(p:List Int):Int:=p.getD 1 0
def q0(p:List Int):Nat:=(z0 p).toNat
def q1(p:List Int):Nat:=(z1 p).toNat
def coZ:CoD:=((0,0,()),0,0,())
def pG(ps:List (List Int)):Nat→Nat→Bool:=prB q0 q1 ps
def okCo(c:CoD):Prop:=(0≤sLo c∧sLo c≤sHi c∧sHi c≤1000)∧0≤cLs c∧cLs c≤cMs c∧cMs c≤1000
def okPr(n:Nat)(p:List Int):Prop:=(0≤z0 p∧z0 p<n)∧(0≤z1 p∧z1 p<n)∧z0 p≠z1 p
structure VG(d:Int)(cs:List CoD)(ps:List (List Int)):Prop where
 n1:1≤cs.length
 n10:cs.length≤10
 p40:ps.length≤40
 d1:1≤d
 d100:d≤100
 co:∀ c∈cs,okCo c
 pr:∀ p∈ps,okPr cs.length p
 nd:ps.Nodup
 nb:NB (pG ps) cs.length
variable {d:Int}{cs:List CoD}{ps:List (List Int)}
def z27:pG ps a c=true↔∃ p∈ps,q0 p=a∧q1 p=c:=prB_iff
def VG.lt(h:VG d cs ps)(hp:pG ps a c=true):a<cs.length∧c<cs.length∧a≠c:=by obtain⟨p,h1,h2,h3⟩:=z27.1 hp;obtain⟨⟨k1,k2⟩,⟨k3,k4⟩,k5⟩:=h.pr p h1;unfold q0 at h2;unfold q1 at h3;omega
def VG.irr(h:VG d cs ps)(a:Nat):pG ps a a=false:=by
 cases hp:pG ps a a
 ·rfl
 ·exact absurd rfl (h.lt hp).2.2
def befS(L:List Int)(p:List Int):List Int:=L.set (q1 p) (((L.getD (q1 p) 0).toNat ||| (1*2 ^ (z0 p).toNat:Int).toNat:Nat):Int)
def befL(ps:List (List Int)):List Int:=ps.foldl befS (List.replicate 10 0)
def bfN(ps:List (List Int))(c:Nat):Nat:=ps.foldl (fun x p=>if q1 p=c then x ||| 2 ^ q0 p else x) 0
def z1t(m:Nat):(1*2 ^ m:Int).toNat=2 ^ m:=by
 rw[Int.one_mul];have:((2:Int) ^ m)=((2 ^ m:Nat):Int):=by rw[Int.natCast_pow];rfl
 rw[this,Int.toNat_natCast]
def z3z(L:List Int)(p:List Int):(befS L p).length=L.length:=by simp[befS]
def q4k(c:Nat):∀ (ps:List (List Int)) (L:List Int) (x:Nat),(∀ p∈ps,q1 p<L.length)→L.getD c 0=(x:Int)→(ps.foldl befS L).length=L.length ∧
  (ps.foldl befS L).getD c 0=((ps.foldl (fun x p=>if q1 p=c then x ||| 2 ^ q0 p else x) x:Nat):Int)
 |[],L,x,_,h=>⟨rfl,h⟩
 |p::ps,L,x,hp,h=>by
  have h1:=hp p yyj;have hv:(befS L p).getD c 0=((if q1 p=c then x ||| 2 ^ q0 p else x:Nat):Int):=by
   unfold befS;rw[get_set h1];by_cases e:q1 p=c
   ·subst e;rw[if_pos rfl,if_pos rfl,z1t,h,Int.toNat_natCast];rfl
   ·rw[if_neg fun k=>e k.symm,if_neg e,h]
  obtain⟨k1,k2⟩:=q4k c ps (befS L p) _ (fun q hq=>by rw[z3z];exact hp q (yyi _ hq)) hv;exact⟨by rw[List.foldl_cons,k1,z3z],by rw[List.foldl_cons,List.foldl_cons,k2]⟩
def bf_bit(c a:Nat):∀ (ps:List (List Int)) (x:Nat),(ps.foldl (fun x p=>if q1 p=c then x ||| 2 ^ q0 p else x) x).testBit a=(x.testBit a||pG ps a c)
 |[],x=>by simp[pG,prB]
 |p::ps,x=>by
  rw[List.foldl_cons,bf_bit c a ps];have e:pG (p::ps) a c=(decide (q0 p=a∧q1 p=c)||pG ps a c):=rfl;rw[e];by_cases h:q1 p=c
  ·rw[if_pos h,Nat.testBit_or,Nat.testBit_two_pow,Bool.or_assoc];simp[h]
  ·rw[if_neg h];simp[h]
def q9b(ps:List (List Int))(c a:Nat):(bfN ps c).testBit a=pG ps a c:=by unfold bfN;rw[bf_bit];simp
def z59(h:n≤10):2 ^ n≤1024:=yxy (by decide) h
def z52(n c:Nat):(List.replicate n (0:Int)).getD c 0=((0:Nat):Int):=by rw[yyp,List.getElem?_replicate];split<;>rfl
def VG.bef_len(h:VG d cs ps):(befL ps).length=10:=(q4k 0 ps (List.replicate 10 0) 0 (fun p hp=>by have:=(h.pr p hp).2.1;have:=h.n10;unfold q1;simp;omega) (by simp)).1
def VG.bef(h:VG d cs ps)(c:Nat):(befL ps).getD c 0=(bfN ps c:Int):=(q4k c ps (List.replicate 10 0) 0 (fun p hp=>by have:=(h.pr p hp).2.1;have:=h.n10;unfold q1;simp;omega) (z52 10 c)).2
def VG.bf_lt(h:VG d cs ps)(c:Nat):bfN ps c<2 ^ cs.length:=Nat.lt_pow_two_of_testBit _ fun i hi=>by
 rw[q9b];cases hp:pG ps i c
 ·rfl
 ·have:=(h.lt hp).1;omega
def VG.bf_1024(h:VG d cs ps)(c:Nat):bfN ps c<1024:=yxa (h.bf_lt c) (z59 h.n10)
def bef_snoc(ps:List (List Int))(h:i<ps.length){z:List Int}(hz:ps.getD i z=ps[i]):befL (ps.take (i+1))=befS (befL (ps.take i)) (ps.getD i z):=by unfold befL;rw[yx1 h,List.foldl_append,hz];rfl
def z0v(h:VG d cs ps)(i:Nat):(befL (ps.take i)).length=10:=(q4k 0 (ps.take i) (List.replicate 10 0) 0 (fun p hp=>by have:=(h.pr p (List.mem_of_mem_take hp)).2.1;have:=h.n10;unfold q1;simp;omega) (by simp)).1
def z2g(h:VG d cs ps)(i c:Nat):0≤(befL (ps.take i)).getD c 0∧(befL (ps.take i)).getD c 0<1024:=by
 have e:=(q4k c (ps.take i) (List.replicate 10 0) 0 (fun p hp=>by have:=(h.pr p (List.mem_of_mem_take hp)).2.1;have:=h.n10;unfold q1;simp;omega) (z52 10 c)).2
 have e2:(befL (ps.take i)).getD c 0=(bfN (ps.take i) c:Int):=e;have h3:bfN (ps.take i) c<1024:=yxa (Nat.lt_pow_two_of_testBit (n:=cs.length) _ fun j hj=>by
  rw[q9b];cases hp:pG (ps.take i) j c
  ·rfl
  ·obtain⟨p,k1,k2,_⟩:=z27.1 hp;have:=(h.lt (z27.2 ⟨p,List.mem_of_mem_take k1,k2,rfl⟩)).1;omega) (z59 h.n10)
 omega
def winD(d:Int)(n:Nat)(c:CoD):RgD:=(max 0 (-((cMs c-sHi c) / d)),min ((n:Int)-1) ((sLo c-cLs c) / d),())
def winS(d:Int)(n:Nat)(cs:List CoD):Nat→List RgD
 |0=>List.replicate 10 (0,0,())
 |i+1=>(winS d n cs i).set i (winD d n (cs.getD i coZ))
def winL(d:Int)(cs:List CoD):List RgD:=winS d cs.length cs cs.length
def q5y(n:Nat):∀ i,(winS d n cs i).length=10
 |0=>rfl
 |i+1=>by rw[winS,List.length_set,q5y n i]
def z2s(n:Nat):∀ {i c:Nat},c<i→i≤10→(winS d n cs i).getD c (0,0,())=winD d n (cs.getD c coZ)
 |i+1,c,h1,h2=>by
  rw[winS,rg_set (by rw[q5y];omega)];by_cases e:c=i
  ·subst e;rw[if_pos rfl]
  ·rw[if_neg e,z2s n (by omega) (by omega)]
def VG.win(h:VG d cs ps)(hc:c<cs.length):(winL d cs).getD c (0,0,())=winD d cs.length (cs.getD c coZ):=z2s _ hc h.n10
def sprD(d:Int)(c:CoD)(k:Int):RgD:=(sLo c-k*d,sHi c-k*d,())
def suB(d:Int)(c:CoD)(k:Int):Bool:=decide (cLs c≤sLo c-k*d∧sHi c-k*d≤cMs c)
def VG.suit(h:VG d cs ps)(hc:c<cs.length){k:Int}(h0:0≤k)(hk:k<cs.length) :
  (loR (winL d cs) c≤k∧k≤hiR (winL d cs) c)↔suB d (cs.getD c coZ) k=true:=by
 unfold loR hiR suB;rw[h.win hc,yyq];have:=h.d1;exact z5n (lo:=sLo (cs.getD c coZ)) (hi:=sHi (cs.getD c coZ)) (by omega) h0 hk
def q37(h:VG d cs ps)(hi:i<cs.length):okCo (cs.getD i coZ):=by rw[yyp,yys hi,Option.getD_some];exact h.co _ (yy5 hi)
end Ox.Gl
namespace Go.Proofs.YtjjkdjbbkagclaaGreatDoor
open Go Go.RowKit Ox
attribute [local irreducible] JC JL JK JW
abbrev vI(n:Int):AV:=.val (.int .i64) n
abbrev vB(b:Bool):AV:=.val .bool b
abbrev vL(xs:List Int):AV:=.val (.slice (.int .i64)) xs
abbrev pI(n:Int):AV:=.val (.ptr (.int .i64)) (some n)
abbrev vU(xs:List Int):AV:=.val (.slice (.int .u8)) xs
def j7(xs:List α)(h:i<xs.length)(d:α):xs.getD i d=xs[i]:=by simp[yyp,yys h]
variable{X:Ctx}{c:Code}{Q:Exit→S→Prop}
def cdf{s:S}(hb:fn.body=some c)(k:JK X [.code c] Q s):JK X [.code (fn.body.getD .skip)] Q s:=by rw[hb];exact k
def cdt{s:S}(hb:fn.body=some c)(k:JK X [.code (fn.body.getD .skip)] Q s):JK X [.code c] Q s:=by rw[hb] at k;exact k
def idxB{α:Type}(p:α→Bool):List α→Nat→Int
 |[],_=>-1
 |x::r,i=>if p x then(i:Int) else idxB p r (i+1)
def t9{α:Type}{p:α→Bool}:∀ {xs:List α} {i:Nat},(0≤idxB p xs i)↔xs.any p=true
 |[],i=>by simp[idxB]
 |x::r,i=>by
  simp only[idxB,List.any_cons,yyw];by_cases h:p x=true
  ·simp[h]
  ·rw[if_neg h,t9];simp[h]
def fn197(xs:List Int)(b:Int):Ox.Fn Tryz.prog 197 (.acons (vL xs) (.acons (vI b) .anil)) (·=vI (idxB (fun x=>decide (b=x)) xs 0)):=by
 refine Ox.Fn.intro xok Tryz.func197 rfl Tryz.call197 (yyd rfl) (fun E M0 up=>?_);refine z7 ?_;refine JK.lenOf 0 rfl fun hlen=>?_;replace hlen:xs.length≤9223372036854775807:=hlen.1;refine zK0 ?_;refine JK.loop (fun i:Nat=>⟨[(0,vL xs),(1,vI b),(7,vI xs.length),(8,vI (i:Int))],[],0⟩) (fun i=>i≤xs.length∧idxB (fun x=>decide (b=x)) xs 0=idxB (fun x=>decide (b=x)) (xs.drop i) i) (fun i=>xs.length-i) 0 (by simp) (by exact zJ) fun i ⟨hi,hn⟩=>?_;refine zK0 ?_;refine z5 rfl (fun hc=>?_) (fun hc=>?_)
 ·replace hc:=zC hc;have hi':i<xs.length:=by omega
  refine zK0 ?_;refine z5 rfl (fun hd=>?_) (fun hd=>?_)
  ·replace hd:=zC hd;refine zK0 ?_;refine⟨.inl rfl,_,_,rfl,trivial,?_⟩;rw[j7 xs hi'] at hd;rw[hn,yy3 hi',idxB,if_pos (by simpa using hd)]
  ·replace hd:=zC hd;refine zK0 ?_;rw[j7 xs hi'] at hd;refine⟨i+1,by exact zJ,⟨by omega,?_⟩,by omega⟩;rw[hn,yy3 hi',idxB,if_neg (by simpa using hd)]
 ·replace hc:=zC hc;refine zK0 ?_;refine⟨.inl rfl,_,_,rfl,trivial,?_⟩;obtain rfl:i=xs.length:=by omega
  rw[hn,List.drop_length];rfl
variable{t1 t2:Ty}
def fn137{x1:t1.den}{x2:t2.den}(xs:List Int)(p:Int→Bool)(h:∀ x∈xs,Ox.Fn Tryz.prog f (.acons (vI x) (.acons (.val t1 x1) (.acons (.val t2 x2) .anil))) (·=vB (p x))) :
  Ox.Fn Tryz.prog 137 (.acons (vL xs) (.acons (.fn f .anil (.acons (.val t1 x1) (.acons (.val t2 x2) .anil))) .anil)) (·=vI (idxB p xs 0)):=by
 refine Ox.Fn.intro xok Tryz.func137 rfl Tryz.call137 (yyd rfl) (fun E M0 up=>?_);refine z7 ?_;refine JK.lenOf 0 rfl fun hlen=>?_;replace hlen:xs.length≤9223372036854775807:=hlen.1;refine zK0 ?_;refine JK.loop (fun i:Nat=>⟨[(0,vL xs),(1,.fn f .anil (.acons (.val t1 x1) (.acons (.val t2 x2) .anil))),(7,vI xs.length),(8,vI (i:Int))],[],0⟩) (fun i=>i≤xs.length∧idxB p xs 0=idxB p (xs.drop i) i) (fun i=>xs.length-i) 0 (by simp) (by exact zJ) fun i ⟨hi,hn⟩=>?_;refine zK0 ?_;refine z5 rfl (fun hc=>?_) (fun hc=>?_)
 ·replace hc:=zC hc;have hi':i<xs.length:=by omega
  have hx:=h (xs.getD i 0) (by rw[j7 xs hi'];exact yy5 hi');refine zK8 ?_;refine z5 rfl (fun hd=>?_) (fun hd=>?_)
  ·refine zK0 ?_;refine⟨.inl rfl,_,_,rfl,trivial,?_⟩;rw[j7 xs hi'] at hd;rw[hn,yy3 hi',idxB,if_pos hd]
  ·refine zK0 ?_;rw[j7 xs hi'] at hd;refine⟨i+1,by exact zJ,⟨by omega,?_⟩,by omega⟩;rw[hn,yy3 hi',idxB,if_neg (by rw[hd];simp)]
 ·replace hc:=zC hc;refine zK0 ?_;refine⟨.inl rfl,_,_,rfl,trivial,?_⟩;obtain rfl:i=xs.length:=by omega
  rw[hn,List.drop_length];rfl
def fn77{x1:t1.den}{x2:t2.den}(xs:List Int)(p:Int→Bool)(h:∀ x∈xs,Ox.Fn Tryz.prog f (.acons (vI x) (.acons (.val t1 x1) (.acons (.val t2 x2) .anil))) (·=vB (p x))) :
  Ox.Fn Tryz.prog 77 (.acons (vL xs) (.acons (.fn f .anil (.acons (.val t1 x1) (.acons (.val t2 x2) .anil))) .anil)) (·=vB (xs.any p)):=by
 refine Ox.Fn.intro xok Tryz.func77 rfl Tryz.call77 (yyd rfl) (fun E M0 up=>?_);refine z7 ?_
 (repeat (first|refine zs rfl ?_|refine zg rfl rfl rfl ?_|refine zd ?_|refine k9 ?_|refine k8 ?_|refine zc rfl (fn137 xs p h) rfl rfl ?_|refine ze rfl (fn137 xs p h) rfl ?_|refine zk rfl rfl (fun _=>fn137 xs p h) rfl rfl ?_))
 refine⟨.inl rfl,_,_,rfl,trivial,?_⟩;refine congrArg vB ?_;rw[yy2,← t9 (p:=p) (i:=0)];simp
abbrev prT:Ty:=.arr 2 (.int .i64)
abbrev vPr(p:List Int):AV:=.val prT p
def q5x:EqT Tryz.prog prT 60:=.of (by decide +kernel)
def fn223(x lo hi:Int):Ox.Fn Tryz.prog 223 (.acons (vI x) (.acons (pI lo) (.acons (pI hi) .anil))) (·=vB (decide (x<lo∨x>hi))):=by refine Ox.Fn.intro xok Tryz.func223 rfl Tryz.call223 (yyd rfl) (fun E M0 up=>?_);refine z7 ?_;refine zK1 ?_;refine⟨.inl rfl,_,_,rfl,trivial,?_⟩;by_cases h:x<lo<;>simp[h]
def fn124b{x1:t1.den}{x2:t2.den}(xs:List Int)(p:Int→Bool)(h:∀ x∈xs,Ox.Fn Tryz.prog f (.acons (vI x) (.acons (.val t1 x1) (.acons (.val t2 x2) .anil))) (·=vB (p x))) :
  Ox.Fn Tryz.prog 124 (.acons (vL xs) (.acons (.fn f .anil (.acons (.val t1 x1) (.acons (.val t2 x2) .anil))) .anil)) (·=vI (idxB p xs 0)):=by
 refine Ox.Fn.intro xok Tryz.func124 rfl Tryz.call124 (yyd rfl) (fun E M0 up=>?_);refine z7 ?_;refine JK.lenOf 0 rfl fun hlen=>?_;replace hlen:xs.length≤9223372036854775807:=hlen.1;refine zK1 ?_;refine JK.loop (fun i:Nat=>⟨[(0,vL xs),(1,.fn f .anil (.acons (.val t1 x1) (.acons (.val t2 x2) .anil))),(7,vI xs.length),(8,vI (i:Int))],[],0⟩) (fun i=>i≤xs.length∧idxB p xs 0=idxB p (xs.drop i) i) (fun i=>xs.length-i) 0 (by simp) (by exact zJ) fun i ⟨hi,hn⟩=>?_;refine zK1 ?_;refine z5 rfl (fun hc=>?_) (fun hc=>?_)
 ·replace hc:=zC hc;have hi':i<xs.length:=by omega
  have hx:=h (xs.getD i 0) (by rw[j7 xs hi'];exact yy5 hi')
  (repeat (first|refine zs rfl ?_|refine zg rfl rfl rfl ?_|refine zd ?_|refine k9 ?_|refine k8 ?_|refine zeq q5x rfl rfl rfl ?_|refine q9k q5x rfl rfl rfl rfl ?_|refine q9j q5x rfl rfl rfl rfl ?_|refine zc rfl (hx) rfl rfl ?_|refine ze rfl (hx) rfl ?_|refine zk rfl rfl (fun _=>hx) rfl rfl ?_))
  refine z5 rfl (fun hd=>?_) (fun hd=>?_)
  ·refine zK1 ?_;refine⟨.inl rfl,_,_,rfl,trivial,?_⟩;rw[j7 xs hi'] at hd;rw[hn,yy3 hi',idxB,if_pos hd]
  ·refine zK1 ?_;rw[j7 xs hi'] at hd;refine⟨i+1,by exact zJ,⟨by omega,?_⟩,by omega⟩;rw[hn,yy3 hi',idxB,if_neg (by rw[hd];simp)]
 ·replace hc:=zC hc;refine zK1 ?_;refine⟨.inl rfl,_,_,rfl,trivial,?_⟩;obtain rfl:i=xs.length:=by omega
  rw[hn,List.drop_length];rfl
def fn207(ps:List (List Int))(p:List Int):Ox.Fn Tryz.prog 207 (.acons (.val (.slice prT) ps) (.acons (vPr p) .anil)) (·=vI (idxB (fun q=>prT.eqB p q) ps 0)):=by
 refine Ox.Fn.intro xok Tryz.func207 rfl Tryz.call207 (yyd rfl) (fun E M0 up=>?_);refine z7 ?_;refine JK.lenOf 0 rfl fun hlen=>?_;replace hlen:ps.length≤9223372036854775807:=hlen.1;refine zK1 ?_;refine JK.loop (fun i:Nat=>⟨[(0,.val (.slice prT) ps),(3,.lf (.optr 0 [])),(7,vI ps.length),(8,vI (i:Int))],[(0,.cell prT (vPr p))],1⟩) (fun i=>i≤ps.length∧idxB (fun q=>prT.eqB p q) ps 0=idxB (fun q=>prT.eqB p q) (ps.drop i) i) (fun i=>ps.length-i) 0 (by simp) (by exact zJ) fun i ⟨hi,hn⟩=>?_;refine zK1 ?_;refine z5 rfl (fun hc=>?_) (fun hc=>?_)
 ·replace hc:=zC hc;have hi':i<ps.length:=by omega
  refine zK12 ?_;refine v9 xk (Tryz.f207.body.getD .skip) ⟨[(0,.val (.slice prT) ps),(3,.lf (.optr 0 [])),(5,vI (i:Int)),(7,vI ps.length),(8,vI (i:Int)),(16,vB (prT.eqB p (ps.getD i prT.dflt)))],[(0,.cell prT (vPr p))],1⟩ rfl 6 rfl ?_ ?_
  ·(refine q7 1 xk rfl rfl (q7 2 xk rfl rfl (q7 3 xk rfl rfl (q8 0 xk rfl rfl (q8 4 xk rfl rfl (zU 5 xk rfl rfl ?_)))));refine zK18 ?_;refine q9 ?_;refine w7 xk StF.nil ?_;(exact zJ))
  rw[j7 ps hi'];refine zK1 ?_;refine z5 rfl (fun hd=>?_) (fun hd=>?_)
  ·refine zK1 ?_;refine⟨.inl rfl,_,_,rfl,trivial,?_⟩;rw[hn,yy3 hi',idxB,if_pos hd]
  ·refine zK1 ?_;refine⟨i+1,by exact zJ,⟨by omega,?_⟩,by omega⟩;rw[hn,yy3 hi',idxB,if_neg (by rw[hd];simp)]
 ·replace hc:=zC hc;refine zK1 ?_;refine⟨.inl rfl,_,_,rfl,trivial,?_⟩;obtain rfl:i=ps.length:=by omega
  rw[hn,List.drop_length];rfl
def fn123(ps:List (List Int))(p:List Int):Ox.Fn Tryz.prog 123 (.acons (.val (.slice prT) ps) (.acons (vPr p) .anil)) (·=vB (decide (p∈ps))):=by
 refine Ox.Fn.intro xok Tryz.func123 rfl Tryz.call123 (yyd rfl) (fun E M0 up=>?_);refine z7 ?_
 (repeat (first|refine zs rfl ?_|refine zg rfl rfl rfl ?_|refine zd ?_|refine k9 ?_|refine k8 ?_|refine zeq q5x rfl rfl rfl ?_|refine q9k q5x rfl rfl rfl rfl ?_|refine q9j q5x rfl rfl rfl rfl ?_|refine zc rfl (fn207 ps p) rfl rfl ?_|refine ze rfl (fn207 ps p) rfl ?_|refine zk rfl rfl (fun _=>fn207 ps p) rfl rfl ?_))
 refine⟨.inl rfl,_,_,rfl,trivial,?_⟩;refine congrArg vB ?_;rw[yy2];simp only[yyq];refine(t9 (p:=fun q=>prT.eqB p q) (i:=0)).trans ?_;rw[List.any_eq_true];refine⟨fun⟨x,h1,h2⟩=>?_,fun h=>⟨p,h,v8.2 rfl⟩⟩;rw[v8.1 h2];exact h1
abbrev p0(p:List Int):Int:=p.getD 0 0
abbrev p1(p:List Int):Int:=p.getD 1 0
end Go.Proofs.YtjjkdjbbkagclaaGreatDoor
namespace Ox
open Go Go.RowKit Go.ChangeShapes Go.WideShapes Go.ChangeAt
section
variable {H:Type}{enc:TypeId×Value→H}{P:Program}{w:World}{base:Nat}{spare:Nat→Bool}{held:Bool}
def Ty.argB:Ty→Bool
 |.int _|.bool|.nil=>true
 |.slice e=>e.argB&&decide (0<e.size)
 |.arr _ e=>e.argB
 |.cons a b=>a.argB&&b.argB
 |.ptr _=>false
def q66{b off n:Nat}{spot:Option Nat}{cs:List Value}(h:w.cells? base ⟨b,off,spot⟩ n=some cs)(hn:0<n) :
  spot=none∧∃ c ty fz,w.heap[b]?=some (.cells c ty fz)∧cs=(c.toList.drop off).take n:=by
 unfold World.cells? at h;split at h
 ·have hl:=mapM_some_length h;have hg:=fun i (hi:i<n)=>mapM_some_get h i i (by simp[hi]);have h0:=hg 0 hn;rw[List.length_range] at hl;rw[yys (by omega)] at h0;simp only[Addr.add,if_true,World.cell?] at h0;split at h0
  ·rename_i c ty fz hb;split at h0
   ·cases h0
   ·rename_i hs;have hs:spot=none:=by simpa using hs
    subst hs;refine⟨rfl,c,ty,fz,hb,?_⟩;apply List.ext_getElem?;intro i;rw[yxf];by_cases hi:i<n
    ·rw[if_pos hi,← hg i hi,z9,g6 hb,List.getElem?_drop];simp
    ·rw[if_neg hi,yxn (by omega)]
  ·cases h0
 ·cases h
def Ty.fit:(t:Ty)→t.den→Prop
 |.int k,n=>inK k n
 |.bool,_=>True
 |.slice e,l=>∀ y∈l,e.fit y
 |.ptr _,_=>True
 |.arr _ e,l=>∀ y∈l,e.fit y
 |.nil,_=>True
 |.cons a b,y=>a.fit y.1∧b.fit y.2
def inK_wf{n:Int}(h:(Lit.int k n).wf=true):inK k n:=by simp only[Lit.wf,yyb,yyq] at h;cases k<;>exact h
def RepA(P:Program)(t:Ty):Prop:=∀ {H:Type} {enc:TypeId×Value→H} {w:World} {base:Nat} {spare:Nat→Bool} {held:Bool} (id:TypeId) (fuel:Nat) (cs:List Value) (x:DataW H×List MemPlace),
 TyOf P t id→t.argB=true→DataW.trod enc P w base spare held fuel id cs=some x→∃ y,Rep (fun b=>w.heap[b]?) t y cs∧t.fit y
def RepF(P:Program)(t:Ty):Prop:=∀ {H:Type} {enc:TypeId×Value→H} {w:World} {base:Nat} {spare:Nat→Bool} {held:Bool} (fs:List Field) (off fuel:Nat) (cs:List Value),
 TyOf.fields P t fs off→t.argB=true→cs.length=off+t.size→(∀ (i:Nat) (f:Field),fs[i]?=some f→∃ x,DataW.trod enc P w base spare held fuel f.type ((cs.drop f.offset).take (P.cellsOf f.type))=some x) →
  ∃ y,Rep (fun b=>w.heap[b]?) t y (cs.drop off)∧t.fit y
def z7j{p:Nat→α→Prop}(h:∀ i,i<n→∃ y,p i y):∃ l:List α,l.length=n∧∀ i (hi:i<l.length),p i (l.get ⟨i,hi⟩):=by
 induction n with
 |zero=>exact⟨[],rfl,fun i hi=>absurd hi (by simp)⟩
 |succ n ih=>
  obtain⟨l,h1,h2⟩:=ih fun i hi=>h i (by omega);obtain⟨y,hy⟩:=h n (by omega);refine⟨l++[y],by simp[h1],fun i hi=>?_⟩;simp only[List.get_eq_getElem];by_cases hl:i<l.length
  ·rw[List.getElem_append_left hl];exact h2 i hl
  ·have:i=l.length:=by simp at hi;omega
   subst this;rw[List.getElem_append_right (yyo _)];simp only[Nat.sub_self,List.getElem_cons_zero];rw[h1];exact hy
def rep_all(P:Program):∀ t:Ty,RepA P t∧RepF P t:=by
 intro t;induction t with
 |int k=>
  refine⟨fun id fuel cs x ht _ h=>?_,fun fs off fuel cs hf _ _ _=>by simp[TyOf.fields] at hf⟩;simp only[TyOf] at ht;have hu:=ht.under;cases fuel with
  |zero=>simp[DataW.trod] at h
  |succ n=>
   unfold DataW.trod at h;rw[hu] at h;split at h<;>try (simp_all;done)
   rename_i k' q n' he;split at h
   ·rename_i hk;injection he with he
    injection he with he
    subst he;exact⟨n',by simp only[Rep];rw[hk.1],inK_wf hk.2⟩
   ·cases h
 |bool=>
  refine⟨fun id fuel cs x ht _ h=>?_,fun fs off fuel cs hf _ _ _=>by simp[TyOf.fields] at hf⟩;simp only[TyOf] at ht;have hu:=ht.under;cases fuel with
  |zero=>simp[DataW.trod] at h
  |succ n=>
   unfold DataW.trod at h;rw[hu] at h;split at h<;>try (simp_all;done)
   rename_i b he;exact⟨b,by simp only[Rep],trivial⟩
 |slice e ih=>
  refine⟨@fun H enc w base spare held id fuel cs x ht hb h=>?_,fun fs off fuel cs hf _ _ _=>by simp[TyOf.fields] at hf⟩;simp only[TyOf] at ht;obtain⟨eid,hi,he⟩:=ht;simp only[Ty.argB,yyb,yyq] at hb;have hsz:=q1m he;rcases DataW.trod_slice hi.under h with⟨h0,_⟩|⟨a,len,cap,elems,rest,n,_,rfl,_,_,hlc,hcm,hel,hg,_⟩
  ·exact⟨[],by simp only[Rep];exact⟨none,0,h0,yyo _,yyu _,fun _=>rfl,.inl rfl⟩,fun y hy=>by cases hy⟩
  ·have each:∀ i,i<len→∃ y:e.den,∃ spot c ty fz,a=⟨a.block,a.off,spot⟩∧(spot=none∨i≠0)∧∃ _:w.heap[a.block]?=some (.cells c ty fz),Rep (fun b=>w.heap[b]?) e y ((c.toList.drop (a.off+i*e.size)).take e.size)∧e.fit y:=by
    intro i hi';have h1:=hg i hi';rw[yys (by omega),yym,hsz] at h1;obtain⟨ce,h2,h3⟩:=h1;obtain⟨blk,off,spot⟩:=a;by_cases h0:i*e.size=0
    ·have hi0:i=0:=by
      rcases Nat.mul_eq_zero.1 h0 with h0|h0
      ·exact h0
      ·omega
     subst hi0;simp only[Nat.zero_mul,Addr.add,if_true] at h2;obtain⟨hs,c,ty,fz,h4,rfl⟩:=q66 h2 hb.2;obtain⟨y,hy,hyf⟩:=ih.1 eid n _ _ he hb.1 h3;exact⟨y,spot,c,ty,fz,rfl,.inl hs,h4,by simpa using hy,hyf⟩
    ·have e1:(Addr.add ⟨blk,off,spot⟩ (i*e.size))=⟨blk,off+i*e.size,none⟩:=by simp only[Addr.add,if_neg h0]
     rw[e1] at h2;obtain⟨hs,c,ty,fz,h4,rfl⟩:=q66 h2 hb.2;obtain⟨y,hy,hyf⟩:=ih.1 eid n _ _ he hb.1 h3;exact⟨y,spot,c,ty,fz,rfl,.inr (fun hi0=>h0 (by rw[hi0,Nat.zero_mul])),h4,hy,hyf⟩
   by_cases hl0:len=0
   ·subst hl0;exact⟨[],by simp only[Rep];exact⟨some a,cap,rfl,yyu _,hcm,(fun h=>by cases h),.inl rfl⟩,fun y hy=>by cases hy⟩
   ·obtain⟨y0,spot,c,ty,fz,ha,hs,hc,_⟩:=each 0 (by omega);have hs:spot=none:=hs.resolve_right (fun h=>h rfl);subst hs;obtain⟨l,hl,hr⟩:=z7j (p:=fun i (y:e.den)=>Rep (fun b=>w.heap[b]?) e y ((c.toList.drop (a.off+i*e.size)).take e.size)∧e.fit y) (n:=len) (fun i hi'=>by
     obtain⟨y,_,c',ty',fz',_,_,hc',hy⟩:=each i hi';rw[hc] at hc';injection hc' with hc'
     injection hc' with hc' _ _
     subst hc';exact⟨y,hy⟩)
    refine⟨l,?_,fun y hy=>by obtain⟨i,hi,rfl⟩:=List.mem_iff_get.1 hy;exact(hr i.1 i.2).2⟩
    simp only[Rep];refine⟨some a,cap,by rw[hl],by rw[hl];exact hlc,hcm,(fun h=>by cases h),.inr ⟨a.block,a.off,c,ty,fz,by rw[ha],hc,fun i hi=>(hr i hi).1⟩⟩
 |ptr e ih=>exact⟨fun id fuel cs x _ hb _=>by simp[Ty.argB] at hb,fun fs off fuel cs hf _ _ _=>by simp[TyOf.fields] at hf⟩
 |arr n e ih=>
  refine⟨@fun H enc w base spare held id fuel cs x ht hb h=>?_,fun fs off fuel cs hf _ _ _=>by simp[TyOf.fields] at hf⟩;simp only[TyOf] at ht;obtain⟨eid,hi,he⟩:=ht;simp only[Ty.argB] at hb;have hsz:=q1m he;have hsa:P.cellsOf id=n*e.size:=q1m (t:=.arr n e) ⟨eid,hi,he⟩;obtain⟨xs,m,_,_,hl,hxl,hg⟩:=DataW.trod_array hi.under h;obtain⟨l,h1,h2⟩:=z7j (p:=fun i (y:e.den)=>Rep (fun b=>w.heap[b]?) e y ((cs.drop (i*e.size)).take e.size)∧e.fit y) (n:=n) (fun i hi'=>by have h3:=hg i hi';rw[hsz,yys (by omega)] at h3;exact ih.1 eid m _ _ he hb h3)
  exact⟨l,by simp only[Rep];exact⟨h1,by rw[hl,hsa],fun i hi=>(h2 i hi).1⟩,fun y hy=>by obtain⟨i,hi,rfl⟩:=List.mem_iff_get.1 hy;exact(h2 i.1 i.2).2⟩
 |nil=>refine⟨fun id fuel cs x ht _ _=>by simp[TyOf] at ht,fun fs off fuel cs hf _ hl _=>⟨(),?_,trivial⟩⟩;simp only[Rep,Ty.size] at hl ⊢;exact List.drop_of_length_le (by omega)
 |cons a b iha ihb=>
  have hF:RepF P (.cons a b):=by
   intro H enc w base spare held fs off fuel cs hf hb hl hg;cases fs with
   |nil=>simp[TyOf.fields] at hf
   |cons f r=>simp only[TyOf.fields] at hf;obtain⟨h1,h2,h3,h4⟩:=hf;simp only[Ty.argB,yyb] at hb;simp only[Ty.size] at hl;obtain⟨x,hx⟩:=hg 0 f rfl;rw[h1,q1m h2] at hx;obtain⟨y1,hy1,hf1⟩:=iha.1 _ _ _ _ h2 hb.1 hx;obtain⟨y2,hy2,hf2⟩:=ihb.2 r (off+a.size) fuel cs h4 hb.2 (by omega) fun i f hf=>hg (i+1) f (by simpa using hf);refine⟨(y1,y2),?_,hf1,hf2⟩;simp only[Rep];refine⟨_,_,?_,hy1,hy2⟩;rw[← List.drop_drop,List.take_append_drop]
  refine⟨@fun H enc w base spare held id fuel cs x ht hb h=>?_,hF⟩;have hct:=q1m ht;simp only[TyOf] at ht;obtain⟨fs,hi,hm⟩:=ht;obtain⟨xs,n,_,_,hl,hxl,hg⟩:=DataW.trod_struct hi.under h;have hff:TyOf.fields P (.cons a b) fs.toList 0:=by
   split at hm
   ·rename_i f r hfr;rw[hfr];simp only[TyOf.fields];simpa using hm
   ·exact hm.elim
  have:=hF fs.toList 0 n cs hff hb (by rw[hl,hct];omega) (held:=held) (enc:=enc) (w:=w) (base:=base) (spare:=spare) fun i f hf=>by
   have h1:=hg i f (by simpa using hf);have hlt:i<xs.length:=by rw[hxl];have:=(yy7.1 hf).1;simpa using this
   rw[yys hlt] at h1;exact⟨_,h1⟩
  simpa using this
def Dat:List Ty→Type
 |[]=>Unit
 |t::ts=>t.den×Dat ts
def Dat.av:{ts:List Ty}→Dat ts→AV
 |[],_=>.anil
 |t::_,x=>.acons (.val t x.1) (Dat.av x.2)
def Dat.fit:{ts:List Ty}→Dat ts→Prop
 |[],_=>True
 |t::_,x=>t.fit x.1∧Dat.fit x.2
def tysB(P:Program):List Ty→List TypeId→Bool
 |[],[]=>true
 |t::ts,i::is=>(tyB P t i&&t.argB)&&(P.readableRec i&&decide (i<P.types.size))&&tysB P ts is
 |_,_=>false
variable{t:Ty}
def agg_of{id:TypeId}(ht:TyOf P t id)(hb:t.argB=true):(t.agg=true∧((∃ fs,P.underlying id=some (.struct fs))∨∃ n e,P.underlying id=some (.array n e))) ∨
  (t.agg=false∧((∃ k,P.underlying id=some (.int k))∨P.underlying id=some .bool∨∃ e,P.underlying id=some (.slice e))):=by
 cases t with
 |int k=>simp only[TyOf] at ht;exact .inr ⟨rfl,.inl ⟨k,ht.under⟩⟩
 |bool=>simp only[TyOf] at ht;exact .inr ⟨rfl,.inr (.inl ht.under)⟩
 |slice e=>simp only[TyOf] at ht;obtain⟨eid,h,_⟩:=ht;exact .inr ⟨rfl,.inr (.inr ⟨eid,h.under⟩)⟩
 |ptr e=>simp[Ty.argB] at hb
 |arr n e=>simp only[TyOf] at ht;obtain⟨eid,h,_⟩:=ht;exact .inl ⟨rfl,.inr ⟨n,eid,h.under⟩⟩
 |nil=>simp[TyOf] at ht
 |cons a b=>simp only[TyOf] at ht;obtain⟨fs,h,_⟩:=ht;exact .inl ⟨rfl,.inl ⟨fs,h.under⟩⟩
def arg_rv{ρ:Env}{id:TypeId}{v:Value}{d:DataW H}{ps:List MemPlace}(ht:TyOf P t id)(hb:t.argB=true)(hv:Value.okWide P w .any base id v){b0:Nat}
  (h:DataW.Trod enc P w b0 spare held id v d ps):∃ y,(AV.val t y).rv (fun b=>w.heap[b]?) ρ v∧t.fit y:=by
 obtain⟨fuel,h⟩:=h;obtain⟨y,hy,hyf⟩:=(rep_all P t).1 id fuel _ _ ht hb h;refine⟨y,?_,hyf⟩;simp only[AV.rv];refine⟨_,hy,?_⟩;unfold Value.okWide at hv;rcases agg_of ht hb with⟨hag,hu⟩|⟨hag,hu⟩
 ·have:∃ cs,v=.agg cs:=by rcases hu with⟨fs,hu⟩|⟨n,e,hu⟩<;>· rw[hu] at hv;obtain⟨cs,h1,_⟩:=hv;exact⟨cs,h1⟩
  obtain⟨cs,rfl⟩:=this;rw[v7 hag];simp[Value.cells]
 ·have hone:v.oneCell'=true:=by rcases hu with⟨k,hu⟩|hu|⟨e,hu⟩<;>rw[hu] at hv<;>simp only[Cell.okWide,hu,Cell.ok] at hv<;>(split at hv<;>first|rfl|(exact hv.elim)|(split at hv<;>first|rfl|exact hv.elim))
  rw[q0q hone];simp[Ty.wrap,hag]
variable{ts:List Ty}
def q6g{i:TypeId}{is:List TypeId}(h:tysB P (t::ts) (i::is)=true):TyOf P t i∧t.argB=true∧P.readableRec i=true∧i<P.types.size∧tysB P ts is=true:=by simp only[tysB,yyb,yyq] at h;exact⟨r8 h.1.1.1,h.1.1.2,h.1.2.1,h.1.2.2,h.2⟩
def z87{ρ:Env}{b0:Nat}:∀ {ts:List Ty} {is:List TypeId} {vs:List Value} {ds:List (DataW H)} {ps:List MemPlace},tysB P ts is=true→(∀ (j:Nat) t v,is[j]?=some t→vs[j]?=some v→Value.okWide P w .any base t v) →
  DataW.TrodAll enc P w b0 spare held is vs ds ps→∃ ys:Dat ts,ys.av.rvs (fun b=>w.heap[b]?) ρ vs∧ys.fit
 |[],[],vs,ds,ps,_,_,h=>by
  cases vs with
  |nil=>exact⟨(),by simp only[Dat.av,AV.rvs],trivial⟩
  |cons v vs=>cases ds<;>simp[DataW.TrodAll] at h
 |t::ts,i::is,vs,ds,ps,hb,hv,h=>by
  obtain⟨h1,h2,_,_,h5⟩:=q6g hb;cases vs with
  |nil=>cases ds<;>simp[DataW.TrodAll] at h
  |cons v vs=>
   cases ds with
   |nil=>simp[DataW.TrodAll] at h
   |cons d ds=>obtain⟨p,q,h6,h7,_⟩:=h;obtain⟨y,hy,hyf⟩:=arg_rv (ρ:=ρ) h1 h2 (hv 0 i v rfl rfl) h6;obtain⟨ys,hys,hysf⟩:=z87 (ρ:=ρ) h5 (fun j t v hj hjv=>hv (j+1) t v (by simpa using hj) (by simpa using hjv)) h7;exact⟨(y,ys),by simp only[Dat.av,AV.rvs];exact⟨v,vs,hy,hys,rfl⟩,hyf,hysf⟩
 |[],_::_,_,_,_,hb,_,_=>by simp[tysB] at hb
 |_::_,[],_,_,_,hb,_,_=>by simp[tysB] at hb
def Dat.bd:∀ {ts:List Ty} (ys:Dat ts) (n:Nat),ys.av.bd n
 |[],_,_=>trivial
 |_::_,x,n=>⟨trivial,Dat.bd x.2 n⟩
def q76{W W':World}(hl:laidOutB P=true)(hbl:Below W.heap.size W W'){sp:Nat→Bool}:∀ {ts:List Ty} {is:List TypeId} {vs:List Value} {ds:List (DataW H)} {ps:List MemPlace},tysB P ts is=true →
  DataW.TrodAll enc P W 0 (fun _=>true) true is vs ds ps→(∀ p∈ps,p.block<W.heap.size)→(∀ p∈ps,sp p.block=true)→DataW.TrodAll enc P W' 0 sp true is vs ds ps
 |[],[],vs,ds,ps,_,h,_,_=>by cases vs<;>cases ds<;>simp_all[DataW.TrodAll]
 |t::ts,i::is,vs,ds,ps,hb,h,hlt,hsp=>by
  obtain⟨_,_,h3,h4,h5⟩:=q6g hb;cases vs with
  |nil=>cases ds<;>simp[DataW.TrodAll] at h
  |cons v vs=>
   cases ds with
   |nil=>simp[DataW.TrodAll] at h
   |cons d ds=>obtain⟨p,q,h6,h7,rfl⟩:=h;refine⟨p,q,WideElems.Trod_stays hl h3 h4 h6 (fun x hx=>hbl.same (hlt x (yxz _ hx))) (fun x hx=>hsp x (yxz _ hx)),?_,rfl⟩;exact q76 hl hbl h5 h7 (fun x hx=>hlt x (List.mem_append_right _ hx)) (fun x hx=>hsp x (List.mem_append_right _ hx))
 |[],_::_,_,_,_,hb,_,_,_=>by simp[tysB] at hb
 |_::_,[],_,_,_,hb,_,_,_=>by simp[tysB] at hb
def z4s{Z:Mem→Prop}{s:ChangeSpec}{W:World}{args:Array Value}{ds gs:List (DataW H)}{before:List MemPlace}{fresh handsOn:Bool}
  (hz:Z (fun b=>W.heap[b]?)) (hfn:∀ ys:Dat ts,ys.fit→FnL Z P f ys.av (·=.val .bool true)) (hts:tysB P ts fn.params.toList=true) (hl:laidOutB P=true) (hvars:s.vars=[])
  (hspec:∀ ds:List (DataW H),ds.length=ts.length→(s.fn H ds).results=[.lit (.bool true)]∧(s.fn H ds).args=ds∧(s.fn H ds).vars=[]) {rt:TypeId} (hres:fn.resultTypes=#[rt]) (hrt:P.underlying rt=some .bool)
  (hval:∀ (j:Nat) t v,fn.params[j]?=some t→args[j]?=some v→Value.okWide P W .any base t v) (hW:DataW.Whole enc P fn.params.toList s.vars false W args.toList ds gs before) :
  Calls P f args W fun e W'=>∃ v,e=.returned v∧s.post enc P fn false fresh handsOn false W args v W':=by
 have hW':=hW;obtain⟨p,q,hA,hV,rfl,hfz,_⟩:=hW;rw[hvars] at hV;obtain⟨rfl,rfl⟩:=trodVars_none hV;rw[yxw] at hW';obtain⟨ys,hys,hysf⟩:=z87 (ρ:=⟨fun _=>0,fun _=>.nil,fun _=>Go.undef⟩) hts (fun j t v hj hv=>hval j t v (by simpa using hj) (by simpa using hv)) hA;have hlen:∀ {ts:List Ty} {is:List TypeId} {vs:List Value} {ds:List (DataW H)} {ps:List MemPlace},tysB P ts is=true→DataW.TrodAll enc P W 0 (fun _=>true) true is vs ds ps→ds.length=ts.length:=by
  intro ts;induction ts with
  |nil=>intro is vs ds ps hb h;cases is<;>cases vs<;>cases ds<;>simp_all[DataW.TrodAll,tysB]
  |cons t ts ih=>
   intro is vs ds ps hb h;cases is with
   |nil=>simp[tysB] at hb
   |cons i is=>
    cases vs<;>cases ds<;>try (simp[DataW.TrodAll] at h;done)
    obtain⟨p,q,_,h7,_⟩:=h;simp[ih (q6g hb).2.2.2.2 h7]
 have hdl:=hlen hts hA;have hrun:=(hfn ys hysf).run (fun b=>W.heap[b]?) ⟨fun _=>0,fun _=>.nil,fun _=>Go.undef⟩ W args.toList hz (fun _ _ h=>h) hys (Dat.bd ys 0);rw[Array.toArray_toList] at hrun;refine hrun.mono fun e W'=>?_;rintro⟨v,r,M',rfl,rfl,_,hrv,hbl,_⟩;rw[g8] at hrv;subst hrv;obtain⟨hs1,hs2,hs3⟩:=hspec ds hdl;have hlt:=fun x hx=>hW'.lt x hx;refine⟨_,rfl,ds,[],p,[],p,[],hW',?_,?_,?_,World.keptBut_mono (fun x hx=>⟨hx,.inr (.inl hx)⟩) (hbl.frame (·∈p)),fun h=>by cases h⟩
 ·rw[yxw,hs1,hres];exact trodAll_cons_mk (shut_bool hrt _) trodAll_mk0
 ·rw[yxw,hs2];exact q76 hl hbl hts hA hlt fun x hx=>by simpa using hlt x hx
 ·rw[yxw,hs3,hvars];rfl
end
end Ox
namespace Ox
open Go Go.RowKit
noncomputable section
def q8x{P:Program}{w:World}{name:String}{k:IntKind}{xs:List Int}{g:Nat}{t e:TypeId}(hg:P.globalNamed name=some g)(ht:(P.globals[g]?).map (·.type)=some t)(hu:P.underlying t=some (.array xs.length e))(he:P.underlying e=some (.int k))(hc:P.cellsOf e=1) :
  ∀ {laid:List (String×DataW Unit)} {ps:List MemPlace},DataW.LaidVars P w laid ps→(name,DataW.agg (xs.map fun z=>DataW.lit (.int k z)))∈laid →
  ∃ (cs:Array Value) (ty:TypeId) (fz:Nat×Nat),w.heap[g]?=some (.cells cs ty fz)∧xs.length≤cs.size∧∀ i,i<xs.length→cs[i]?=some (.int k (xs.getD i 0))
 |[],_,_,hm=>absurd hm yxg
 |(n,d)::r,ps,h,hm=>by
  obtain⟨g',t',cs,fuel,p,q,h1,h2,h3,h4,h5,_⟩:=h;rcases yyn.1 hm with hm|hm
  ·injection hm with e1 e2
   subst e1;subst e2;obtain rfl:=Option.some.inj (hg.symm.trans h1);obtain rfl:=Option.some.inj (ht.symm.trans h2);obtain⟨ys,m,_,hx,hl,hyl,hcell⟩:=DataW.trod_array hu h4;have hy:ys.map (·.1)=xs.map fun z=>DataW.lit (.int k z):=by
    injection hx with hx _
    injection hx with hx
    exact hx.symm
   have hblk:∃ ty fz,w.heap[g]?=some (.cells cs ty fz):=by
    unfold World.var? at h3;rw[hg] at h3;simp only[Option.bind_some] at h3;split at h3
    ·rename_i cs' ty fz hh;injection h3 with h3
     exact⟨ty,fz,by rw[hh,h3]⟩
    ·cases h3
   obtain⟨ty,fz,hh⟩:=hblk;have key:∀ i,i<xs.length→cs[i]?=some (.int k (xs.getD i 0)):=fun i hi=>by
    have h6:=hcell i hi;rw[hc,Nat.mul_one] at h6;have hi':i<ys.length:=by rw[hyl];exact hi
    rw[yys hi'] at h6;obtain⟨z,h7,h8,_⟩:=DataW.trod_int he h6;have h9:(ys[i]).1=DataW.lit (.int k (xs.getD i 0)):=by have:=congrArg (fun l=>l[i]?) hy;simp only[List.getElem?_map,yys hi',yys hi,yxm,yya] at this;rw[this,yyp,yys hi];rfl
    rw[h8] at h9;injection h9 with h9
    injection h9 with _ h9
    subst h9;have hlt:i<cs.toList.length:=by refine Nat.lt_of_not_le fun hc'=>?_;rw[List.drop_of_length_le hc'] at h7;cases h7
    rw[yy3 hlt] at h7;injection h7 with h7 _
    rw[← yxx,yys hlt,h7]
   refine⟨cs,ty,fz,hh,?_,key⟩;refine Nat.le_of_not_lt fun hc'=>?_;have:=key cs.size hc';simp at this
  ·exact q8x hg ht hu he hc h5 hm
end
end Ox
namespace Ox
open Go Go.RowKit Ox.Rn
variable {X:Ctx}{M:Mem}{ρ:Env}{a:Act}{w w':World}{QA:Exit→S→Prop}{all l:List Oper}{L:List (Nat×AV)}{H:List (Nat×HO)}{nx d:Nat}{ty:TypeId}{ps:String}{af:Array Edge}{s:S}{o:Oper}{md:Bool}
variable{P:Program}
def run_remT{a b:Int}(hb:b≠0):(Op.intDiv .rem k a b).run P w=.ok (.int k (Int.tmod a b)) w:=by simp only[Op.intDiv,if_neg hb,yyf]
variable{x:Operand}
def JL.remT(hu:opd L x=some (c1,.val (.int k) u))(hv:opd L y=some (c2,.val (.int k) v))(h1:allP c1)(h2:allP c2)(hb:v≠0)(hd:ltB d X.n=true)
  (kk:JL X true all QA l ⟨(d,.val (.int k) (Int.tmod u v))::L,H,nx⟩):JL X true all QA (⟨some d,.binOp .rem t x y t',ty,ps,af,none⟩::l) ⟨L,H,nx⟩:=by
 refine z37 rfl rfl (y8 hd) (v:=.val (.int k) (Int.tmod u v)) (s':=⟨L,H,nx⟩) (fun M ρ a w k1 k2=>?_) kk;have e1:=(z8 (s:=⟨L,H,nx⟩) hu h1 k2).2;have e2:=(z8 (s:=⟨L,H,nx⟩) hv h2 k2).2;rw[w8] at e1 e2;refine⟨ρ,w,.value (.int k (Int.tmod u v)),?_,Env.upTo.refl _ _,yyo _,rfl,k1,trivial,.inl ⟨_,rfl,w8.2 rfl⟩⟩;simp only[execOp,e1,e2,yye,p4,yyc,binOp,if_neg (fun h:k≠k=>h rfl)];rw[run_remT hb];rfl
def JK.remT{r:List Fr}{t t':TypeId}{x y:Operand}{c1 c2:List Prop}{k:IntKind}{u v:Int}(hu:opd L x=some (c1,.val (.int k) u))(hv:opd L y=some (c2,.val (.int k) v))(h1:allP c1)(h2:allP c2)(hb:v≠0)(hd:ltB d X.n=true)
  (kk:JK X (.ops true all l::r) QA ⟨(d,.val (.int k) (Int.tmod u v))::L,H,nx⟩):JK X (.ops true all (⟨some d,.binOp .rem t x y t',ty,ps,af,none⟩::l)::r) QA ⟨L,H,nx⟩:=JL.remT hu hv h1 h2 hb hd kk
variable{gs:List Gt}
def z2h{M N:Mem}(h:Laid gs M)(k:∀ b o,M b=some o→N b=some o):Laid gs N:=fun q hq=>by obtain⟨cs,ty,fz,e1,e2⟩:=h q hq;exact⟨cs,ty,fz,k _ _ e1,e2⟩
variable{r:AV}
def z0r(h:callA X.T o.op s=some (cs,f,.anil))(hf:FnZ (Laid gs) X.P f r.toV)(hz:Laid gs X.M0)(hc:allP cs)(h1:SAT X M ρ s w)(h2:REG X M ρ s a){w1:World}(hw:Below w.heap.size w w1) :
  ∃ az,(execOp a.eval o).run X.P w1=.ok (.enter f az) w1∧Calls X.P f az w1 (fun e w'=>e=.returned r.toV∧Below w.heap.size w w'):=by
 obtain⟨hb,vs,hvs,hrun⟩:=o0 h1 (q51 h1) h2 h hc;simp only[AV.rvs] at hvs;subst hvs;refine⟨#[],by rw[hrun,hf.call],(hf.run _ w1 (z2h hz fun b o e=>h1.mem b o (h1.msub b o e)) (q8l hw)).mono ?_⟩;rintro e w' ⟨rfl,hbl⟩;exact⟨rfl,hw.trans (hbl.mono hw.size)⟩
def JL.callZ(hg:o.guard=none)(h:callA X.T o.op s=some (cs,f,.anil))(hf:FnZ (Laid gs) X.P f r.toV)(hz:Laid gs X.M0)(hr:r.scal=true)(hrb:r.bd 0)(hd:dstOk X.n o.dst)(hc:allP cs)
  (k:JL X true all QA l (putS o.dst r s)):JL X true all QA (o::l) s:=by
 intro M ρ a w h1 h2;obtain⟨az,e1,e2⟩:=z0r h hf hz hc h1 h2 (Below.refl w.heap.size w);refine j6 (v4 hg) (u9 (q0x h) e1 e2 ?_);rintro e w' ⟨rfl,hbl⟩;exact⟨_,rfl,k M ρ _ w' (j0 (h1.later hbl)) (h2.putO hd.spec (j3 (yyu _) hrb) ((x5 hr).2 rfl))⟩
def z9n(hg:gOf all s.L o.guard=some g)(hgt:g=true)(h:callA X.T o.op s=some (cs,f,.anil))(hf:FnZ (Laid gs) X.P f r.toV)(hz:Laid gs X.M0)(hr:r.scal=true)(hrb:r.bd 0)(hd:dstOk X.n o.dst)(hc:allP cs)
  (k:JL X true all QA l (putS o.dst r s)):JL X true all QA (o::l) s:=by
 subst hgt;intro M ρ a w h1 h2;have hw:=x7 hg h2;obtain⟨az,e1,e2⟩:=z0r h hf hz hc h1 h2 (Below.refl w.heap.size w);refine j6 hw (u9 (q0x h) e1 e2 ?_);rintro e w' ⟨rfl,hbl⟩;exact⟨_,rfl,k M ρ _ w' (j0 (h1.later hbl)) (h2.putO hd.spec (j3 (yyu _) hrb) ((x5 hr).2 rfl))⟩
variable {op:Op}
variable{fr:List Fr}
def q9i(h:callA X.T op ⟨L,H,nx⟩=some (cs,f,.anil))(hf:FnZ (Laid gs) X.P f (.bool b))(hz:Laid gs X.M0)(hd:ltB d X.n=true)(hc:allP cs)
  (k:JK X (.ops true all l::fr) QA ⟨(d,(.val .bool b))::L,H,nx⟩):JK X (.ops true all (⟨some d,op,ty,ps,af,none⟩::l)::fr) QA ⟨L,H,nx⟩:=
 JL.callZ (r:=(.val .bool b)) rfl h hf hz rfl trivial (y8 hd) hc k
def q4t{gg:Nat×Bool}(hg:gOf all L (some gg)=some g)(hgt:g=true)(h:callA X.T op ⟨L,H,nx⟩=some (cs,f,.anil))(hf:FnZ (Laid gs) X.P f (.bool b))(hz:Laid gs X.M0)(hd:ltB d X.n=true)(hc:allP cs)
  (k:JK X (.ops true all l::fr) QA ⟨(d,(.val .bool b))::L,H,nx⟩):JK X (.ops true all (⟨some d,op,ty,ps,af,some gg⟩::l)::fr) QA ⟨L,H,nx⟩:=
 z9n (r:=(.val .bool b)) (s:=⟨L,H,nx⟩) hg hgt h hf hz rfl trivial (y8 hd) hc k
def run_quoT{a b:Int}(hb:b≠0)(h1:inK k (Int.tdiv a b)):(Op.intDiv .quo k a b).run P w=.ok (.int k (Int.tdiv a b)) w:=by simp only[Op.intDiv,if_neg hb,yyf];rw[n3 h1]
def JL.quoT(hu:opd L x=some (c1,.val (.int k) u))(hv:opd L y=some (c2,.val (.int k) v))(h1:allP c1)(h2:allP c2)(hb:v≠0)(hk:inK k (Int.tdiv u v))(hd:ltB d X.n=true)
  (kk:JL X true all QA l ⟨(d,.val (.int k) (Int.tdiv u v))::L,H,nx⟩):JL X true all QA (⟨some d,.binOp .quo t x y t',ty,ps,af,none⟩::l) ⟨L,H,nx⟩:=by
 refine z37 rfl rfl (y8 hd) (v:=.val (.int k) (Int.tdiv u v)) (s':=⟨L,H,nx⟩) (fun M ρ a w k1 k2=>?_) kk;have e1:=(z8 (s:=⟨L,H,nx⟩) hu h1 k2).2;have e2:=(z8 (s:=⟨L,H,nx⟩) hv h2 k2).2;rw[w8] at e1 e2;refine⟨ρ,w,.value (.int k (Int.tdiv u v)),?_,Env.upTo.refl _ _,yyo _,rfl,k1,trivial,.inl ⟨_,rfl,w8.2 rfl⟩⟩;simp only[execOp,e1,e2,yye,p4,yyc,binOp,if_neg (fun h:k≠k=>h rfl)];rw[run_quoT hb hk];rfl
def JK.quoT{r:List Fr}{t t':TypeId}{x y:Operand}{c1 c2:List Prop}{k:IntKind}{u v:Int}(hu:opd L x=some (c1,.val (.int k) u))(hv:opd L y=some (c2,.val (.int k) v))(h1:allP c1)(h2:allP c2)(hb:v≠0)(hk:inK k (Int.tdiv u v))(hd:ltB d X.n=true)
  (kk:JK X (.ops true all l::r) QA ⟨(d,.val (.int k) (Int.tdiv u v))::L,H,nx⟩):JK X (.ops true all (⟨some d,.binOp .quo t x y t',ty,ps,af,none⟩::l)::r) QA ⟨L,H,nx⟩:=JL.quoT hu hv h1 h2 hb hk hd kk
def down_eq(a b:Int)(hb:0<b):Int.tdiv (a-Int.tmod (Int.tmod a b+b) b) b=a / b:=by
 have e:Int.tmod (Int.tmod a b+b) b=a % b:=by
  have h1:=Int.tmod_lt_of_pos a hb;have h2:-b<Int.tmod a b:=by have:=Int.lt_tmod_of_pos a hb;omega
  rw[Int.tmod_eq_emod_of_nonneg (by omega),Int.add_emod_right];have h3:=Int.mul_tdiv_add_tmod a b;have h4:(Int.tmod a b)=a+b*(-(Int.tdiv a b)):=by rw[Int.mul_neg];omega
  rw[h4,Int.add_mul_emod_self_left]
 rw[e];have h:=Int.mul_ediv_add_emod a b;have h5:a-a % b=b*(a / b):=by omega
 rw[h5,Int.mul_tdiv_cancel_left _ (by omega)]
end Ox
namespace Go.Proofs.YtjjkdjbbkagclaaGreatDoor
open Go Go.RowKit Ox Ox.Gl
attribute [local irreducible] JC JL JK JW
abbrev rgT:Ty:=.cons (.int .i64) (.cons (.int .i64) .nil)
abbrev coT:Ty:=.cons rgT (.cons (.int .i64) (.cons (.int .i64) .nil))
abbrev glT:Ty:=.cons (.int .i64) (.cons (.slice coT) (.cons (.slice prT) .nil))
abbrev vRg(r:RgD):AV:=.val rgT r
abbrev vCo(c:CoD):AV:=.val coT c
abbrev mkG(d:Int)(cs:List CoD)(ps:List (List Int)):glT.den:=(d,cs,ps,())
abbrev vG(d:Int)(cs:List CoD)(ps:List (List Int)):AV:=.val glT (mkG d cs ps)
def fn205(x lo hi:Int):Ox.Fn Tryz.prog 205 (.acons (vI x) (.acons (pI lo) (.acons (pI hi) .anil))) (·=vB (decide (x<lo∨x>hi))):=by refine Ox.Fn.intro xok Tryz.func205 rfl Tryz.call205 (yyd rfl) (fun E M0 up=>?_);refine z7 ?_;refine zK0 ?_;refine⟨.inl rfl,_,_,rfl,trivial,?_⟩;by_cases h:x<lo<;>simp[h]
def fn117(lo hi:Int)(xs:List Int):Ox.Fn Tryz.prog 117 (.acons (vI lo) (.acons (vI hi) (.acons (vL xs) .anil))) (·=vB (decide (∀ x∈xs,lo≤x∧x≤hi))):=by
 refine Ox.Fn.intro xok Tryz.func117 rfl Tryz.call117 (yyd rfl) (fun E M0 up=>?_);refine z7 ?_
 (repeat (first|refine zs rfl ?_|refine zg rfl rfl rfl ?_|refine zd ?_|refine k9 ?_|refine k8 ?_|refine zc rfl (fn77 xs (fun x=>decide (x<lo∨x>hi)) (fun x _=>fn205 x lo hi)) rfl rfl ?_|refine ze rfl (fn77 xs (fun x=>decide (x<lo∨x>hi)) (fun x _=>fn205 x lo hi)) rfl ?_|refine zk rfl rfl (fun _=>fn77 xs (fun x=>decide (x<lo∨x>hi)) (fun x _=>fn205 x lo hi)) rfl rfl ?_))
 refine⟨.inl rfl,_,_,rfl,trivial,?_⟩;refine congrArg vB ?_;rw[yy2];simp only[yyt,List.any_eq_false,yyq];refine⟨fun h x hx=>?_,fun h x hx=>?_⟩
 ·have:=h x hx;omega
 ·have:=h x hx;omega
def z3p(hb:b=true)(h:∀ x∈xs,lo≤x∧x≤hi):Ox.Fn Tryz.prog 117 (.acons (vI lo) (.acons (vI hi) (.acons (vL xs) .anil))) (·=vB b):=by have:=fn117 lo hi xs;rw[decide_eq_true h,← hb] at this;exact this
def div_bd(a b:Int)(h0:1≤b∧b≤1000)(h1:-100000≤a∧a≤100000):-102000≤a / b∧a / b≤102000:=by
 have h5:=Int.mul_ediv_add_emod a b;have h6:=Int.emod_nonneg a (show b≠0 by omega);have h7:=Int.emod_lt_of_pos a (show 0<b by omega);constructor
 ·refine Int.not_lt.1 fun hc=>?_;have:b*(a / b)≤1*(a / b):=Int.mul_le_mul_of_nonpos_right (by omega) (by omega);omega
 ·refine Int.not_lt.1 fun hc=>?_;have:1*(a / b)≤b*(a / b):=Int.mul_le_mul_of_nonneg_right (by omega) (by omega);omega
def fn125(a b:Int)(h0:1≤b∧b≤1000)(h1:-100000≤a∧a≤100000):Ox.Fn Tryz.prog 125 (.acons (vI a) (.acons (vI b) .anil)) (·=vI (a / b)):=by
 refine Ox.Fn.intro xok Tryz.func125 rfl Tryz.call125 (yyd rfl) (fun E M0 up=>?_);refine z7 ?_;have e:=down_eq a b (by omega);have t1:=Int.tmod_lt_of_pos a (show 0<b by omega);have t2:-b<Int.tmod a b:=by have:=Int.lt_tmod_of_pos a (show 0<b by omega);omega
 have t3:=Int.tmod_lt_of_pos (Int.tmod a b+b) (show 0<b by omega);have t4:0≤Int.tmod (Int.tmod a b+b) b:=Int.tmod_nonneg _ (by omega);have q1:=div_bd a b h0 h1;have hb:b≠0:=by omega
 have e2:Int.tmod (Int.tmod a b+b) b=(Int.tmod a b+b) % b:=Int.tmod_eq_emod_of_nonneg (by omega);rw[e2] at e t3 t4;have hq:inK .i64 (Int.tdiv (a-(Int.tmod a b+b) % b) b):=by rw[e];show -9223372036854775808≤_∧_≤9223372036854775807;omega
 rw[← e];refine zK0 ?_;refine JK.remT (t':=_) rfl rfl trivial trivial hb rfl ?_;generalize Int.tmod a b=u at *;refine zK0 ?_;generalize (u+b) % b=m at *;refine JK.quoT (t':=_) rfl rfl trivial trivial hb hq rfl ?_;refine zK0 ?_;refine⟨.inl rfl,_,_,rfl,trivial,?_⟩;rfl
abbrev wiT:Ty:=.arr 10 rgT
abbrev bfT:Ty:=.arr 10 (.int .u64)
abbrev sfT:Ty:=.cons glT (.cons wiT (.cons bfT .nil))
abbrev mkF(d:Int)(cs:List CoD)(ps:List (List Int))(W:List RgD)(B:List Int):sfT.den:=(mkG d cs ps,W,B,())
abbrev vF(d:Int)(cs:List CoD)(ps:List (List Int))(W:List RgD)(B:List Int):AV:=.val (.ptr sfT) (some (mkF d cs ps W B))
abbrev vS64(n:Nat):AV:=.val (.int .u64) (n:Int)
def q6n(h:n≤10):1≤(2:Int) ^ n∧(2:Int) ^ n≤1024∧((2 ^ n:Nat):Int)=(2:Int) ^ n:=by
 have h1:=z59 h;have h2:0<2 ^ n:=Nat.two_pow_pos n;have h3:((2 ^ n:Nat):Int)=(2:Int) ^ n:=by rw[Int.natCast_pow];rfl
 omega
def vS_or(f c:Nat):vS64 (f ||| 2 ^ c)=AV.val (.int .u64) (((((f:Nat):Int).toNat ||| ((1:Int)*2 ^ (Int.toNat (c:Int))).toNat:Nat)):Int):=by rw[Int.toNat_natCast,Int.toNat_natCast,z1t]
def vS_not(x y:Nat):vS64 (x ^^^ (x &&& y))=AV.val (.int .u64) (((((x:Nat):Int).toNat ^^^ (((x:Nat):Int).toNat &&& ((y:Nat):Int).toNat):Nat)):Int):=by rw[Int.toNat_natCast,Int.toNat_natCast]
def fn84(d:Int)(cs:List CoD)(ps:List (List Int))(W:List RgD)(B:List Int)(hn:cs.length≤10):Ox.Fn Tryz.prog 84 (.acons (vF d cs ps W B) .anil) (·=vS64 (2 ^ cs.length-1)):=by refine Ox.Fn.intro xok Tryz.func84 rfl Tryz.call84 (yyd rfl) (fun E M0 up=>?_);refine z7 ?_;obtain⟨h1,h2,h3⟩:=q6n hn;have h4:0<2 ^ cs.length:=Nat.two_pow_pos _;refine zK0 ?_;refine⟨.inl rfl,_,_,rfl,trivial,?_⟩;refine congrArg (AV.val (.int .u64)) ?_;show(1:Int)*2 ^ (Int.toNat (cs.length:Int))-1=_;rw[Int.toNat_natCast];omega
end Go.Proofs.YtjjkdjbbkagclaaGreatDoor
namespace Ox.Gl
def z76{p q:Nat→Bool}:∀ {l:List Nat},(∀ x,p x=true→q x=true)→(l.filter p).length≤(l.filter q).length
 |[],_=>yyo _
 |a::l,h=>by
  have ih:=z76 (l:=l) h;cases hp:p a
  ·cases hq:q a<;>simp[hp,hq]<;>omega
  ·simp[hp,h a hp];exact ih
def z75{p q:Nat→Bool}:∀ {l:List Nat},(∀ x,p x=true→q x=true)→(∃ x∈l,q x=true∧p x=false)→(l.filter p).length<(l.filter q).length
 |[],_,⟨_,h,_⟩=>absurd h yxg
 |a::l,h,⟨x,hx,h1,h2⟩=>by
  rcases yyn.1 hx with rfl|hx
  ·have:=z76 (l:=l) h;simp[h1,h2];omega
  ·have ih:=z75 (l:=l) h ⟨x,hx,h1,h2⟩;cases hp:p a
   ·cases hq:q a<;>simp[hp,hq]<;>omega
   ·simp[hp,h a hp];exact ih
def z6p:∀ {k j:Nat},onB P n k j=true→j<n
 |0,j,h=>by simpa[onB] using h
 |k+1,j,h=>by simp only[onB,yyb,yyq] at h;exact h.1
def z1u{P:Nat→Nat→Bool}{n:Nat}:∀ {k j:Nat},onB P n (k+1) j=true→onB P n k j=true
 |0,j,h=>by simpa[onB] using z6p h
 |k+1,j,h=>by have h1:=z6p h;rw[onB,yyb,List.any_eq_true] at h;obtain⟨_,i,h2,h3⟩:=h;rw[yyb] at h3;rw[onB,yyb,List.any_eq_true];exact⟨decide_eq_true h1,i,h2,by rw[yyb];exact⟨z1u h3.1,h3.2⟩⟩
def on_NB(h:NB P n)(i:Nat):onB P n n i=false:=by
 have key:∀ k,(∀ j,onB P n k j=false)∨((List.range n).filter (onB P n k)).length+k≤n:=by
  intro k;induction k with
  |zero=>refine .inr ?_;have:=List.length_filter_le (onB P n 0) (List.range n);simpa using this
  |succ k ih=>
   by_cases hz:∀ j,onB P n (k+1) j=false
   ·exact .inl hz
   obtain⟨j,hj⟩:=Classical.not_forall.1 hz;rw[Bool.not_eq_false] at hj;have hk:=z1u hj;obtain⟨c,h1,h2⟩:=h (fun c=>onB P n k c=true) ⟨j,hk⟩ fun c hc=>z6p hc;rcases ih with e|e
   ·rw[e j] at hk;cases hk
   refine .inr ?_;have:=z75 (l:=List.range n) (p:=onB P n (k+1)) (q:=onB P n k) (fun x=>z1u) ⟨c,yxc.2 (z6p h1),h1,by rw[← Bool.not_eq_true,onB,yyb,List.any_eq_true];rintro⟨_,a,h3,h4⟩;rw[yyb] at h4;rw[h2 a h4.1] at h4;cases h4.2⟩
   omega
 rcases key n with e|e
 ·exact e i
 ·cases hi:onB P n n i
  ·rfl
  ·have:i∈(List.range n).filter (onB P n n):=yx0.2 ⟨yxc.2 (z6p hi),hi⟩;rw[yxe (show((List.range n).filter (onB P n n)).length=0 by omega)] at this;cases this
def oneL(n i:Nat):List Int:=(List.range n).map fun j=>if j<i then 1 else 0
def oneL_len(n i:Nat):(oneL n i).length=n:=by simp[oneL]
def z6o(n:Nat):oneL n 0=List.replicate n 0:=by refine List.ext_getElem (by simp[oneL]) fun i h1 h2=>?_;simp[oneL]
def oneL_set:(oneL n i).set i 1=oneL n (i+1):=by
 refine List.ext_getElem (by simp[oneL]) fun j h1 h2=>?_;simp[oneL] at h1;rw[List.getElem_set];by_cases e:i=j
 ·subst e;rw[if_pos rfl];simp[oneL]
 ·rw[if_neg e];have:(j<i+1)=(j<i):=by rw[eq_iff_iff];omega
  simp only[oneL,List.getElem_map,List.getElem_range,this]
def oneL_all:oneL n n=onL P n 0:=by refine List.map_congr_left fun j hj=>?_;have:=yxc.1 hj;simp[onB,this]
def pr_two{p:List Int}(h:p.length=2):p=[z0 p,z1 p]:=by
 match p,h with
 |[a,b],_=>rfl
def pr_mem{ps:List (List Int)}(h2:∀ p∈ps,p.length=2)(hp:∀ p∈ps,okPr n p)(i k:Nat):decide ([(i:Int),(k:Int)]∈ps)=pG ps i k:=by
 rw[yy2,yyq,z27];constructor
 ·intro h;exact⟨_,h,by show Int.toNat (i:Int)=i;omega,by show Int.toNat (k:Int)=k;omega⟩
 ·rintro⟨p,h,e0,e1⟩;obtain⟨⟨k1,_⟩,⟨k2,_⟩,_⟩:=hp p h;unfold q0 at e0;unfold q1 at e1;have:p=[(i:Int),(k:Int)]:=by rw[pr_two (h2 p h),show z0 p=(i:Int) by omega,show z1 p=(k:Int) by omega]
  rw[← this];exact h
open Classical in
noncomputable def chkE(d:Int)(cs:List CoD)(ps:List (List Int)):Int:=if ¬ (1≤cs.length∧cs.length≤10∧ps.length≤40) then 6 else if ¬ (1≤d∧d≤100) then 3 else if ¬ (∀ c∈cs,okCo c) then 3 else if ¬ ((∀ p∈ps,okPr cs.length p)∧ps.Nodup) then 2 else if ¬ NB (pG ps) cs.length then 16 else 0
variable {d:Int}{cs:List CoD}{ps:List (List Int)}
def chk_a(h:¬ (1≤cs.length∧cs.length≤10∧ps.length≤40)):chkE d cs ps=6:=by unfold chkE;rw[if_pos h]
def chk_b(a:1≤cs.length∧cs.length≤10∧ps.length≤40)(h:¬ (1≤d∧d≤100)):chkE d cs ps=3:=by unfold chkE;rw[if_neg fun k=>k a,if_pos h]
def chk_c(a:1≤cs.length∧cs.length≤10∧ps.length≤40)(b:1≤d∧d≤100)(h:¬ (∀ c∈cs,okCo c)):chkE d cs ps=3:=by unfold chkE;rw[if_neg fun k=>k a,if_neg fun k=>k b,if_pos h]
def chk_d(a:1≤cs.length∧cs.length≤10∧ps.length≤40)(b:1≤d∧d≤100)(c:∀ c∈cs,okCo c)(h:¬ ((∀ p∈ps,okPr cs.length p)∧ps.Nodup)):chkE d cs ps=2:=by unfold chkE;rw[if_neg fun k=>k a,if_neg fun k=>k b,if_neg fun k=>k c,if_pos h]
def chk_e(a:1≤cs.length∧cs.length≤10∧ps.length≤40)(b:1≤d∧d≤100)(c:∀ c∈cs,okCo c)(e:(∀ p∈ps,okPr cs.length p)∧ps.Nodup)(h:¬ NB (pG ps) cs.length):chkE d cs ps=16:=by unfold chkE;rw[if_neg fun k=>k a,if_neg fun k=>k b,if_neg fun k=>k c,if_neg fun k=>k e,if_pos h]
def z2f:chkE d cs ps=0↔VG d cs ps:=by
 constructor
 ·intro h;by_cases a:1≤cs.length∧cs.length≤10∧ps.length≤40
  ·by_cases b:1≤d∧d≤100
   ·by_cases c:∀ c∈cs,okCo c
    ·by_cases e:(∀ p∈ps,okPr cs.length p)∧ps.Nodup
     ·by_cases f:NB (pG ps) cs.length
      ·exact⟨a.1,a.2.1,a.2.2,b.1,b.2,c,e.1,e.2,f⟩
      ·rw[chk_e a b c e f] at h;cases h
     ·rw[chk_d a b c e] at h;cases h
    ·rw[chk_c a b c] at h;cases h
   ·rw[chk_b a b] at h;cases h
  ·rw[chk_a a] at h;cases h
 ·intro h;unfold chkE;rw[if_neg fun k=>k ⟨h.n1,h.n10,h.p40⟩,if_neg fun k=>k ⟨h.d1,h.d100⟩,if_neg fun k=>k h.co,if_neg fun k=>k ⟨h.pr,h.nd⟩,if_neg fun k=>k h.nb]
end Ox.Gl
namespace Go.Proofs.YtjjkdjbbkagclaaGreatDoor
open Go Go.RowKit Ox Ox.Gl
attribute [local irreducible] JC JL JK JW
def fn52(d:Int)(cs:List CoD)(ps:List (List Int))(c:Int):Ox.Fn Tryz.prog 52 (.acons (vG d cs ps) (.acons (vI c) .anil)) (·=vB (decide (0≤c∧c<cs.length))):=by refine Ox.Fn.intro xok Tryz.func52 rfl Tryz.call52 (yyd rfl) (fun E M0 up=>?_);refine z7 ?_;refine zK1 ?_;refine⟨.inl rfl,_,_,rfl,trivial,?_⟩;by_cases h:0≤c<;>simp[h]
def fn32(d:Int)(cs:List CoD)(ps:List (List Int))(a b:Int):Ox.Fn Tryz.prog 32 (.acons (vG d cs ps) (.acons (vI a) (.acons (vI b) .anil))) (·=vB (decide ([a,b]∈ps))):=by
 refine Ox.Fn.intro xok Tryz.func32 rfl Tryz.call32 (yyd rfl) (fun E M0 up=>?_);refine z7 ?_;refine JK.lenOf 0 rfl fun hlen=>?_;have hpl:ps.length≤9223372036854775807:=hlen.2.2.1.1;clear hlen;refine zK1 ?_;refine JK.loop (fun i:Nat=>⟨[(1,vI a),(2,vI b),(3,.lf (.optr 0 [])),(7,vI (i:Int))],[(0,.cell glT (vG d cs ps))],1⟩) (fun i=>i≤ps.length∧∀ j,j<i→ps.getD j prT.dflt≠[a,b]) (fun i=>ps.length-i) 0 ⟨yyu _,fun j h=>absurd h (Nat.not_lt_zero j)⟩ (by exact zJ) fun i ⟨hi,hn⟩=>?_;refine zK1 ?_;refine z5 rfl (fun hc=>?_) (fun hc=>?_)
 ·replace hc:=zC hc;have hi':i<ps.length:=by omega
  have hz:ps.getD (Int.toNat (i:Int)) prT.dflt=ps.getD i prT.dflt:=rfl;refine zK1 ?_;rw[hz];refine z5 rfl (fun hd=>?_) (fun hd=>?_)
  ·have he:ps.getD i prT.dflt=[a,b]:=v8.1 hd;refine zK1 ?_;refine⟨.inl rfl,_,_,rfl,trivial,?_⟩;rw[decide_eq_true];rw[← he,j7 ps hi'];exact yy5 hi'
  ·refine zK1 ?_;refine⟨i+1,by exact zJ,⟨by omega,fun j hj=>?_⟩,by omega⟩;rcases Nat.lt_succ_iff_lt_or_eq.1 hj with h|rfl
   ·exact hn j h
   ·intro e;have hd:prT.eqB (ps.getD j prT.dflt) [a,b]=false:=hd;rw[e,v8.2 rfl] at hd;cases hd
 ·replace hc:=zC hc;refine zK1 ?_;refine⟨.inl rfl,_,_,rfl,trivial,?_⟩;rw[decide_eq_false];intro h;obtain⟨j,h1,h2⟩:=yxt.1 h;exact hn j (by omega) (by rw[j7 ps h1];exact h2)
abbrev LB53(n s:Nat):List (Nat×AV):=[(1,.lf (.optr 0 [])),(3,vI (n:Int)),(4,.lf (.osl 1)),(6,vI (s:Int))]
def fn53(d:Int)(cs:List CoD)(ps:List (List Int))(hn:cs.length≤15)(h2:∀ p∈ps,p.length=2)(hp:∀ p∈ps,okPr cs.length p) :
  Ox.Fn Tryz.prog 53 (.acons (vG d cs ps) .anil) (·=vB ((List.range cs.length).any fun i=>onB (pG ps) cs.length cs.length i)):=by
 refine Ox.Fn.intro xok Tryz.func53 rfl Tryz.call53 (yyd rfl) (fun E M0 up=>?_);refine z7 ?_;have c32:∀ i k:Nat,Ox.Fn Tryz.prog 32 (.acons (vG d cs ps) (.acons (vI (i:Int)) (.acons (vI (k:Int)) .anil))) (·=vB (pG ps i k)):=fun i k=>by have:=fn32 d cs ps (i:Int) (k:Int);rw[pr_mem h2 hp] at this;exact this
 generalize hP:pG ps=P at c32;clear h2 hp;obtain⟨n,hcn⟩:∃ n,cs.length=n:=⟨_,rfl⟩;have hz0:oneL n 0=List.replicate (Int.toNat (n:Int)) (Ty.int .i64).dflt:=by rw[Int.toNat_natCast];exact z6o n
 have hz1:∀ on,innL P n on 0 0=List.replicate (Int.toNat (n:Int)) (Ty.int .i64).dflt:=fun on=>by rw[Int.toNat_natCast];exact z7r
 have hone:oneL n n=onL P n 0:=oneL_all;refine zK1 ?_;rw[hcn];rw[hcn] at hn;refine JK.loop (fun i:Nat=>⟨[(1,.lf (.optr 0 [])),(3,vI (n:Int)),(4,.lf (.osl 1)),(5,vI (i:Int))],[(0,.cell glT (vG d cs ps)),(1,.sl 3 (.int .i64) (oneL n i))],2⟩) (fun i=>i≤n) (fun i=>n-i) 0 (yyu _) (by rw[hz0];exact zJ) fun i hi=>?_;have hset:=oneL_set (n:=n) (i:=i);have hlen:=oneL_len n i;have hfin:i=n→oneL n i=onL P n 0:=fun e=>by rw[e,hone]
 generalize oneL n i=R at hset hlen hfin ⊢;refine zK1 ?_;refine z5 rfl (fun hc=>?_) (fun hc=>?_)
 ·replace hc:=zC hc;refine zK1 ?_;refine⟨i+1,?_,by omega,by omega⟩;rw[← hset];exact zJ
 replace hc:=zC hc;rw[hfin (by omega)];clear hset hlen hfin hi hc;refine zK1 ?_;refine JK.loop (fun s:Nat=>⟨LB53 n s,[(0,.cell glT (vG d cs ps)),(1,.sl 3 (.int .i64) (onL P n s))],2⟩) (fun s=>s≤n) (fun s=>n-s) 0 (yyu _) (by exact zJ) fun s hs=>?_;have hol:=z6q (P:=P) (n:=n) (k:=s);have hog:=fun j h=>z6r (P:=P) (n:=n) (k:=s) (j:=j) h;have hall:=innL_all (P:=P) (n:=n) (k:=s);have hfin:s=n→onL P n s=onL P n n:=fun e=>by rw[e]
 generalize onL P n s=A at hol hog hfin ⊢;generalize hA1:onL P n (s+1)=A' at hall;generalize onB P n s=on at hog hall;refine zK1 ?_;refine z5 rfl (fun hc=>?_) (fun hc=>?_)
 ·replace hc:=zC hc;refine zK1 ?_;refine JK.loop (fun i:Nat=>⟨LB53 n s++[(7,.lf (.osl 2)),(8,vI (i:Int))],[(0,.cell glT (vG d cs ps)),(1,.sl 3 (.int .i64) A),(2,.sl 3 (.int .i64) (innL P n on i 0))],3⟩) (fun i=>i≤n) (fun i=>n-i) 0 (yyu _) (by rw[hz1];exact zJ) fun i hi=>?_;have hrow:=innL_row (P:=P) (n:=n) (on:=on) (i:=i);have hfin2:i=n→innL P n on i 0=A':=fun e=>by rw[e];exact hall
  have hil0:=z3j (P:=P) (n:=n) (on:=on) (i:=i) (m:=0);generalize hI0:innL P n on i 0=I0 at hfin2 hil0 ⊢;refine zK1 ?_;refine z5 rfl (fun hd=>?_) (fun hd=>?_)
  ·replace hd:=zC hd;have hi':i<n:=by omega
   refine zK1 ?_;refine JK.loop (fun k:Nat=>⟨LB53 n s++[(7,.lf (.osl 2)),(8,vI (i:Int)),(9,vI (k:Int))],[(0,.cell glT (vG d cs ps)),(1,.sl 3 (.int .i64) A),(2,.sl 3 (.int .i64) (innL P n on i k))],3⟩) (fun k=>k≤n) (fun k=>n-k) 0 (yyu _) (by rw[hI0];exact zJ) fun k hk=>?_;have hyes:=innL_yes (P:=P) (n:=n) (on:=on) (i:=i) (m:=k);have hno:=innL_no (P:=P) (n:=n) (on:=on) (i:=i) (m:=k);have hil:=z3j (P:=P) (n:=n) (on:=on) (i:=i) (m:=k);have hkf:k=n→innL P n on i k=innL P n on (i+1) 0:=fun e=>by rw[e,hrow]
   have hv:(bif A.getD (Int.toNat (i:Int)) (Ty.int .i64).dflt==1 then P i k else false)=decide (on i=true∧P i k=true):=by rw[Int.toNat_natCast,show A.getD i (Ty.int .i64).dflt=_ from hog i hi'];cases on i<;>simp
   generalize innL P n on i k=T at hyes hno hil hkf ⊢;have c32:=c32 i k;refine zK1 ?_;refine z5 rfl (fun he=>?_) (fun he=>?_)
   ·replace he:=zC he
    (repeat (first|refine zs rfl ?_|refine zg rfl rfl rfl ?_|refine zd ?_|refine k9 ?_|refine k8 ?_|refine zeq q5x rfl rfl rfl ?_|refine q9k q5x rfl rfl rfl rfl ?_|refine q9j q5x rfl rfl rfl rfl ?_|refine zc rfl (c32) rfl rfl ?_|refine ze rfl (c32) rfl ?_|refine zk rfl rfl (fun _=>c32) rfl rfl ?_))
    rw[hv];refine z5 rfl (fun hf=>?_) (fun hf=>?_)
    ·have hyes:=hyes (of_decide_eq_true hf);refine zK1 ?_;refine⟨k+1,?_,by omega,by omega⟩;rw[← hyes];exact zJ
    ·have hno:=hno (of_decide_eq_false hf);refine zK1 ?_;refine⟨k+1,?_,by omega,by omega⟩;rw[hno];exact zJ
   ·replace he:=zC he;rw[hkf (by omega)];refine zK1 ?_;exact⟨i+1,by exact zJ,by omega,by omega⟩
  ·replace hd:=zC hd;rw[hfin2 (by omega)];refine zK1 ?_;refine⟨s+1,?_,by omega,by omega⟩;rw[hA1];exact zJ
 ·replace hc:=zC hc;rw[hfin (by omega)];clear hol hog hall hfin hs hc c32 hone hz1 hz0;have hol:=z6q (P:=P) (n:=n) (k:=n);have hog:=fun j h=>z6r (P:=P) (n:=n) (k:=n) (j:=j) h;generalize onL P n n=A at hol hog ⊢;generalize onB P n n=on at hog;refine zK1 ?_;refine JK.loop (fun i:Nat=>⟨[(3,vI (n:Int)),(4,.lf (.osl 1)),(10,vI (i:Int))],[(1,.sl 3 (.int .i64) A)],2⟩) (fun i=>i≤n∧∀ j,j<i→on j=false) (fun i=>n-i) 0 ⟨yyu _,fun j h=>absurd h (Nat.not_lt_zero j)⟩ (by exact zJ) fun i ⟨hi,hno⟩=>?_;refine zK1 ?_;refine z5 rfl (fun hd=>?_) (fun hd=>?_)
  ·replace hd:=zC hd;have hi':i<n:=by omega
   have hv:(A.getD (Int.toNat (i:Int)) (Ty.int .i64).dflt==1)=on i:=by rw[Int.toNat_natCast,show A.getD i (Ty.int .i64).dflt=_ from hog i hi'];cases on i<;>simp
   refine zK1 ?_;rw[hv];refine z5 rfl (fun he=>?_) (fun he=>?_)
   ·refine zK1 ?_;refine⟨.inl rfl,_,_,rfl,trivial,?_⟩;rw[List.any_eq_true.2 ⟨i,yxc.2 hi',he⟩]
   ·refine zK1 ?_;refine⟨i+1,by exact zJ,⟨by omega,fun j hj=>?_⟩,by omega⟩;rcases Nat.lt_succ_iff_lt_or_eq.1 hj with h|rfl
    ·exact hno j h
    ·exact he
  ·replace hd:=zC hd;refine zK1 ?_;refine⟨.inl rfl,_,_,rfl,trivial,?_⟩;refine congrArg vB (Eq.symm ?_);rw[← Bool.not_eq_true,List.any_eq_true];rintro⟨j,h1,h2⟩;rw[hno j (by have:=yxc.1 h1;omega)] at h2;cases h2
def fn23(d:Int)(cs:List CoD)(ps:List (List Int)):Ox.Fn Tryz.prog 23 (.acons (vG d cs ps) .anil) (·=vI (chkE d cs ps)):=by
 refine Ox.Fn.intro xok Tryz.func23 rfl Tryz.call23 (yyd rfl) (fun E M0 up=>?_);refine z7 ?_;refine JK.lenOf 0 rfl fun hlen=>?_;have h2:∀ p∈ps,p.length=2:=fun p h=>by obtain⟨i,hi,e⟩:=yxt.1 h;have h2:(ps.get ⟨i,hi⟩).length=2:=(hlen.2.2.1.2 i hi).1;rw[← e];exact h2
 have hpl:ps.length≤9223372036854775807:=hlen.2.2.1.1;have hcl:cs.length≤9223372036854775807:=hlen.2.1.1;clear hlen;have c52:=fn52 d cs ps;have c53:=fun k=>fn53 d cs ps k h2;refine zK1 ?_;refine z5 rfl (fun hc=>?_) (fun hc=>?_)
 ·refine zK1 ?_;refine⟨.inl rfl,_,_,rfl,trivial,?_⟩;refine congrArg vI (chk_a fun h=>?_).symm;by_cases c1:(cs.length:Int)<1<;>by_cases c2:(cs.length:Int)>10<;>simp[c1,c2] at hc<;>omega
 have hb:1≤cs.length∧cs.length≤10∧ps.length≤40:=by by_cases c1:(cs.length:Int)<1<;>by_cases c2:(cs.length:Int)>10<;>simp[c1,c2] at hc<;>omega
 clear hc;have hA:=hb;obtain⟨b1,b2,b3⟩:=hb;refine zK1 ?_;refine z5 rfl (fun hc=>?_) (fun hc=>?_)
 ·refine zK1 ?_;refine⟨.inl rfl,_,_,rfl,trivial,?_⟩;refine congrArg vI (chk_b hA fun h=>?_).symm;by_cases c1:d<1<;>simp[c1] at hc<;>omega
 have hb:1≤d∧d≤100:=by by_cases c1:d<1<;>simp[c1] at hc<;>omega
 clear hc;have hB':=hb;obtain⟨b4,b5⟩:=hb;refine zK1 ?_;refine JK.loop (fun i:Nat=>⟨[(1,.lf (.optr 0 [])),(3,vI (i:Int))],[(0,.cell glT (vG d cs ps))],1⟩) (fun i=>i≤cs.length∧∀ j,j<i→okCo (cs.getD j coZ)) (fun i=>cs.length-i) 0 ⟨yyu _,fun j h=>absurd h (Nat.not_lt_zero j)⟩ (by exact zJ) fun i ⟨hi,hn⟩=>?_;refine zK1 ?_;refine z5 rfl (fun hc=>?_) (fun hc=>?_)
 ·replace hc:=zC hc;have hi':i<cs.length:=by omega
  have hz:cs.getD (Int.toNat (i:Int)) coT.dflt=cs.getD i coZ:=rfl;have hin:cs.getD i coZ∈cs:=by rw[yyp,yys hi'];exact yy5 hi'
  refine zK12 ?_;rw[hz];have hgo:=fun j (h:j<i+1)=>(Nat.lt_succ_iff_lt_or_eq.1 h);generalize hq:cs.getD i coZ=q at hin ⊢;obtain⟨⟨u,v,_⟩,x,y,_⟩:=q;refine zK1 ?_;refine z5 rfl (fun hd=>?_) (fun hd=>?_)
  ·refine zK1 ?_;refine⟨.inl rfl,_,_,rfl,trivial,?_⟩;refine congrArg vI (chk_c hA hB' fun h=>?_).symm;obtain⟨⟨k1,k2,k3⟩,k4,k5,k6⟩:=h _ hin;replace k1:0≤u:=k1;replace k2:u≤v:=k2;replace k3:v≤1000:=k3;replace k4:0≤x:=k4;replace k5:x≤y:=k5;replace k6:y≤1000:=k6;replace hd:=zC hd;omega
  ·have hok:okCo ((u,v,()),x,y,()):=by show(0≤u∧u≤v∧v≤1000)∧0≤x∧x≤y∧y≤1000;replace hd:=zC hd;omega
   refine zK1 ?_;refine⟨i+1,by exact zJ,⟨by omega,fun j hj=>?_⟩,by omega⟩;rcases hgo j hj with h|rfl
   ·exact hn j h
   ·rw[hq];exact hok
 replace hc:=zC hc;have hco:∀ c∈cs,okCo c:=fun c h=>by obtain⟨j,h1,h3⟩:=yxt.1 h;have:=hn j (by omega);rw[yyp,yys h1] at this;rw[← h3];exact this
 clear hn hc hi;refine zK1 ?_;refine JK.loop (fun i:Nat=>⟨[(1,.lf (.optr 0 [])),(5,vI (i:Int))],[(0,.cell glT (vG d cs ps))],1⟩) (fun i=>i≤ps.length∧(∀ p∈ps.take i,okPr cs.length p)∧(ps.take i).Nodup) (fun i=>ps.length-i) 0 ⟨yyu _,by simp,by simp⟩ (by exact zJ) fun i ⟨hi,hn1,hn2⟩=>?_;refine zK1 ?_;refine z5 rfl (fun hc=>?_) (fun hc=>?_)
 ·replace hc:=zC hc;have hi':i<ps.length:=by omega
  have hz:ps.getD (Int.toNat (i:Int)) prT.dflt=ps.getD i prT.dflt:=rfl;have hin:ps.getD i prT.dflt∈ps:=by rw[j7 ps hi'];exact yy5 hi'
  have hts:ps.take (i+1)=ps.take i++[ps.getD i prT.dflt]:=by rw[yx1 hi',j7 ps hi']
  have hsubl:(ps.take (i+1)).Sublist ps:=List.take_sublist _ _;have hget:=fun k (h:k<i)=>show ps.getD k prT.dflt∈ps.take i by rw[j7 ps (by omega),List.mem_take_iff_getElem];exact⟨k,by omega,rfl⟩
  have hgen:∀ x∈ps.take i,∃ k,k<i∧ps.getD k prT.dflt=x:=fun x h=>by rw[List.mem_take_iff_getElem] at h;obtain⟨q,h1,h2⟩:=h;exact⟨q,by omega,by rw[j7 ps (by omega)];exact h2⟩
  generalize hp:ps.getD i prT.dflt=p at hin hts hz;refine zK12 ?_;rw[hz]
  (repeat (first|refine zs rfl ?_|refine zg rfl rfl rfl ?_|refine zd ?_|refine k9 ?_|refine k8 ?_|refine zeq q5x rfl rfl rfl ?_|refine q9k q5x rfl rfl rfl rfl ?_|refine q9j q5x rfl rfl rfl rfl ?_|refine zc rfl (c52 (p.getD (Int.toNat 0) (Ty.int .i64).dflt)) rfl rfl ?_|refine ze rfl (c52 (p.getD (Int.toNat 0) (Ty.int .i64).dflt)) rfl ?_|refine zk rfl rfl (fun _=>c52 (p.getD (Int.toNat 0) (Ty.int .i64).dflt)) rfl rfl ?_|refine zc rfl (c52 (p.getD (Int.toNat 1) (Ty.int .i64).dflt)) rfl rfl ?_|refine ze rfl (c52 (p.getD (Int.toNat 1) (Ty.int .i64).dflt)) rfl ?_|refine zk rfl rfl (fun _=>c52 (p.getD (Int.toNat 1) (Ty.int .i64).dflt)) rfl rfl ?_))
  have z00:p.getD (Int.toNat 0) (Ty.int .i64).dflt=z0 p:=rfl;have z11:p.getD (Int.toNat 1) (Ty.int .i64).dflt=z1 p:=rfl;rw[z00,z11];refine z5 rfl (fun hd=>?_) (fun hd=>?_)
  ·refine zK1 ?_;refine⟨.inl rfl,_,_,rfl,trivial,?_⟩;refine congrArg vI (chk_d hA hB' hco fun h=>?_).symm;obtain⟨k1,k2,k3⟩:=h.1 p hin;simp[k1,k2,k3] at hd
  ·have hok:okPr cs.length p:=by
    unfold okPr;generalize z0 p=a at hd ⊢;generalize z1 p=b at hd ⊢;by_cases c1:0≤a∧a<cs.length
    ·by_cases c2:0≤b∧b<cs.length
     ·simp[c1,c2] at hd;exact⟨c1,c2,hd⟩
     ·simp[c1,c2] at hd
    ·simp[c1] at hd
   clear hd;refine zK1 ?_;refine JK.loop (fun k:Nat=>⟨[(1,.lf (.optr 0 [])),(5,vI (i:Int)),(6,.lf (.optr 1 [])),(7,vI (k:Int))],[(0,.cell glT (vG d cs ps)),(1,.cell prT (vPr p))],2⟩) (fun k=>k≤i∧∀ j,j<k→ps.getD j prT.dflt≠p) (fun k=>i-k) 0 ⟨yyu _,fun j h=>absurd h (Nat.not_lt_zero j)⟩ (by exact zJ) fun k ⟨hk,hm⟩=>?_;refine zK1 ?_;refine z5 rfl (fun he=>?_) (fun he=>?_)
   ·replace he:=zC he;have hk':k<i:=by omega
    have hz2:ps.getD (Int.toNat (k:Int)) prT.dflt=ps.getD k prT.dflt:=rfl;refine zK12 ?_;refine v9 xk (Tryz.f23.body.getD .skip) ⟨[(1,.lf (.optr 0 [])),(5,vI (i:Int)),(6,.lf (.optr 1 [])),(7,vI (k:Int)),(122,vB (prT.eqB (ps.getD k prT.dflt) p))],[(0,.cell glT (vG d cs ps)),(1,.cell prT (vPr p))],2⟩ rfl 7 rfl ?_ ?_
    ·(refine q7 0 xk rfl rfl (q7 2 xk rfl rfl (q8 1 xk rfl rfl (q8 3 xk rfl rfl (q8 4 xk rfl rfl (q8 5 xk rfl rfl (zU 6 xk rfl rfl ?_))))));refine zK18 ?_;refine q9 ?_;refine w7 xk ?_ ?_;exact zS;(exact zJ))
    refine z5 rfl (fun hd=>?_) (fun hd=>?_)
    ·refine zK1 ?_;refine⟨.inl rfl,_,_,rfl,trivial,?_⟩;refine congrArg vI (chk_d hA hB' hco fun h=>?_).symm;have hnd:=h.2.sublist hsubl;rw[hts,List.nodup_append] at hnd;exact hnd.2.2 _ (hget k hk') p yyj (v8.1 hd)
    ·refine zK1 ?_;refine⟨k+1,by exact zJ,⟨by omega,fun j hj=>?_⟩,by omega⟩;rcases Nat.lt_succ_iff_lt_or_eq.1 hj with h|rfl
     ·exact hm j h
     ·intro e;rw[e,v8.2 rfl] at hd;cases hd
   ·replace he:=zC he;have hki:k=i:=by omega
    refine zK1 ?_;refine⟨i+1,by exact zJ,⟨by omega,?_,?_⟩,by omega⟩
    ·rw[hts];intro x hx;rcases yxd.1 hx with h|h
     ·exact hn1 x h
     ·rw[yyv.1 h];exact hok
    ·rw[hts,List.nodup_append];refine⟨hn2,by simp,fun a ha b hb=>?_⟩;rw[yyv.1 hb];obtain⟨j,j1,j2⟩:=hgen a ha;rw[← j2];exact hm j (by omega)
 ·replace hc:=zC hc;have hall:ps.take i=ps:=by rw[show i=ps.length by omega,yx5]
  rw[hall] at hn1 hn2;have c53:=c53 (by omega) hn1;generalize hB:((List.range cs.length).any fun i=>onB (pG ps) cs.length cs.length i)=B at c53
  (repeat (first|refine zs rfl ?_|refine zg rfl rfl rfl ?_|refine zd ?_|refine k9 ?_|refine k8 ?_|refine zeq q5x rfl rfl rfl ?_|refine q9k q5x rfl rfl rfl rfl ?_|refine q9j q5x rfl rfl rfl rfl ?_|refine zc rfl (c53) rfl rfl ?_|refine ze rfl (c53) rfl ?_|refine zk rfl rfl (fun _=>c53) rfl rfl ?_))
  refine z5 rfl (fun hd=>?_) (fun hd=>?_)
  ·refine zK1 ?_;refine⟨.inl rfl,_,_,rfl,trivial,?_⟩;refine congrArg vI (chk_e hA hB' hco ⟨hn1,hn2⟩ fun h=>?_).symm;rw[← hB,List.any_eq_true] at hd;obtain⟨j,j1,j2⟩:=hd;rw[on_NB h] at j2;cases j2
  ·refine zK1 ?_;refine⟨.inl rfl,_,_,rfl,trivial,?_⟩;refine congrArg vI (z2f.2 ⟨b1,b2,b3,b4,b5,hco,hn1,hn2,NB_of_on fun j hj=>?_⟩).symm;cases hj2:onB (pG ps) cs.length cs.length j
   ·rfl
   ·rw[← hB] at hd;rw[List.any_eq_true.2 ⟨j,yxc.2 hj,hj2⟩] at hd;cases hd
variable{cs:List CoD}
def fn23v{ps:List (List Int)}(h:VG d cs ps):Ox.Fn Tryz.prog 23 (.acons (vG d cs ps) .anil) (·=vI 0):=by have:=fn23 d cs ps;rw[z2f.2 h] at this;exact this
def fn5(d:Int)(cs:List CoD)(ps:List (List Int)):∃ b,Ox.Fn Tryz.prog 5 (.acons (vG d cs ps) .anil) (·=vB b)∧(b=true→VG d cs ps):=by
 generalize hE:chkE d cs ps=e;refine⟨decide ((cs.length:Int)≤15∧(ps.length:Int)≤60∧e=0),?_,?_⟩
 ·refine Ox.Fn.intro xok Tryz.func5 rfl Tryz.call5 (yyd rfl) (fun E M0 up=>?_);refine z7 ?_;have c23:=fn23 d cs ps;rw[hE] at c23
  (repeat (first|refine zs rfl ?_|refine zg rfl rfl rfl ?_|refine zd ?_|refine k9 ?_|refine k8 ?_|refine zeq q5x rfl rfl rfl ?_|refine q9k q5x rfl rfl rfl rfl ?_|refine q9j q5x rfl rfl rfl rfl ?_|refine zc rfl (c23) rfl rfl ?_|refine ze rfl (c23) rfl ?_|refine zk rfl rfl (fun _=>c23) rfl rfl ?_))
  refine⟨.inl rfl,_,_,rfl,trivial,?_⟩;by_cases c1:(cs.length:Int)≤15
  ·by_cases c2:(ps.length:Int)≤60
   ·by_cases c3:e=0<;>simp[c1,c2,c3]
   ·simp[c1,c2]
  ·simp[c1]
 ·intro h;rw[← z2f,hE];exact(of_decide_eq_true h).2.2
def fn71{ps:List (List Int)}(h:VG d cs ps):Ox.Fn Tryz.prog 71 (.acons (vG d cs ps) .anil) (·=vF d cs ps (winL d cs) (befL ps)):=by
 refine Ox.Fn.intro xok Tryz.func71 rfl Tryz.call71 (yyd rfl) (fun E M0 up=>?_);refine z7 ?_;have hn1:=h.n1;have hn10:=h.n10;have hp40:=h.p40;have hd1:=h.d1;have hd100:=h.d100;refine zK0 ?_;refine JK.loop (fun i:Nat=>⟨[(1,.lf (.optr 0 [])),(3,.lf (.optr 1 [])),(12,.val (.slice coT) cs),(13,vI cs.length),(14,vI (i:Int))],[(0,.cell glT (vG d cs ps)),(1,.cell sfT (.val sfT (mkF d cs ps (winS d cs.length cs i) (List.replicate 10 0))))],2⟩) (fun i=>i≤cs.length) (fun i=>cs.length-i) 0 (yyu _) (by exact zJ) fun i hi=>?_;have hsn:winS d cs.length cs (i+1)=(winS d cs.length cs i).set i (winD d cs.length (cs.getD i coZ)):=rfl;have hlen:=q5y (d:=d) (cs:=cs) cs.length i;have hok:=fun q:i<cs.length=>q37 h q;have hfin:i=cs.length→winS d cs.length cs i=winL d cs:=fun e=>by rw[e];rfl
 generalize winS d cs.length cs i=W at hsn hlen hfin ⊢;refine zK0 ?_;refine z5 rfl (fun hc=>?_) (fun hc=>?_)
 ·replace hc:=zC hc;have hi':i<cs.length:=by omega
  have hz:cs.getD (Int.toNat (i:Int)) coT.dflt=cs.getD i coZ:=rfl;obtain⟨⟨k1,k2,k3⟩,k4,k5,k6⟩:=hok hi';refine zK3 ?_;rw[hz];generalize cs.getD i coZ=c at hsn k1 k2 k3 k4 k5 k6 ⊢;obtain⟨⟨u,v,_⟩,x,y,_⟩:=c;replace k1:0≤u:=k1;replace k2:u≤v:=k2;replace k3:v≤1000:=k3;replace k4:0≤x:=k4;replace k5:x≤y:=k5;replace k6:y≤1000:=k6;have c1:=fn125 (y-v) d (by omega) (by omega);have c2:=fn125 (u-x) d (by omega) (by omega);have hw:winD d cs.length ((u,v,()),x,y,())=(max 0 (0-((y-v) / d)),min ((cs.length:Int)-1) ((u-x) / d),()):=by rw[Int.zero_sub];rfl
  rw[hw] at hsn;have b1:=div_bd (y-v) d (by omega) (by omega);generalize (y-v) / d=q1 at c1 hsn b1;generalize (u-x) / d=q2 at c2 hsn;refine q0z xk (Tryz.f71.body.getD .skip) ⟨[(1,.lf (.optr 0 [])),(3,.lf (.optr 1 [])),(12,.val (.slice coT) cs),(13,vI cs.length),(14,vI (i:Int))],[(0,.cell glT (vG d cs ps)),(1,.cell sfT (.val sfT (mkF d cs ps (W.set i (max 0 (0-q1),min ((cs.length:Int)-1) q2,())) (List.replicate 10 0))))],2⟩ rfl 32 rfl ?_ ?_
  ·(refine q7 0 xk rfl rfl (q7 1 xk rfl rfl (q7 2 xk rfl rfl (q7 4 xk rfl rfl (q7 5 xk rfl rfl (q7 8 xk rfl rfl (q7 13 xk rfl rfl (q7 17 xk rfl rfl (q7 18 xk rfl rfl (q7 20 xk rfl rfl (q7 23 xk rfl rfl (q7 28 xk rfl rfl (q7 29 xk rfl rfl (q8 3 xk rfl rfl (q8 6 xk rfl rfl (q8 7 xk rfl rfl (q8 9 xk rfl rfl (q8 14 xk rfl rfl (q8 15 xk rfl rfl (q8 16 xk rfl rfl (q8 19 xk rfl rfl (q8 21 xk rfl rfl (q8 22 xk rfl rfl (q8 24 xk rfl rfl (zU 10 xk rfl rfl ?_))))))))))))))))))))))));refine zK19 ?_;refine q9 ?_;refine q7 11 xk rfl rfl (q7 12 xk rfl rfl (zU 25 xk rfl rfl ?_));refine zK19 ?_;refine q9 ?_;refine q8 26 xk rfl rfl (zU 27 xk rfl rfl ?_);refine zK9 ?_;refine q9 ?_;refine q8 30 xk rfl rfl (zU 31 xk rfl rfl ?_);refine zK2 ?_;refine q9 ?_;refine w7 xk StF.nil ?_;(exact zJ))
  rw[← hsn];refine zK0 ?_;exact⟨i+1,by exact zJ,by omega,by omega⟩
 ·replace hc:=zC hc;rw[hfin (by omega)];generalize winL d cs=W;have hpr:=h.pr;refine zK0 ?_;refine JK.loop (fun i:Nat=>⟨[(1,.lf (.optr 0 [])),(3,.lf (.optr 1 [])),(56,.val (.slice prT) ps),(57,vI ps.length),(58,vI (i:Int))],[(0,.cell glT (vG d cs ps)),(1,.cell sfT (.val sfT (mkF d cs ps W (befL (ps.take i)))))],2⟩) (fun i=>i≤ps.length) (fun i=>ps.length-i) 0 (yyu _) (by exact zJ) fun i hi=>?_;have hsn:=fun q:i<ps.length=>bef_snoc ps q (z:=prT.dflt) (j7 ps q _);have hbl:=z0v h i;have hbv:=z2g h i;have hfin:i=ps.length→befL (ps.take i)=befL ps:=fun e=>by rw[e,yx5]
  generalize befL (ps.take i)=B at hsn hbl hbv hfin ⊢;refine zK0 ?_;refine z5 rfl (fun hc=>?_) (fun hc=>?_)
  ·replace hc:=zC hc;have hi':i<ps.length:=by omega
   have hz:ps.getD (Int.toNat (i:Int)) prT.dflt=ps.getD i prT.dflt:=rfl;replace hsn:=hsn hi';have hp:=hpr (ps.getD i prT.dflt) (by rw[j7 ps hi'];exact yy5 hi');refine zK3 ?_;rw[hz];generalize ps.getD i prT.dflt=p at hsn hp ⊢;obtain⟨⟨k1,k2⟩,⟨k3,k4⟩,_⟩:=hp;have e0:p.getD (Int.toNat 0) (Ty.int .i64).dflt=z0 p:=rfl;have e1:p.getD (Int.toNat 1) (Ty.int .i64).dflt=z1 p:=rfl;have hq:befS B p=B.set (z1 p).toNat (((B.getD (z1 p).toNat 0).toNat ||| (1*2 ^ (z0 p).toNat:Int).toNat:Nat):Int):=rfl;rw[hq] at hsn;have hb2:=hbv (z1 p).toNat;have hpw:=q6n (n:=(z0 p).toNat) (by omega);rw[← e0] at k1 k2 hpw hsn;rw[← e1] at k3 k4 hb2 hsn;clear hq e0 e1 hbv;refine q0z xk (Tryz.f71.body.getD .skip) ⟨[(1,.lf (.optr 0 [])),(3,.lf (.optr 1 [])),(56,.val (.slice prT) ps),(57,vI ps.length),(58,vI (i:Int))],[(0,.cell glT (vG d cs ps)),(1,.cell sfT (.val sfT (mkF d cs ps W (befL (ps.take (i+1))))))],2⟩ rfl 15 rfl ?_ ?_
   ·rw[hsn]
    (refine q7 0 xk rfl rfl (q7 1 xk rfl rfl (q7 3 xk rfl rfl (q7 4 xk rfl rfl (q7 7 xk rfl rfl (q7 11 xk rfl rfl (q7 12 xk rfl rfl (q8 2 xk rfl rfl (q8 5 xk rfl rfl (q8 6 xk rfl rfl (q8 8 xk rfl rfl (q8 9 xk rfl rfl (q8 10 xk rfl rfl (q8 13 xk rfl rfl (zU 14 xk rfl rfl ?_))))))))))))));exact zB3)
   refine zK0 ?_;exact⟨i+1,by exact zJ,by omega,by omega⟩
  ·replace hc:=zC hc;rw[hfin (by omega)]
   (refine q9h [1] [3] rfl ?_)
   refine zK0 ?_;refine⟨.inl rfl,_,_,rfl,trivial,?_⟩;rfl
def eqBf:EqT Tryz.prog bfT 85:=.of (by decide +kernel)
def fn120{ps:List (List Int)}(h:VG d cs ps)(W:List RgD):Ox.Fn Tryz.prog 120 (.acons (vF d cs ps W (befL ps)) .anil) (·=vB false):=by
 refine Ox.Fn.intro xok Tryz.func120 rfl Tryz.call120 (yyd rfl) (fun E M0 up=>?_);refine z7 ?_;have hn10:=h.n10;have hbv:=h.bef;have hbt:=h.bf_1024;have hb10:=h.bef_len;have c84:=fn84 d cs ps W (befL ps) hn10;have hpl:=fun l=>peel_lt (left:=l) h.nb (fun c a _=>q9b ps c a);have hpw:=q6n hn10;have hp2:=z59 hn10;generalize befL ps=B at hbv hb10 c84 ⊢;generalize bfN ps=bf at hbv hbt hpl;refine zK6 ?_;refine z5 rfl (fun hc=>?_) (fun hc=>?_)
 ·refine zK6 ?_;refine⟨.inl rfl,_,_,rfl,trivial,?_⟩;rfl
 clear hc
 (repeat (first|refine zs rfl ?_|refine zg rfl rfl rfl ?_|refine zd ?_|refine k9 ?_|refine k8 ?_|refine zeq eqBf rfl rfl rfl ?_|refine q9k eqBf rfl rfl rfl rfl ?_|refine q9j eqBf rfl rfl rfl rfl ?_|refine zc rfl (c84) rfl rfl ?_|refine ze rfl (c84) rfl ?_|refine zk rfl rfl (fun _=>c84) rfl rfl ?_))
 refine JK.loop (fun left:Nat=>⟨[(0,vF d cs ps W B),(3,vS64 left)],[],0⟩) (fun left=>left<2 ^ cs.length) (fun left=>left) (2 ^ cs.length-1) (by have:=Nat.two_pow_pos cs.length;omega) (by exact zJ) fun left hl=>?_;refine zK6 ?_;refine z5 rfl (fun hc=>?_) (fun hc=>?_)
 ·have h0:left≠0:=by simpa using hc
  have hpl:=hpl left h0 hl;clear hc;refine zK6 ?_;refine JK.loop (fun c:Nat=>⟨[(0,vF d cs ps W B),(3,vS64 left),(4,vS64 (freeM bf left c)),(21,vI cs.length),(22,vI (c:Int))],[],0⟩) (fun c=>c≤cs.length∧freeM bf left c<1024) (fun c=>cs.length-c) 0 ⟨yyu _,by simp[freeM]⟩ (by exact zJ) fun c ⟨hcl,hft⟩=>?_;have hs:freeM bf left (c+1)=if left &&& 2 ^ c≠0∧bf c &&& left=0 then freeM bf left c ||| 2 ^ c else freeM bf left c:=rfl
  have hfin:c=cs.length→freeM bf left c=freeM bf left cs.length:=fun e=>by rw[e]
  generalize freeM bf left c=f at hft hs hfin ⊢;refine zK6 ?_;refine z5 rfl (fun hc=>?_) (fun hc=>?_)
  ·replace hc:=zC hc;have hc':c<cs.length:=by omega
   have hpc:=q6n (n:=c) (by omega);have hbc:=hbv c;have hbc2:=hbt c;have hll:left<1024:=by omega
   have e0:B.getD (Int.toNat (c:Int)) (Ty.int .u64).dflt=((bf c:Nat):Int):=hbc;have hbb:0≤B.getD (Int.toNat (c:Int)) (Ty.int .u64).dflt∧B.getD (Int.toNat (c:Int)) (Ty.int .u64).dflt<1024:=by rw[e0];omega
   have hB:(bif (((((left:Nat):Int).toNat &&& ((1:Int)*2 ^ (Int.toNat (c:Int))).toNat:Nat):Int) != 0) then((((B.getD (Int.toNat (c:Int)) (Ty.int .u64).dflt).toNat &&& ((left:Nat):Int).toNat:Nat):Int)==0) else false)=decide (left &&& 2 ^ c≠0∧bf c &&& left=0):=by
    rw[e0,Int.toNat_natCast,Int.toNat_natCast,Int.toNat_natCast,z1t,yy2];by_cases z:left &&& 2 ^ c=0
    ·simp[z]
    ·have z':(((left &&& 2 ^ c:Nat):Int) != 0)=true:=by simp;exact_mod_cast z
     rw[z',cond_true];simp[z]
   refine zK6 ?_;refine z5 rfl (fun hd=>?_) (fun hd=>?_)
   ·rw[if_pos (of_decide_eq_true (hB.symm.trans hd))] at hs;refine zK6 ?_;refine⟨c+1,?_,⟨by omega,?_⟩,by omega⟩
    ·rw[hs];rw[vS_or];exact zJ
    ·rw[hs];exact Nat.or_lt_two_pow (n:=10) hft (Nat.pow_lt_pow_right (by decide) (by omega))
   ·rw[if_neg (of_decide_eq_false (hB.symm.trans hd))] at hs;refine zK6 ?_;refine⟨c+1,?_,⟨by omega,by rw[hs];exact hft⟩,by omega⟩;rw[hs];exact zJ
  ·replace hc:=zC hc;replace hfin:=hfin (by omega);rw[← hfin] at hpl;refine zK6 ?_;refine z5 rfl (fun hd=>?_) (fun hd=>?_)
   ·have:f=0:=by simpa using hd
    rw[this] at hpl;simp at hpl
   refine zK6 ?_;refine⟨left ^^^ (left &&& f),?_,by omega,hpl⟩;rw[vS_not];exact zJ
 ·refine zK6 ?_;refine⟨.inl rfl,_,_,rfl,trivial,?_⟩;rfl
def fn121(c:CoD)(h:okCo c):Ox.Fn Tryz.prog 121 (.acons (vCo c) .anil) (·=vB false):=by
 refine Ox.Fn.intro xok Tryz.func121 rfl Tryz.call121 (yyd rfl) (fun E M0 up=>?_);refine z7 ?_;obtain⟨⟨u,v,_⟩,x,y,_⟩:=c;obtain⟨⟨k1,k2,k3⟩,k4,k5,k6⟩:=h;replace k1:0≤u:=k1;replace k2:u≤v:=k2;replace k3:v≤1000:=k3;replace k4:0≤x:=k4;replace k5:x≤y:=k5;replace k6:y≤1000:=k6;obtain⟨b,hb⟩:∃ b,b=true:=⟨true,rfl⟩;have c1:=z3p (lo:=0) (hi:=1000) (xs:=u::v::x::y::List.nil) hb (by simp;omega);refine zK13 ?_;refine⟨.inl rfl,_,_,rfl,trivial,?_⟩;refine congrArg vB ?_;have h1:¬ v<u:=by omega
 have h2:¬ y<x:=by omega
 simp[hb,h1,h2]
def fn206(xs:List CoD)(p:CoD→Bool)(h:∀ x∈xs,Ox.Fn Tryz.prog f (.acons (vCo x) .anil) (·=vB (p x))) :
  Ox.Fn Tryz.prog 206 (.acons (.val (.slice coT) xs) (.acons (.fn f .anil .anil) .anil)) (·=vI (idxB p xs 0)):=by
 refine Ox.Fn.intro xok Tryz.func206 rfl Tryz.call206 (yyd rfl) (fun E M0 up=>?_);refine z7 ?_;refine JK.lenOf 0 rfl fun hlen=>?_;replace hlen:xs.length≤9223372036854775807:=hlen.1;refine zK0 ?_;refine JK.loop (fun i:Nat=>⟨[(0,.val (.slice coT) xs),(1,.fn f .anil .anil),(7,vI xs.length),(8,vI (i:Int))],[],0⟩) (fun i=>i≤xs.length∧idxB p xs 0=idxB p (xs.drop i) i) (fun i=>xs.length-i) 0 (by simp) (by exact zJ) fun i ⟨hi,hn⟩=>?_;refine zK0 ?_;refine z5 rfl (fun hc=>?_) (fun hc=>?_)
 ·replace hc:=zC hc;have hi':i<xs.length:=by omega
  have hx:=h (xs.getD i coZ) (by rw[j7 xs hi'];exact yy5 hi');refine zK8 ?_;refine z5 rfl (fun hd=>?_) (fun hd=>?_)
  ·refine zK0 ?_;refine⟨.inl rfl,_,_,rfl,trivial,?_⟩;rw[j7 xs hi'] at hd;rw[hn,yy3 hi',idxB,if_pos hd]
  ·refine zK0 ?_;rw[j7 xs hi'] at hd;refine⟨i+1,by exact zJ,⟨by omega,?_⟩,by omega⟩;rw[hn,yy3 hi',idxB,if_neg (by rw[hd];simp)]
 ·replace hc:=zC hc;refine zK0 ?_;refine⟨.inl rfl,_,_,rfl,trivial,?_⟩;obtain rfl:i=xs.length:=by omega
  rw[hn,List.drop_length];rfl
def fn122(xs:List CoD)(p:CoD→Bool)(h:∀ x∈xs,Ox.Fn Tryz.prog f (.acons (vCo x) .anil) (·=vB (p x))) :
  Ox.Fn Tryz.prog 122 (.acons (.val (.slice coT) xs) (.acons (.fn f .anil .anil) .anil)) (·=vB (xs.any p)):=by
 refine Ox.Fn.intro xok Tryz.func122 rfl Tryz.call122 (yyd rfl) (fun E M0 up=>?_);refine z7 ?_
 (repeat (first|refine zs rfl ?_|refine zg rfl rfl rfl ?_|refine zd ?_|refine k9 ?_|refine k8 ?_|refine zc rfl (fn206 xs p h) rfl rfl ?_|refine ze rfl (fn206 xs p h) rfl ?_|refine zk rfl rfl (fun _=>fn206 xs p h) rfl rfl ?_))
 refine⟨.inl rfl,_,_,rfl,trivial,?_⟩;refine congrArg vB ?_;rw[yy2,← t9 (p:=p) (i:=0)];simp
set_option maxHeartbeats 4000000 in
def fn68{ps:List (List Int)}(h:VG d cs ps):Ox.Fn Tryz.prog 68 (.acons (vG d cs ps) .anil) (·=vI 0):=by
 refine Ox.Fn.intro xok Tryz.func68 rfl Tryz.call68 (yyd rfl) (fun E M0 up=>?_);refine z7 ?_;have hn1:=h.n1;have hn10:=h.n10;have hp40:=h.p40;have hd1:=h.d1;have hd100:=h.d100;obtain⟨b,hb⟩:∃ b,b=true:=⟨true,rfl⟩;have c1:=z3p (lo:=0) (hi:=9) (xs:=((cs.length:Int)-1)::List.nil) hb (by simp;omega);have c2:=z3p (lo:=1) (hi:=100) (xs:=d::List.nil) hb (by simp;omega);obtain⟨f,hf⟩:∃ f,f=false:=⟨false,rfl⟩;have c3:=fn122 (f:=121) cs (fun _=>false) fun x hx=>fn121 x (h.co x hx);have e3:(cs.any fun _=>false)=f:=by rw[hf];simp
 rw[e3] at c3;have c71:=fn71 h;have c120:=fn120 h (winL d cs);refine zK13 ?_;refine z5 rfl (fun hc=>absurd hc ?_) (fun _=>?_)
 ·have h1:¬ ((40:Int)<ps.length):=by omega
  simp[hb,h1]
 (repeat (first|refine zs rfl ?_|refine zg rfl rfl rfl ?_|refine zd ?_|refine k9 ?_|refine k8 ?_|refine zc rfl (c2) rfl rfl ?_|refine ze rfl (c2) rfl ?_|refine zk rfl rfl (fun _=>c2) rfl rfl ?_|refine zc rfl (c3) rfl rfl ?_|refine ze rfl (c3) rfl ?_|refine zk rfl rfl (fun _=>c3) rfl rfl ?_))
 refine z5 rfl (fun hc=>absurd hc ?_) (fun _=>?_)
 ·simp[hb,hf]
 refine zK0 ?_;refine JK.loop (fun i:Nat=>⟨[(1,.lf (.optr 0 [])),(4,vI ((cs.length:Int)-1)),(35,.val (.slice prT) ps),(36,vI ps.length),(37,vI (i:Int))],[(0,.cell glT (vG d cs ps))],1⟩) (fun i=>i≤ps.length) (fun i=>ps.length-i) 0 (yyu _) (by exact zJ) fun i hi=>?_;have hpr:=fun q:i<ps.length=>h.pr (ps.getD i prT.dflt) (by rw[j7 ps q];exact yy5 q);have hnd:∀ q:i<ps.length,ps.getD i prT.dflt∉ps.take i:=fun q hm=>by rw[j7 ps q,List.mem_take_iff_getElem] at hm;obtain⟨j,hj,e⟩:=hm;have:=(List.nodup_iff_pairwise_ne.1 h.nd);exact(yx6.1 this j i (by omega) q (by omega)) e
 refine zK0 ?_;refine z5 rfl (fun hc=>?_) (fun hc=>?_)
 ·replace hc:=zC hc;have hi':i<ps.length:=by omega
  have hz:ps.getD (Int.toNat (i:Int)) prT.dflt=ps.getD i prT.dflt:=rfl;replace hpr:=hpr hi';replace hnd:=hnd hi';refine zK3 ?_;rw[hz];have c5:=fn123 (ps.take i) (ps.getD i prT.dflt);rw[decide_eq_false hnd,← hf] at c5;generalize ps.getD i prT.dflt=p at hpr c5 ⊢;obtain⟨k1,k2,k3⟩:=hpr;have c4:=z3p (lo:=0) (hi:=(cs.length:Int)-1) (xs:=z0 p::z1 p::List.nil) hb (by simp;omega);have hil:(0:Int)≤i∧(i:Int)≤ps.length:=by omega
  refine v9 xk (Tryz.f68.body.getD .skip) ⟨[(1,.lf (.optr 0 [])),(4,vI ((cs.length:Int)-1)),(35,.val (.slice prT) ps),(36,vI ps.length),(37,vI (i:Int)),(64,vB (bif (bif (z0 p==z1 p) then true else !b) then true else f))],[(0,.cell glT (vG d cs ps))],1⟩ rfl 23 rfl ?_ ?_
  ·have hg1:wantB false (p.getD (Int.toNat 0) (Ty.int .i64).dflt==p.getD (Int.toNat 1) (Ty.int .i64).dflt)=true:=by show(!(z0 p==z1 p))=true;simpa using k3
   (refine q7 0 xk rfl rfl (q7 2 xk rfl rfl (q8 1 xk rfl rfl (q8 3 xk rfl rfl (q8 4 xk rfl rfl (q8 5 xk rfl rfl ?_)))));refine v6 6 [7,9] xk ?_ ?_;exact zS;refine(BrF.one rfl rfl ?_ (BrF.one rfl rfl ?_ (BrF.one rfl rfl ?_ BrF.nil)));(· (refine x9 xk rfl rfl rfl ?_);refine q9 ?_;refine j4 7 xk rfl rfl rfl (j4 9 xk rfl rfl rfl ?_);refine v6 8 [10] xk ?_ ?_;exact zS;refine(BrF.one rfl rfl ?_ (BrF.one rfl rfl ?_ BrF.nil));(· (refine x9 xk rfl rfl rfl ?_);refine q9 ?_;refine zU 10 xk rfl rfl ?_;(refine x9 xk rfl rfl rfl ?_);refine q9 ?_;refine zU 11 xk rfl rfl ?_;((refine q7f rfl hg1 ?_;refine n9 xk rfl rfl ?_));refine q9 ?_;refine zU 12 xk rfl rfl ?_;refine zK5 ?_;refine q9 ?_;refine j4 13 xk rfl rfl rfl (q7 14 xk rfl rfl (q7 15 xk rfl rfl (j4 16 xk rfl rfl rfl (j4 18 xk rfl rfl rfl ?_))));refine v6 17 [20] xk ?_ ?_;exact zS;refine(BrF.one rfl rfl ?_ (BrF.one rfl rfl ?_ BrF.nil));(· (refine x9 xk rfl rfl rfl ?_);refine q9 ?_;refine j4 19 xk rfl rfl rfl (zU 20 xk rfl rfl ?_);(refine x9 xk rfl rfl rfl ?_);refine q9 ?_;refine zU 21 xk rfl rfl ?_;refine zK5 ?_;refine q9 ?_;refine q7 22 xk rfl rfl ?_;refine w7 xk ?_ ?_;exact zS;(exact zJ));(· (refine x9 xk rfl rfl rfl ?_);refine q9 ?_;refine zU 17 xk rfl rfl ?_;(refine x9 xk rfl rfl rfl ?_);refine q9 ?_;refine j4 19 xk rfl rfl rfl (zU 21 xk rfl rfl ?_);exact zB0));(· (refine x9 xk rfl rfl rfl ?_);refine q9 ?_;refine zU 8 xk rfl rfl ?_;(refine x9 xk rfl rfl rfl ?_);refine q9 ?_;refine zU 11 xk rfl rfl ?_;((refine q7f rfl hg1 ?_;refine n9 xk rfl rfl ?_));refine q9 ?_;refine zU 12 xk rfl rfl ?_;refine zK5 ?_;refine q9 ?_;refine j4 13 xk rfl rfl rfl (q7 14 xk rfl rfl (q7 15 xk rfl rfl (j4 16 xk rfl rfl rfl (j4 18 xk rfl rfl rfl ?_))));refine v6 17 [20] xk ?_ ?_;exact zS;refine(BrF.one rfl rfl ?_ (BrF.one rfl rfl ?_ BrF.nil));(· (refine x9 xk rfl rfl rfl ?_);refine q9 ?_;refine j4 19 xk rfl rfl rfl (zU 20 xk rfl rfl ?_);(refine x9 xk rfl rfl rfl ?_);refine q9 ?_;refine zU 21 xk rfl rfl ?_;refine zK5 ?_;refine q9 ?_;refine q7 22 xk rfl rfl ?_;refine w7 xk ?_ ?_;exact zS;(exact zJ));exact zB4));(· (refine x9 xk rfl rfl rfl ?_);refine q9 ?_;refine j4 6 xk rfl rfl rfl (j4 9 xk rfl rfl rfl ?_);refine v6 8 [10] xk ?_ ?_;exact zS;refine(BrF.one rfl rfl ?_ (BrF.one rfl rfl ?_ BrF.nil));(· (refine x9 xk rfl rfl rfl ?_);refine q9 ?_;refine zU 10 xk rfl rfl ?_;(refine x9 xk rfl rfl rfl ?_);refine q9 ?_;refine zU 11 xk rfl rfl ?_;((refine q7f rfl hg1 ?_;refine n9 xk rfl rfl ?_));refine q9 ?_;refine zU 12 xk rfl rfl ?_;refine zK5 ?_;refine q9 ?_;refine j4 13 xk rfl rfl rfl (q7 14 xk rfl rfl (q7 15 xk rfl rfl (j4 16 xk rfl rfl rfl (j4 18 xk rfl rfl rfl ?_))));refine v6 17 [20] xk ?_ ?_;exact zS;refine(BrF.one rfl rfl ?_ (BrF.one rfl rfl ?_ BrF.nil));(· (refine x9 xk rfl rfl rfl ?_);refine q9 ?_;refine j4 19 xk rfl rfl rfl (zU 20 xk rfl rfl ?_);(refine x9 xk rfl rfl rfl ?_);refine q9 ?_;refine zU 21 xk rfl rfl ?_;exact zB0);(· (refine x9 xk rfl rfl rfl ?_);refine q9 ?_;refine zU 17 xk rfl rfl ?_;(refine x9 xk rfl rfl rfl ?_);refine q9 ?_;refine j4 19 xk rfl rfl rfl (zU 21 xk rfl rfl ?_);refine zK5 ?_;refine q9 ?_;refine q7 22 xk rfl rfl ?_;refine w7 xk ?_ ?_;exact zS;(exact zJ)));(· (refine x9 xk rfl rfl rfl ?_);refine q9 ?_;refine zU 8 xk rfl rfl ?_;(refine x9 xk rfl rfl rfl ?_);refine q9 ?_;refine zU 11 xk rfl rfl ?_;((refine q7f rfl hg1 ?_;refine n9 xk rfl rfl ?_));refine q9 ?_;refine zU 12 xk rfl rfl ?_;refine zK5 ?_;refine q9 ?_;refine j4 13 xk rfl rfl rfl (q7 14 xk rfl rfl (q7 15 xk rfl rfl (j4 16 xk rfl rfl rfl (j4 18 xk rfl rfl rfl ?_))));refine v6 17 [20] xk ?_ ?_;exact zS;refine(BrF.one rfl rfl ?_ (BrF.one rfl rfl ?_ BrF.nil));(· (refine x9 xk rfl rfl rfl ?_);refine q9 ?_;refine j4 19 xk rfl rfl rfl (zU 20 xk rfl rfl ?_);(refine x9 xk rfl rfl rfl ?_);refine q9 ?_;refine zU 21 xk rfl rfl ?_;exact zB0);(· (refine x9 xk rfl rfl rfl ?_);refine q9 ?_;refine zU 17 xk rfl rfl ?_;(refine x9 xk rfl rfl rfl ?_);refine q9 ?_;refine j4 19 xk rfl rfl rfl (zU 21 xk rfl rfl ?_);refine zK5 ?_;refine q9 ?_;refine q7 22 xk rfl rfl ?_;refine w7 xk ?_ ?_;exact zS;(exact zJ))));(· (refine x9 xk rfl rfl rfl ?_);refine q9 ?_;refine j4 6 xk rfl rfl rfl (j4 7 xk rfl rfl rfl ?_);refine v6 8 [10] xk ?_ ?_;exact zS;refine(BrF.one rfl rfl ?_ (BrF.one rfl rfl ?_ BrF.nil));(· (refine x9 xk rfl rfl rfl ?_);refine q9 ?_;refine zU 10 xk rfl rfl ?_;(refine x9 xk rfl rfl rfl ?_);refine q9 ?_;refine zU 11 xk rfl rfl ?_;((refine q7f rfl hg1 ?_;refine n9 xk rfl rfl ?_));refine q9 ?_;refine zU 12 xk rfl rfl ?_;exact zB5);(· (refine x9 xk rfl rfl rfl ?_);refine q9 ?_;refine zU 8 xk rfl rfl ?_;(refine x9 xk rfl rfl rfl ?_);refine q9 ?_;refine zU 11 xk rfl rfl ?_;((refine q7f rfl hg1 ?_;refine n9 xk rfl rfl ?_));refine q9 ?_;refine zU 12 xk rfl rfl ?_;exact zB5)))
  refine z5 rfl (fun hc=>absurd hc ?_) (fun _=>?_)
  ·simp[hb,hf,k3]
  refine zK0 ?_;exact⟨i+1,by exact zJ,by omega,by omega⟩
 ·replace hc:=zC hc
  (repeat (first|refine zs rfl ?_|refine zg rfl rfl rfl ?_|refine zd ?_|refine k9 ?_|refine k8 ?_|refine zc rfl (c71) rfl rfl ?_|refine ze rfl (c71) rfl ?_|refine zk rfl rfl (fun _=>c71) rfl rfl ?_|refine zc rfl (c120) rfl rfl ?_|refine ze rfl (c120) rfl ?_|refine zk rfl rfl (fun _=>c120) rfl rfl ?_))
  refine z5 rfl (fun h=>absurd h (by decide)) (fun _=>?_);refine zK0 ?_;refine⟨.inl rfl,_,_,rfl,trivial,?_⟩;rfl
variable{t1:Ty}
def z72{x1:t1.den}(xs:List Int)(p:Int→Bool)(h:∀ x∈xs,Ox.Fn Tryz.prog f (.acons (vI x) (.acons (.val t1 x1) .anil)) (·=vB (p x))) :
  Ox.Fn Tryz.prog 124 (.acons (vL xs) (.acons (.fn f .anil (.acons (.val t1 x1) .anil)) .anil)) (·=vI (idxB p xs 0)):=by
 refine Ox.Fn.intro xok Tryz.func124 rfl Tryz.call124 (yyd rfl) (fun E M0 up=>?_);refine z7 ?_;refine JK.lenOf 0 rfl fun hlen=>?_;replace hlen:xs.length≤9223372036854775807:=hlen.1;refine zK0 ?_;refine JK.loop (fun i:Nat=>⟨[(0,vL xs),(1,.fn f .anil (.acons (.val t1 x1) .anil)),(7,vI xs.length),(8,vI (i:Int))],[],0⟩) (fun i=>i≤xs.length∧idxB p xs 0=idxB p (xs.drop i) i) (fun i=>xs.length-i) 0 (by simp) (by exact zJ) fun i ⟨hi,hn⟩=>?_;refine zK0 ?_;refine z5 rfl (fun hc=>?_) (fun hc=>?_)
 ·replace hc:=zC hc;have hi':i<xs.length:=by omega
  have hx:=h (xs.getD i 0) (by rw[j7 xs hi'];exact yy5 hi');refine zK8 ?_;refine z5 rfl (fun hd=>?_) (fun hd=>?_)
  ·refine zK0 ?_;refine⟨.inl rfl,_,_,rfl,trivial,?_⟩;rw[j7 xs hi'] at hd;rw[hn,yy3 hi',idxB,if_pos hd]
  ·refine zK0 ?_;rw[j7 xs hi'] at hd;refine⟨i+1,by exact zJ,⟨by omega,?_⟩,by omega⟩;rw[hn,yy3 hi',idxB,if_neg (by rw[hd];simp)]
 ·replace hc:=zC hc;refine zK0 ?_;refine⟨.inl rfl,_,_,rfl,trivial,?_⟩;obtain rfl:i=xs.length:=by omega
  rw[hn,List.drop_length];rfl
def fn69c{x1:t1.den}(xs:List Int)(p:Int→Bool)(h:∀ x∈xs,Ox.Fn Tryz.prog f (.acons (vI x) (.acons (.val t1 x1) .anil)) (·=vB (p x))) :
  Ox.Fn Tryz.prog 69 (.acons (vL xs) (.acons (.fn f .anil (.acons (.val t1 x1) .anil)) .anil)) (·=vB (xs.any p)):=by
 refine Ox.Fn.intro xok Tryz.func69 rfl Tryz.call69 (yyd rfl) (fun E M0 up=>?_);refine z7 ?_
 (repeat (first|refine zs rfl ?_|refine zg rfl rfl rfl ?_|refine zd ?_|refine k9 ?_|refine k8 ?_|refine zc rfl (z72 xs p h) rfl rfl ?_|refine ze rfl (z72 xs p h) rfl ?_|refine zk rfl rfl (fun _=>z72 xs p h) rfl rfl ?_))
 refine⟨.inl rfl,_,_,rfl,trivial,?_⟩;refine congrArg vB ?_;rw[yy2,← t9 (p:=p) (i:=0)];simp
def fn70(d:Int)(cs:List CoD)(ps:List (List Int))(c:Int):Ox.Fn Tryz.prog 70 (.acons (vI c) (.acons (.val (.ptr glT) (some (mkG d cs ps))) .anil)) (·=vB (decide (c<0∨c ≥ cs.length))):=by refine Ox.Fn.intro xok Tryz.func70 rfl Tryz.call70 (yyd rfl) (fun E M0 up=>?_);refine z7 ?_;refine zK0 ?_;refine⟨.inl rfl,_,_,rfl,trivial,?_⟩;by_cases h:c<0<;>simp[h]
abbrev vT2f(d:Int)(cs:List CoD)(ps:List (List Int)):AV:=.tup (.acons (vF d cs ps (winL d cs) (befL ps)) (.acons (vI 0) .anil))
def fn26{ps:List (List Int)}(h:VG d cs ps)(l:List Int)(hl:∀ x∈l,0≤x∧x<cs.length):Ox.Fn Tryz.prog 26 (.acons (vG d cs ps) (.acons (vL l) .anil)) (·=vT2f d cs ps):=by
 refine Ox.Fn.intro xok Tryz.func26 rfl Tryz.call26 (yyd rfl) (fun E M0 up=>?_);refine z7 ?_;have c68:=fn68 h;have c71:=fn71 h;have c69:=fn69c (f:=70) l (fun c=>decide (c<0∨c ≥ cs.length)) (fun x _=>fn70 d cs ps x);have e:(l.any fun c=>decide (c<0∨c ≥ cs.length))=false:=by rw[List.any_eq_false];intro x hx;have:=hl x hx;simp;omega
 rw[e] at c69
 (repeat (first|refine zs rfl ?_|refine zg rfl rfl rfl ?_|refine zd ?_|refine k9 ?_|refine k8 ?_|refine zc rfl (c68) rfl rfl ?_|refine ze rfl (c68) rfl ?_|refine zk rfl rfl (fun _=>c68) rfl rfl ?_))
 refine z5 rfl (fun h=>absurd h (by decide)) (fun _=>?_)
 (refine q9h [0] [1,2] rfl ?_)
 (repeat (first|refine zs rfl ?_|refine zg rfl rfl rfl ?_|refine zd ?_|refine k9 ?_|refine k8 ?_|refine zc rfl (c69) rfl rfl ?_|refine ze rfl (c69) rfl ?_|refine zk rfl rfl (fun _=>c69) rfl rfl ?_))
 refine z5 rfl (fun h=>absurd h (by decide)) (fun _=>?_)
 (repeat (first|refine zs rfl ?_|refine zg rfl rfl rfl ?_|refine zd ?_|refine k9 ?_|refine k8 ?_|refine zc rfl (c71) rfl rfl ?_|refine ze rfl (c71) rfl ?_|refine zk rfl rfl (fun _=>c71) rfl rfl ?_))
 refine⟨.inl rfl,_,_,rfl,trivial,?_⟩;rfl
variable{k:Int}
def kd_bd(h0:0≤k)(hk:k<n)(hn:n≤10)(hd:1≤d)(hd1:d≤100):0≤k*d∧k*d≤1000:=by refine⟨Int.mul_nonneg h0 (by omega),?_⟩;have:k*d≤10*100:=Int.mul_le_mul (by omega) hd1 (by omega) (by omega);omega
def fn33{ps:List (List Int)}(h:VG d cs ps)(W:List RgD)(B:List Int)(hc:c<cs.length)(h0:0≤k)(hk:k<cs.length) :
  Ox.Fn Tryz.prog 33 (.acons (vF d cs ps W B) (.acons (vI (c:Int)) (.acons (vI k) .anil))) (·=vRg (sprD d (cs.getD c coZ) k)):=by
 refine Ox.Fn.intro xok Tryz.func33 rfl Tryz.call33 (yyd rfl) (fun E M0 up=>?_);refine z7 ?_;have hkd:=kd_bd h0 hk h.n10 h.d1 h.d100;obtain⟨⟨k1,k2,k3⟩,k4,k5,k6⟩:=q37 h hc;have hz:cs.getD (Int.toNat (c:Int)) coT.dflt=cs.getD c coZ:=rfl;refine zK3 ?_;rw[hz];generalize cs.getD c coZ=q at k1 k2 k3 k4 k5 k6 ⊢;obtain⟨⟨u,v,_⟩,x,y,_⟩:=q;replace k1:0≤u:=k1;replace k2:u≤v:=k2;replace k3:v≤1000:=k3;have hs:sprD d ((u,v,()),x,y,()) k=(u-k*d,v-k*d,()):=rfl;rw[hs];refine v9 xk (Tryz.f33.body.getD .skip) ⟨[(6,.lf (.optr 0 []))],[(0,.cell rgT (vRg (u-k*d,v-k*d,())))],1⟩ rfl 22 rfl ?_ ?_
 ·(refine q7 0 xk rfl rfl (q7 2 xk rfl rfl (q7 3 xk rfl rfl (q7 4 xk rfl rfl (q7 5 xk rfl rfl (q7 6 xk rfl rfl (q7 10 xk rfl rfl (q7 12 xk rfl rfl (q7 13 xk rfl rfl (q7 14 xk rfl rfl (q7 15 xk rfl rfl (q7 16 xk rfl rfl (q8 1 xk rfl rfl (q8 7 xk rfl rfl (q8 8 xk rfl rfl (q8 9 xk rfl rfl (q8 11 xk rfl rfl (q8 17 xk rfl rfl (q8 18 xk rfl rfl (q8 19 xk rfl rfl (zU 20 xk rfl rfl ?_))))))))))))))))))));refine zK9 ?_;refine q9 ?_;refine zU 21 xk rfl rfl ?_;refine zK2 ?_;refine q9 ?_;refine w7 xk StF.nil ?_;(exact zJ))
 refine zK0 ?_;refine⟨.inl rfl,_,_,rfl,trivial,?_⟩;rfl
abbrev vT2r(r:RgD)(e:Int):AV:=.tup (.acons (vRg r) (.acons (vI e) .anil))
def fn11{ps:List (List Int)}(h:VG d cs ps)(hc:c<cs.length)(h0:0≤k)(hk:k<cs.length) :
  Ox.Fn Tryz.prog 11 (.acons (vG d cs ps) (.acons (vI (c:Int)) (.acons (vI k) .anil))) (·=vT2r (sprD d (cs.getD c coZ) k) 0):=by
 refine Ox.Fn.intro xok Tryz.func11 rfl Tryz.call11 (yyd rfl) (fun E M0 up=>?_);refine z7 ?_;have c26:=fn26 h ((c:Int)::List.nil) (fun x hx=>by rw[yyv.1 hx];omega);have c33:=fn33 h (winL d cs) (befL ps) hc h0 hk;generalize sprD d (cs.getD c coZ) k=R at c33 ⊢
 (repeat (first|refine zs rfl ?_|refine zg rfl rfl rfl ?_|refine k9 ?_|refine k8 ?_|refine zc rfl (c26) rfl rfl ?_|refine ze rfl (c26) rfl ?_|refine zk rfl rfl (fun _=>c26) rfl rfl ?_))
 (refine z08 [2] [1,2,3,6,11,13] rfl ?_)
 refine zK20 ?_;refine z5 rfl (fun h=>absurd h (by decide)) (fun _=>?_);refine zK0 ?_;refine z5 rfl (fun h=>absurd h ?_) (fun _=>?_)
 ·have h1:¬ k<0:=by omega
  have h2:¬ k ≥ cs.length:=by omega
  simp[h1,h2]
 (repeat (first|refine zs rfl ?_|refine zg rfl rfl rfl ?_|refine zd ?_|refine k9 ?_|refine k8 ?_|refine zc rfl (c33) rfl rfl ?_|refine ze rfl (c33) rfl ?_|refine zk rfl rfl (fun _=>c33) rfl rfl ?_))
 refine⟨.inl rfl,_,_,rfl,trivial,?_⟩;rfl
def fn29{ps:List (List Int)}(W:List RgD)(B:List Int)(k:Int)(hc:c<10)(hW:W.length=10) :
  Ox.Fn Tryz.prog 29 (.acons (vF d cs ps W B) (.acons (vI (c:Int)) (.acons (vI k) .anil))) (·=vB (decide (loR W c≤k∧k≤hiR W c))):=by
 refine Ox.Fn.intro xok Tryz.func29 rfl Tryz.call29 (yyd rfl) (fun E M0 up=>?_);refine z7 ?_;have hz:W.getD (Int.toNat (c:Int)) rgT.dflt=W.getD c (0,0,()):=rfl;unfold loR hiR;refine zK0 ?_;rw[hz];refine⟨.inl rfl,_,_,rfl,trivial,?_⟩;generalize W.getD c (0,0,())=q;refine congrArg vB ?_;rw[yy2];by_cases h:q.1≤k<;>simp[h]
end Go.Proofs.YtjjkdjbbkagclaaGreatDoor
namespace Ox
open Go Go.RowKit
variable {X:Ctx}{s:S}{M:Mem}{ρ:Env}{a:Act}{w w':World}{QA:Exit→S→Prop}{all l:List Oper}{o:Oper}
variable{az:AV}
def z2i{tys:Array TypeId}{e:Ty}{xs:List e.den}(hg:o.guard=none)(hop:o.op=.call {callee:=.value fo,args:=args,argTypes:=tys})
  (hu:opd s.L fo=some (cs1,.fn f .anil .anil)) (ha:opds s.L args.toList=some (cs2,az)) (hc:allP (cs1++cs2)) (hf:FnRow X.P f az eid e xs) (hb0:az.bd 0) (hd:dstOk X.n o.dst)
  (k:JL X true all QA l (putS o.dst (.lf (.osl s.nx)) ⟨s.L,(s.nx,.sl eid e xs)::s.H,s.nx+1⟩)):JL X true all QA (o::l) s:=by
 intro M ρ a w h1 h2;rw[z6] at hc;obtain⟨hub,eu⟩:=z8 hu hc.1 h2;simp only[AV.rv] at eu;obtain⟨fs,ks,k1,k2,k3⟩:=eu;obtain⟨hab,ea⟩:=q0l h2 ha hc.2;simp only[AV.rvs] at k1 k2;subst k1;subst k2;have hrun:(execOp a.eval o).run X.P w=.ok (.enter f (args.toList.map a.eval).toArray) w:=by
  have hmap:Array.map a.eval args=(List.map a.eval args.toList).toArray:=by rw[← yy9]
  obtain⟨dst,op,ty,pos,after,guard⟩:=o;simp only at hop;subst hop;simp only[execOp,resolve,k3,Deferred.ofValue,yye,yyf,yyc,invoke,hmap];rw[← hf.call];simp
 refine j6 (v4 hg) (u9 (by rw[hop];rfl) hrun (hf.run M ρ w _ h1.mem ea hb0) ?_);rintro en w' ⟨v,cs',M',rfl,hrow,hrl,hbl,hm,hin,hnew,hno⟩;have h3:=h1.ext hbl hm hin hnew;have hv1:v.oneCell'=true:=by rcases hrow.2 with⟨e1,_⟩|⟨g,cap,cur,e1,_⟩<;>rw[e1]<;>rfl
 have hge:∀ b,v.ownBlock=some b→w.heap.size≤b:=fun b hb=>by
  rcases hrow.2 with⟨e1,_⟩|⟨g,cap,cur,e1,e2,_⟩
  ·rw[e1] at hb;cases hb
  ·rw[e1] at hb;simp only[Value.ownBlock,yya] at hb;subst hb;exact e2
 have h5:SAT X M' (ρ.with s.nx 0 e v) ⟨s.L,(s.nx,.sl eid e xs)::s.H,s.nx+1⟩ w':=by
  refine h3.add (row:=none) ⟨rfl,rfl,rfl,yyo _,fun _ _ _=>rfl⟩ (fun b hb=>by cases hb) (fun l o hl=>⟨hl,fun b _ e=>by cases e⟩) (j8 _ _ _ _ _) trivial ?_ ?_
  ·simp only[HO.ok,Env.with,if_true];refine⟨trivial,cs',⟨hrow.1,?_⟩,hrl⟩;rcases hrow.2 with e1|⟨g,cap,cur,e1,e2,e3⟩
   ·exact .inl e1
   ·exact .inr ⟨g,cap,cur,e1,Nat.le_trans h1.below.size e2,e3⟩
  ·intro b hbb;simp only[HO.at,Env.with,if_true] at hbb;refine⟨hno b hbb,fun l o1 hl hat=>?_⟩;have:=(u6 (h1.own l o1 hl).2.2 hat).2;have:=hge b hbb;omega
 have h4:REG X M' (ρ.with s.nx 0 e v) ⟨s.L,(s.nx,.sl eid e xs)::s.H,s.nx+1⟩ a:=h2.grow hm (j8 _ _ _ _ _) (yy4 _) fun D hD=>by rw[hnew D (yyh.1 (h1.mem _ _ hD)).1];exact hD
 refine⟨_,rfl,k M' _ _ w' (j0 h5) (h4.putO hd.spec (yy6 _) ?_)⟩;rw[y7];exact⟨by simp[Leaf.at,Env.with],hv1⟩
def z2k{r:List Fr}{L:List (Nat×AV)}{H:List (Nat×HO)}{nx d:Nat}{ty:TypeId}{ps:String}{af:Array Edge}{tys:Array TypeId}{e:Ty}{xs:List e.den}
  (hu:opd L fo=some (cs1,.fn f .anil .anil)) (ha:opds L args.toList=some (cs2,az)) (hc:allP (cs1++cs2)) (hf:FnRow X.P f az eid e xs) (hb0:az.bd 0) (hd:ltB d X.n=true)
  (k:JK X (.ops true all l::r) QA ⟨(d,.lf (.osl nx))::L,(nx,.sl eid e xs)::H,nx+1⟩):JK X (.ops true all (⟨some d,.call {callee:=.value fo,args:=args,argTypes:=tys},ty,ps,af,none⟩::l)::r) QA ⟨L,H,nx⟩:=
 z2i (s:=⟨L,H,nx⟩) rfl rfl hu ha hc hf hb0 (y8 hd) k
variable {L:List (Nat×AV)}{H:List (Nat×HO)}{nx d:Nat}{ty:TypeId}{ps:String}{af:Array Edge}
def JL.strIx{bs:ByteArray}(ht:X.P.underlying t=some .string)(hv:opd L y=some (c2,.val (.int k) v))(h2:allP c2)(h0:0≤v)(hn:v.toNat<bs.size)(hd:ltB d X.n=true)
  (kk:∀ z:Int,0≤z∧z≤255→JL X true all QA l ⟨(d,.val (.int .u8) z)::L,H,nx⟩):JL X true all QA (⟨some d,.index t (.const (.string bs)) y,ty,ps,af,none⟩::l) ⟨L,H,nx⟩:=by
 have hb:bs[v.toNat].toNat<256:=UInt8.toNat_lt _;refine z37 rfl rfl (y8 hd) (v:=.val (.int .u8) (bs[v.toNat].toNat:Int)) (s':=⟨L,H,nx⟩) (fun M ρ a w k1 k2=>?_) (kk _ ⟨by omega,by omega⟩);have e2:=(z8 (s:=⟨L,H,nx⟩) hv h2 k2).2;rw[w8] at e2;refine⟨ρ,w,.value (.int .u8 (bs[v.toNat].toNat:Int)),?_,Env.upTo.refl _ _,yyo _,rfl,k1,trivial,.inl ⟨_,rfl,w8.2 rfl⟩⟩;have e3:(if 0≤v then bs[v.toNat]? else none)=some bs[v.toNat]:=by rw[if_pos h0,getElem?_pos]
 have e4:a.eval (.const (.string bs))=.string bs:=rfl;simp only[execOp,e2,e4,Instr.index,asIntOf,yye,yyf,run_underlying ht,yyc,e3]
def JK.strIx{r:List Fr}{t:TypeId}{bs:ByteArray}{y:Operand}{c2:List Prop}{k:IntKind}{v:Int}(ht:X.P.underlying t=some .string)(hv:opd L y=some (c2,.val (.int k) v))(h2:allP c2)(h0:0≤v)(hn:v.toNat<bs.size)(hd:ltB d X.n=true)
  (kk:∀ z:Int,0≤z∧z≤255→JK X (.ops true all l::r) QA ⟨(d,.val (.int .u8) z)::L,H,nx⟩):JK X (.ops true all (⟨some d,.index t (.const (.string bs)) y,ty,ps,af,none⟩::l)::r) QA ⟨L,H,nx⟩:=JL.strIx ht hv h2 h0 hn hd kk
end Ox
namespace Ox.Gl
def insD:Nat→List Int→List Int
 |0,l=>l
 |j+1,l=>if l.getD (j+1) 0<l.getD j 0 then insD j (swp l (j+1) j) else l
def srtD:Nat→List Int→List Int
 |0,l=>l
 |i+1,l=>insD (i+1) (srtD i l)
def z3h:∀ (j:Nat) (l:List Int),(insD j l).length=l.length
 |0,l=>rfl
 |j+1,l=>by unfold insD;split;rw[z3h,q6h];rfl
def q1i:∀ (i:Nat) (l:List Int),(srtD i l).length=l.length
 |0,l=>rfl
 |i+1,l=>by rw[srtD,z3h,q1i]
def z0g:∀ {j:Nat} {l:List Int},j<l.length→(insD j l).Perm l
 |0,l,_=>List.Perm.refl _
 |j+1,l,h=>by
  unfold insD;split
  ·exact(z0g (by rw[q6h];omega)).trans (z2u h (by omega))
  ·exact List.Perm.refl _
def q9w:∀ {i:Nat} {l:List Int},i<l.length→(srtD i l).Perm l
 |0,l,_=>List.Perm.refl _
 |i+1,l,h=>(z0g (by rw[q1i];exact h)).trans (q9w (by omega))
def z5k{i k a:Nat}(hi:i<l.length)(hk:k<l.length):(swp l i k).getD a 0=if a=k then l.getD i 0 else if a=i then l.getD k 0 else l.getD a 0:=by
 unfold swp;have e1:l.getD k default=l.getD k 0:=rfl;have e2:l.getD i default=l.getD i 0:=rfl;rw[e1,e2];generalize l.getD k 0=x;generalize l.getD i 0=y;simp only[yyp,List.getElem?_set,List.length_set];by_cases h1:k=a
 ·subst h1;simp[hk]
 ·rw[if_neg h1,if_neg (show ¬ a=k from fun e=>h1 e.symm)];by_cases h2:i=a
  ·subst h2;simp[hi]
  ·rw[if_neg h2,if_neg (show ¬ a=i from fun e=>h2 e.symm)]
def get_of(h:a<l.length):l.getD a 0=l[a]:=by simp[List.getD,h]
def z3i{i:Nat}:∀ {j:Nat} {l:List Int},j≤i→i<l.length→(∀ a b,a<b→b≤i→b≠j→l.getD a 0≤l.getD b 0)→∀ a b,a<b→b≤i→(insD j l).getD a 0≤(insD j l).getD b 0
 |0,l,hj,hl,h,a,b,h1,h2=>h a b h1 h2 (by omega)
 |j+1,l,hj,hl,h,a,b,h1,h2=>by
  unfold insD;split
  ·rename_i hc;refine z3i (j:=j) (l:=swp l (j+1) j) (by omega) (by rw[q6h];exact hl) (fun a b k1 k2 k3=>?_) a b h1 h2;rw[z5k (by omega) (by omega),z5k (by omega) (by omega)];rw[if_neg k3];by_cases e1:b=j+1
   ·subst e1;rw[if_pos rfl];by_cases e2:a=j
    ·rw[if_pos e2];omega
    ·rw[if_neg e2,if_neg (by omega)];exact h a j (by omega) (by omega) (by omega)
   ·rw[if_neg e1];by_cases e2:a=j
    ·rw[if_pos e2];exact h (j+1) b (by omega) k2 e1
    ·rw[if_neg e2];by_cases e3:a=j+1
     ·rw[if_pos e3];exact h j b (by omega) k2 e1
     ·rw[if_neg e3];exact h a b k1 k2 e1
  ·rename_i hc;by_cases e:b=j+1
   ·subst e;by_cases e2:a=j
    ·subst e2;omega
    ·have:=h a j (by omega) (by omega) (by omega);omega
   ·exact h a b h1 h2 e
def z2y:∀ {i:Nat} {l:List Int},i<l.length→∀ a b,a<b→b≤i→(srtD i l).getD a 0≤(srtD i l).getD b 0
 |0,l,_,a,b,h1,h2=>by omega
 |i+1,l,h,a,b,h1,h2=>by have ih:=z2y (i:=i) (l:=l) (by omega);exact z3i (i:=i+1) (j:=i+1) (l:=srtD i l) (yyo _) (by rw[q1i];exact h) (fun a b k1 k2 k3=>ih a b k1 (by omega)) a b h1 h2
def z1k(h:l≠[]):(srtD (l.length-1) l).Pairwise (·≤·):=by have hl:0<l.length:=List.length_pos_iff.2 h;rw[yx6];intro a b ha hb hab;rw[q1i] at ha hb;have:=z2y (i:=l.length-1) (l:=l) (by omega) a b hab (by omega);rw[get_of (by rw[q1i];exact ha),get_of (by rw[q1i];exact hb)] at this;exact this
def z4f(hp:l.Perm ((List.range n).map Int.ofNat)):srtD (l.length-1) l=(List.range n).map Int.ofNat:=by
 by_cases h:l=[]
 ·subst h;have:=hp.length_eq;have:n=0:=by simpa using this.symm
  subst this;rfl
 ·exact z8z ((q9w (by have:=List.length_pos_iff.2 h;omega)).trans hp) (z1k h)
end Ox.Gl
namespace Go.Proofs.YtjjkdjbbkagclaaGreatDoor
open Go Go.RowKit Ox Ox.Gl
attribute [local irreducible] JC JL JK JW
def fn296(x:Int):Ox.Fn Tryz.prog 296 (.acons (vI x) .anil) (·=vB false):=by refine Ox.Fn.intro xok Tryz.func296 rfl Tryz.call296 (yyd rfl) (fun E M0 up=>?_);refine z7 ?_;refine zK0 ?_;refine⟨.inl rfl,_,_,rfl,trivial,?_⟩;refine congrArg vB ?_;simp
def fn214(x y:Int):Ox.Fn Tryz.prog 214 (.acons (vI x) (.acons (vI y) .anil)) (·=vB (decide (x<y))):=by
 refine Ox.Fn.intro xok Tryz.func214 rfl Tryz.call214 (yyd rfl) (fun E M0 up=>?_);refine z7 ?_;have c1:=fn296 x;have c2:=fn296 y;obtain⟨b,hb⟩:∃ b,b=false:=⟨false,rfl⟩;rw[← hb] at c1 c2
 (repeat (first|refine zs rfl ?_|refine zg rfl rfl rfl ?_|refine zd ?_|refine k9 ?_|refine k8 ?_|refine zc rfl (c1) rfl rfl ?_|refine ze rfl (c1) rfl ?_|refine zk rfl rfl (fun _=>c1) rfl rfl ?_|refine zc rfl (c2) rfl rfl ?_|refine ze rfl (c2) rfl ?_|refine zk rfl rfl (fun _=>c2) rfl rfl ?_))
 refine⟨.inl rfl,_,_,rfl,trivial,?_⟩;refine congrArg vB ?_;simp[hb]
def str9:Tryz.prog.underlying 9=some .string:=by kernel_rfl
def fn218(x:Int)(h:0≤x∧x<256):Ox.Fn Tryz.prog 218 (.acons (.val (.int .u64) x) .anil) (fun r=>∃ n:Int,0≤n∧n≤1000∧r=vI n):=by refine Ox.Fn.intro xok Tryz.func218 rfl Tryz.call218 (yyd rfl) (fun E M0 up=>?_);refine z7 ?_;refine zK0 ?_;refine z5 rfl (fun hc=>absurd hc (by simp;omega)) (fun _=>?_);refine zK0 ?_;refine z5 rfl (fun hc=>absurd hc (by simp;omega)) (fun _=>?_);refine zK0 ?_;refine z5 rfl (fun hc=>absurd hc (by simp;omega)) (fun _=>?_);refine zK0 ?_;refine JK.strIx str9 rfl trivial h.1 (yxa (m:=256) (by omega) (by decide +kernel)) rfl fun z hz=>?_;refine zK0 ?_;refine⟨.inl rfl,_,_,rfl,trivial,?_⟩;exact⟨_,by show 0≤0+z;omega,by show 0+z≤1000;omega,rfl⟩
def fn128(x:Int)(h:0≤x∧x<256):Ox.Fn Tryz.prog 128 (.acons (.val (.int .u64) x) .anil) (fun r=>∃ n:Int,0≤n∧n≤1000∧r=vI n):=by refine Ox.Fn.intro xok Tryz.func128 rfl Tryz.call128 (yyd rfl) (fun E M0 up=>?_);refine z7 ?_;have c218:=fn218 x h;refine zK0 ?_;refine z5 rfl (fun hc=>by cases hc) (fun _=>?_);refine zK0 ?_;refine JK.cl rfl c218 rfl (fun r hr=>?_) trivial;obtain⟨n,h1,h2,rfl⟩:=hr;refine zK0 ?_;refine⟨.inl rfl,_,_,rfl,trivial,?_⟩;exact⟨n,h1,h2,rfl⟩
section
variable {E:World}{Mx M0:Mem}{nX:Nat}{rdX:Option Nat}{up:Nat→Nat→Value}{dp lab:Nat}{r:List Fr}{QA:Exit→S→Prop}
def vals_it(xs:List Int)(K:List Int→List (Nat×HO))(hlen:xs.length≤9223372036854775806)
  (hY:∀ pre s post,xs=pre++s::post→YO ⟨Tryz.prog,tys,ets,mts,E,Mx,nX,rdX,up,dp⟩ 16 lab (.acons (vI s) .anil) (K pre) 100 true (K (pre++[s])) 100)
  (k:∀ L,JK ⟨Tryz.prog,tys,ets,mts,E,M0,16,none,up,dp⟩ r QA ⟨L,K xs,100⟩) :
  JK ⟨Tryz.prog,tys,ets,mts,E,M0,16,none,up,dp⟩ (.code (lpC Tryz.f74.body)::.blk 0::r) QA ⟨[(0,.lf (.yld lab)),(5,vL xs),(6,vI xs.length),(7,vI 0)],K [],100⟩:=by
 refine JK.loop (fun i:Nat=>⟨[(0,.lf (.yld lab)),(5,vL xs),(6,vI xs.length),(7,vI (i:Int))],K (xs.take i),100⟩) (fun i=>i≤xs.length) (fun i=>xs.length-i) 0 (yyu _) (JW.refl _) fun i hi=>?_;have hsn:i<xs.length→xs.take (i+1)=xs.take i++[xs.getD i 0]:=fun h=>by rw[yx1 h,j7 xs h]
 have hps:i<xs.length→xs=xs.take i++xs.getD i 0::xs.drop (i+1):=fun h=>by rw[j7 xs h,List.getElem_cons_drop];simp
 have hfin:i=xs.length→xs.take i=xs:=fun e=>by rw[e,yx5]
 generalize xs.take i=pre at hsn hps hfin ⊢;refine zK0 ?_;refine z5 rfl (fun hc=>?_) (fun hc=>?_)
 ·replace hc:=zC hc;have hi':i<xs.length:=by omega
  have hz:xs.getD (Int.toNat (i:Int)) (Ty.int .i64).dflt=xs.getD i 0:=rfl;have y1:=hY pre _ _ (hps hi');rw[← hsn hi'] at y1;refine zK0 ?_;rw[hz];refine z06 (X:=⟨Tryz.prog,tys,ets,mts,E,Mx,nX,rdX,up,dp⟩) [0,5,6,7] y1 rfl rfl rfl (by simp[stayL,stayB,svL,lk]) trivial ?_;refine zK0 ?_;refine z5 rfl (fun h=>by cases h) (fun _=>?_);refine zK0 ?_;exact⟨i+1,JW.same ⟨rfl,rfl,rfl,rfl,trivial⟩,by omega,by omega⟩
 ·replace hc:=zC hc;rw[hfin (by omega)];refine zK0 ?_;exact k _
end
abbrev pSl(xs:List Int):AV:=.val (.ptr (.slice (.int .i64))) (some xs)
abbrev vSeq(xs:List Int):AV:=.fn 74 .anil (.acons (pSl xs) .anil)
abbrev LO126:List (Nat×AV):=[(2,.lf (.optr 0 []))]
def KV(c d:Code)(pre:List Int):List (Nat×HO):=[(3,.fr 0 [(13,.lf (.yld 2)),(2,.lf (.optr 0 []))]),(2,.loop .ready none #[7] c d 13 LO126),(0,.cell (.slice (.int .i64)) (.lf (.osl 4))),(4,.sl 3 (.int .i64) pre)]
def fn126(xs:List Int)(hlen:xs.length≤100):FnRow Tryz.prog 126 (.acons (.lf .nils) (.acons (vSeq xs) .anil)) 3 (.int .i64) xs:=by
 refine FnRow.intro (T:=tys) (ET:=ets) (MT:=mts) Tryz.func126 rfl Tryz.call126 (yyd rfl) (fun E M0 up=>?_);refine z7 ?_;refine zK0 ?_;refine z9v 0 3 (.int .i64) rfl ?_;refine z07 [2] rfl rfl rfl Tryz.func74 rfl Tryz.call74 (yyd rfl) trivial fun M3 up3 a1 b1 ha1 hb1=>?_;refine zK0 ?_;refine q18 (s':=⟨[(0,.lf (.yld 2)),(5,vL xs),(6,vI xs.length),(7,vI 0)],KV a1 b1 [],100⟩) (by exact zJ) ?_;refine vals_it (Mx:=M3) (nX:=16) (rdX:=none) xs (fun pre=>KV a1 b1 pre) (by omega) ?_ ?_
 ·intro pre s post hps;have hpl:pre.length≤100:=by have h1:=congrArg List.length hps;rw[yy8] at h1;omega
  refine YO.intro 0 13 (ps:=#[7]) (assign:=a1) (body:=b1) (nO:=13) (LO:=LO126) (L0:=[(7,vI s),(2,.lf (.optr 0 []))]) rfl rfl rfl ⟨3,_,rfl,rfl⟩ ⟨3,_,rfl,rfl⟩ fun M4 M5 up5 bl hup=>z7 (q1f ha1 ?_);refine zK0 ?_;refine q0d (q9d rfl rfl rfl rfl (z7 (q1f hb1 ?_)));refine zK0 ?_;refine q0d (bodyQ.of rfl rfl rfl rfl rfl rfl ⟨rfl,?_⟩);show JW _ ⟨[],KV a1 b1 (pre++[s]),100⟩ _;exact zJ
 ·intro L;refine q0d (rngQ.of (.inr rfl) rfl rfl rfl rfl rfl rfl rfl (z2d ?_));refine zK0 ?_;exact⟨.inl rfl,4,4,rfl,rfl,rfl⟩
def fn72(xs:List Int)(hlen:xs.length≤100):FnRow Tryz.prog 72 (.acons (vSeq xs) .anil) 3 (.int .i64) xs:=by refine FnRow.intro (T:=tys) (ET:=ets) (MT:=mts) Tryz.func72 rfl Tryz.call72 (yyd rfl) (fun E M0 up=>?_);refine z7 ?_;refine zK0 ?_;refine z2k rfl rfl trivial (fn126 xs hlen) ⟨trivial,⟨trivial,⟨trivial,trivial⟩⟩,trivial⟩ rfl ?_;refine zK0 ?_;exact⟨.inl rfl,2,0,rfl,rfl,rfl⟩
abbrev sH(D:List Int):List (Nat×HO):=[(3,.fr 2 []),(2,.fr 1 []),(1,.fr 0 [(3,.lf (.osl 0))]),(0,.sl 3 (.int .i64) D)]
def sort_in(D0:List Int)(hn:D0.length≤12)(h0:1≤D0.length)
  {E:World} {M0 M1 M2 M3:Mem} {nn n1 n2:Nat} {up up1 up2 up3:Nat→Nat→Value} {K:AV→List (Nat×AV)→List (Nat×HO)→Nat→Prop} (hK:K (resV .anil) [] [(2,.fr 1 []),(1,.fr 0 [(3,.lf (.osl 0))]),(0,.sl 3 (.int .i64) (srtD (D0.length-1) D0))] 4) :
  JK (Ctx.sub (Ctx.sub (Ctx.sub ⟨Tryz.prog,tys,ets,mts,E,M0,nn,none,up,0⟩ M1 n1 none up1) M2 n2 none up2) M3 Tryz.f208.ntmps none up3) [.code (Tryz.f208.body.getD .skip)]
   (inlQ (Ctx.sub (Ctx.sub ⟨Tryz.prog,tys,ets,mts,E,M0,nn,none,up,0⟩ M1 n1 none up1) M2 n2 none up2) Tryz.f208.results.toList K) ⟨[(0,.lf (.osl 0)),(1,vI 0),(2,vI D0.length)],sH D0,4⟩:=by
 refine cdf (fn:=Tryz.f208) rfl ?_;refine zK0 ?_;refine JK.loop (fun i:Nat=>⟨[(0,.lf (.osl 0)),(1,vI 0),(2,vI D0.length),(6,vI ((i:Int)+1))],sH (srtD i D0),4⟩) (fun i=>i+1≤D0.length) (fun i=>D0.length-i) 0 h0 (by exact zJ) fun i hi=>?_;have hlen:=q1i i D0;have hnx:srtD (i+1) D0=insD (i+1) (srtD i D0):=rfl;have hfin:i+1=D0.length→srtD i D0=srtD (D0.length-1) D0:=fun e=>by rw[← e];rfl
 generalize srtD i D0=D1 at hlen hnx hfin ⊢;refine zK0 ?_;refine z5 rfl (fun hc=>?_) (fun hc=>?_)
 ·replace hc:=zC hc;refine zK0 ?_;refine JK.loop (σ:=Nat×List Int) (fun q=>⟨[(0,.lf (.osl 0)),(1,vI 0),(2,vI D0.length),(6,vI ((i:Int)+1)),(7,vI (q.1:Int))],sH q.2,4⟩) (fun q=>q.1≤i+1∧q.2.length=D0.length∧insD q.1 q.2=insD (i+1) D1) (fun q=>q.1) (i+1,D1) ⟨yyo _,hlen,rfl⟩ (by exact zJ) fun⟨j,D⟩ ⟨hj,hDl,hD⟩=>?_;dsimp only at hj hDl hD ⊢;have c214:=fn214 (D.getD (Int.toNat (j:Int)) (Ty.int .i64).dflt) (D.getD (Int.toNat ((j:Int)-1)) (Ty.int .i64).dflt);have hjl:(0:Int)≤j∧(j:Int)<D.length:=by omega
  refine zK3 ?_;refine v9 xk (Tryz.f208.body.getD .skip) ⟨[(0,.lf (.osl 0)),(1,vI 0),(2,vI D0.length),(6,vI ((i:Int)+1)),(7,vI (j:Int)),(30,vB (bif decide ((0:Int)<(j:Int)) then decide (D.getD (Int.toNat (j:Int)) (Ty.int .i64).dflt<D.getD (Int.toNat ((j:Int)-1)) (Ty.int .i64).dflt) else false))],sH D,4⟩ rfl 15 rfl ?_ ?_
  ·(refine q7 0 xk rfl rfl (q7 1 xk rfl rfl (q7 2 xk rfl rfl (q7 3 xk rfl rfl (j4 4 xk rfl rfl rfl (j4 5 xk rfl rfl rfl (j4 6 xk rfl rfl rfl (j4 8 xk rfl rfl rfl (j4 9 xk rfl rfl rfl (j4 10 xk rfl rfl rfl (j4 11 xk rfl rfl rfl ?_))))))))));refine v6 7 [12] xk StF.nil (BrF.one rfl rfl ?_ (BrF.one rfl rfl ?_ BrF.nil));(· (refine x9 xk rfl rfl rfl ?_);refine q9 ?_;refine zU 12 xk rfl rfl ?_;(refine x9 xk rfl rfl rfl ?_);refine q9 ?_;refine zU 13 xk rfl rfl ?_;(refine q8a rfl rfl (fun hgd=>c214) rfl trivial rfl ?_);refine q9 ?_;refine q7 14 xk rfl rfl ?_;refine w7 xk StF.nil ?_;(exact zJ));(· (refine x9 xk rfl rfl rfl ?_);refine q9 ?_;refine zU 7 xk rfl rfl ?_;(refine x9 xk rfl rfl rfl ?_);refine q9 ?_;refine zU 13 xk rfl rfl ?_;(refine q8a rfl rfl (fun hgd=>c214) rfl trivial rfl ?_);refine q9 ?_;refine q7 14 xk rfl rfl ?_;refine w7 xk StF.nil ?_;(exact zJ)))
  refine z5 rfl (fun hd=>?_) (fun hd=>?_)
  ·obtain⟨k,rfl⟩:∃ k,j=k+1:=by
    cases j with
    |zero=>cases hd
    |succ k=>exact⟨k,rfl⟩
   have h1:decide ((0:Int)<((k+1:Nat):Int))=true:=by rw[yyq];omega
   have hkk:Int.toNat (((k+1:Nat):Int)-1)=k:=by omega
   rw[h1,cond_true,yyq,hkk,Int.toNat_natCast] at hd;have hs:insD k (swp D (k+1) k)=insD (i+1) D1:=by rw[← hD];show _=if D.getD (k+1) 0<D.getD k 0 then insD k (swp D (k+1) k) else D;exact(if_pos (show D.getD (k+1) 0<D.getD k 0 from hd)).symm
   have hsw:(D.set (Int.toNat ((k+1:Nat):Int)) (D.getD (Int.toNat (((k+1:Nat):Int)-1)) (Ty.int .i64).dflt)).set (Int.toNat (((k+1:Nat):Int)-1)) (D.getD (Int.toNat ((k+1:Nat):Int)) (Ty.int .i64).dflt)=swp D (k+1) k:=by rw[hkk,Int.toNat_natCast];rfl
   have hsl:(D.set (Int.toNat ((k+1:Nat):Int)) (D.getD (Int.toNat (((k+1:Nat):Int)-1)) (Ty.int .i64).dflt)).length=D.length:=by simp
   have hjl2:(0:Int)≤((k+1:Nat):Int)-1∧((k+1:Nat):Int)-1<D.length:=by omega
   clear hkk h1 hd c214 hD;refine zK3 ?_;refine q0z xk (Tryz.f208.body.getD .skip) ⟨[(0,.lf (.osl 0)),(1,vI 0),(2,vI D0.length),(6,vI ((i:Int)+1)),(7,vI ((k+1:Nat):Int))],sH ((D.set (Int.toNat ((k+1:Nat):Int)) (D.getD (Int.toNat (((k+1:Nat):Int)-1)) (Ty.int .i64).dflt)).set (Int.toNat (((k+1:Nat):Int)-1)) (D.getD (Int.toNat ((k+1:Nat):Int)) (Ty.int .i64).dflt)),4⟩ rfl 18 rfl ?_ ?_
   ·(refine q7 0 xk rfl rfl (q7 1 xk rfl rfl (q7 2 xk rfl rfl (q7 3 xk rfl rfl (q7 4 xk rfl rfl (q7 5 xk rfl rfl (q7 6 xk rfl rfl (q7 7 xk rfl rfl (q7 8 xk rfl rfl (q7 10 xk rfl rfl (q7 11 xk rfl rfl (q7 12 xk rfl rfl (q8 9 xk rfl rfl (q8 13 xk rfl rfl (q8 14 xk rfl rfl (zU 15 xk rfl rfl ?_)))))))))))))));refine zK2 ?_;refine q9 ?_;refine q7 16 xk rfl rfl (zU 17 xk rfl rfl ?_);refine zK2 ?_;refine q9 ?_;refine w7 xk StF.nil ?_;(exact zJ))
   rw[hsw];have hsl2:(swp D (k+1) k).length=D0.length:=by rw[q6h,hDl]
   generalize swp D (k+1) k=D' at hs hsl2 ⊢;refine zK0 ?_;exact⟨(k,D'),by exact zJ,⟨by omega,hsl2,hs⟩,yy6 k⟩
  ·have hs:D=insD (i+1) D1:=by
    rw[← hD];cases j with
    |zero=>rfl
    |succ k=>
     have h1:decide ((0:Int)<((k+1:Nat):Int))=true:=by rw[yyq];omega
     have hkk:Int.toNat (((k+1:Nat):Int)-1)=k:=by omega
     rw[h1,cond_true,decide_eq_false_iff_not,hkk,Int.toNat_natCast] at hd;show _=if D.getD (k+1) 0<D.getD k 0 then insD k (swp D (k+1) k) else D;exact(if_neg (show ¬ D.getD (k+1) 0<D.getD k 0 from hd)).symm
   refine zK0 ?_;refine⟨i+1,?_,by omega,by omega⟩;rw[hnx,← hs];exact zJ
 ·replace hc:=zC hc;rw[hfin (by omega)];refine zK0 ?_;exact q0d (z3k rfl rfl rfl rfl hK)
def fn28s(xs:List Int):Ox.Fn Tryz.prog 28 (.acons (vL xs) .anil) (·=vSeq xs):=by
 refine Ox.Fn.intro xok Tryz.func28 rfl Tryz.call28 (yyd rfl) (fun E M0 up=>?_);refine z7 ?_;refine zK0 ?_;refine z2j ?_
 (refine z08 [0] [1] rfl ?_)
 refine zK0 ?_;refine⟨.inl rfl,_,_,rfl,trivial,?_⟩;rfl
def fn27(xs:List Int)(h1:1≤xs.length)(hlen:xs.length≤12):Ox.Fn Tryz.prog 27 (.acons (vSeq xs) .anil) (·=vL (srtD (xs.length-1) xs)):=by
 refine Ox.Fn.intro xok Tryz.func27 rfl Tryz.call27 (yyd rfl) (fun E M0 up=>?_);refine z7 ?_;have c72:=fn72 xs (by omega);have c128:=fn128 (xs.length:Int) (by omega);refine zK0 ?_;refine z49 rfl c72 rfl trivial ?_;refine zK0 ?_;refine z9u [3] rfl rfl trivial Tryz.func73 rfl Tryz.call73 (yyd rfl) rfl fun M1 up1=>?_;refine zK0 ?_;refine JK.cl rfl c128 rfl (fun r hr=>?_) trivial;obtain⟨n,n0,n1,rfl⟩:=hr;refine zK0 ?_;refine z9u [] rfl rfl trivial Tryz.func127 rfl Tryz.call127 (yyd rfl) rfl fun M2 up2=>?_;refine zK0 ?_;refine JK.loop (σ:=Unit) (fun _=>⟨[(0,.lf (.osl 0)),(1,vI 0),(2,vI xs.length)],[(2,.fr 1 []),(1,.fr 0 [(3,.lf (.osl 0))]),(0,.sl 3 (.int .i64) xs)],3⟩) (fun _=>True) (fun _=>0) () trivial (by exact zJ) fun _ _=>?_;refine zK0 ?_;refine z5 rfl (fun _=>?_) (fun h=>absurd h (by simp;omega));refine zK0 ?_;refine z9u [] rfl rfl trivial Tryz.func208 rfl Tryz.call208 (yyd rfl) rfl fun M3 up3=>?_;refine cdt (fn:=Tryz.f208) rfl ?_;show JK _ _ _ ⟨[(0,.lf (.osl 0)),(1,vI 0),(2,vI xs.length)],sH xs,4⟩;refine sort_in xs hlen h1 ?_;refine zK0 ?_;refine inlQ.ret rfl rfl rfl rfl ?_;refine zK0 ?_;refine q0d (z3k rfl rfl rfl rfl ?_)
 (refine z08 [0] [3] rfl ?_)
 refine zK0 ?_;refine⟨.inl rfl,_,_,rfl,trivial,?_⟩;rfl
end Go.Proofs.YtjjkdjbbkagclaaGreatDoor
namespace Ox.Gl
def sumR(f:Nat→Int):Nat→Int
 |0=>0
 |n+1=>sumR f n+f n
def q8i(f g:Nat→Int):∀ n,sumR (fun k=>f k-g k) n=sumR f n-sumR g n
 |0=>rfl
 |n+1=>by simp only[sumR,q8i f g n];omega
def q4y{f g:Nat→Int}:∀ {n:Nat},(∀ k,k<n→f k=g k)→sumR f n=sumR g n
 |0,_=>rfl
 |n+1,h=>by simp only[sumR];rw[q4y (n:=n) fun k hk=>h k (by omega),h n (by omega)]
def q6j(f:Nat→Int):∀ n,sumR f n=sumI ((List.range n).map f)
 |0=>rfl
 |n+1=>by rw[List.range_succ,yxv,z2v,← q6j f n];simp[sumR,sumI]
def z5l(hp:o.Perm ((List.range n).map Int.ofNat))(f:Int→Int):sumR (fun k=>f (o.getD k 0)) n=sumR (fun k=>f (k:Int)) n:=by
 have hlen:o.length=n:=by simpa using hp.length_eq
 have e:(List.range n).map (fun k=>f (o.getD k 0))=o.map f:=by refine List.ext_getElem (by simp[hlen]) fun i k1 k2=>?_;rw[yx3] at k2;simp[List.getD,k2]
 rw[q6j,e,z5m (hp.map f),List.map_map,q6j];rfl
def q7p(hp:o.Perm ((List.range n).map Int.ofNat))(f:Int→Int)(d:Int):sumR (fun k=>f (o.getD k 0)-(k:Int)*d) n=sumR (fun k=>f (k:Int)-(k:Int)*d) n:=by rw[q8i,q8i,z5l hp f]
def q3b{f:Nat→Int}{b:Int}:∀ {n:Nat},(∀ k,k<n→f k≤b)→sumR f n≤(n:Int)*b
 |0,_=>by simp[sumR]
 |n+1,h=>by
  have h1:=q3b (n:=n) fun k hk=>h k (by omega);have h2:=h n (by omega);have h3:((n+1:Nat):Int)*b=(n:Int)*b+b:=by rw[Int.natCast_add,Int.add_mul];simp
  rw[h3,sumR];omega
def q3c{f:Nat→Int}{b:Int}:∀ {n:Nat},(∀ k,k<n→b≤f k)→(n:Int)*b≤sumR f n
 |0,_=>by simp[sumR]
 |n+1,h=>by
  have h1:=q3c (n:=n) fun k hk=>h k (by omega);have h2:=h n (by omega);have h3:((n+1:Nat):Int)*b=(n:Int)*b+b:=by rw[Int.natCast_add,Int.add_mul];simp
  rw[h3,sumR];omega
def q8q(hp:o.Perm ((List.range n).map Int.ofNat)):o.length=n∧(∀ x∈o,0≤x∧x<n)∧o.Nodup∧(∀ a:Nat,a<n→(a:Int)∈o):=by
 refine⟨by simpa using hp.length_eq,fun x hx=>?_,?_,fun a ha=>?_⟩
 ·obtain⟨k,h1,rfl⟩:=yxk.1 (hp.mem_iff.1 hx);have:=yxc.1 h1;simp only[Int.ofNat_eq_natCast];omega
 ·refine hp.nodup_iff.2 ?_;rw[List.nodup_iff_pairwise_ne,List.pairwise_map];exact(List.nodup_iff_pairwise_ne.1 List.nodup_range).imp fun {a b} h e=>h (Int.ofNat.inj e)
 ·exact hp.mem_iff.2 (yxk.2 ⟨a,yxc.2 ha,rfl⟩)
def ord_nat(hp:o.Perm ((List.range n).map Int.ofNat)):(o.map Int.toNat).Perm (List.range n):=by have:=hp.map Int.toNat;rw[List.map_map] at this;simpa[Function.comp_def] using this
variable {d:Int}{cs:List CoD}{ps:List (List Int)}
def isO(n:Nat)(o:List Int):Prop:=o.Perm ((List.range n).map Int.ofNat)
def sufB(d:Int)(cs:List CoD)(o:List Int)(i:Nat):Bool:=(List.range i).all fun k=>suB d (cs.getD (o.getD k 0).toNat coZ) k
def rulB(ps:List (List Int))(o:List Int):Bool:=decide ((o.map Int.toNat).Pairwise fun x y=>pG ps y x=false)
def cheG(d:Int)(cs:List CoD)(ps:List (List Int))(o:List Int):Int:=if sufB d cs o o.length=true then(if rulB ps o=true then 0 else 16) else 21
def q9r(o:List Int)(i:Nat):sufB d cs o (i+1)=(sufB d cs o i&&suB d (cs.getD (o.getD i 0).toNat coZ) i):=by unfold sufB;rw[List.range_succ,List.all_append];simp
def q9s(h:i≤j)(hs:sufB d cs o j=true):sufB d cs o i=true:=by unfold sufB at *;rw[yyx] at *;intro k hk;exact hs k (yxc.2 (yxa (yxc.1 hk) h))
def isO.get(h:isO n o)(hi:i<o.length):0≤o.getD i 0∧o.getD i 0<n:=by obtain⟨_,h2,_,_⟩:=q8q h;have:=h2 (o.getD i 0) (by rw[yyp,yys hi];exact yy5 hi);omega
def isO.len(h:isO n o):o.length=n:=(q8q h).1
def liesB(o:List Int)(i:Nat):Nat:=bitsQ ((o.take i).map Int.toNat)
def z7l(hi:i<o.length):liesB o (i+1)=liesB o i ||| 2 ^ (o.getD i 0).toNat:=by unfold liesB;rw[yx1 hi,yxv,yyz,List.map_nil,q74,yyp,yys hi];rfl
def lies_lt(h:isO n o)(i:Nat):liesB o i<2 ^ n:=bitsQ_lt fun c hc=>by obtain⟨x,hx,rfl⟩:=yxk.1 hc;obtain⟨_,h2,_,_⟩:=q8q h;have:=h2 x (List.mem_of_mem_take hx);omega
def q9z{bf:Nat→Nat}:∀ (q pre:List Nat),ruleP bf (bitsQ pre) q=true↔∀ i,i<q.length→bf (q.getD i 0) ^^^ (bf (q.getD i 0) &&& bitsQ (pre++q.take i))=0
 |[],pre=>by simp[ruleP]
 |c::q,pre=>by
  unfold ruleP;have e:bitsQ pre ||| 2 ^ c=bitsQ (pre++[c]):=(q74 pre c).symm
  rw[yyb,e,q9z q (pre++[c]),beq_iff_eq];constructor
  ·intro⟨h1,h2⟩ i hi;cases i with
   |zero=>simpa using h1
   |succ i=>have:=h2 i (by simpa using hi);simpa[yxo] using this
  ·intro h;refine⟨by simpa using h 0 (by simp),fun i hi=>?_⟩;have:=h (i+1) (by simpa using hi);simpa[yxo] using this
def VG.rule(h:VG d cs ps)(ho:isO cs.length o):rulB ps o=true↔∀ i,i<o.length→bfN ps (o.getD i 0).toNat ^^^ (bfN ps (o.getD i 0).toNat &&& liesB o i)=0:=by
 have hp:=ord_nat ho;have hr:=q90 (P:=pG ps) (n:=cs.length) (bf:=bfN ps) (fun c a _=>q9b ps c a) (fun a c hp=>(h.lt hp).1) h.irr (o.map Int.toNat) [] 0
  (by rw[List.nil_append];exact hp.nodup_iff.2 List.nodup_range) (fun a=>by rw[List.nil_append,hp.mem_iff,yxc]) (fun a=>by simp)
 unfold rulB;rw[yyq,← hr];have h0:(0:Nat)=bitsQ []:=rfl;rw[h0,q9z];have e:∀ i,i<o.length→(o.map Int.toNat).getD i 0=(o.getD i 0).toNat:=fun i hi=>by rw[yyp,List.getElem?_map,yyp,yys hi];rfl
 constructor
 ·intro k i hi;have:=k i (by rw[yx3];exact hi);rw[e i hi,List.nil_append,← List.map_take] at this;exact this
 ·intro k i hi;rw[yx3] at hi;have:=k i hi;rw[e i hi,List.nil_append,← List.map_take];exact this
end Ox.Gl
namespace Go.Proofs.YtjjkdjbbkagclaaGreatDoor
open Go Go.RowKit Ox Ox.Gl
attribute [local irreducible] JC JL JK JW
variable{cs:List CoD}
def fn8{ps:List (List Int)}(h:VG d cs ps)(ho:isO cs.length o):Ox.Fn Tryz.prog 8 (.acons (vG d cs ps) (.acons (vL o) .anil)) (·=vI (cheG d cs ps o)):=by
 refine Ox.Fn.intro xok Tryz.func8 rfl Tryz.call8 (yyd rfl) (fun E M0 up=>?_);refine z7 ?_;have hn1:=h.n1;have hn10:=h.n10;have hol:=ho.len;have c26:=fn26 h [] (fun x hx=>absurd hx yxg);have c28:=fn28s o;have c27:=fn27 o (by omega) (by omega);rw[z4f ho] at c27;have hrl:((List.range cs.length).map Int.ofNat).length=cs.length:=by simp
 have hrg:∀ i,i<cs.length→((List.range cs.length).map Int.ofNat).getD i 0=(i:Int):=fun i hi=>by simp[List.getD,hi]
 generalize (List.range cs.length).map Int.ofNat=rg at c27 hrl hrg;refine zK20 ?_;refine z5 rfl (fun h=>absurd h (by decide)) (fun _=>?_)
 (repeat (first|refine zs rfl ?_|refine zg rfl rfl rfl ?_|refine zd ?_|refine k9 ?_|refine k8 ?_|refine zc rfl (c28) rfl rfl ?_|refine ze rfl (c28) rfl ?_|refine zk rfl rfl (fun _=>c28) rfl rfl ?_|refine zc rfl (c27) rfl rfl ?_|refine ze rfl (c27) rfl ?_|refine zk rfl rfl (fun _=>c27) rfl rfl ?_))
 refine JK.loop (fun i:Nat=>⟨[(1,vL o),(2,.lf (.optr 0 [])),(5,vF d cs ps (winL d cs) (befL ps)),(7,vL rg),(26,vL rg),(27,vI rg.length),(28,vI (i:Int))],[(0,.cell glT (vG d cs ps))],1⟩) (fun i=>i≤cs.length) (fun i=>cs.length-i) 0 (yyu _) (by exact zJ) fun i hi=>?_;have hri:=hrg i;refine zK0 ?_;refine z5 rfl (fun hc=>?_) (fun hc=>?_)
 ·replace hc:=zC hc;have hi':i<cs.length:=by omega
  have hz:rg.getD (Int.toNat (i:Int)) (Ty.int .i64).dflt=(i:Int):=hri hi';refine zK0 ?_;rw[hz];refine z5 rfl (fun h=>absurd h (by simp)) (fun _=>?_);refine zK0 ?_;exact⟨i+1,by exact zJ,by omega,by omega⟩
 replace hc:=zC hc;clear hri hi hc;refine zK0 ?_;refine z5 rfl (fun h=>absurd h (by simp[hrl])) (fun _=>?_);have hE:cheG d cs ps o=if sufB d cs o o.length=true then(if rulB ps o=true then 0 else 16) else 21:=rfl;refine zK0 ?_;refine JK.loop (fun i:Nat=>⟨[(1,vL o),(5,vF d cs ps (winL d cs) (befL ps)),(43,vL o),(44,vI o.length),(45,vI (i:Int))],[],0⟩) (fun i=>i≤o.length∧sufB d cs o i=true) (fun i=>o.length-i) 0 ⟨yyu _,by simp[sufB]⟩ (by exact zJ) fun i ⟨hi,hs⟩=>?_;have hsn:=q9r (d:=d) (cs:=cs) o i;have hget:=fun q=>ho.get (i:=i) q;have hsuit:∀ c,c<cs.length→i<cs.length→decide (loR (winL d cs) c≤(i:Int)∧(i:Int)≤hiR (winL d cs) c)=suB d (cs.getD c coZ) i:=fun c hc q=>by rw[yy2,yyq];exact h.suit hc (by omega) (by omega)
 have c29:=fun c (hc:c<10)=>fn29 (d:=d) (cs:=cs) (ps:=ps) (winL d cs) (befL ps) (c:=c) (i:Int) hc (q5y _ _);have hmono:=fun q:i+1≤o.length=>q9s (d:=d) (cs:=cs) (o:=o) q;refine zK0 ?_;refine z5 rfl (fun hc=>?_) (fun hc=>?_)
 ·replace hc:=zC hc;have hi':i<o.length:=by omega
  have hz:o.getD (Int.toNat (i:Int)) (Ty.int .i64).dflt=o.getD i 0:=rfl;obtain⟨g1,g2⟩:=hget hi';obtain⟨c,hc'⟩:∃ c:Nat,o.getD i 0=(c:Int):=⟨(o.getD i 0).toNat,by omega⟩;have hcl:c<cs.length:=by omega
  have c29:=c29 c (by omega);rw[hsuit c hcl (by omega)] at c29;rw[hc',Int.toNat_natCast] at hsn;rw[hc'] at hz;generalize suB d (cs.getD c coZ) (i:Int)=b at c29 hsn;refine zK0 ?_;rw[hz]
  (repeat (first|refine zs rfl ?_|refine zg rfl rfl rfl ?_|refine zd ?_|refine k9 ?_|refine k8 ?_|refine zc rfl (c29) rfl rfl ?_|refine ze rfl (c29) rfl ?_|refine zk rfl rfl (fun _=>c29) rfl rfl ?_))
  refine z5 rfl (fun hd=>?_) (fun hd=>?_)
  ·refine zK0 ?_;refine⟨.inl rfl,_,_,rfl,trivial,?_⟩;rw[hE,if_neg fun k=>?_];have:=hmono (by omega) k;rw[hsn,hs] at this;rw[show b=true from by simpa using this] at hd;cases hd
  ·refine zK0 ?_;refine⟨i+1,by exact zJ,⟨by omega,?_⟩,by omega⟩;rw[hsn,hs];simpa using hd
 replace hc:=zC hc;have hs2:sufB d cs o o.length=true:=by rw[show o.length=i by omega];exact hs
 rw[if_pos hs2] at hE;clear hs2 hs hsn hget hsuit c29 hmono hc hi;have hrule:=h.rule ho;have hbv:=h.bef;have hbt:=h.bf_1024;have hb10:=h.bef_len;refine zK0 ?_;refine JK.loop (fun i:Nat=>⟨[(5,vF d cs ps (winL d cs) (befL ps)),(12,vS64 (liesB o i)),(56,vL o),(57,vI o.length),(58,vI (i:Int))],[],0⟩) (fun i=>i≤o.length∧∀ j,j<i→bfN ps (o.getD j 0).toNat ^^^ (bfN ps (o.getD j 0).toNat &&& liesB o j)=0) (fun i=>o.length-i) 0 ⟨yyu _,fun j hj=>absurd hj (Nat.not_lt_zero j)⟩ (by exact zJ) fun i ⟨hi,hall⟩=>?_;have hln:=fun q=>z7l (o:=o) (i:=i) q;have hll:=lies_lt ho i;have hp2:=z59 hn10;have hget:=fun q=>ho.get (i:=i) q;generalize hly:liesB o i=ly at hln hll ⊢;refine zK0 ?_;refine z5 rfl (fun hc=>?_) (fun hc=>?_)
 ·replace hc:=zC hc;have hi':i<o.length:=by omega
  have hz:o.getD (Int.toNat (i:Int)) (Ty.int .i64).dflt=o.getD i 0:=rfl;obtain⟨g1,g2⟩:=hget hi';obtain⟨c,hc'⟩:∃ c:Nat,o.getD i 0=(c:Int):=⟨(o.getD i 0).toNat,by omega⟩;have hcl:c<cs.length:=by omega
  have hln:=hln hi';have hbc:=hbv c;have hbc2:=hbt c;have hpc:=q6n (n:=c) (by omega);rw[hc',Int.toNat_natCast] at hln;rw[hc'] at hz;have e0:(befL ps).getD (Int.toNat (c:Int)) (Ty.int .u64).dflt=((bfN ps c:Nat):Int):=hbc;have hbb:0≤(befL ps).getD (Int.toNat (c:Int)) (Ty.int .u64).dflt∧(befL ps).getD (Int.toNat (c:Int)) (Ty.int .u64).dflt<1024:=by rw[e0];omega
  refine zK3 ?_;rw[hz];refine zK0 ?_;rw[e0];refine z5 rfl (fun hd=>?_) (fun hd=>?_)
  ·refine zK0 ?_;refine⟨.inl rfl,_,_,rfl,trivial,?_⟩;rw[hE,if_neg fun k=>?_];have:=hrule.1 k i hi';rw[hc',Int.toNat_natCast,hly] at this;rw[Int.toNat_natCast,Int.toNat_natCast,this] at hd;cases hd
  ·have hd0:bfN ps c ^^^ (bfN ps c &&& ly)=0:=by rw[Int.toNat_natCast,Int.toNat_natCast] at hd;simp at hd;exact hd
   refine zK0 ?_;refine⟨i+1,?_,⟨by omega,fun j hj=>?_⟩,by omega⟩
   ·rw[hln,vS_or];exact zJ
   ·rcases Nat.lt_succ_iff_lt_or_eq.1 hj with q|rfl
    ·exact hall j q
    ·rw[hc',Int.toNat_natCast,hly];exact hd0
 ·replace hc:=zC hc;refine zK0 ?_;refine⟨.inl rfl,_,_,rfl,trivial,?_⟩;rw[hE,if_pos (hrule.2 fun j hj=>hall j (by omega))]
variable{k:Int}
def fn12{ps:List (List Int)}(h:VG d cs ps)(hc:c<cs.length)(h0:0≤k)(hk:k<cs.length) :
  Ox.Fn Tryz.prog 12 (.acons (vG d cs ps) (.acons (vI (c:Int)) (.acons (vI k) .anil))) (·=vRg (sprD d (cs.getD c coZ) k)):=by
 refine Ox.Fn.intro xok Tryz.func12 rfl Tryz.call12 (yyd rfl) (fun E M0 up=>?_);refine z7 ?_;have hkd:=kd_bd h0 hk h.n10 h.d1 h.d100;obtain⟨⟨k1,k2,k3⟩,k4,k5,k6⟩:=q37 h hc;have hz:cs.getD (Int.toNat (c:Int)) coT.dflt=cs.getD c coZ:=rfl;refine zK3 ?_;rw[hz];generalize cs.getD c coZ=q at k1 k2 k3 k4 k5 k6 ⊢;obtain⟨⟨u,v,_⟩,x,y,_⟩:=q;replace k1:0≤u:=k1;replace k2:u≤v:=k2;replace k3:v≤1000:=k3;have hs:sprD d ((u,v,()),x,y,()) k=(u-k*d,v-k*d,()):=rfl;rw[hs];refine zK0 ?_;refine⟨.inl rfl,_,_,rfl,trivial,?_⟩;rfl
def fn31{ps:List (List Int)}(h:VG d cs ps)(hc:c<cs.length)(h0:0≤k)(hk:k<cs.length) :
  Ox.Fn Tryz.prog 31 (.acons (vG d cs ps) (.acons (vI (c:Int)) (.acons (vI k) .anil))) (·=vB (suB d (cs.getD c coZ) k)):=by
 refine Ox.Fn.intro xok Tryz.func31 rfl Tryz.call31 (yyd rfl) (fun E M0 up=>?_);refine z7 ?_;have c12:=fn12 h hc h0 hk;have hz:cs.getD (Int.toNat (c:Int)) coT.dflt=cs.getD c coZ:=rfl;refine zK3 ?_;refine v9 xk (Tryz.f31.body.getD .skip) ⟨[(7,.lf (.optr 1 [])),(8,.lf (.optr 2 []))],[(1,.cell rgT (vRg (sprD d (cs.getD c coZ) k))),(2,.cell coT (vCo (cs.getD c coZ)))],3⟩ rfl 13 rfl ?_ ?_
 ·(refine q7 1 xk rfl rfl (q7 2 xk rfl rfl (q7 4 xk rfl rfl (q7 6 xk rfl rfl (q8 0 xk rfl rfl (q8 5 xk rfl rfl (q8 7 xk rfl rfl (q8 8 xk rfl rfl ?_)))))));refine v6 3 [9,10] xk ?_ ?_;exact zS;refine(BrF.one rfl rfl ?_ (BrF.one rfl rfl ?_ (BrF.one rfl rfl ?_ BrF.nil)));(· refine zK10 ?_;refine q9 ?_;refine v6 9 [10] xk ?_ ?_;exact zS;refine(BrF.one rfl rfl ?_ (BrF.one rfl rfl ?_ BrF.nil));(· (refine n9 xk rfl rfl ?_);refine q9 ?_;refine zU 10 xk rfl rfl ?_;(refine n9 xk rfl rfl ?_);refine q9 ?_;refine zU 11 xk rfl rfl ?_;refine zK2 ?_;refine q9 ?_;refine zU 12 xk rfl rfl ?_;exact zB3);(· (refine n9 xk rfl rfl ?_);refine q9 ?_;refine zU 9 xk rfl rfl ?_;(refine n9 xk rfl rfl ?_);refine q9 ?_;refine zU 11 xk rfl rfl ?_;refine zK2 ?_;refine q9 ?_;refine zU 12 xk rfl rfl ?_;exact zB3));(· (refine n9 xk rfl rfl ?_);refine q9 ?_;refine v6 3 [10] xk ?_ ?_;exact zS;refine(BrF.one rfl rfl ?_ (BrF.one rfl rfl ?_ BrF.nil));(· refine zK10 ?_;refine q9 ?_;refine zU 10 xk rfl rfl ?_;(refine n9 xk rfl rfl ?_);refine q9 ?_;refine zU 11 xk rfl rfl ?_;refine zK2 ?_;refine q9 ?_;refine zU 12 xk rfl rfl ?_;exact zB3);(· (refine n9 xk rfl rfl ?_);refine q9 ?_;refine zU 3 xk rfl rfl ?_;refine zK10 ?_;refine q9 ?_;refine zU 11 xk rfl rfl ?_;refine zK2 ?_;refine q9 ?_;refine zU 12 xk rfl rfl ?_;exact zB3));(· (refine n9 xk rfl rfl ?_);refine q9 ?_;refine v6 3 [9] xk ?_ ?_;exact zS;refine(BrF.one rfl rfl ?_ (BrF.one rfl rfl ?_ BrF.nil));(· refine zK10 ?_;refine q9 ?_;refine zU 9 xk rfl rfl ?_;(refine n9 xk rfl rfl ?_);refine q9 ?_;refine zU 11 xk rfl rfl ?_;refine zK2 ?_;refine q9 ?_;refine zU 12 xk rfl rfl ?_;exact zB3);(· (refine n9 xk rfl rfl ?_);refine q9 ?_;refine zU 3 xk rfl rfl ?_;refine zK10 ?_;refine q9 ?_;refine zU 11 xk rfl rfl ?_;refine zK2 ?_;refine q9 ?_;refine zU 12 xk rfl rfl ?_;exact zB3)))
 generalize cs.getD c coZ=q;obtain⟨⟨u,v,_⟩,x,y,_⟩:=q;have hs:sprD d ((u,v,()),x,y,()) k=(u-k*d,v-k*d,()):=rfl;have hs2:suB d ((u,v,()),x,y,()) k=decide (x≤u-k*d∧v-k*d≤y):=rfl;rw[hs,hs2];generalize u-k*d=u;generalize v-k*d=v;refine zK0 ?_;refine⟨.inl rfl,_,_,rfl,trivial,?_⟩;by_cases e:x≤u<;>simp[e]
def fn30(d:Int)(ps:List (List Int))(ho:isO cs.length o):Ox.Fn Tryz.prog 30 (.acons (vG d cs ps) (.acons (vL o) .anil)) (·=vB true):=by
 refine Ox.Fn.intro xok Tryz.func30 rfl Tryz.call30 (yyd rfl) (fun E M0 up=>?_);refine z7 ?_;refine JK.lenOf 1 rfl fun hlen=>?_;replace hlen:o.length≤9223372036854775807:=hlen.1;have hol:=ho.len;obtain⟨b,hb⟩:∃ b,b=true:=⟨true,rfl⟩;have c52:∀ i,i<o.length→Ox.Fn Tryz.prog 52 (.acons (vG d cs ps) (.acons (vI (o.getD i 0)) .anil)) (·=vB b):=fun i hi=>by have:=fn52 d cs ps (o.getD i 0);rw[decide_eq_true (ho.get hi),← hb] at this;exact this
 have hnd:∀ k i,k<i→i<o.length→o.getD k 0≠o.getD i 0:=fun k i h1 h2 e=>by have hn:=(q8q ho).2.2.1;rw[yyp,yyp,yys h2,yys (show k<o.length by omega)] at e;have:=(List.getElem_inj hn).1 (show o[k]=o[i] from e);omega
 refine zK0 ?_;refine z5 rfl (fun hc=>absurd hc (by simp[hol])) (fun _=>?_);refine zK0 ?_;refine JK.loop (fun i:Nat=>⟨[(1,vL o),(2,.lf (.optr 0 [])),(5,vI (i:Int))],[(0,.cell glT (vG d cs ps))],1⟩) (fun i=>i≤o.length) (fun i=>o.length-i) 0 (yyu _) (by exact zJ) fun i hi=>?_;refine zK0 ?_;refine z5 rfl (fun hc=>?_) (fun hc=>?_)
 ·replace hc:=zC hc;have hi':i<o.length:=by omega
  have c52:=c52 i hi';refine zK3 ?_;refine v9 xk (Tryz.f30.body.getD .skip) ⟨[(1,vL o),(2,.lf (.optr 0 [])),(5,vI (i:Int)),(25,vB (!b))],[(0,.cell glT (vG d cs ps))],1⟩ rfl 7 rfl ?_ ?_
  ·(refine q7 1 xk rfl rfl (q7 2 xk rfl rfl (q7 3 xk rfl rfl (q8 0 xk rfl rfl (q8 4 xk rfl rfl (zU 5 xk rfl rfl ?_)))));(first|refine q5h rfl (c52) rfl trivial rfl ?_|(refine q5i rfl (c52) rfl (fun r hr=>?_);subst hr));refine q9 ?_;refine q7 6 xk rfl rfl ?_;refine w7 xk StF.nil ?_;(exact zJ))
  rw[hb];refine z5 rfl (fun h=>by cases h) (fun _=>?_);refine zK0 ?_;refine JK.loop (fun k:Nat=>⟨[(1,vL o),(2,.lf (.optr 0 [])),(5,vI (i:Int)),(6,vI (k:Int))],[(0,.cell glT (vG d cs ps))],1⟩) (fun k=>k≤i) (fun k=>i-k) 0 (yyu _) (by exact zJ) fun k hk=>?_;refine zK0 ?_;refine z5 rfl (fun hd=>?_) (fun hd=>?_)
  ·replace hd:=zC hd;have hne:=hnd k i (by omega) hi';refine zK3 ?_;refine v9 xk (Tryz.f30.body.getD .skip) ⟨[(1,vL o),(2,.lf (.optr 0 [])),(5,vI (i:Int)),(6,vI (k:Int)),(39,vB (o.getD k 0==o.getD i 0))],[(0,.cell glT (vG d cs ps))],1⟩ rfl 9 rfl ?_ ?_
   ·(refine q7 0 xk rfl rfl (q7 1 xk rfl rfl (q7 2 xk rfl rfl (q7 4 xk rfl rfl (q7 5 xk rfl rfl (q7 6 xk rfl rfl (q8 3 xk rfl rfl (q8 7 xk rfl rfl (q8 8 xk rfl rfl ?_))))))));refine w7 xk ?_ ?_;exact zS;(exact zJ))
   refine z5 rfl (fun h=>absurd (eq_of_beq h) hne) (fun _=>?_);refine zK0 ?_;exact⟨k+1,by exact zJ,by omega,by omega⟩
  ·replace hd:=zC hd;refine zK0 ?_;exact⟨i+1,by exact zJ,by omega,by omega⟩
 ·replace hc:=zC hc;refine zK0 ?_;refine⟨.inl rfl,_,_,rfl,trivial,?_⟩;rfl
def fn9{ps:List (List Int)}(h:VG d cs ps)(ho:isO cs.length o):Ox.Fn Tryz.prog 9 (.acons (vG d cs ps) (.acons (vL o) .anil)) (·=vI (cheG d cs ps o)):=by
 refine Ox.Fn.intro xok Tryz.func9 rfl Tryz.call9 (yyd rfl) (fun E M0 up=>?_);refine z7 ?_;refine JK.lenOf 0 rfl fun hlen=>?_;have h2:∀ p∈ps,p.length=2:=fun p h=>by obtain⟨i,hi,e⟩:=yxt.1 h;have h2:(ps.get ⟨i,hi⟩).length=2:=(hlen.2.2.1.2 i hi).1;rw[← e];exact h2
 clear hlen;have hol:=ho.len;have hn10:=h.n10;have c23:=fn23v h;have c30:=fn30 d ps ho;have hE:cheG d cs ps o=if sufB d cs o o.length=true then(if rulB ps o=true then 0 else 16) else 21:=rfl;have hget:=fun i q=>ho.get (i:=i) q;have c31:∀ i,i<o.length→Ox.Fn Tryz.prog 31 (.acons (vG d cs ps) (.acons (vI (o.getD i 0)) (.acons (vI (i:Int)) .anil))) (·=vB (suB d (cs.getD (o.getD i 0).toNat coZ) i)):=fun i hi=>by have hg:=hget i hi;have:=fn31 h (c:=(o.getD i 0).toNat) (k:=(i:Int)) (by omega) (by omega) (by omega);rw[show(((o.getD i 0).toNat:Nat):Int)=o.getD i 0 by omega] at this;exact this
 have c32:∀ i k,i<o.length→k<o.length→Ox.Fn Tryz.prog 32 (.acons (vG d cs ps) (.acons (vI (o.getD i 0)) (.acons (vI (o.getD k 0)) .anil))) (·=vB (pG ps (o.getD i 0).toNat (o.getD k 0).toNat)):=fun i k hi hk=>by have hg:=hget i hi;have hg2:=hget k hk;have:=fn32 d cs ps (o.getD i 0) (o.getD k 0);rw[← show(((o.getD i 0).toNat:Nat):Int)=o.getD i 0 by omega,← show(((o.getD k 0).toNat:Nat):Int)=o.getD k 0 by omega,pr_mem h2 h.pr] at this;rw[show(((o.getD i 0).toNat:Nat):Int)=o.getD i 0 by omega,show(((o.getD k 0).toNat:Nat):Int)=o.getD k 0 by omega] at this;exact this
 obtain⟨z,hzz⟩:∃ z:Int,z=0:=⟨0,rfl⟩;rw[← hzz] at c23;obtain⟨b,hb⟩:∃ b,b=true:=⟨true,rfl⟩;rw[← hb] at c30
 (repeat (first|refine zs rfl ?_|refine zg rfl rfl rfl ?_|refine zd ?_|refine k9 ?_|refine k8 ?_|refine zc rfl (c23) rfl rfl ?_|refine ze rfl (c23) rfl ?_|refine zk rfl rfl (fun _=>c23) rfl rfl ?_))
 refine z5 rfl (fun hc=>absurd hc (by simp[hzz])) (fun _=>?_)
 (repeat (first|refine zs rfl ?_|refine zg rfl rfl rfl ?_|refine zd ?_|refine k9 ?_|refine k8 ?_|refine zc rfl (c30) rfl rfl ?_|refine ze rfl (c30) rfl ?_|refine zk rfl rfl (fun _=>c30) rfl rfl ?_))
 rw[hb];refine z5 rfl (fun h=>by cases h) (fun _=>?_);refine zK0 ?_;refine JK.loop (fun i:Nat=>⟨[(1,vL o),(2,.lf (.optr 0 [])),(5,vI (i:Int))],[(0,.cell glT (vG d cs ps))],1⟩) (fun i=>i≤o.length∧sufB d cs o i=true) (fun i=>o.length-i) 0 ⟨yyu _,by simp[sufB]⟩ (by exact zJ) fun i ⟨hi,hs⟩=>?_;have hsn:=q9r (d:=d) (cs:=cs) o i;have hmono:=fun q:i+1≤o.length=>q9s (d:=d) (cs:=cs) (o:=o) q;refine zK0 ?_;refine z5 rfl (fun hc=>?_) (fun hc=>?_)
 ·replace hc:=zC hc;have hi':i<o.length:=by omega
  have c31:=c31 i hi';generalize suB d (cs.getD (o.getD i 0).toNat coZ) (i:Int)=b at c31 hsn;refine zK3 ?_;refine v9 xk (Tryz.f9.body.getD .skip) ⟨[(1,vL o),(2,.lf (.optr 0 [])),(5,vI (i:Int)),(30,vB (!b))],[(0,.cell glT (vG d cs ps))],1⟩ rfl 8 rfl ?_ ?_
  ·(refine q7 1 xk rfl rfl (q7 2 xk rfl rfl (q7 3 xk rfl rfl (q7 5 xk rfl rfl (q8 0 xk rfl rfl (q8 4 xk rfl rfl (zU 6 xk rfl rfl ?_))))));(first|refine q5h rfl (c31) rfl trivial rfl ?_|(refine q5i rfl (c31) rfl (fun r hr=>?_);subst hr));refine q9 ?_;refine q7 7 xk rfl rfl ?_;refine w7 xk StF.nil ?_;(exact zJ))
  refine z5 rfl (fun hd=>?_) (fun hd=>?_)
  ·refine zK0 ?_;refine⟨.inl rfl,_,_,rfl,trivial,?_⟩;rw[hE,if_neg fun k=>?_];have:=hmono (by omega) k;rw[hsn,hs] at this;rw[show b=true from by simpa using this] at hd;cases hd
  ·refine zK0 ?_;refine⟨i+1,by exact zJ,⟨by omega,?_⟩,by omega⟩;rw[hsn,hs];simpa using hd
 replace hc:=zC hc;have hs2:sufB d cs o o.length=true:=by rw[show o.length=i by omega];exact hs
 rw[if_pos hs2] at hE;clear hs2 hs hsn hmono hc hi c31;have hR:rulB ps o=true↔∀ i k,k<i→i<o.length→pG ps (o.getD i 0).toNat (o.getD k 0).toNat=false:=by
  unfold rulB;rw[yyq,yx6];simp only[yx3,List.getElem_map];constructor
  ·intro hp i k h1 h2;have:=hp k i (by omega) h2 h1;rw[yyp,yyp,yys h2,yys (show k<o.length by omega)];exact this
  ·intro hp k i h1 h2 h3;have:=hp i k h3 h2;rw[yyp,yyp,yys h2,yys (show k<o.length by omega)] at this;exact this
 refine zK0 ?_;refine JK.loop (fun i:Nat=>⟨[(1,vL o),(2,.lf (.optr 0 [])),(6,vI (i:Int))],[(0,.cell glT (vG d cs ps))],1⟩) (fun i=>i≤o.length∧∀ j k,k<j→j<i→pG ps (o.getD j 0).toNat (o.getD k 0).toNat=false) (fun i=>o.length-i) 0 ⟨yyu _,fun j k _ h=>absurd h (Nat.not_lt_zero j)⟩ (by exact zJ) fun i ⟨hi,hn⟩=>?_;refine zK0 ?_;refine z5 rfl (fun hc=>?_) (fun hc=>?_)
 ·replace hc:=zC hc;have hi':i<o.length:=by omega
  refine zK0 ?_;refine JK.loop (fun k:Nat=>⟨[(1,vL o),(2,.lf (.optr 0 [])),(6,vI (i:Int)),(7,vI (k:Int))],[(0,.cell glT (vG d cs ps))],1⟩) (fun k=>k≤i∧∀ j,j<k→pG ps (o.getD i 0).toNat (o.getD j 0).toNat=false) (fun k=>i-k) 0 ⟨yyu _,fun j h=>absurd h (Nat.not_lt_zero j)⟩ (by exact zJ) fun k ⟨hk,hm⟩=>?_;refine zK0 ?_;refine z5 rfl (fun hd=>?_) (fun hd=>?_)
  ·replace hd:=zC hd;have c32:=c32 i k hi' (by omega);generalize hq:pG ps (o.getD i 0).toNat (o.getD k 0).toNat=q at c32;refine zK3 ?_;refine v9 xk (Tryz.f9.body.getD .skip) ⟨[(1,vL o),(2,.lf (.optr 0 [])),(6,vI (i:Int)),(7,vI (k:Int)),(51,vB q)],[(0,.cell glT (vG d cs ps))],1⟩ rfl 10 rfl ?_ ?_
   ·(refine q7 1 xk rfl rfl (q7 2 xk rfl rfl (q7 3 xk rfl rfl (q7 5 xk rfl rfl (q7 6 xk rfl rfl (q7 7 xk rfl rfl (q8 0 xk rfl rfl (q8 4 xk rfl rfl (q8 8 xk rfl rfl (zU 9 xk rfl rfl ?_)))))))));(first|refine q5h rfl (c32) rfl trivial rfl ?_|(refine q5i rfl (c32) rfl (fun r hr=>?_);subst hr));refine q9 ?_;refine w7 xk StF.nil ?_;(exact zJ))
   refine z5 rfl (fun he=>?_) (fun he=>?_)
   ·refine zK0 ?_;refine⟨.inl rfl,_,_,rfl,trivial,?_⟩;rw[hE,if_neg fun w=>?_];have:=hR.1 w i k (by omega) hi';rw[hq,he] at this;cases this
   ·refine zK0 ?_;refine⟨k+1,by exact zJ,⟨by omega,fun j hj=>?_⟩,by omega⟩;rcases Nat.lt_succ_iff_lt_or_eq.1 hj with h|rfl
    ·exact hm j h
    ·rw[hq];exact he
  ·replace hd:=zC hd;have hki:k=i:=by omega
   refine zK0 ?_;refine⟨i+1,by exact zJ,⟨by omega,fun j k2 h1 h2=>?_⟩,by omega⟩;rcases Nat.lt_succ_iff_lt_or_eq.1 h2 with h|rfl
   ·exact hn j k2 h1 h
   ·exact hm k2 (by omega)
 ·replace hc:=zC hc;refine zK0 ?_;refine⟨.inl rfl,_,_,rfl,trivial,?_⟩;rw[hE,if_pos];exact hR.2 fun j k h1 h2=>hn j k h1 (by omega)
end Go.Proofs.YtjjkdjbbkagclaaGreatDoor
namespace Ox
open Go Go.RowKit
variable {X:Ctx}{s:S}{M:Mem}{ρ:Env}{a:Act}{w w':World}{QA:Exit→S→Prop}{all l:List Oper}{o:Oper}
section
variable {L:List (Nat×AV)}{H:List (Nat×HO)}{nx:Nat}{ty:TypeId}{ps:String}{af:Array Edge}{md:Bool}{c1:List Prop}
variable {kt:Ty}{t:TypeId}{om ok:Operand}{c2:List Prop}{x y:kt.den}{dd:Nat}{g:Bool}{gg:Nat×Bool}
end
end Ox
namespace Go.Proofs.YtjjkdjbbkagclaaGreatDoor
open Go Go.RowKit Ox Ox.Gl
attribute [local irreducible] JC JL JK JW
def z7x(k:Nat)(h:k<l.length){z:Int}:l.getD k z∈l:=by rw[yyp,yys h];exact yy5 h
abbrev spT:Ty:=.cons (.int .i64) (.cons (.int .i64) .nil)
abbrev drT:Ty:=.cons (.int .i64) (.cons rgT .nil)
def fn34(lo hi:Int):Ox.Fn Tryz.prog 34 (.acons (vI lo) (.acons (vI hi) .anil)) (·=vRg (lo,hi,())):=by refine Ox.Fn.intro xok Tryz.func34 rfl Tryz.call34 (yyd rfl) (fun E M0 up=>?_);refine z7 ?_;refine zK0 ?_;refine⟨.inl rfl,_,_,rfl,trivial,?_⟩;rfl
def fn10(x y:Int):Ox.Fn Tryz.prog 10 (.acons (vI x) (.acons (vI y) .anil)) (·=.val spT (x,y,())):=by refine Ox.Fn.intro xok Tryz.func10 rfl Tryz.call10 (yyd rfl) (fun E M0 up=>?_);refine z7 ?_;refine zK0 ?_;refine⟨.inl rfl,_,_,rfl,trivial,?_⟩;rfl
def fn13(s lo hi:Int):Ox.Fn Tryz.prog 13 (.acons (vI s) (.acons (vI lo) (.acons (vI hi) .anil))) (·=.val drT (s,(lo,hi,()),())):=by
 refine Ox.Fn.intro xok Tryz.func13 rfl Tryz.call13 (yyd rfl) (fun E M0 up=>?_);refine z7 ?_;have c34:=fn34 lo hi
 (repeat (first|refine zs rfl ?_|refine zg rfl rfl rfl ?_|refine zd ?_|refine k9 ?_|refine k8 ?_|refine zc rfl (c34) rfl rfl ?_|refine ze rfl (c34) rfl ?_|refine zk rfl rfl (fun _=>c34) rfl rfl ?_))
 refine⟨.inl rfl,_,_,rfl,trivial,?_⟩;rfl
abbrev ioL(n:Nat):List Int:=(List.range n).map Int.ofNat
def shO(w:List Int)(n:Nat):List Int:=if w.length=0 then ioL n else shufF w n n (ioL n)
def shO_ok(w:List Int)(n:Nat):isO n (shO w n):=by
 unfold shO isO;split
 ·exact List.Perm.refl _
 ·exact q7r w n _ (yyo _) (by simp)
def fn7(n:Nat)(h1:1≤n)(h10:n≤10)(w:List Int)(hw:∀ y∈w,0≤y∧y≤255)(hwl:w.length≤20):Ox.Fn Tryz.prog 7 (.acons (vI (n:Int)) (.acons (vU w) .anil)) (·=vL (shO w n)):=by
 refine Ox.Fn.intro xok Tryz.func7 rfl Tryz.call7 (yyd rfl) (fun E M0 up=>?_);refine z7 ?_;refine zK0 ?_;refine JK.ghost 5 3 (.int .i64) rfl ?_;refine JK.loop (fun i:Nat=>⟨[(0,vI (n:Int)),(1,vU w),(5,.lf (.osl 0)),(6,vI (i:Int))],[(0,.sl 3 (.int .i64) (ioL i))],1⟩) (fun i=>i≤n) (fun i=>n-i) 0 (yyu _) (by exact zJ) fun i hi=>?_;have hsn:ioL (i+1)=ioL i++[(i:Int)]:=by unfold ioL;rw[List.range_succ,yxv];rfl
 have hlen:(ioL i).length=i:=by simp
 have hfin:i=n→ioL i=ioL n:=fun e=>by rw[e]
 generalize ioL i=R at hsn hlen hfin ⊢;refine zK0 ?_;refine z5 rfl (fun hc=>?_) (fun hc=>?_)
 ·replace hc:=zC hc;refine zK0 ?_;refine⟨i+1,?_,by omega,by omega⟩;rw[hsn];exact zJ
 replace hc:=zC hc;rw[hfin (by omega)];clear hsn hlen hfin hi hc;have hrl:(ioL n).length=n:=by simp
 have hsl:=fun i=>q6l w n i (ioL n);have hs0:shufF w n 0 (ioL n)=ioL n:=rfl;have hss:=fun i=>show shufF w n (i+1) (ioL n)=swp (shufF w n i (ioL n)) i ((w.getD (i % w.length) 0).toNat % n) from rfl;have hO:shO w n=if w.length=0 then ioL n else shufF w n n (ioL n):=rfl;generalize ioL n=R at hrl hsl hs0 hss hO ⊢;refine zK0 ?_;refine JK.loop (fun i:Nat=>⟨[(0,vI (n:Int)),(1,vU w),(5,.lf (.osl 0)),(7,vI (i:Int))],[(0,.sl 3 (.int .i64) (shufF w n i R))],1⟩) (fun i=>i≤n∧(w.length=0→i=0)) (fun i=>n-i) 0 ⟨yyu _,fun _=>rfl⟩ (by rw[hs0];exact zJ) fun i ⟨hi,hz⟩=>?_;have hss:=hss i;have hsl:=hsl i;have hO2:i=n∨w.length=0→shO w n=shufF w n i R:=fun h=>by
  rw[hO];rcases h with e|e
  ·split
   ·rename_i e2;rw[hz e2,hs0]
   ·rw[e]
  ·rw[if_pos e,hz e,hs0]
 generalize shufF w n i R=D at hsl hss hO2 ⊢;refine zK0 ?_;refine z5 rfl (fun hc=>?_) (fun hc=>?_)
 ·replace hc:=zC hc;have hw0:0<w.length:=by omega
  have hi':i<n:=by omega
  have hmm:i % w.length<w.length:=Nat.mod_lt _ hw0;have hwm:=hw (w.getD (i % w.length) 0) (z7x _ hmm);have wi:(i:Int) % (w.length:Int)=((i % w.length:Nat):Int):=rfl;have wb:0≤(i:Int) % (w.length:Int)∧(i:Int) % (w.length:Int)<w.length:=by rw[wi];omega
  have wz:w.getD (Int.toNat ((i:Int) % (w.length:Int))) (Ty.int .u8).dflt=w.getD (i % w.length) 0:=by rw[wi];rfl
  rw[← wz] at hwm hss;have hn0:(n:Int)≠0:=by omega
  have hl0:(w.length:Int)≠0:=by omega
  refine zK3 ?_;generalize w.getD (Int.toNat ((i:Int) % (w.length:Int))) (Ty.int .u8).dflt=v at hwm hss ⊢;have hml:=Int.emod_nonneg v hn0;have hml2:=Int.emod_lt_of_pos v (show 0<(n:Int) by omega);obtain⟨k,hk⟩:∃ k:Nat,v % (n:Int)=(k:Int):=⟨(v % (n:Int)).toNat,by omega⟩;have hkn:v.toNat % n=k:=by
   have:((v.toNat % n:Nat):Int)=v % (n:Int):=by rw[Int.natCast_emod,Int.toNat_of_nonneg hwm.1]
   omega
  rw[hkn] at hss;have hkl:k<n:=by omega
  rw[hk];have hD1:(D.set i (D.getD k 0)).length=n:=by rw[List.length_set,hsl,hrl]
  have hsw:swp D i k=(D.set i (D.getD k 0)).set k (D.getD i 0):=rfl;refine q0z xk (Tryz.f7.body.getD .skip) ⟨[(0,vI (n:Int)),(1,vU w),(5,.lf (.osl 0)),(7,vI (i:Int))],[(0,.sl 3 (.int .i64) ((D.set i (D.getD k 0)).set k (D.getD i 0)))],1⟩ rfl 16 rfl ?_ ?_
  ·(refine q7 0 xk rfl rfl (q7 1 xk rfl rfl (q7 2 xk rfl rfl (q7 3 xk rfl rfl (q7 4 xk rfl rfl (q7 5 xk rfl rfl (q7 6 xk rfl rfl (q7 8 xk rfl rfl (q7 9 xk rfl rfl (q7 10 xk rfl rfl (q8 7 xk rfl rfl (q8 11 xk rfl rfl (q8 12 xk rfl rfl (zU 13 xk rfl rfl ?_)))))))))))));refine zK2 ?_;refine q9 ?_;refine q7 14 xk rfl rfl (zU 15 xk rfl rfl ?_);refine zK2 ?_;refine q9 ?_;refine w7 xk StF.nil ?_;(exact zJ))
  rw[← hsw,← hss];refine zK0 ?_;exact⟨i+1,by exact zJ,⟨by omega,by omega⟩,by omega⟩
 ·have hc2:i=n∨w.length=0:=by
   by_cases c1:(i:Int)<n
   ·by_cases c2:(w.length:Int)>0
    ·simp[c1,c2] at hc;exact .inr (by rw[hc];rfl)
    ·exact .inr (by omega)
   ·exact .inl (by omega)
  rw[hO2 hc2]
  (refine q9h [0] [5] rfl ?_)
  refine zK0 ?_;refine⟨.inl rfl,_,_,rfl,trivial,?_⟩;rfl
abbrev SpD:=Int×Int×Unit
abbrev DrD:=Int×RgD×Unit
abbrev baT:Ty:=.cons (.int .i64) (.cons (.slice spT) (.cons (.slice drT) .nil))
abbrev mkBa(D:List DrD):baT.den:=(1000,[(500,500,())],D,())
abbrev vBa(D:List DrD):AV:=.val baT (mkBa D)
abbrev pBa(D:List DrD):AV:=.val (.ptr baT) (some (mkBa D))
def okDr(q:DrD):Prop:=q.1=0∧1≤q.2.1.1∧q.2.1.1≤q.2.1.2.1∧q.2.1.2.1≤10000
def fn78(x lo hi:Int):Ox.Fn Tryz.prog 78 (.acons (vI x) (.acons (pI lo) (.acons (pI hi) .anil))) (·=vB (decide (x<lo∨x>hi))):=by refine Ox.Fn.intro xok Tryz.func78 rfl Tryz.call78 (yyd rfl) (fun E M0 up=>?_);refine z7 ?_;refine zK0 ?_;refine⟨.inl rfl,_,_,rfl,trivial,?_⟩;by_cases h:x<lo<;>simp[h]
def z71(hb:b=true)(h:∀ x∈xs,lo≤x∧x≤hi):Ox.Fn Tryz.prog 37 (.acons (vI lo) (.acons (vI hi) (.acons (vL xs) .anil))) (·=vB b):=by
 refine Ox.Fn.intro xok Tryz.func37 rfl Tryz.call37 (yyd rfl) (fun E M0 up=>?_);refine z7 ?_
 (repeat (first|refine zs rfl ?_|refine zg rfl rfl rfl ?_|refine zd ?_|refine k9 ?_|refine k8 ?_|refine zc rfl (fn77 xs (fun x=>decide (x<lo∨x>hi)) (fun x _=>fn78 x lo hi)) rfl rfl ?_|refine ze rfl (fn77 xs (fun x=>decide (x<lo∨x>hi)) (fun x _=>fn78 x lo hi)) rfl ?_|refine zk rfl rfl (fun _=>fn77 xs (fun x=>decide (x<lo∨x>hi)) (fun x _=>fn78 x lo hi)) rfl rfl ?_))
 refine⟨.inl rfl,_,_,rfl,trivial,?_⟩;refine congrArg vB ?_;rw[hb,yyt,List.any_eq_false];intro x hx;have:=h x hx;simp;omega
variable{t1:Ty}
def fn79{x1:t1.den}(xs:List DrD)(p:DrD→Bool)(h:∀ x∈xs,Ox.Fn Tryz.prog f (.acons (.val drT x) (.acons (.val t1 x1) .anil)) (·=vB (p x))) :
  Ox.Fn Tryz.prog 79 (.acons (.val (.slice drT) xs) (.acons (.fn f .anil (.acons (.val t1 x1) .anil)) .anil)) (·=vI (idxB p xs 0)):=by
 refine Ox.Fn.intro xok Tryz.func79 rfl Tryz.call79 (yyd rfl) (fun E M0 up=>?_);refine z7 ?_;refine JK.lenOf 0 rfl fun hlen=>?_;replace hlen:xs.length≤9223372036854775807:=hlen.1;refine zK0 ?_;refine JK.loop (fun i:Nat=>⟨[(0,.val (.slice drT) xs),(1,.fn f .anil (.acons (.val t1 x1) .anil)),(7,vI xs.length),(8,vI (i:Int))],[],0⟩) (fun i=>i≤xs.length∧idxB p xs 0=idxB p (xs.drop i) i) (fun i=>xs.length-i) 0 (by simp) (by exact zJ) fun i ⟨hi,hn⟩=>?_;refine zK0 ?_;refine z5 rfl (fun hc=>?_) (fun hc=>?_)
 ·replace hc:=zC hc;have hi':i<xs.length:=by omega
  have hx:=h (xs.getD i (0,(0,0,()),())) (by rw[j7 xs hi'];exact yy5 hi');refine zK8 ?_;refine z5 rfl (fun hd=>?_) (fun hd=>?_)
  ·refine zK0 ?_;refine⟨.inl rfl,_,_,rfl,trivial,?_⟩;rw[j7 xs hi'] at hd;rw[hn,yy3 hi',idxB,if_pos hd]
  ·refine zK0 ?_;rw[j7 xs hi'] at hd;refine⟨i+1,by exact zJ,⟨by omega,?_⟩,by omega⟩;rw[hn,yy3 hi',idxB,if_neg (by rw[hd];simp)]
 ·replace hc:=zC hc;refine zK0 ?_;refine⟨.inl rfl,_,_,rfl,trivial,?_⟩;obtain rfl:i=xs.length:=by omega
  rw[hn,List.drop_length];rfl
def fn40{x1:t1.den}(hb:b=false)(xs:List DrD)(h:∀ x∈xs,Ox.Fn Tryz.prog f (.acons (.val drT x) (.acons (.val t1 x1) .anil)) (·=vB b)) :
  Ox.Fn Tryz.prog 40 (.acons (.val (.slice drT) xs) (.acons (.fn f .anil (.acons (.val t1 x1) .anil)) .anil)) (·=vB b):=by
 refine Ox.Fn.intro xok Tryz.func40 rfl Tryz.call40 (yyd rfl) (fun E M0 up=>?_);refine z7 ?_
 (repeat (first|refine zs rfl ?_|refine zg rfl rfl rfl ?_|refine zd ?_|refine k9 ?_|refine k8 ?_|refine zc rfl (fn79 xs (fun _=>b) h) rfl rfl ?_|refine ze rfl (fn79 xs (fun _=>b) h) rfl ?_|refine zk rfl rfl (fun _=>fn79 xs (fun _=>b) h) rfl rfl ?_))
 refine⟨.inl rfl,_,_,rfl,trivial,?_⟩;refine congrArg vB ?_;rw[yy2,yyq,ge_iff_le,t9 (p:=fun _=>b) (i:=0),hb];simp
def fn219{x1:t1.den}(hb:b=false)(xs:List SpD)(h:∀ x∈xs,Ox.Fn Tryz.prog f (.acons (.val spT x) (.acons (.val t1 x1) .anil)) (·=vB b)) :
  Ox.Fn Tryz.prog 219 (.acons (.val (.slice spT) xs) (.acons (.fn f .anil (.acons (.val t1 x1) .anil)) .anil)) (·=vI (-1)):=by
 refine Ox.Fn.intro xok Tryz.func219 rfl Tryz.call219 (yyd rfl) (fun E M0 up=>?_);refine z7 ?_;refine JK.lenOf 0 rfl fun hlen=>?_;replace hlen:xs.length≤9223372036854775807:=hlen.1;refine zK0 ?_;refine JK.loop (fun i:Nat=>⟨[(0,.val (.slice spT) xs),(1,.fn f .anil (.acons (.val t1 x1) .anil)),(7,vI xs.length),(8,vI (i:Int))],[],0⟩) (fun i=>i≤xs.length) (fun i=>xs.length-i) 0 (by simp) (by exact zJ) fun i hi=>?_;refine zK0 ?_;refine z5 rfl (fun hc=>?_) (fun hc=>?_)
 ·replace hc:=zC hc;have hi':i<xs.length:=by omega
  have hx:=h (xs.getD i (0,0,())) (by rw[j7 xs hi'];exact yy5 hi');refine zK8 ?_;rw[hb];refine z5 rfl (fun hd=>by cases hd) (fun _=>?_);refine zK0 ?_;exact⟨i+1,by exact zJ,by omega,by omega⟩
 ·replace hc:=zC hc;refine zK0 ?_;refine⟨.inl rfl,_,_,rfl,trivial,?_⟩;rfl
def fn131{x1:t1.den}(hb:b=false)(xs:List SpD)(h:∀ x∈xs,Ox.Fn Tryz.prog f (.acons (.val spT x) (.acons (.val t1 x1) .anil)) (·=vB b)) :
  Ox.Fn Tryz.prog 131 (.acons (.val (.slice spT) xs) (.acons (.fn f .anil (.acons (.val t1 x1) .anil)) .anil)) (·=vB b):=by
 refine Ox.Fn.intro xok Tryz.func131 rfl Tryz.call131 (yyd rfl) (fun E M0 up=>?_);refine z7 ?_;obtain⟨m,hm⟩:∃ m:Int,m=-1:=⟨_,rfl⟩;have c:=fn219 hb xs h;rw[← hm] at c;refine zK21 ?_;refine⟨.inl rfl,_,_,rfl,trivial,?_⟩;rw[hb,hm];rfl
def fn129(D:List DrD)(hb:b=false):Ox.Fn Tryz.prog 129 (.acons (.val spT (500,500,())) (.acons (pBa D) .anil)) (·=vB b):=by
 refine Ox.Fn.intro xok Tryz.func129 rfl Tryz.call129 (yyd rfl) (fun E M0 up=>?_);refine z7 ?_;obtain⟨u,hu⟩:∃ u,u=true:=⟨true,rfl⟩;have c1:=z71 (lo:=1) (hi:=1000-1) (xs:=(500:Int)::List.nil) hu (by simp);have c2:=z71 (lo:=0) (hi:=1000) (xs:=(500:Int)::List.nil) hu (by simp);subst hu
 (repeat (first|refine zt rfl (by simp[wantB]) ?_|refine zs rfl ?_|refine zc rfl c1 rfl rfl ?_|refine zc rfl c2 rfl rfl ?_|refine k9 ?_|refine k8 ?_))
 refine⟨.inl rfl,_,_,rfl,trivial,?_⟩;rw[hb];rfl
def fn130(D:List DrD)(hb:b=false){q:DrD}(hq:okDr q):Ox.Fn Tryz.prog 130 (.acons (.val drT q) (.acons (pBa D) .anil)) (·=vB b):=by
 refine Ox.Fn.intro xok Tryz.func130 rfl Tryz.call130 (yyd rfl) (fun E M0 up=>?_);refine z7 ?_;obtain⟨s,⟨lo,hi,_⟩,_⟩:=q;obtain⟨q1,q2,q3,q4⟩:=hq;replace q1:s=0:=q1;replace q2:1≤lo:=q2;replace q3:lo≤hi:=q3;replace q4:hi≤10000:=q4;obtain⟨u,hu⟩:∃ u,u=true:=⟨true,rfl⟩;have c1:=z71 (lo:=1) (hi:=10000) (xs:=lo::hi::List.nil) hu (by simp;omega);subst hu q1;have h1:¬ lo>hi:=by omega
 (repeat (first|refine zt rfl (by simp[wantB,h1]) ?_|refine zs rfl ?_|refine zc rfl c1 rfl rfl ?_|refine k9 ?_|refine k8 ?_))
 refine⟨.inl rfl,_,_,rfl,trivial,?_⟩;rw[hb];simp[h1]
def fn220(s:SpD):Ox.Fn Tryz.prog 220 (.acons (.val (.slice spT) []) (.acons (.val spT s) .anil)) (·=vI (-1)):=by refine Ox.Fn.intro xok Tryz.func220 rfl Tryz.call220 (yyd rfl) (fun E M0 up=>?_);refine z7 ?_;refine zK0 ?_;refine JK.loop (fun i:Unit=>⟨[(7,vI 0),(8,vI 0)],[],0⟩) (fun i=>True) (fun i=>0) () trivial (by exact zJ) fun i _=>?_;refine zK0 ?_;refine z5 rfl (fun h=>absurd h (by decide)) (fun _=>?_);refine zK0 ?_;refine⟨.inl rfl,_,_,rfl,trivial,?_⟩;rfl
def fn132(s:SpD)(hb:b=false):Ox.Fn Tryz.prog 132 (.acons (.val (.slice spT) []) (.acons (.val spT s) .anil)) (·=vB b):=by refine Ox.Fn.intro xok Tryz.func132 rfl Tryz.call132 (yyd rfl) (fun E M0 up=>?_);refine z7 ?_;obtain⟨m,hm⟩:∃ m:Int,m=-1:=⟨_,rfl⟩;have c:=fn220 s;rw[← hm] at c;refine zK21 ?_;refine⟨.inl rfl,_,_,rfl,trivial,?_⟩;rw[hb,hm];rfl
def fn75(D:List DrD)(hD:D.length≤40)(hq:∀ q∈D,okDr q):Ox.Fn Tryz.prog 75 (.acons (vBa D) .anil) (·=vI 0):=by
 refine Ox.Fn.intro xok Tryz.func75 rfl Tryz.call75 (yyd rfl) (fun E M0 up=>?_);refine z7 ?_;obtain⟨u,hu⟩:∃ u,u=true:=⟨true,rfl⟩;obtain⟨b,hb⟩:∃ b,b=false:=⟨false,rfl⟩;have c1:=z71 (lo:=2) (hi:=1000) (xs:=(1000:Int)::List.nil) hu (by simp);have c2:=fn131 (f:=129) (t1:=.ptr baT) (x1:=some (mkBa D)) hb [(500,500,())] (fun x hx=>by rw[yyv.1 hx];exact fn129 D hb);have c3:=fn132 (500,500,()) hb;have c4:=fn40 (f:=130) (t1:=.ptr baT) (x1:=some (mkBa D)) hb D (fun x hx=>fn130 D hb (hq x hx));refine zK13 ?_;refine z5 rfl (fun h=>absurd h (by rw[hu];decide)) (fun _=>?_)
 (refine q9h [0] [1,2,3,4] rfl ?_)
 refine zK17 ?_;refine z5 rfl (fun h=>absurd h (by
  have:¬ 40<(D.length:Int):=by omega
  simp[this])) (fun _=>?_)
 refine zK17 ?_;rw[hb];refine z5 rfl (fun h=>by cases h) (fun _=>?_);refine zK0 ?_;refine JK.loop (fun i:Nat=>⟨[(1,pBa D),(4,.fn 130 .anil (.acons (pBa D) .anil)),(32,.val (.slice spT) [(500,500,())]),(33,vI 1),(34,vI (i:Int))],[],0⟩) (fun i=>i≤1) (fun i=>1-i) 0 (yyu _) (by exact zJ) fun i hi=>?_;refine zK0 ?_;refine z5 rfl (fun hc=>?_) (fun hc=>?_)
 ·replace hc:=zC hc;obtain rfl:i=0:=by omega
  refine zK3 ?_;refine v9 xk (Tryz.f75.body.getD .skip) ⟨[(1,pBa D),(4,.fn 130 .anil (.acons (pBa D) .anil)),(32,.val (.slice spT) [(500,500,())]),(33,vI 1),(34,vI ((0:Nat):Int)),(44,vB b)],[],0⟩ rfl 6 rfl ?_ ?_
  ·(refine q7 0 xk rfl rfl (q7 2 xk rfl rfl (q8 1 xk rfl rfl (q8 3 xk rfl rfl (q8 4 xk rfl rfl (zU 5 xk rfl rfl ?_)))));(first|refine q5h rfl (c3) rfl trivial rfl ?_|(refine q5i rfl (c3) rfl (fun r hr=>?_);subst hr));refine q9 ?_;refine w7 xk ?_ ?_;exact zS;(exact zJ))
  rw[hb];refine z5 rfl (fun h=>by cases h) (fun _=>?_);refine zK0 ?_;exact⟨1,by exact zJ,by omega,by omega⟩
 ·refine zK0 ?_
  (repeat (first|refine zs rfl ?_|refine zg rfl rfl rfl ?_|refine zd ?_|refine k9 ?_|refine k8 ?_|refine zc rfl (c4) rfl rfl ?_|refine ze rfl (c4) rfl ?_|refine zk rfl rfl (fun _=>c4) rfl rfl ?_))
  rw[hb];refine z5 rfl (fun h=>by cases h) (fun _=>?_);refine zK0 ?_;refine⟨.inl rfl,_,_,rfl,trivial,?_⟩;rfl
abbrev taT:Ty:=.cons baT (.cons (.slice rgT) (.cons (.arr 12 (.arr 12 (.int .i64))) .nil))
def zk12:List (List Int):=List.replicate 12 (List.replicate 12 0)
abbrev mkTa(D:List DrD)(r:RgD):taT.den:=(mkBa D,[r],zk12,())
abbrev pTa(D:List DrD)(r:RgD):AV:=.val (.ptr taT) (some (mkTa D r))
def fn36(D:List DrD)(r:RgD)(hb:b=true):Ox.Fn Tryz.prog 36 (.acons (pTa D r) (.acons (vI 0) .anil)) (·=vB b):=by refine Ox.Fn.intro xok Tryz.func36 rfl Tryz.call36 (yyd rfl) (fun E M0 up=>?_);refine z7 ?_;refine zK0 ?_;refine⟨.inl rfl,_,_,rfl,trivial,?_⟩;rw[hb];rfl
def fn135(D:List DrD)(r:RgD):Ox.Fn Tryz.prog 135 (.acons (pTa D r) (.acons (vI 0) .anil)) (·=vI r.1):=by refine Ox.Fn.intro xok Tryz.func135 rfl Tryz.call135 (yyd rfl) (fun E M0 up=>?_);refine z7 ?_;refine zK0 ?_;refine⟨.inl rfl,_,_,rfl,trivial,?_⟩;rfl
def fn136(D:List DrD)(r:RgD):Ox.Fn Tryz.prog 136 (.acons (pTa D r) (.acons (vI 0) .anil)) (·=vI r.2.1):=by refine Ox.Fn.intro xok Tryz.func136 rfl Tryz.call136 (yyd rfl) (fun E M0 up=>?_);refine z7 ?_;refine zK0 ?_;refine⟨.inl rfl,_,_,rfl,trivial,?_⟩;rfl
abbrev cTa(f:FuncId)(D:List DrD)(r:RgD):AV:=.fn f (.acons (pTa D r) .anil) .anil
def fn134{D:List DrD}{r:RgD}{a:Int}(h:Ox.Fn Tryz.prog f (.acons (pTa D r) (.acons (vI 0) .anil)) (·=vI a))(ha:1≤a∧a≤100000){p q:Int}(hp:-2≤p∧p≤0)(hq:-2≤q∧q≤0)(hne:p≠q)(hb:b=false) :
  Ox.Fn Tryz.prog 134 (.acons (pTa D r) (.acons (vI p) (.acons (vI q) (.acons (cTa f D r) .anil)))) (·=vB b):=by
 refine Ox.Fn.intro xok Tryz.func134 rfl Tryz.call134 (yyd rfl) (fun E M0 up=>?_);refine z7 ?_;refine zK0 ?_;refine z5 rfl (fun hc=>?_) (fun hc=>?_)
 ·refine zK0 ?_;refine⟨.inl rfl,_,_,rfl,trivial,?_⟩;rw[hb]
 have hpq:(p<0∧q=0)∨(p=0∧q<0):=by
  by_cases c:p<0
  ·simp[c] at hc;exact .inl ⟨c,by omega⟩
  ·exact .inr ⟨by omega,by omega⟩
 clear hc
 (repeat (first|refine zu rfl ?_|refine zg rfl rfl rfl ?_|refine zd ?_|refine k9 ?_|refine k8 ?_))
 refine JK.cut (σ:=Int) (fun m=>⟨[(0,pTa D r),(1,vI 0),(2,vI m),(3,cTa f D r)],[],0⟩) (fun m=>-2≤m∧m<0) ?_ (fun m hm=>?_)
 ·rcases hpq with⟨c,rfl⟩|⟨rfl,c⟩
  ·refine zK0 ?_;refine z5 rfl (fun _=>?_) (fun h=>by have:=of_decide_eq_false h;omega);refine zK0 ?_;exact⟨p,by exact zJ,by omega,c⟩
  ·refine zK0 ?_;refine z5 rfl (fun h=>by cases h) (fun _=>?_);refine zK0 ?_;exact⟨q,by exact zJ,by omega,c⟩
 clear hpq hp hq hne;refine zK3 ?_;refine v9 xk (Tryz.f134.body.getD .skip) ⟨[(0,pTa D r),(1,vI 0),(2,vI m),(9,.lf (.optr 0 [])),(10,vI a)],[(0,.cell spT (.val spT (500,500,())))],1⟩ rfl 14 rfl ?_ ?_
 ·(refine q7 0 xk rfl rfl (q7 1 xk rfl rfl (q7 2 xk rfl rfl (q7 3 xk rfl rfl (q7 5 xk rfl rfl (q7 8 xk rfl rfl (q7 9 xk rfl rfl (q8 4 xk rfl rfl (q8 6 xk rfl rfl (q8 7 xk rfl rfl ?_)))))))));refine v6 10 [11] xk ?_ ?_;exact zS;refine(BrF.one rfl rfl ?_ (BrF.one rfl rfl ?_ BrF.nil));(· (first|refine q5h rfl (h) rfl trivial rfl ?_|(refine q5i rfl (h) rfl (fun r hr=>?_);subst hr));refine q9 ?_;refine zU 11 xk rfl rfl ?_;(refine n9 xk rfl rfl ?_);refine q9 ?_;refine zU 12 xk rfl rfl ?_;refine zK2 ?_;refine q9 ?_;refine q7 13 xk rfl rfl ?_;refine w7 xk StF.nil ?_;(exact zJ));(· (refine n9 xk rfl rfl ?_);refine q9 ?_;refine zU 10 xk rfl rfl ?_;(first|refine q5h rfl (h) rfl trivial rfl ?_|(refine q5i rfl (h) rfl (fun r hr=>?_);subst hr));refine q9 ?_;refine zU 12 xk rfl rfl ?_;refine zK2 ?_;refine q9 ?_;refine q7 13 xk rfl rfl ?_;refine w7 xk StF.nil ?_;(exact zJ)))
 refine zK0 ?_;refine z5 rfl (fun h=>by have:=eq_of_beq h;omega) (fun _=>?_);have hfin:vB (decide ((500:Int)*500≤a))=vB b:=by rw[hb];exact congrArg vB (decide_eq_false (by omega))
 refine zK0 ?_;refine z5 rfl (fun hc=>?_) (fun hc=>?_)
 ·refine zK3 ?_;refine q0z xk (Tryz.f134.body.getD .skip) ⟨[(10,vI a),(11,vI 500)],[],0⟩ rfl 9 rfl ?_ ?_
  ·(refine q7 0 xk rfl rfl (q7 1 xk rfl rfl (q7 2 xk rfl rfl (q7 3 xk rfl rfl (q7 5 xk rfl rfl (q8 4 xk rfl rfl (q8 6 xk rfl rfl (q8 7 xk rfl rfl (q8 8 xk rfl rfl ?_))))))));refine w7 xk ?_ ?_;exact zS;(exact zJ))
  refine zK0 ?_;refine⟨.inl rfl,_,_,rfl,trivial,?_⟩;exact hfin
 ·refine zK0 ?_;refine z5 rfl (fun h=>by have:=of_decide_eq_true h;omega) (fun _=>?_);refine zK0 ?_;refine⟨.inl rfl,_,_,rfl,trivial,?_⟩;exact hfin
abbrev ppTa(D:List DrD)(r:RgD):AV:=.val (.ptr (.ptr taT)) (some (some (mkTa D r)))
abbrev vAll(D:List DrD)(r:RgD):AV:=.fn 221 .anil (.acons (ppTa D r) .anil)
def fn133(D:List DrD)(r:RgD):Ox.Fn Tryz.prog 133 (.acons (pTa D r) .anil) (·=vAll D r):=by
 refine Ox.Fn.intro xok Tryz.func133 rfl Tryz.call133 (yyd rfl) (fun E M0 up=>?_);refine z7 ?_;refine zK0 ?_;refine z2j ?_
 (refine z08 [0] [1] rfl ?_)
 refine zK0 ?_;refine⟨.inl rfl,_,_,rfl,trivial,?_⟩;rfl
section
variable {E:World}{Mx M0:Mem}{nX:Nat}{rdX:Option Nat}{up:Nat→Nat→Value}{dp lab:Nat}{r:List Fr}{QA:Exit→S→Prop}
def all_it(D:List DrD)(g:RgD)(K:List (Nat×HO))
  (hY:∀ p:Int,-2≤p∧p≤0→YO ⟨Tryz.prog,tys,ets,mts,E,Mx,nX,rdX,up,dp⟩ 18 lab (.acons (vI p) .anil) K 100 true K 100)
  (k:∀ L,JK ⟨Tryz.prog,tys,ets,mts,E,M0,18,none,up,dp⟩ r QA ⟨L,K,100⟩) :
  JK ⟨Tryz.prog,tys,ets,mts,E,M0,18,none,up,dp⟩ (.code (lpC Tryz.f221.body)::.blk 0::r) QA ⟨[(0,.lf (.yld lab)),(1,ppTa D g),(3,vI (-2))],K,100⟩:=by
 refine JK.loop (fun i:Nat=>⟨[(0,.lf (.yld lab)),(1,ppTa D g),(3,vI ((i:Int)-2))],K,100⟩) (fun i=>i≤3) (fun i=>3-i) 0 (yyu _) (JW.refl _) fun i hi=>?_;refine zK0 ?_;refine z5 rfl (fun hc=>?_) (fun hc=>?_)
 ·have hc:(i:Int)-2<1:=of_decide_eq_true hc;have y1:=hY ((i:Int)-2) (by omega);refine zK0 ?_;refine z06 (X:=⟨Tryz.prog,tys,ets,mts,E,Mx,nX,rdX,up,dp⟩) [0,1,3] y1 rfl rfl rfl (by simp[stayL,stayB,svL,lk]) trivial ?_;refine zK0 ?_;refine z5 rfl (fun h=>by cases h) (fun _=>?_);refine zK0 ?_;refine⟨i+1,?_,by omega,by omega⟩;rw[show((i+1:Nat):Int)-2=(i:Int)-2+1 by omega];exact JW.same ⟨rfl,rfl,rfl,trivial⟩
 ·refine zK0 ?_;exact k _
end
abbrev drZ:DrD:=(0,(0,0,()),())
def sumD(D:List DrD)(i:Nat):RgD:=(sumR (fun k=>(D.getD k drZ).2.1.1) i,sumR (fun k=>(D.getD k drZ).2.1.2.1) i,())
abbrev HT(D:List DrD)(r:RgD):List (Nat×HO):=[(0,.cell baT (vBa D)),(1,.sl 43 rgT [r]),(2,.cell taT (mkMix (vBa D) (mkMix (.lf (.osl 1)) (zav (.cons (.arr 12 (.arr 12 (.int .i64))) .nil))))),(3,.cell (.ptr taT) (.lf (.optr 2 [])))]
abbrev LO1:List (Nat×AV):=[(3,.lf (.optr 0 []))]
abbrev LO2:List (Nat×AV):=[(3,.lf (.optr 0 [])),(7,.lf (.optr 4 []))]
def KA(a b:Code)(D:List DrD)(g:RgD):List (Nat×HO):=[(2,.fr 0 [(94,.lf (.yld 1)),(3,.lf (.optr 0 []))]),(1,.loop .ready none #[53] a b 94 LO1),(0,.cell (.ptr taT) (pTa D g))]
def KB2(a b c d:Code)(D:List DrD)(g:RgD)(p:Int):List (Nat×HO):=
 [(6,.fr 2 [(94,.lf (.yld 5)),(3,.lf (.optr 0 [])),(7,.lf (.optr 4 []))]),(5,.loop .ready none #[56] c d 94 LO2),(3,.fr 1 [(18,.lf (.yld 1))]),
  (2,.fr 0 [(94,.lf (.yld 1)),(3,.lf (.optr 0 []))]),(1,.loop .busy none #[53] a b 94 LO1),(0,.cell (.ptr taT) (pTa D g)),(4,.cell (.int .i64) (vI p))]
abbrev LT76(D:List DrD)(i:Nat):List (Nat×AV):=[(1,.lf (.optr 0 [])),(3,.lf (.optr 3 [])),(17,.val (.slice drT) D),(18,vI D.length),(19,vI (i:Int))]
abbrev HT5(D:List DrD)(r:RgD)(q:DrD):List (Nat×HO):=HT D r++[(4,.cell drT (.val drT q))]
set_option maxHeartbeats 4000000 in
def fn76(D:List DrD)(hD:D.length≤40)(hq:∀ q∈D,okDr q)(hS:(1≤(sumD D D.length).1∧(sumD D D.length).1≤100000)∧1≤(sumD D D.length).2.1∧(sumD D D.length).2.1≤100000):Ox.Fn Tryz.prog 76 (.acons (vBa D) .anil) (·=pTa D (sumD D D.length)):=by
 refine Ox.Fn.intro xok Tryz.func76 rfl Tryz.call76 (yyd rfl) (fun E M0 up=>?_);refine z7 ?_;have hz12:(Ty.arr 12 (.arr 12 (.int .i64))).dflt=zk12:=rfl;refine zK3 ?_;refine v9 xk (Tryz.f76.body.getD .skip) ⟨[(1,.lf (.optr 0 [])),(3,.lf (.optr 3 []))],HT D (0,0,()),4⟩ rfl 9 rfl ?_ ?_
 ·(refine q7 1 xk rfl rfl (q8 0 xk rfl rfl (q8 2 xk rfl rfl (q8 3 xk rfl rfl ?_)));refine v6 4 [7] xk ?_ ?_;exact zS;refine(BrF.one rfl rfl ?_ (BrF.one rfl rfl ?_ BrF.nil));(· (refine n9 xk rfl rfl ?_);refine q9 ?_;refine v6 5 [7] xk ?_ ?_;exact zS;refine(BrF.one rfl rfl ?_ (BrF.one rfl rfl ?_ BrF.nil));(· refine zK9 ?_;refine q9 ?_;refine v6 6 [7] xk ?_ ?_;exact zS;refine(BrF.one rfl rfl ?_ (BrF.one rfl rfl ?_ BrF.nil));(· refine zK14 ?_;refine q9 ?_;refine zU 7 xk rfl rfl ?_;(refine n9 xk rfl rfl ?_);refine q9 ?_;refine zU 8 xk rfl rfl ?_;exact zB3);(· (refine n9 xk rfl rfl ?_);refine q9 ?_;refine zU 6 xk rfl rfl ?_;refine zK14 ?_;refine q9 ?_;refine zU 8 xk rfl rfl ?_;refine zK2 ?_;refine q9 ?_;refine w7 xk StF.nil ?_;(exact zJ)));(· (refine n9 xk rfl rfl ?_);refine q9 ?_;refine zU 5 xk rfl rfl ?_;refine zK9 ?_;refine q9 ?_;refine zU 6 xk rfl rfl ?_;refine zK14 ?_;refine q9 ?_;refine zU 8 xk rfl rfl ?_;refine zK2 ?_;refine q9 ?_;refine w7 xk StF.nil ?_;(exact zJ)));(· (refine n9 xk rfl rfl ?_);refine q9 ?_;refine zU 4 xk rfl rfl ?_;(refine n9 xk rfl rfl ?_);refine q9 ?_;refine zU 5 xk rfl rfl ?_;refine zK9 ?_;refine q9 ?_;refine zU 6 xk rfl rfl ?_;refine zK14 ?_;refine q9 ?_;refine zU 8 xk rfl rfl ?_;exact zB3))
 refine zK0 ?_;have hs0:sumD D 0=(0,0,()):=rfl;rw[← hs0];refine JK.loop (fun i:Nat=>⟨LT76 D i,HT D (sumD D i),4⟩) (fun i=>i≤D.length) (fun i=>D.length-i) 0 (yyu _) (by exact zJ) fun i hi=>?_;have hss:i<D.length→sumD D (i+1)=((sumD D i).1+(D.getD i drZ).2.1.1,(sumD D i).2.1+(D.getD i drZ).2.1.2.1,()):=fun _=>rfl;have hlo:0≤(sumD D i).1∧(sumD D i).1≤400000:=by
  have h1:=q3c (f:=fun k=>(D.getD k drZ).2.1.1) (b:=0) (n:=i) fun k hk=>by have:=(hq (D.getD k drZ) (by rw[j7 D (by omega)];exact yy5 (by omega))).2.1;omega
  have h2:=q3b (f:=fun k=>(D.getD k drZ).2.1.1) (b:=10000) (n:=i) fun k hk=>by have:=(hq (D.getD k drZ) (by rw[j7 D (by omega)];exact yy5 (by omega)));exact Int.le_trans this.2.2.1 this.2.2.2
  show 0≤sumR _ i∧sumR _ i≤400000;omega
 have hhi:0≤(sumD D i).2.1∧(sumD D i).2.1≤400000:=by
  have h1:=q3c (f:=fun k=>(D.getD k drZ).2.1.2.1) (b:=0) (n:=i) fun k hk=>by have:=(hq (D.getD k drZ) (by rw[j7 D (by omega)];exact yy5 (by omega)));have e1:=this.2.1;have e2:=this.2.2.1;omega
  have h2:=q3b (f:=fun k=>(D.getD k drZ).2.1.2.1) (b:=10000) (n:=i) fun k hk=>by have:=(hq (D.getD k drZ) (by rw[j7 D (by omega)];exact yy5 (by omega)));exact this.2.2.2
  show 0≤sumR _ i∧sumR _ i≤400000;omega
 have hfin:i=D.length→sumD D i=sumD D D.length:=fun e=>by rw[e]
 generalize sumD D i=g at hss hlo hhi hfin ⊢;obtain⟨lo,hi',_⟩:=g;replace hlo:0≤lo∧lo≤400000:=hlo;replace hhi:0≤hi'∧hi'≤400000:=hhi;refine zK0 ?_;refine z5 rfl (fun hc=>?_) (fun hc=>?_)
 ·replace hc:=zC hc;have hiD:i<D.length:=by omega
  have hss:=hss hiD;have hqi:=hq (D.getD i drZ) (by rw[j7 D hiD];exact yy5 hiD);have hz:D.getD (Int.toNat (i:Int)) drT.dflt=D.getD i drZ:=rfl;generalize D.getD i drZ=q at hss hqi hz;obtain⟨sp,⟨u,v,_⟩,_⟩:=q;obtain⟨q1,q2,q3,q4⟩:=hqi;replace q1:sp=0:=q1;replace q2:1≤u:=q2;replace q3:u≤v:=q3;replace q4:v≤10000:=q4;subst q1;have b6:-9223372036854775808≤(([(lo,hi',())]:List RgD).getD 0 (0,0,())).1+u∧(([(lo,hi',())]:List RgD).getD 0 (0,0,())).1+u≤9223372036854775807:=by show _≤lo+u∧lo+u≤_;omega
  have b7:-9223372036854775808≤(([(lo+u,hi',())]:List RgD).getD 0 (0,0,())).2.1+v∧(([(lo+u,hi',())]:List RgD).getD 0 (0,0,())).2.1+v≤9223372036854775807:=by show _≤hi'+v∧hi'+v≤_;omega
  refine zK3 ?_;rw[hz];refine v9 xk (Tryz.f76.body.getD .skip) ⟨LT76 D i++[(5,.lf (.optr 4 [])),(6,.lf (.oelt 1 0 []))],HT5 D (lo,hi',()) (0,(u,v,()),()),5⟩ rfl 8 rfl ?_ ?_
  ·(refine q7 4 xk rfl rfl (q8 0 xk rfl rfl (q8 1 xk rfl rfl (q8 2 xk rfl rfl (q8 3 xk rfl rfl (q8 5 xk rfl rfl (q8 6 xk rfl rfl (q8 7 xk rfl rfl ?_)))))));refine w7 xk ?_ ?_;exact zS;(exact zJ))
  refine zK3 ?_;refine v9 xk (Tryz.f76.body.getD .skip) ⟨LT76 D i++[(5,.lf (.optr 4 [])),(6,.lf (.oelt 1 0 []))],HT5 D (lo+u,hi',()) (0,(u,v,()),()),5⟩ rfl 11 rfl ?_ ?_
  ·(refine q7 0 xk rfl rfl (q7 1 xk rfl rfl (q7 2 xk rfl rfl (q7 4 xk rfl rfl (q7 5 xk rfl rfl (q8 3 xk rfl rfl (q8 6 xk rfl rfl (q8 7 xk rfl rfl (q8 8 xk rfl rfl (q8 9 xk rfl rfl (zU 10 xk rfl rfl ?_))))))))));exact zB1)
  refine zK3 ?_;refine q0z xk (Tryz.f76.body.getD .skip) ⟨LT76 D i,HT D (lo+u,hi'+v,()),4⟩ rfl 11 rfl ?_ ?_
  ·(refine q7 0 xk rfl rfl (q7 1 xk rfl rfl (q7 2 xk rfl rfl (q7 4 xk rfl rfl (q7 5 xk rfl rfl (q8 3 xk rfl rfl (q8 6 xk rfl rfl (q8 7 xk rfl rfl (q8 8 xk rfl rfl (q8 9 xk rfl rfl (zU 10 xk rfl rfl ?_))))))))));exact zB1)
  refine zK0 ?_;refine⟨i+1,?_,by omega,by omega⟩;rw[hss];exact zJ
 replace hc:=zC hc;rw[hfin (by omega)];clear hss hlo hhi hfin hi hc;generalize sumD D D.length=g at hS ⊢
 (refine q9h [1] [3] rfl ?_)
 refine z39 2 rfl rfl ?_
 (refine q9h [2] [3] rfl ?_)
 refine q18 (s':=⟨[(3,.lf (.optr 0 []))],[(0,.cell (.ptr taT) (pTa D g))],1⟩) (by exact zJ) ?_;have c133:=fn133 D g;refine zK22 ?_;refine z07 [3] rfl rfl rfl Tryz.func221 rfl Tryz.call221 (yyd rfl) trivial fun M2 up2 a0 b0 ha0 hb0=>?_;refine zK0 ?_;refine q18 (s':=⟨[(0,.lf (.yld 1)),(1,ppTa D g),(3,vI (-2))],KA a0 b0 D g,100⟩) (by exact zJ) ?_;refine all_it (Mx:=M2) (nX:=18) (rdX:=none) D g (KA a0 b0 D g) ?_ ?_
 ·intro p hp;refine YO.intro 0 94 (ps:=#[53]) (assign:=a0) (body:=b0) (nO:=94) (LO:=LO1) (L0:=[(53,vI p),(3,.lf (.optr 0 []))]) rfl rfl rfl ⟨2,_,rfl,rfl⟩ ⟨2,_,rfl,rfl⟩ fun M3 M4 up4 bl hup=>z7 (q1f ha0 ?_);refine zK0 ?_;refine q0d (q9d rfl rfl rfl rfl (z7 (q1f hb0 ?_)));refine zK22 ?_;refine q18 (s':=⟨[(3,.lf (.optr 0 [])),(7,.lf (.optr 4 [])),(55,vAll D g)],[(3,.fr 1 [(18,.lf (.yld 1))]),(2,.fr 0 [(94,.lf (.yld 1)),(3,.lf (.optr 0 []))]),(1,.loop .busy none #[53] a0 b0 94 LO1),(0,.cell (.ptr taT) (pTa D g)),(4,.cell (.int .i64) (vI p))],5⟩) (by exact zJ) ?_;refine z9r [3,7] (lf:=3) (lab0:=1) rfl hup rfl rfl rfl rfl Tryz.func221 rfl Tryz.call221 (yyd rfl) trivial fun M6 up6 a2 b2 ha2 hb2=>?_;refine zK0 ?_;refine q18 (s':=⟨[(0,.lf (.yld 5)),(1,ppTa D g),(3,vI (-2))],KB2 a0 b0 a2 b2 D g p,100⟩) (by exact zJ) ?_;refine all_it (Mx:=M6) (nX:=18) (rdX:=none) D g (KB2 a0 b0 a2 b2 D g p) ?_ ?_
  ·intro q hq';refine YO.intro 2 94 (ps:=#[56]) (assign:=a2) (body:=b2) (nO:=94) (LO:=LO2) (L0:=[(56,vI q),(3,.lf (.optr 0 [])),(7,.lf (.optr 4 []))]) rfl rfl rfl ⟨6,_,rfl,rfl⟩ ⟨6,_,rfl,rfl⟩ fun M7 M8 up8 bl8 hup8=>z7 (q1f ha2 ?_);refine zK0 ?_;refine q0d (q9d rfl rfl rfl rfl (z7 (q1f hb2 ?_)));refine zK0 ?_;refine z5 rfl (fun hc=>?_) (fun hc=>?_)
   ·refine zK0 ?_;refine q0d (bodyQ.of rfl rfl rfl rfl rfl rfl ⟨rfl,?_⟩);show JW _ ⟨[],KB2 a0 b0 a2 b2 D g p,100⟩ _;exact zJ
   ·have hne:p≠q:=by simpa using hc
    obtain⟨b,hb⟩:∃ b,b=false:=⟨false,rfl⟩;have c1:=fn134 (fn135 D g) hS.1 hp hq' hne hb;have c2:=fn134 (fn136 D g) hS.2 hp hq' hne hb;refine zK13 ?_;refine z5 rfl (fun h=>absurd (hb.symm.trans h) (by decide)) (fun _=>?_);refine zK17 ?_;refine z5 rfl (fun h=>absurd (hb.symm.trans h) (by decide)) (fun _=>?_);refine zK0 ?_;refine q0d (bodyQ.of rfl rfl rfl rfl rfl rfl ⟨rfl,?_⟩);show JW _ ⟨[],KB2 a0 b0 a2 b2 D g p,100⟩ _;exact zJ
  ·intro L;refine q0d (rngQ.of (.inr rfl) rfl rfl rfl rfl rfl rfl rfl (z2d ?_));refine zK0 ?_;refine q0d (bodyQ.of rfl rfl rfl rfl rfl rfl ⟨rfl,?_⟩);show JW _ ⟨[],KA a0 b0 D g,100⟩ _;exact zJ
 ·intro L;refine q0d (rngQ.of (.inr rfl) rfl rfl rfl rfl rfl rfl rfl (z2d ?_));refine zK0 ?_;refine⟨.inl rfl,_,_,rfl,trivial,?_⟩;rfl
end Go.Proofs.YtjjkdjbbkagclaaGreatDoor
